/- A part of the proof of a law: my own separation logic over the machine, and walks of the program. Condition of each theorem: as its statement says. -/
import Derived.Test.YtgplnpdblmcdoaaGreatDoorWC10
import Derived.SevenTiedAt
import Derived.LaidOnce
import Derived.Test.YtgplnpdblmcdoaaGreatDoorCards
import Derived.Test.YtgplnpdblmcdoaaGreatDoorTie
set_option linter.all false
namespace Go.Proofs
open Go.Lo
open Go.Conc (G)
set_option maxRecDepth 100000
set_option synthInstance.maxSize 100000
set_option synthInstance.maxHeartbeats 1000000
set_option maxHeartbeats 4000000
variable {B:Array Obj}
variable [LaidF B]
theorem jmg {ys:List Int} {z:Int} (h:z∈ys):minL ys≤z:=(jmm (fun e=>by rw [e] at h;simp at h) (minL ys)).1 (Int.le_refl _) z h
theorem jmh {ys:List Int} {z:Int} (h:z∈ys):z≤maxL ys:=Classical.byContradiction fun e=>by
 have:=(jmj (ys:=ys) (fun e=>by rw [e] at h;simp at h) z).1 (by omega) z h
 omega
theorem jkN {ys:List Int} (h:ys≠[]):minL ys≤maxL ys:=by
 obtain ⟨z,hz⟩:=List.exists_mem_of_ne_nil _ h
 have:=jmg hz;have:=jmh hz;omega
theorem atI_h {p q:List Pt} (h: ∀i,(p.getD i default).h=(q.getD i default).h) (hl:p.length=q.length) (l:List Int) (x:Int):atI p l x=atI q l x:=by
 have e:segN p x=segN q x:=by
  unfold segN
  have hm:(p.drop 1).map (·.h)=(q.drop 1).map (·.h):=by
   refine List.ext_getElem? fun i=>?_
   rw [List.getElem?_map,List.getElem?_map,List.getElem?_drop,List.getElem?_drop];have:=h (1+i)
   rw [List.getD_eq_getElem?_getD,List.getD_eq_getElem?_getD] at this
   rcases Nat.lt_or_ge (1+i) p.length with h1|h1
   ·rw [List.getElem?_eq_getElem h1,List.getElem?_eq_getElem (hl▸h1)] at this⊢
    simpa using this
   ·rw [List.getElem?_eq_none h1,List.getElem?_eq_none (by omega)]
  have ht: ∀(a:List Pt),((a.takeWhile fun p=>decide (p.h<x)).length)=((a.map (·.h)).takeWhile fun z=>decide (z<x)).length:=fun a=>by
   induction a with
   |nil=>rfl
   |cons c r ih=>
    rw [List.map_cons,List.takeWhile_cons,List.takeWhile_cons];by_cases hc:c.h<x
    ·simp [hc,ih]
    ·simp [hc]
  rw [ht,ht,hm]
 unfold atI
 simp only [e,h]
structure Knows (b o:Fb):Prop where
 fb:fbS b=0
 fo:fbS o=0
 len:o.pts.length=b.pts.length
 hs: ∀i,(o.pts.getD i default).h=(b.pts.getD i default).h
 sub: ∀l∈boatsOf o,l∈boatsOf b
 ne:boatsOf o≠[]
theorem Knows.min {b o:Fb} (k:Knows b o) {f g:List Int→Int} (e: ∀l,g l=f l):minL ((boatsOf b).map f)≤minL ((boatsOf o).map g):=by
 refine (jmm (by simpa using k.ne) _).2 fun z hz=>?_
 obtain ⟨l,hl,rfl⟩:=List.mem_map.1 hz
 rw [e];exact jmg (List.mem_map.2 ⟨l,k.sub l hl,rfl⟩)
theorem Knows.max {b o:Fb} (k:Knows b o) {f g:List Int→Int} (e: ∀l,g l=f l):maxL ((boatsOf o).map g)≤maxL ((boatsOf b).map f):=by
 refine Int.le_of_lt_add_one ((jmj (by simpa using k.ne) _).2 fun z hz=>?_)
 obtain ⟨l,hl,rfl⟩:=List.mem_map.1 hz
 rw [e];have:=jmh (List.mem_map.2 ⟨l,k.sub l hl,rfl⟩:f l∈(boatsOf b).map f)
 omega
theorem Knows.at {b o:Fb} (k:Knows b o) (l:List Int) (x:Int):atI o.pts l x=atI b.pts l x:=atI_h k.hs k.len l x
theorem jiQ {b:Fb} {t:Sk} (h0:fbS b=0) (h:jd5 b t=0):jcQ b t=addK b t∧Knows b (addK b t):=by
 rw [jd5,if_neg (fun e=>e h0)] at h
 obtain ⟨e1,_,e2⟩:=openS_zero h
 exact ⟨by rw [jcQ,if_neg (fun e=>e h0),jiG,if_pos h],h0,e1,rfl,fun _=>rfl,fun l hl=>jm6 (b:=addK b t) (c:=b) rfl (fun k hk=>hk) (fun t ht=>List.mem_append_left _ ht) hl,e2⟩
theorem jiP {xs ys:List Int} {k:Nat} (hk:k<xs.length):(∀x∈xs.take (k+1),x∈ys)↔(∀x∈xs.take k,x∈ys)∧xs.getD k 0∈ys:=by
 rw [List.take_add_one,List.getElem?_eq_getElem hk,List.getD_eq_getElem?_getD,List.getElem?_eq_getElem hk];simp only [Option.toList_some,List.mem_append,List.mem_singleton,Option.getD_some]
 constructor
 ·intro h
  exact ⟨fun x hx=>h x (.inl hx),h _ (.inr rfl)⟩
 ·rintro ⟨h1,h2⟩ x (hx|rfl)
  ·exact h1 x hx
  ·exact h2
theorem f23_c (m:Md Tryz.prog B) (h:Hp) {p:Option Addr} {n c:Nat} {xs:List Int} (rd:RdS B h 1 (.slice p n c) n (ints xs)) (hn:n≤1000000) {p2:Option Addr} {n2 c2:Nat} {ys:List Int} (rd2:RdS B h 1 (.slice p2 n2 c2) n2 (ints ys)) (hn2:n2≤1000000):FnC m 23 #[.slice p n c,.slice p2 n2 c2] h fun v h'=>h'=h∧IsB (∀x∈xs,x∈ys) v:=by
 have hl:=rd.ilen
 refine jad Tryz.func23 rfl rfl (l:=(.slice p n c)::(.slice p2 n2 c2)::uu17) rfl ?_
 intro cf cs K hK
 refine d67 ?_;refine d98 ?_
 refine jag (fun nn l h'=> ∃(k:Nat),nn=n-k∧(k≤n)∧(∀x∈xs.take k,x∈ys)∧(∃U:Nat→Value,l=((.slice p n c)::(.slice p2 n2 c2)::(U 2)::(U 3)::(U 4)::(.int .i64 (k:Int))::vw13 U 6 []))∧h=h') _ ⟨0,rfl,by omega,by simp,exU rfl,rfl⟩ ?_;rintro nn l h' ⟨k,rfl,hk,hal,⟨U,rfl⟩,rfl⟩ hnext;refine d114 ?_
 refine jap rfl zq (fun hc=>?_) (fun hc=>?_)
 ·refine d75 ?_;refine rs7 ?_;refine d127 ?_
  obtain ⟨rd_b,rd_o,rfl⟩:=rd.ptr (by omega)
  refine jaJ rfl zq (by first|rfl|assumption) (by omega) (by omega) ?_;refine k_ld rfl zq (rd.iat k (by omega) (by omega)) ?_;refine jae (Post:=fun v=>IsB _ v) rfl zq (by kernel_rfl) (fun H' hH=>f67_c _ H' _ (rd2.keeps (sq hH)) hn2) ?_;rintro v (⟨hc,rfl⟩|⟨hc,rfl⟩)
  ·refine jac ?_;have hc2:=hc
   refine jgR rfl zq ?_;refine d105 ?_;exact m.weak jaa (hnext _ _ _ (by omega) ⟨k+1,rfl,by omega,(jiP (by omega)).2 ⟨hal,hc2⟩,exU rfl,rfl⟩)
  ·refine d152 ?_
   refine jab (h) rfl Tryz.func23 rfl jaa ?_;refine hK _ _ ?_;exact ⟨rfl,IsB.no fun hall=>hc (hall _ (mem_getD.2 ⟨k,by omega,rfl⟩))⟩
 ·refine d160 ?_
  refine jab (h) rfl Tryz.func23 rfl jaa ?_;refine hK _ _ ?_;exact ⟨rfl,IsB.yes (by rw [List.take_of_length_le (by omega)] at hal;exact hal)⟩
end Go.Proofs
namespace Go.Proofs
open Go.Lo
open Go.Conc (G)
set_option maxRecDepth 100000
set_option synthInstance.maxSize 100000
set_option synthInstance.maxHeartbeats 1000000
set_option maxHeartbeats 4000000
variable {b:Fb} {pp:Option Addr} {np cp:Nat} {pt:Option Addr} {nt ct:Nat} {pk:Option Addr} {nk ck:Nat}
variable {B:Array Obj}
variable [LaidF B] [Bt.Laid B]
def atSp (b:Fb) (x:Int):Sp:=⟨minL ((boatsOf b).map fun l=>atI b.pts l x),maxL ((boatsOf b).map fun l=>atI b.pts l x)⟩
def mkB (b:Fb) (hs:List Int) (c:Bk):Bk:=⟨c.bend,c.twist,c.turns,hs.map (atSp b),[]⟩
theorem jkP (b:Fb) (xs:List Int) {i:Nat} (h:i<xs.length):encs ((xs.take (i+1)).map (atSp b))=encs ((xs.take i).map (atSp b))++[.int .i64 (atSp b (xs.getD i 0)).lo,.int .i64 (atSp b (xs.getD i 0)).hi]:=by
 rw [take_snoc' xs i h,List.map_append,jaV];rfl
theorem f20_c (m:Md Tryz.prog B) (h:Hp) (rdp:Rp B h b pp np cp) (hp:np≤1000) (rdt:Rt B h b pt nt ct) (ht:nt≤1000) (rdk:Rk B h b pk nk ck) (hk:nk≤1000) {p:Option Addr} {n c:Nat} {xs:List Int} (rd:RdS B h 1 (.slice p n c) n (ints xs)) (hn:n≤1000) (hop:openS b 0=0) (hin: ∀i,i<n→(b.pts.getD 0 default).h≤xs.getD i 0∧xs.getD i 0≤(b.pts.getD (np-1) default).h) {cb:Bk} {pm:Option Addr} {nm cm:Nat} {pr:Option Addr} {nr cr:Nat}:FnC m 20 #[fbV b pp np cp pt nt ct pk nk ck,.slice p n c,(bkV cb pm nm cm pr nr cr)] h fun v h'=> ∃nw,h'=h++nw∧ ∃wp wc,v= .tuple [bkV (mkB b xs cb) wp n wc none 0 0,.bool true].toArray∧OwnS 30 2 (.slice wp n wc) n (encs (mkB b xs cb).marks) nw:=by
 have hml:=rdp.elen (by decide)
 refine jad Tryz.func20 rfl rfl (l:=(fbV b pp np cp pt nt ct pk nk ck)::(.slice p n c)::((bkV cb pm nm cm pr nr cr))::uu41) rfl ?_
 intro cf cs K hK
 refine rs4 ?_;refine jaq rfl zq (fun q3=>k_hp (jac ?_));refine jaq rfl zq (fun q5=>k_hp (jac ?_));refine jaw rfl zq (fun q6=>k_hp (jac ?_));refine aq rfl ?_;refine rs9 ?_;refine d1 ?_;refine d1 ?_;refine d1 ?_;refine jcP rfl zq ?_
 refine jaw rfl zq (fun q8=>k_hp (jac ?_));refine jaO rfl zq (by first|rfl|exact jaf _) ?_;refine d25 ?_;refine d98 ?_
 refine jag (fun nn l h'=> ∃(i:Nat) (wp:Option Addr) (wc:Nat) (M:Hp),nn=n-i∧(i≤n)∧(OwnS 30 2 (.slice wp i wc) i (encs ((xs.take i).map (atSp b))) M)∧(∃U:Nat→Value,l=((fbV b pp np cp pt nt ct pk nk ck)::(.slice p n c)::((bkV cb pm nm cm pr nr cr))::(.pointer (some ⟨q3,0,none⟩))::(U 4)::(.pointer (some ⟨q5,0,none⟩))::(.pointer (some ⟨q6,0,none⟩))::(U 7)::(.pointer (some ⟨q8,0,none⟩))::(.int .i64 (i:Int))::vw34 U 10 []))∧h++[⟨true,q3,.cells (fbL b pp np cp pt nt ct pk nk ck).toArray 26 (0,0)⟩,⟨true,q5,.cells (bkL cb pm nm cm pr nr cr).toArray 43 (0,0)⟩,⟨true,q6,.cells [.int .i64 0,.int .i64 0,.int .i64 0,.slice none 0 0,.slice none 0 0].toArray 43 (0,0)⟩,⟨true,q8,.cells [.int .i64 cb.bend,.int .i64 cb.twist,.int .i64 cb.turns,.slice wp i wc,.slice none 0 0].toArray 43 (0,0)⟩]++M=h') _ ⟨0,none,0,[],rfl,by omega,by simpa [encs] using OwnS.nil,exU rfl,(by simp)⟩ ?_;rintro nn l h' ⟨i,wp,wc,M,rfl,hi0,how,⟨U,rfl⟩,rfl⟩ hnext;refine d114 ?_
 refine jap rfl zq (fun hc=>?_) (fun hc=>?_)
 ·refine d97 ?_
  have hi:i<n:=by omega
  have hll:=rd.ilen
  refine jah [(1,.pure),(2,.pure),(3,.pure),(0,.read),(4,.read),(5,.call),(6,.pure),(7,.pure),(8,.pure),(9,.alloc),(10,.free),(11,.pure)] (by kernel_rfl) (by kernel_rfl) (List.Sublist.refl _) ?_;refine d3 ?_
  obtain ⟨rd_b,rd_o,rfl⟩:=rd.ptr (by omega)
  refine jaJ rfl zq (by first|rfl|assumption) (by omega) (by omega) ?_;refine jaT rfl zq ?_;refine k_ld rfl zq (rd.iat i (by omega) (by omega)) ?_;refine jae (Post:=fun v=>v= .tuple [.agg [.int .i64 (atSp b (xs.getD i 0)).lo,.int .i64 (atSp b (xs.getD i 0)).hi].toArray,.int .i64 0].toArray) rfl zq (by kernel_rfl) (fun H' hH=>(f33_c m H' (rdp.keeps (sq hH)) hp (rdt.keeps (sq hH)) ht (rdk.keeps (sq hH)) hk (xs.getD i 0)).mono fun v h' e=>⟨e.1,by rw [e.2,jb6 (by rw [if_pos (hin i hi)];exact hop)];rfl⟩) ?_;rintro v rfl;refine d92 ?_
  refine jaw rfl zq (fun q10=>k_hp (jac ?_));refine jaO rfl zq rfl ?_;refine d108 ?_;refine jgS rfl zq (by decide) ?_;refine d9 ?_;refine rr7 ?_;refine d157 ?_;refine k_bs kdq rfl zq (by decide) (by decide) rfl (fun q40=>k_hp (jac ?_));refine jbH rfl zq rfl how kdq (by omega) (by omega) (fun w9 n9 o9=>jac ?_);obtain ⟨p9,c9,rfl,hc9,r9⟩:=jbq (B:=B) o9
  refine d70 ?_;refine d170 ?_
  exact m.weak jaa (hnext _ _ _ (by omega) ⟨i+1,p9,c9,n9,rfl,by omega,by rw [jkP b xs (by omega)];exact o9,exU rfl,rfl⟩)
 ·refine d41 ?_;refine d96 ?_
  refine jaO rfl zq (by first|rfl|exact jaf _) ?_;refine d0 ?_
  refine jab (h++M) rfl Tryz.func20 rfl jaa ?_;refine hK _ _ ?_;have hll:=rd.ilen
  have hin2:i=n:=by omega
  have htk:xs.take i=xs:=List.take_of_length_le (by omega)
  rw [htk] at how
  subst hin2
  exact ⟨M,rfl,wp,wc,rfl,how⟩
theorem jgi {b o:Fb} (k:Knows b o) (x:Int):(atSp b x).lo≤(atSp o x).lo∧(atSp o x).lo≤(atSp o x).hi∧(atSp o x).hi≤(atSp b x).hi:=
 ⟨k.min fun l=>k.at l x,jkN (by simpa using k.ne),k.max fun l=>k.at l x⟩
theorem jjP {b o:Fb} (k:Knows b o) {hs:List Int} {c:Bk} (h:Bt.bookS (mkB b hs c)=0):Bt.bookS (mkB o hs c)=0:=by
 have hv:=Bt.valid_of h
 have h1:0≤c.bend∧c.bend≤99:=hv.bend
 have h2:0≤c.twist∧c.twist≤99:=hv.twist
 have h3:0≤c.turns∧c.turns≤5:=hv.turns
 have h4:3≤(hs.map (atSp b)).length∧(hs.map (atSp b)).length≤7:=hv.many
 rw [List.length_map] at h4
 have hm:Bt.marksS (mkB o hs c).marks=0:=by
  rw [Bt.marksS,if_neg (by simp only [mkB,List.length_map];omega),if_pos];intro x hx
  obtain ⟨y,hy,rfl⟩:=List.mem_map.1 hx
  have h5:=hv.marks (atSp b y) (List.mem_map.2 ⟨y,hy,rfl⟩)
  have h6:=jgi k y
  unfold Bt.okM at h5⊢
  omega
 rw [Bt.bookS,if_neg,if_neg (fun e=>e hm)]
 ·rfl
 ·show¬(¬(0≤c.bend∧c.bend≤99)∨ ¬(0≤c.twist∧c.twist≤99)∨ ¬(0≤c.turns∧c.turns≤5))
  omega
theorem jmd {b o:Fb} (k:Knows b o) {hs:List Int} {c:Bk} {l:List Int} (hl:l∈Bt.boatsOf (mkB o hs c)):l∈Bt.boatsOf (mkB b hs c):=by
 rw [Bt.boatsOf,List.mem_filter,decide_eq_true_eq] at hl⊢
 obtain ⟨h1,h2⟩:=hl
 have hm: ∀(f:Fb),(mkB f hs c).marks=((mkB f hs c).marks).take hs.length:=fun f=>(List.take_of_length_le (by simp [mkB])).symm
 have hg: ∀(f:Fb) (i:Nat),i<hs.length→(mkB f hs c).marks.getD i default=atSp f (hs.getD i 0):=fun f i hi=>by
  rw [mkB,List.getD_eq_getElem?_getD,List.getElem?_map,List.getD_eq_getElem?_getD,List.getElem?_eq_getElem hi];rfl
 rw [hm o,Bt.mem_linesOf (by simp [mkB])] at h1
 obtain ⟨h3,h4⟩:=h1
 have h5: ∀i,i<hs.length→((mkB b hs c).marks.getD i default).lo≤l.getD i 0∧l.getD i 0≤((mkB b hs c).marks.getD i default).hi:=fun i hi=>by
  have h6:=h4 i hi
  have h7:=jgi k (hs.getD i 0)
  rw [hg o i hi] at h6
  rw [hg b i hi];omega
 refine ⟨?_,fun i hi=>h5 i (by omega),⟨fun r hr=>absurd (show r∈([]:List Ru) from hr) (by simp),h2.2.2⟩⟩
 rw [hm b,Bt.mem_linesOf (by simp [mkB])];exact ⟨h3,h5⟩
theorem jiU (x:Sp):(Bt.spanL x).Nodup:=by
 unfold Bt.spanL List.Nodup
 rw [List.pairwise_map];exact List.Pairwise.imp (fun h e=>h (by omega)) List.nodup_range
theorem jlc {all:List (List Int)} (x:Sp) (h:all.Nodup):(Bt.extL all x).Nodup:=by
 unfold Bt.extL List.Nodup
 rw [List.pairwise_flatMap];refine ⟨fun l _=>?_,?_⟩
 ·unfold Bt.ext1
  rw [List.pairwise_map];exact List.Pairwise.imp (fun h e=>h (by simpa using e)) (jiU x)
 ·refine List.Pairwise.imp (R:=(· ≠ ·)) ?_ h
  intro l l' hne y hy z hz e
  unfold Bt.ext1 at hy hz
  obtain ⟨u,_,rfl⟩:=List.mem_map.1 hy
  obtain ⟨w,_,rfl⟩:=List.mem_map.1 hz
  exact hne (List.append_inj_left' e rfl)
theorem ji6 (ms:List Sp): ∀all:List (List Int),all.Nodup→(ms.foldl Bt.extL all).Nodup:=by
 induction ms with
 |nil=>exact fun _ h=>h
 |cons x ms ih=>exact fun all h=>ih _ (jlc x h)
theorem jiB (b:Bk):(Bt.boatsOf b).Nodup:=List.Pairwise.filter _ (ji6 b.marks [[]] (by simp))
theorem mkB_le {b o:Fb} (k:Knows b o) {hs:List Int} {c:Bk}:(Bt.boatsOf (mkB o hs c)).length≤(Bt.boatsOf (mkB b hs c)).length:=
 List.Nodup.length_le_of_subset (jiB _) fun _ hl=>jmd k hl
theorem jfT {b:Bk} (h:Bt.bookS b=0):Bt.openS b 0=0↔0<(Bt.boatsOf b).length:=by
 rw [Bt.openS,if_neg (fun e=>e h),if_neg (fun e=>e rfl)];by_cases e:Bt.boatsOf b=[]
 ·rw [if_pos e,e];simp
 ·rw [if_neg e];simp [List.length_pos_iff,e]
theorem jk4 {b o:Fb} (k:Knows b o) {hs:List Int} {c:Bk} (hb:Bt.bookS (mkB b hs c)=0) {s:Nat} {xs ys:List Int} (h1: ∀z,z∈xs↔z∈Bt.heightsAt (Bt.openL (mkB b hs c) 0) s) (h2: ∀z,z∈ys↔z∈Bt.heightsAt (Bt.openL (mkB o hs c) 0) s): ∀z∈ys,z∈xs:=fun z hz=>by
 have ho:=jjP k hb
 rw [h2] at hz
 rw [h1];unfold Bt.heightsAt at hz⊢
 obtain ⟨l,hl,rfl⟩:=List.mem_map.1 hz
 unfold Bt.openL at hl
 by_cases e:Bt.openS (mkB o hs c) 0=0
 ·rw [if_pos e] at hl
  have hlb:=jmd k hl
  refine List.mem_map.2 ⟨l,?_,rfl⟩
  rw [Bt.openL,if_pos ((jfT hb).2 (List.length_pos_of_mem hlb))];exact hlb
 ·rw [if_neg e] at hl
  cases hl
theorem mem_at0 {xs:List Int} {i:Nat} (h:i<xs.length):xs.getD i 0∈xs:=by
 rw [List.getD_eq_getElem?_getD,List.getElem?_eq_getElem h];exact List.getElem_mem h
theorem len_ways {n m:Nat} (h:m≤n):(n=0∧m=0)∨(0<n∧m=0)∨(0<n∧0<m):=by omega
theorem jmG {b:Bk} {s:Nat} {ys:List Int} (ha:Asc ys) (h: ∀z,z∈ys↔z∈Bt.heightsAt (Bt.openL b 0) s) (hv:Bt.Valid b):ys.length≤1000000:=by
 have h1:ys.length≤(Bt.heightsAt (Bt.openL b 0) s).length:=List.Nodup.length_le_of_subset (List.Pairwise.imp (fun h e=>by omega) ha) fun z hz=>(h z).1 hz
 have h2:(Bt.openL b 0).length≤2187:=by
  unfold Bt.openL
  split
  ·exact Bt.boats_le hv
  ·simp
 rw [Bt.heightsAt,List.length_map] at h1
 omega
theorem f4_t (h:Hp) (rdp:Rp B h b pp np cp) (rdt:Rt B h b pt nt ct) (rdk:Rk B h b pk nk ck) {cb:Bk} {pm:Option Addr} {nm cm:Nat} {pr:Option Addr} {nr cr:Nat} (rdm:RdS B h 2 (.slice pm nm cm) nm (encs cb.marks)) (rdr:RdS B h 4 (.slice pr nr cr) nr (encs cb.rules)) {p:Option Addr} {n c:Nat} {zs:List Int} (rd:RdS B h 1 (.slice p n c) n (u16s zs)) (hz: ∀z∈zs,0≤z∧z≤65535) (k:Sk) (st:Nat) (hst:st≤255):(Md.starS Tryz.prog B).R (jjq Tryz.prog B fun v _=>v= .bool true) (G (Frame.enter Tryz.prog 4 #[fbV b pp np cp pt nt ct pk nk ck,(bkV cb pm nm cm pr nr cr),.slice p n c,(skV k),.int .u8 (st:Int)] .normal) []) h:=by
 refine jls Tryz.func4 rfl rfl (l:=(fbV b pp np cp pt nt ct pk nk ck)::((bkV cb pm nm cm pr nr cr))::(.slice p n c)::((skV k))::(.int .u8 (st:Int))::uu163) rfl ?_
 refine rs4 ?_;refine jaq rfl zq (fun q5=>k_hp (jac ?_));refine jaq rfl zq (fun q6=>k_hp (jac ?_));refine jaq rfl zq (fun q8=>k_hp (jac ?_));refine d10 ?_;refine jak ?_
 refine jaA [(0,.free),(1,.free),(2,.free),(3,.free),(4,.free),(5,.free),(6,.free),(7,.free),(8,.free),(9,.free),(10,.free),(11,.free),(12,.free),(13,.free),(14,.free),(15,.free),(16,.free),(17,.free),(18,.free),(19,.free),(20,.free),(21,.free),(22,.free),(23,.free),(24,.free),(25,.free)] (by kernel_rfl) (by kernel_rfl) ?_;refine jaT rfl zq ?_;refine jae (Post:=fun v=>IsB _ v) rfl zq (by kernel_rfl) (fun H' hH=>f5_c _ H' (rdp.keeps (sq hH)) (rdt.keeps (sq hH)) (rdk.keeps (sq hH))) ?_;rintro v (⟨hc,rfl⟩|⟨hc,rfl⟩)
 ·refine d31 ?_;refine d173 ?_
  refine jbz rfl rfl (fun hc=>?_) (fun hc=>?_)
  ·refine jau rfl zq ?_;refine d111 ?_;refine d30 ?_;refine d76 ?_;refine d111 ?_;refine d7 ?_;refine rs2 ?_;refine jaZ rfl zq (by kernel_rfl) (f6_c _) ?_;rintro v h' ⟨nF,rfl,rfl⟩;refine d87 ?_
   refine jcX rfl Tryz.func4 (by kernel_rfl) rfl ?_;rfl
  ·refine jau rfl zq ?_;refine d173 ?_;refine jbz rfl rfl (fun hc=>?_) (fun hc=>?_)
   ·refine jau rfl zq ?_;refine d30 ?_;refine d76 ?_;refine d111 ?_;refine d7 ?_;refine rs2 ?_;refine jaZ rfl zq (by kernel_rfl) (f6_c _) ?_;rintro v h' ⟨nF,rfl,rfl⟩;refine d87 ?_
    refine jcX rfl Tryz.func4 (by kernel_rfl) rfl ?_;rfl
   ·refine jau rfl zq ?_;refine d104 ?_;refine jae (Post:=fun v=>v= .int .i64 (Bt.bookS cb)) rfl rfl (by kernel_rfl) (fun H' hH=>Bt.f12_c _ H' (rdm.keeps (sq hH)) (by omega) (rdr.keeps (sq hH)) (by omega)) ?_;rintro v rfl;refine jac ?_;refine jaF rfl rfl (fun hc=>?_) (fun hc=>?_)
    ·refine jau rfl zq ?_;refine d111 ?_;refine d7 ?_;refine rs2 ?_;refine jaZ rfl zq (by kernel_rfl) (f6_c _) ?_;rintro v h' ⟨nF,rfl,rfl⟩;refine d87 ?_
     refine jcX rfl Tryz.func4 (by kernel_rfl) rfl ?_;rfl
    ·refine jau rfl zq ?_;refine d104 ?_;have hp:np≤1000:=by omega
     have ht:nt≤1000:=by omega
     have hk:nk≤1000:=by omega
     have h0:fbS b=0:=by omega
     have hv:=jaH h0
     have hv1:=hv.pts.five
     have hv2:=hv.pts.two
     have hml:=rdp.elen (by decide)
     refine jat rfl rfl (by kernel_rfl) (Post:=fun v new=> ∃vs,RdS B new 1 v (boatsOf b).length vs∧RdE B new vs (boatsOf b)) (fun H' hH=>f13_c _ H' (rdp.keeps (sq hH)) hp (rdt.keeps (sq hH)) ht (rdk.keeps (sq hH)) hk hv) ?_;rintro v n13 ⟨vs,⟨p13,c13,rfl,_,_⟩,_⟩;refine jaL (jac ?_);refine jcO rfl rfl ?_;refine jcd rfl rfl (fun hc=>?_) (fun hc=>?_)
     ·refine jau rfl zq ?_;refine d7 ?_;refine rs2 ?_;refine jaZ rfl zq (by kernel_rfl) (f6_c _) ?_;rintro v h' ⟨nF,rfl,rfl⟩;refine d87 ?_
      refine jcX rfl Tryz.func4 (by kernel_rfl) rfl ?_;rfl
     ·refine jau rfl zq ?_;refine d36 ?_;have hbl:0<(boatsOf b).length:=by omega
      have hbn:=List.ne_nil_of_length_pos hbl
      have hop:openS b 0=0:=ji1 h0 rfl hbn
      refine rr9 ?_;refine d137 ?_;refine jat rfl zq (by kernel_rfl) (Post:=fun v new=> ∃w,v= .tuple [w,.int .i64 (jd5 b k)].toArray∧BkF B (jcQ b k) new w) (fun H' hH=>f14_c _ H' (rdp.keeps (sq hH)) hp (rdt.keeps (sq hH)) ht (rdk.keeps (sq hH)) hk k) ?_;rintro v n14 ⟨w14,rfl,hw14⟩;refine jaL (jac ?_);obtain ⟨pp2,np2,cp2,pt2,nt2,ct2,pk2,nk2,ck2,rfl,rdp2,rdt2,rdk2⟩:=hw14
      refine d47 ?_
      refine jaw rfl zq (fun q11=>k_hp (jac ?_));refine jaO rfl zq rfl ?_;refine d108 ?_;refine jaF rfl zq (fun hc=>?_) (fun hc=>?_)
      ·refine d7 ?_;refine rs2 ?_
       refine jaZ rfl zq (by kernel_rfl) (f6_c _) ?_;rintro v h' ⟨nF,rfl,rfl⟩;refine d87 ?_
       refine jcX rfl Tryz.func4 (by kernel_rfl) rfl ?_;rfl
      ·refine d36 ?_;refine jak ?_
       obtain ⟨hsf,hkn⟩:=jiQ h0 (show jd5 b k=0 by omega)
       rw [hsf] at rdp2 rdt2 rdk2⊢
       obtain ⟨o,ho⟩: ∃o,o=addK b k:=⟨_,rfl⟩
       rw [←ho] at hkn rdp2 rdt2 rdk2⊢
       have e1:=rdp2.elen (by decide)
       have e2:=rdt2.elen (by decide)
       have e3:=rdk2.elen (by decide)
       have e4:o.tapes.length=b.tapes.length:=by rw [ho];rfl
       have e5:o.sticks.length=b.sticks.length+1:=by rw [ho];simp [addK]
       have e6:=hkn.len
       have e7:=rdt.elen (by decide)
       have e8:=rdk.elen (by decide)
       refine jah [(0,.read),(1,.read),(2,.read),(3,.keep),(4,.keep),(5,.pure),(6,.pure),(7,.read),(8,.keep),(9,.pure),(10,.pure)] (by kernel_rfl) (by kernel_rfl) (List.Sublist.refl _) ?_;refine d137 ?_;refine jaT rfl zq ?_
       refine jat rfl zq (by kernel_rfl) (Post:=fun v new=> ∃rp rc,v=fbV (addK b k) pp np cp pt nt ct rp (nk+1) rc∧RdS B new 3 (.slice rp (nk+1) rc) (nk+1) (encs (addK b k).sticks)) (fun H' hH=>f16_c _ H' (rdk.keeps (sq hH)) hk k) ?_;rintro v n16 ⟨rp,rc,rfl,r16⟩;refine jaL (jac ?_);refine jae (Post:=fun v=>IsB _ v) rfl zq (by kernel_rfl) (fun H' hH=>f15_c _ H' (rdp2.keeps (sq hH)) (by omega) (rdt2.keeps (sq hH)) (by omega) (rdk2.keeps (sq hH)) (by omega) (b2:=addK b k) (rdp.keeps (sq hH)) hp (rdt.keeps (sq hH)) ht (r16.keeps (sq hH)) (by omega)) ?_;rintro v (⟨hc,rfl⟩|⟨hc,rfl⟩)
       ·refine d31 ?_;refine d104 ?_
        refine jae (Post:=fun v=>v= .int .i64 0) rfl rfl (by kernel_rfl) (fun H' hH=>(f17_c _ H' (rdp2.keeps (sq hH)) (by omega) (rdt2.keeps (sq hH)) (by omega) (rdk2.keeps (sq hH)) (by omega)).mono fun v h' e=>⟨e.1,by rw [e.2,hkn.fo]⟩) ?_;rintro v rfl;refine jac ?_;refine jgS rfl rfl rfl ?_;refine d119 ?_;refine d67 ?_;refine d98 ?_;refine (Md.starS Tryz.prog B).weak (h':=h++[⟨true,q5,.cells (fbL b pp np cp pt nt ct pk nk ck).toArray 26 (0,0)⟩,⟨true,q6,.cells (bkL cb pm nm cm pr nr cr).toArray 43 (0,0)⟩,⟨true,q8,.cells [.int .i64 k.h,.int .i64 k.long,.bool k.fits].toArray 50 (0,0)⟩]++n13++n14++[⟨true,q11,.cells (fbL o pp2 np2 cp2 pt2 nt2 ct2 pk2 nk2 ck2).toArray 26 (0,0)⟩]) jaa ?_
        refine jag (fun nn l h'=> ∃(i:Nat) (hpp:Option Addr) (hcc:Nat) (M:Hp) (hs:List Int),nn=3-i∧(i≤3)∧(OwnS 3 1 (.slice hpp i hcc) i (ints hs) M)∧(hs.length=i)∧(∀x∈hs,(b.pts.getD 0 default).h≤x∧x≤(b.pts.getD (np-1) default).h)∧(∃U:Nat→Value,l=((fbV b pp np cp pt nt ct pk nk ck)::((bkV cb pm nm cm pr nr cr))::(.slice p n c)::((skV k))::(.int .u8 (st:Int))::(.pointer (some ⟨q5,0,none⟩))::(.pointer (some ⟨q6,0,none⟩))::(U 7)::(.pointer (some ⟨q8,0,none⟩))::(U 9)::(U 10)::(.pointer (some ⟨q11,0,none⟩))::(U 12)::(.slice hpp i hcc)::(.int .i64 (i:Int))::vw153 U 15 []))∧h++[⟨true,q5,.cells (fbL b pp np cp pt nt ct pk nk ck).toArray 26 (0,0)⟩,⟨true,q6,.cells (bkL cb pm nm cm pr nr cr).toArray 43 (0,0)⟩,⟨true,q8,.cells [.int .i64 k.h,.int .i64 k.long,.bool k.fits].toArray 50 (0,0)⟩]++n13++n14++[⟨true,q11,.cells (fbL o pp2 np2 cp2 pt2 nt2 ct2 pk2 nk2 ck2).toArray 26 (0,0)⟩]++M=h') _ ⟨0,none,0,[],[],rfl,by omega,OwnS.nil,rfl,by simp,exU rfl,(by simp)⟩ ?_
        rintro nn l h' ⟨i,hpp,hcc,M,hs,rfl,hi0,how,hlen,hmem,⟨U,rfl⟩,rfl⟩ hnext;refine jak ?_;refine d16 ?_;refine jap rfl zq (fun hc=>?_) (fun hc=>?_)
        ·refine d75 ?_
         refine jah [(0,.pure),(2,.pure),(3,.pure),(1,.read),(4,.keep),(5,.pure),(6,.keep),(7,.keep),(8,.free),(9,.pure)] (by kernel_rfl) (by kernel_rfl) (List.Sublist.refl _) ?_;refine d127 ?_;refine jaT rfl zq ?_
         refine jae (Post:=fun v=> ∃z:Nat,z≤65535∧v= .int .i64 (z:Int)) rfl zq (by kernel_rfl) (fun H' hH=>f19_c _ H' (rd.keeps (sq hH)) hz i) ?_;rintro v ⟨z,hzz,rfl⟩;refine jac ?_;refine jbk rfl zq (by kernel_rfl) (n':=(z:Int)) (by unfold IntKind.wrap;simp [IntKind.bits,IntKind.signed];omega) ?_;refine jae (Post:=fun v=> ∃x:Int,v= .int .i64 x∧(b.pts.getD 0 default).h≤x∧x≤(b.pts.getD (np-1) default).h) rfl zq (by kernel_rfl) (fun H' hH=>f18_c _ H' (rdp.keeps (sq hH)) hp hv z hzz) ?_;rintro v ⟨x,rfl,hx1,hx2⟩;refine jac ?_;refine k_bs kdq rfl zq (by decide) (by decide) rfl (fun q84=>k_hp (jac ?_));refine jbH rfl zq rfl how kdq (by omega) (by omega) (fun w9 n9 o9=>jac ?_);obtain ⟨p9,c9,rfl,hc9,r9⟩:=jbq (B:=B) o9
         refine d167 ?_
         exact (Md.starS Tryz.prog B).weak jaa (hnext _ _ _ (by omega) ⟨i+1,p9,c9,n9,hs++[x],rfl,by omega,by rw [jbg];exact o9,by simp [hlen],by
          intro y hy
          rcases List.mem_append.1 hy with hy|hy
          ·exact hmem y hy
          ·rw [List.mem_singleton.1 hy];exact ⟨hx1,hx2⟩,exU rfl,rfl⟩)
        ·refine d41 ?_;refine jak ?_
         have hi3:i=3:=by omega
         subst hi3
         have rh:RdS B M 1 (.slice hpp 3 hcc) 3 (ints hs):=how.rd (List.Sublist.refl _)
         have hin: ∀i,i<3→(b.pts.getD 0 default).h≤hs.getD i 0∧hs.getD i 0≤(b.pts.getD (np-1) default).h:=fun i hi=>hmem _ (mem_at0 (by omega))
         have hop2:openS o 0=0:=ji1 hkn.fo rfl hkn.ne
         have hin2: ∀i,i<3→(o.pts.getD 0 default).h≤hs.getD i 0∧hs.getD i 0≤(o.pts.getD (np2-1) default).h:=fun i hi=>by rw [hkn.hs,hkn.hs,show np2=np by omega];exact hin i hi
         refine rr10 ?_;refine d77 ?_;refine jaT rfl zq ?_;refine jat rfl zq (by kernel_rfl) (Post:=fun v new=> ∃wp wc,v= .tuple [bkV (mkB b hs cb) wp 3 wc none 0 0,.bool true].toArray∧OwnS 30 2 (.slice wp 3 wc) 3 (encs (mkB b hs cb).marks) new) (fun H' hH=>f20_c _ H' (rdp.keeps (sq hH)) hp (rdt.keeps (sq hH)) ht (rdk.keeps (sq hH)) hk (rh.keeps (sq hH)) (by omega) hop hin) ?_;rintro v nA ⟨wp,wc,rfl,oA⟩;refine jaL (jac ?_);refine d47 ?_
         refine jaw rfl zq (fun q15=>k_hp (jac ?_));refine jaO rfl zq (by first|rfl|exact jaf _) ?_;refine aq rfl ?_;refine rs10 ?_;refine d77 ?_;refine jaT rfl zq ?_
         refine jat rfl zq (by kernel_rfl) (Post:=fun v new=> ∃wp wc,v= .tuple [bkV (mkB o hs cb) wp 3 wc none 0 0,.bool true].toArray∧OwnS 30 2 (.slice wp 3 wc) 3 (encs (mkB o hs cb).marks) new) (fun H' hH=>f20_c _ H' (rdp2.keeps (sq hH)) (by omega) (rdt2.keeps (sq hH)) (by omega) (rdk2.keeps (sq hH)) (by omega) (rh.keeps (sq hH)) (by omega) hop2 hin2) ?_;rintro v nB ⟨wp2,wc2,rfl,oB⟩;refine jaL (jac ?_);refine d47 ?_
         refine jaw rfl zq (fun q17=>k_hp (jac ?_));refine jaO rfl zq (by first|rfl|exact jaf _) ?_;refine d10 ?_;refine rs6 ?_;refine mq rfl ?_;refine jgR rfl zq ?_;refine d22 ?_;refine d84 ?_;refine d36 ?_;refine jak ?_
         have rmx:=OwnS.rd (B:=B) oA (List.Sublist.refl _)
         have rmy:=OwnS.rd (B:=B) oB (List.Sublist.refl _)
         refine rr3 ?_;refine jaT rfl zq ?_;refine jae (Post:=fun v=>v= .int .i64 (Bt.bookS (mkB b hs cb))) rfl zq (by kernel_rfl) (fun H' hH=>Bt.f12_c _ H' (b:=(mkB b hs cb)) (rmx.keeps (sq hH)) (by omega) jdv (by omega)) ?_;rintro v rfl;refine jac ?_;refine jaF rfl zq (fun hc=>?_) (fun hc=>?_)
         ·refine d7 ?_;refine rs2 ?_
          refine jaZ rfl zq (by kernel_rfl) (f6_c _) ?_;rintro v h' ⟨nF,rfl,rfl⟩;refine d87 ?_
          refine jcX rfl Tryz.func4 (by kernel_rfl) rfl ?_;rfl
         ·refine d36 ?_
          have hx0:Bt.bookS (mkB b hs cb)=0:=by omega
          have hy0:=jjP hkn hx0
          have hle:=mkB_le (hs:=hs) (c:=cb) hkn
          refine rr7 ?_;refine jaT rfl zq ?_;refine jae (Post:=fun v=>v= .tuple [.int .i64 ((Bt.boatsOf (mkB b hs cb)).length:Int),.int .i64 0].toArray) rfl zq (by kernel_rfl) (fun H' hH=>(Bt.f21_c _ H' (b:=(mkB b hs cb)) (rmx.keeps (sq hH)) (by omega) jdv (by omega)).mono fun v h' e=>⟨e.1,by rw [e.2,if_neg (fun e=>e hx0),hx0]⟩) ?_;rintro v rfl;refine d162 ?_;refine d183 ?_
          refine jae (Post:=fun v=>v= .tuple [.int .i64 ((Bt.boatsOf (mkB o hs cb)).length:Int),.int .i64 0].toArray) rfl zq (by kernel_rfl) (fun H' hH=>(Bt.f21_c _ H' (b:=(mkB o hs cb)) (rmy.keeps (sq hH)) (by omega) jdv (by omega)).mono fun v h' e=>⟨e.1,by rw [e.2,if_neg (fun e=>e hy0),hy0]⟩) ?_;rintro v rfl;refine d92 ?_;refine d99 ?_;refine jak ?_;refine rr15 ?_;refine mq rfl ?_;refine jgS rfl zq (by decide) ?_;refine d113 ?_;refine d22 ?_;refine k_lssF rfl rfl (by omega) ?_;refine jau rfl zq ?_;refine d163 ?_;refine jjV rfl rfl (by omega) ?_;refine d119 ?_;refine d115 ?_
          refine jbk rfl zq (by kernel_rfl) (n':=(st:Int)) (by unfold IntKind.wrap;simp [IntKind.bits,IntKind.signed];omega) ?_;refine k_remT rfl zq (by omega) ?_;rw [show (st:Int).tmod 3=((st%3:Nat):Int) from (Int.ofNat_tmod st 3).symm];have hik:=Nat.mod_lt st (show 0<3 by decide)
          generalize st%3=i3 at hik⊢
          refine aq rfl ?_;refine rs8 ?_;refine d77 ?_
          refine jat rfl zq (by kernel_rfl) (Post:=fun v new=> ∃w ys,v= .tuple [w,.int .i64 (Bt.openS (mkB b hs cb) 0)].toArray∧OwnS 3 1 w ys.length (ints ys) new∧Asc ys∧ ∀z,z∈ys↔z∈Bt.heightsAt (Bt.openL (mkB b hs cb) 0) i3) (fun H' hH=>(Bt.f22_c _ H' (b:=(mkB b hs cb)) (N:=60000) (f123_all _) (by omega) (rmx.keeps (sq hH)) (by omega) jdv (by omega) (fun e=>by have:=Bt.boats_le (Bt.valid_of e);omega) (i3:Int)).mono fun v h' e=>by rw [if_pos (show 0≤(i3:Int)∧(i3:Int)≤((3:Nat):Int)-1 by omega)] at e;obtain ⟨new,e1,w,ys,e2,e3,e4,e5⟩:=e;exact ⟨new,e1,w,ys,e2,e3,e4,by simpa using e5⟩) ?_;rintro v n24 ⟨w24,ys24,rfl,o24,ys24_a,hm24⟩;refine jaL (jac ?_);obtain ⟨pys24,cys24,rfl,_,rys24⟩:=jbq (B:=B) o24
          refine d47 ?_;refine d54 ?_;refine rs8 ?_;refine d77 ?_
          refine jat rfl zq (by kernel_rfl) (Post:=fun v new=> ∃w ys,v= .tuple [w,.int .i64 (Bt.openS (mkB o hs cb) 0)].toArray∧OwnS 3 1 w ys.length (ints ys) new∧Asc ys∧ ∀z,z∈ys↔z∈Bt.heightsAt (Bt.openL (mkB o hs cb) 0) i3) (fun H' hH=>(Bt.f22_c _ H' (b:=(mkB o hs cb)) (N:=60000) (f123_all _) (by omega) (rmy.keeps (sq hH)) (by omega) jdv (by omega) (fun e=>by have:=Bt.boats_le (Bt.valid_of e);omega) (i3:Int)).mono fun v h' e=>by rw [if_pos (show 0≤(i3:Int)∧(i3:Int)≤((3:Nat):Int)-1 by omega)] at e;obtain ⟨new,e1,w,ys,e2,e3,e4,e5⟩:=e;exact ⟨new,e1,w,ys,e2,e3,e4,by simpa using e5⟩) ?_;rintro v n25 ⟨w25,ys25,rfl,o25,ys25_a,hm25⟩;refine jaL (jac ?_);obtain ⟨pys25,cys25,rfl,_,rys25⟩:=jbq (B:=B) o25
          refine d47 ?_;refine d99 ?_;refine jak ?_
          have hox:=jfT hx0
          have hoy:=jfT hy0
          have hsub:=jk4 hkn hx0 hm24 hm25
          have hl24:ys24.length≤1000000:=jmG ys24_a hm24 (Bt.valid_of hx0)
          have hl25:ys25.length≤1000000:=jmG ys25_a hm25 (Bt.valid_of hy0)
          rcases len_ways hle with ⟨hq1,hq2⟩|⟨hq1,hq2⟩|⟨hq1,hq2⟩
          ·
           refine rr12 ?_;refine mq rfl ?_;refine jmw rfl zq (by omega) ?_;refine mq rfl ?_;refine jjV rfl zq (by omega) ?_;refine je2 rfl zq (by kernel_rfl) rfl ?_;refine d22 ?_;refine jmw rfl rfl (by omega) ?_;refine k_mv rfl rfl ?_;refine jjV rfl rfl (by omega) ?_;refine je2 rfl rfl (by kernel_rfl) rfl ?_;refine d119 ?_;refine rs7 ?_;refine d3 ?_;refine jae (Post:=fun v=>IsB _ v) rfl zq (by kernel_rfl) (fun H' hH=>f23_c _ H' (rys25.keeps (sq hH)) hl25 (rys24.keeps (sq hH)) hl24) ?_;rintro v (⟨hc,rfl⟩|⟨hc,rfl⟩)
           ·refine jac ?_;refine mq rfl ?_;refine jaZ rfl rfl (by kernel_rfl) (f6_c _) ?_;rintro v h' ⟨nF,rfl,rfl⟩;refine jac ?_;refine d64 ?_;refine jcX rfl Tryz.func4 (by kernel_rfl) rfl ?_;rfl
           ·refine jac ?_;exact absurd hsub hc
          ·
           refine rr12 ?_;refine mq rfl ?_;refine jgT rfl zq (by omega) ?_;refine mq rfl ?_;refine jmv rfl zq (by omega) ?_;refine je2 rfl zq (by kernel_rfl) rfl ?_;refine d22 ?_;refine jmw rfl rfl (by omega) ?_;refine k_mv rfl rfl ?_;refine jjV rfl rfl (by omega) ?_;refine je2 rfl rfl (by kernel_rfl) rfl ?_;refine d119 ?_;refine rs7 ?_;refine d3 ?_;refine jae (Post:=fun v=>IsB _ v) rfl zq (by kernel_rfl) (fun H' hH=>f23_c _ H' (rys25.keeps (sq hH)) hl25 (rys24.keeps (sq hH)) hl24) ?_;rintro v (⟨hc,rfl⟩|⟨hc,rfl⟩)
           ·refine jac ?_;refine mq rfl ?_;refine jaZ rfl rfl (by kernel_rfl) (f6_c _) ?_;rintro v h' ⟨nF,rfl,rfl⟩;refine jac ?_;refine d64 ?_;refine jcX rfl Tryz.func4 (by kernel_rfl) rfl ?_;rfl
           ·refine jac ?_;exact absurd hsub hc
          ·
           refine rr12 ?_;refine mq rfl ?_;refine jgT rfl zq (by omega) ?_;refine mq rfl ?_;refine jmv rfl zq (by omega) ?_;refine je2 rfl zq (by kernel_rfl) rfl ?_;refine d22 ?_;refine jgT rfl rfl (by omega) ?_;refine k_mv rfl rfl ?_;refine jmv rfl rfl (by omega) ?_;refine je2 rfl rfl (by kernel_rfl) rfl ?_;refine d119 ?_;refine rs7 ?_;refine d3 ?_;refine jae (Post:=fun v=>IsB _ v) rfl zq (by kernel_rfl) (fun H' hH=>f23_c _ H' (rys25.keeps (sq hH)) hl25 (rys24.keeps (sq hH)) hl24) ?_;rintro v (⟨hc,rfl⟩|⟨hc,rfl⟩)
           ·refine jac ?_;refine mq rfl ?_;refine jaZ rfl rfl (by kernel_rfl) (f6_c _) ?_;rintro v h' ⟨nF,rfl,rfl⟩;refine jac ?_;refine d64 ?_;refine jcX rfl Tryz.func4 (by kernel_rfl) rfl ?_;rfl
           ·refine jac ?_;exact absurd hsub hc
       ·refine jac ?_;exact absurd ho hc
 ·refine d33 ?_;refine d111 ?_;refine d111 ?_;refine d30 ?_;refine d76 ?_;refine d111 ?_;refine d7 ?_;refine rs2 ?_
  refine jaZ rfl zq (by kernel_rfl) (f6_c _) ?_;rintro v h' ⟨nF,rfl,rfl⟩;refine d87 ?_
  refine jcX rfl Tryz.func4 (by kernel_rfl) rfl ?_;rfl
end Go.Proofs
namespace Go.Lo
set_option maxRecDepth 100000
section
variable {H:Type} {enc:TypeId×Value→H} {P:Program} {w:World} {base:Nat} {sp:Nat→Bool} {held:Bool}
end
def spsOf:List Int→List Sp
 |a::b::r=>⟨a,b⟩::spsOf r
 |_=>[]
theorem jhR: ∀(n:Nat) (zs:List Int),zs.length=n*2→encs (spsOf zs)=ints zs
 |0,zs,h=>by
  obtain rfl:=List.length_eq_zero_iff.1 (by simpa using h)
  rfl
 |n+1,a::b::r,h=>by
  have:=jhR n r (by simp only [List.length_cons] at h;omega)
  simp only [spsOf,encs,this]
  rfl
 |n+1,[],h=>by simp at h
 |n+1,[a],h=>by simp at h;omega
def rusOf:List Int→List Ru
 |a::b::c::d::r=>⟨a,b,c,d⟩::rusOf r
 |_=>[]
theorem jhV: ∀(n:Nat) (zs:List Int),zs.length=n*4→encs (rusOf zs)=ints zs
 |0,zs,h=>by
  obtain rfl:=List.length_eq_zero_iff.1 (by simpa using h)
  rfl
 |n+1,a::b::c::d::r,h=>by
  have:=jhV n r (by simp only [List.length_cons] at h;omega)
  simp only [rusOf,encs,this]
  rfl
 |n+1,[],h=>by simp at h
 |n+1,[a],h=>by simp at h;omega
 |n+1,[a,b],h=>by simp at h;omega
 |n+1,[a,b,c],h=>by simp at h;omega
end Go.Lo
namespace Go.Proofs.Bt
open Go.Proofs
open Go.Lo
set_option maxRecDepth 100000
section
variable {H:Type} {enc:TypeId×Value→H} {w:World} {sp:Nat→Bool} {held:Bool}
theorem int_arg {r:Reach} {b0:Nat} {t:TypeId} {kd:IntKind} {v:Value} {d:DataW H} {ps:List MemPlace} (ht: Tryz.prog.underlying t=some (.int kd)) (hv:Value.okWide Tryz.prog w r b0 t v) (h:DataW.Trod enc Tryz.prog w 0 sp held t v d ps):
  ∃n,v= .int kd n∧(Lit.int kd n).wf=true:=by
 obtain ⟨n,e,_,_,hw⟩:=ChangeShapes.open_int ht hv h
 exact ⟨n,e,hw⟩
theorem nat_arg {n M:Int} {kd:IntKind} {v:Value} (e:v= .int kd n∧(Lit.int kd n).wf=true) (h:(Lit.int kd n).wf=true→0≤n∧n≤M): ∃z:Nat,v= .int kd (z:Int)∧(z:Int)≤M:=by
 obtain ⟨h0,h1⟩:=h e.2
 exact ⟨n.toNat,by rw [e.1,Int.toNat_of_nonneg h0],by rw [Int.toNat_of_nonneg h0];exact h1⟩
theorem u8_arg {r:Reach} {b0:Nat} {v:Value} {d:DataW H} {ps:List MemPlace} (hv:Value.okWide Tryz.prog w r b0 5 v) (h:DataW.Trod enc Tryz.prog w 0 sp held 5 v d ps): ∃z:Nat,v= .int .u8 (z:Int)∧z≤255:=by
 obtain ⟨n,e⟩:=int_arg (kd:= .u8) (by kernel_rfl) hv h
 obtain ⟨z,e,hz⟩:=nat_arg (M:=255) e (fun hw=>by simp [Lit.wf,IntKind.min,IntKind.max,IntKind.signed,IntKind.bits] at hw;omega)
 exact ⟨z,e,by omega⟩
theorem nums_arg {r:Reach} {b0:Nat} {t e:TypeId} {kd:IntKind} {v:Value} {d:DataW H} {ps:List MemPlace} (hu: Tryz.prog.underlying t=some (.slice e)) (hB:jfs Tryz.prog kd 3 e 1=true) (hv:Value.okWide Tryz.prog w r b0 t v) (h:DataW.Trod enc Tryz.prog w 0 sp held t v d ps):
  ∃(p:Option Addr) (n c:Nat) (xs:List Int),v= .slice p n c∧RdS w.heap [] 1 (.slice p n c) n (xs.map (Value.int kd))∧ ∀x∈xs,(Lit.int kd x).wf=true:=by
 have hv':Cell.okWide Tryz.prog w r b0 t v:=by
  unfold Value.okWide at hv
  rw [hu] at hv
  exact hv
 obtain ⟨fuel,h⟩:=h
 have hsl:v.cells.toList=[v]:=by
  unfold Cell.okWide at hv'
  rw [hu] at hv'
  cases v<;>first|rfl|(simp [Cell.ok,hu] at hv')
 rw [hsl] at h
 obtain ⟨p,n,c,zs,e,_,_,rd,hw⟩:=jdK hu hB h (jeg hu hv')
 exact ⟨p,n,c,zs,List.head_eq_of_cons_eq e,rd,hw⟩
theorem picks_arg {r:Reach} {b0:Nat} {v:Value} {d:DataW H} {ps:List MemPlace} (hv:Value.okWide Tryz.prog w r b0 27 v) (h:DataW.Trod enc Tryz.prog w 0 sp held 27 v d ps):
  ∃(p:Option Addr) (n c:Nat) (xs:List Int),v= .slice p n c∧RdS w.heap [] 1 (.slice p n c) n (xs.map (Value.int .u16))∧ ∀x∈xs,0≤x∧x≤65535:=by
 obtain ⟨p,n,c,xs,e,rd,hw⟩:=nums_arg (e:=60) (kd:= .u16) (by kernel_rfl) (by kernel_rfl) hv h
 exact ⟨p,n,c,xs,e,rd,fun x hx=>by have:=hw x hx;simp [Lit.wf,IntKind.min,IntKind.max,IntKind.signed,IntKind.bits] at this;omega⟩
theorem trodAll_cons {P:Program} {base:Nat} {t:TypeId} {ts:List TypeId} {vs:List Value} {ds:List (DataW H)} {ps:List MemPlace} (h:DataW.TrodAll enc P w base sp held (t::ts) vs ds ps):
  ∃v vr d dr p q,vs=v::vr∧ds=d::dr∧ps=p++q∧DataW.Trod enc P w base sp held t v d p∧DataW.TrodAll enc P w base sp held ts vr dr q:=by
 cases vs with
 |nil=>cases ds<;>exact absurd h id
 |cons v vr=>
  cases ds with
  |nil=>exact absurd h id
  |cons d dr=>
   obtain ⟨p,q,h1,h2,e⟩:=h
   exact ⟨v,vr,d,dr,p,q,rfl,rfl,e,h1,h2⟩
theorem trodAll_end {P:Program} {base:Nat} {vs:List Value} {ds:List (DataW H)} {ps:List MemPlace} (h:DataW.TrodAll enc P w base sp held [] vs ds ps):vs=[]∧ds=[]∧ps=[]:=by
 cases vs with
 |nil=>
  cases ds with
  |nil=>exact ⟨rfl,rfl,h⟩
  |cons d dr=>exact absurd h id
 |cons v vr=>cases ds<;>exact absurd h id
theorem trodAll_more {P:Program} {base:Nat} {t:TypeId} {ts:List TypeId} {v:Value} {vs:List Value} {d:DataW H} {ds:List (DataW H)} {p q:List MemPlace} (h:DataW.Trod enc P w base sp held t v d p) (k:DataW.TrodAll enc P w base sp held ts vs ds q):DataW.TrodAll enc P w base sp held (t::ts) (v::vs) (d::ds) (p++q):=⟨p,q,h,k,rfl⟩
theorem book_arg {r:Reach} {b0:Nat} {v:Value} {d:DataW H} {ps:List MemPlace} (hv:Value.okWide Tryz.prog w r b0 43 v) (h:DataW.Trod enc Tryz.prog w 0 sp held 43 v d ps):
  ∃b pm nm cm pr nr cr,v=bkV b pm nm cm pr nr cr∧nm≤cm∧nr≤cr∧RdS w.heap [] 2 (.slice pm nm cm) nm (encs b.marks)∧RdS w.heap [] 4 (.slice pr nr cr) nr (encs b.rules)∧(Lit.int .i64 b.bend).wf=true∧(Lit.int .i64 b.twist).wf=true∧(Lit.int .i64 b.turns).wf=true:=by
 obtain ⟨fs,hu,hfs⟩: ∃fs,Tryz.prog.underlying 43=some (.struct fs)∧fs.toList.map (fun f=>(f.offset,f.type))=[(0,3),(1,3),(2,3),(3,40),(4,41)]:=⟨_,Tryz.underlying43,by kernel_rfl⟩
 have hct: Tryz.prog.cellTypes Tryz.prog.depth 43=some [3,3,3,40,41]:=by kernel_rfl
 have h3: Tryz.prog.underlying 3=some (.int .i64):=by kernel_rfl
 have h22: Tryz.prog.underlying 40=some (.slice 30):=by kernel_rfl
 have h23: Tryz.prog.underlying 41=some (.slice 178):=by kernel_rfl
 unfold Value.okWide at hv
 rw [hu] at hv
 obtain ⟨cs,rfl,hsz,ts,hts,_,hall⟩:=hv
 rw [hct] at hts
 obtain rfl:=Option.some.inj hts
 obtain ⟨fuel,h⟩:=h
 obtain ⟨xs,m,_,_,hl,hxl,hx⟩:=DataW.trod_struct hu h
 have hl5:cs.size=5:=hsz.trans (by kernel_rfl)
 obtain ⟨cl⟩:=cs
 have hl5':cl.length=5:=hl5
 obtain ⟨c0,c1,c2,c3,c4,rfl⟩: ∃c0 c1 c2 c3 c4,cl=[c0,c1,c2,c3,c4]:=by
  match cl,hl5' with
  |[c0,c1,c2,c3,c4],_=>exact ⟨_,_,_,_,_,rfl⟩
 obtain ⟨f0,f1,f2,f3,f4,rfl⟩: ∃f0 f1 f2 f3 f4,fs= #[f0,f1,f2,f3,f4]:=by
  obtain ⟨fl⟩:=fs
  have hlen:fl.length=5:=by simpa using congrArg List.length hfs
  match fl,hlen with
  |[f0,f1,f2,f3,f4],_=>exact ⟨_,_,_,_,_,rfl⟩
 simp only [List.map_cons,List.map_nil,List.cons.injEq,Prod.mk.injEq,and_true] at hfs
 obtain ⟨⟨o0,t0⟩,⟨o1,t1⟩,⟨o2,t2⟩,⟨o3,t3⟩,o4,t4⟩:=hfs
 have s3: Tryz.prog.cellsOf 3=1:=by kernel_rfl
 have s22: Tryz.prog.cellsOf 40=1:=by kernel_rfl
 have s23: Tryz.prog.cellsOf 41=1:=by kernel_rfl
 have go: ∀i,i<5→ ∃y,xs[i]?=some y:=fun i hi=>⟨_,List.getElem?_eq_getElem (by rw [hxl];exact hi)⟩
 obtain ⟨y0,e0⟩:=go 0 (by omega)
 obtain ⟨y1,e1⟩:=go 1 (by omega)
 obtain ⟨y2,e2⟩:=go 2 (by omega)
 obtain ⟨y3,e3⟩:=go 3 (by omega)
 obtain ⟨y4,e4⟩:=go 4 (by omega)
 have g0:=(hx 0 f0 rfl).trans e0
 have g1:=(hx 1 f1 rfl).trans e1
 have g2:=(hx 2 f2 rfl).trans e2
 have g3:=(hx 3 f3 rfl).trans e3
 have g4:=(hx 4 f4 rfl).trans e4
 rw [t0,o0,s3] at g0
 rw [t1,o1,s3] at g1
 rw [t2,o2,s3] at g2
 rw [t3,o3,s22] at g3
 rw [t4,o4,s23] at g4
 obtain ⟨n0,q0,_,w0⟩:=DataW.trod_int h3 g0
 obtain ⟨n1,q1,_,w1⟩:=DataW.trod_int h3 g1
 obtain ⟨n2,q2,_,w2⟩:=DataW.trod_int h3 g2
 obtain rfl:=List.head_eq_of_cons_eq (show [c0]=[Value.int .i64 n0] from q0)
 obtain rfl:=List.head_eq_of_cons_eq (show [c1]=[Value.int .i64 n1] from q1)
 obtain rfl:=List.head_eq_of_cons_eq (show [c2]=[Value.int .i64 n2] from q2)
 obtain ⟨u3,hu3,k3⟩:=hall 3 c3 rfl
 obtain ⟨u4,hu4,k4⟩:=hall 4 c4 rfl
 obtain rfl:40=u3:=Option.some.inj hu3
 obtain rfl:41=u4:=Option.some.inj hu4
 obtain ⟨pm,nm,cm,zm,em,hcm,hzm,rdm,_⟩:=jdK (cs:=[c3]) h22 (by kernel_rfl:jfs Tryz.prog .i64 3 30 2=true) g3 (jeg h22 k3)
 obtain ⟨pr,nr,cr,zr,er,hcr,hzr,rdr,_⟩:=jdK (cs:=[c4]) h23 (by kernel_rfl:jfs Tryz.prog .i64 3 178 4=true) g4 (jeg h23 k4)
 obtain rfl:=List.head_eq_of_cons_eq em
 obtain rfl:=List.head_eq_of_cons_eq er
 exact ⟨⟨n0,n1,n2,Go.Lo.spsOf zm,Go.Lo.rusOf zr⟩,pm,nm,cm,pr,nr,cr,rfl,hcm,hcr,by rw [jhR _ _ hzm];exact rdm,by rw [jhV _ _ hzr];exact rdr,w0,w1,w2⟩
end
end Go.Proofs.Bt
namespace Go.Proofs.YtgplnpdblmcdoaaGreatDoor
open Go Go.Lo Go.ChangeShapes Go.WideShapes Go.ChangeAt Go.RowKit Go.Conc
set_option maxRecDepth 100000
theorem jhN (Lk:Looks) {p:Pinned} {s:OpenSpec} {k:StoodClaim8} {ks:List StandKind} (kinds:List LaidKind) (tests:Bool) (h:Claim7.holdsNew p (.plain s) {stood:=k,kinds:=ks}) (hw:k.row.wfByText s=true):
  Claim7.holdsNew p (.plain s) {stood:=k,kinds:=ks,goes:=true,laidByText:=true,laidKinds:=kinds,laidTests:=tests,laidLooks:=Lk}:=by
 obtain ⟨_,rest⟩:=h
 exact ⟨hw,rest⟩
theorem card_of (Lk:Looks) {p:Pinned} {s:OpenSpec} {c:OpenClaim} (kinds:List LaidKind) (tests:Bool) (har:Bool×String) (lk:Bool)
  (hc:c.holds p s) (hw:c.wfByText s=true) (htie:c.laidByTextAt Lk p kinds tests)
  (hst:c.start= .entering) (hnb:c.noBlocks=false∧c.again=false) (hm:p.checked.prog.mainIs=some (har.1,har.2.toList)) (hn:(!har.1&&har.2.isEmpty&&!lk)=false)
  (hl: ∀f fn,p.checked.prog.funcNamed c.func=some f→p.checked.prog.funcs[f]?=some fn→lk=p.checked.prog.looks []∧ ∀(j:Nat) t,fn.params[j]?=some t→p.checked.prog.wantsStandIn t=false)
  (hg:true=c.goesBy p.checked.prog):
  Claim7.holds p (.plain s) {stood:={row:=c,standIns:=[],harness:=har,looks:=lk},kinds:=[],alts:=[],goes:=true,laidByText:=true,laidKinds:=kinds,laidTests:=tests,laidLooks:=Lk}:=by
 have h6: ∀r:OpenClaim,Claim7.isSixth {stood:={row:=r,standIns:=[],harness:=har,looks:=lk},kinds:=[]}=false:=fun r=>by simpa [Claim7.isSixth] using hn
 exact ⟨jhN Lk kinds tests (Claim7.new_of_sixth hc har lk hst hnb hm (h6 c) hl) hw,(fun D hD=>by cases hD),htie,(fun h=>by cases h),hg⟩
theorem own:ownKnob Tryz.prog.godebug=none:=by kernel_rfl
theorem je1:laidOutB Tryz.prog=true:=by kernel_rfl
theorem laidOutP:laidOutB Tryz.pinned.checked.prog=true:=je1
def jkW:List (String×DataW Unit):=[("ribband/batten.checks",Rows.laid_ribband_batten_checks),("ribband/frame.checks",Rows.laid_ribband_frame_checks)]
theorem door_met (os:Os) (args:Array Value):laidMetH Tryz.prog jkW ((World.doorLaid Tryz.prog 14 os).forCall (fun _ _=>0) ⟨#[],args,[]⟩).memory:=
 laidMetH_of_parts3 (fuel:=8) (laidMet_nil _ _) (by kernel_rfl) (by kernel_rfl)
theorem laid_of {W:World} (h:laidMetH Tryz.prog jkW W):LaidF W.heap:=by
 obtain ⟨g,t,cs,fuel,p,hg,ht,hv,hd⟩:=h.funcs (n:= "ribband/frame.checks") (List.mem_cons_of_mem _ (List.mem_cons_self ..))
 obtain rfl:=Option.some.inj ((show Tryz.prog.globalNamed "ribband/frame.checks" =some 0 by kernel_rfl).symm.trans hg)
 obtain rfl:=Option.some.inj ((show (Tryz.prog.globals[0]?).map (·.type)=some 182 by kernel_rfl).symm.trans ht)
 have hu: Tryz.prog.underlying 182=some (.array 3 142):=by kernel_rfl
 have hc1: Tryz.prog.cellsOf 142=1:=by kernel_rfl
 obtain ⟨ps,rs,va,hfun⟩: ∃ps rs va,Tryz.prog.underlying 142=some (.func ps rs va):=⟨_,_,_,Tryz.underlying142⟩
 obtain ⟨xs,m,_,ex,hl,hxl,hx⟩:=DataW.trod_array hu hd
 have hl3:cs.toList.length=3:=hl.trans (by kernel_rfl)
 obtain ⟨cl⟩:=cs
 obtain ⟨c0,c1,c2,rfl⟩: ∃c0 c1 c2,cl=[c0,c1,c2]:=by
  match cl,hl3 with
  |[c0,c1,c2],_=>exact ⟨_,_,_,rfl⟩
 obtain ⟨y0,y1,y2,rfl⟩: ∃y0 y1 y2,xs=[y0,y1,y2]:=by
  match xs,hxl with
  |[y0,y1,y2],_=>exact ⟨_,_,_,rfl⟩
 have e2: ∃a b c:List UInt8,(Rows.laid_ribband_frame_checks:DataW Unit)= .iface "func table" (.agg [.iface "func" (.lit (.string a)),.iface "func" (.lit (.string b)),.iface "func" (.lit (.string c))])∧
   ((List.range Tryz.prog.funcs.size).filter fun f=>(Tryz.prog.funcs[f]?).any (·.name.toUTF8.data.toList==a))=[216]∧((List.range Tryz.prog.funcs.size).filter fun f=>(Tryz.prog.funcs[f]?).any (·.name.toUTF8.data.toList==b))=[217]∧
   ((List.range Tryz.prog.funcs.size).filter fun f=>(Tryz.prog.funcs[f]?).any (·.name.toUTF8.data.toList==c))=[218]∧a≠[]∧b≠[]∧c≠[]∧
   [y0.1,y1.1,y2.1]=[.held a,.held b,.held c]:=by
  refine ⟨_,_,_,rfl,by kernel_rfl,by kernel_rfl,by kernel_rfl,by simp,by simp,by simp,?_⟩
  have:=congrArg Prod.fst ex
  simp only [DataW.funcsOut] at this
  injection this with this
  exact this.symm
 obtain ⟨a,b,c,_,fa,fb,fc,na,nb,nc,e3⟩:=e2
 simp only [List.cons.injEq,and_true] at e3
 obtain ⟨z0,z1,z2⟩:=e3
 have g0:=hx 0 (by omega)
 have g1:=hx 1 (by omega)
 have g2:=hx 2 (by omega)
 rw [hc1] at g0 g1 g2
 have key: ∀(v:Value) (y:DataW (List UInt8)×List MemPlace) (l:List UInt8) (f0:FuncId),DataW.trod (funcToken Tryz.prog) Tryz.prog W 0 (fun _=>true) true m 142 [v]=some y→y.1= .held l→l≠[]→((List.range Tryz.prog.funcs.size).filter fun f=>(Tryz.prog.funcs[f]?).any (·.name.toUTF8.data.toList==l))=[f0]→v= .func (.func f0) #[] #[]:=by
  intro v y l f0 h1 h2 h3 h4
  obtain ⟨y1,y2⟩:=y
  obtain rfl:y1= .held l:=h2
  cases l with
  |nil=>exact absurd rfl h3
  |cons b0 r0=>exact func_of_trod hfun h4 h1
 obtain rfl:=key c0 y0 a 216 g0 z0 na fa
 obtain rfl:=key c1 y1 b 217 g1 z1 nb fb
 obtain rfl:=key c2 y2 c 218 g2 z2 nc fc
 unfold World.var? at hv
 rw [hg] at hv
 simp only [Option.bind_some] at hv
 split at hv
 ·rename_i cs t f hb
  obtain rfl:=Option.some.inj hv
  exact ⟨t,f,hb⟩
 ·cases hv
theorem laid_ofB {W:World} (h:laidMetH Tryz.prog jkW W):Bt.Laid W.heap:=by
 obtain ⟨g,t,cs,fuel,p,hg,ht,hv,hd⟩:=h.funcs (n:= "ribband/batten.checks") (List.mem_cons_self ..)
 obtain rfl:=Option.some.inj ((show Tryz.prog.globalNamed "ribband/batten.checks" =some 1 by kernel_rfl).symm.trans hg)
 obtain rfl:=Option.some.inj ((show (Tryz.prog.globals[1]?).map (·.type)=some 186 by kernel_rfl).symm.trans ht)
 have hu: Tryz.prog.underlying 186=some (.array 3 124):=by kernel_rfl
 have hc1: Tryz.prog.cellsOf 124=1:=by kernel_rfl
 obtain ⟨ps,rs,va,hfun⟩: ∃ps rs va,Tryz.prog.underlying 124=some (.func ps rs va):=⟨_,_,_,Tryz.underlying124⟩
 obtain ⟨xs,m,_,ex,hl,hxl,hx⟩:=DataW.trod_array hu hd
 have hl3:cs.toList.length=3:=hl.trans (by kernel_rfl)
 obtain ⟨cl⟩:=cs
 obtain ⟨c0,c1,c2,rfl⟩: ∃c0 c1 c2,cl=[c0,c1,c2]:=by
  match cl,hl3 with
  |[c0,c1,c2],_=>exact ⟨_,_,_,rfl⟩
 obtain ⟨y0,y1,y2,rfl⟩: ∃y0 y1 y2,xs=[y0,y1,y2]:=by
  match xs,hxl with
  |[y0,y1,y2],_=>exact ⟨_,_,_,rfl⟩
 have e2: ∃a b c:List UInt8,(Rows.laid_ribband_batten_checks:DataW Unit)= .iface "func table" (.agg [.iface "func" (.lit (.string a)),.iface "func" (.lit (.string b)),.iface "func" (.lit (.string c))])∧
   ((List.range Tryz.prog.funcs.size).filter fun f=>(Tryz.prog.funcs[f]?).any (·.name.toUTF8.data.toList==a))=[220]∧((List.range Tryz.prog.funcs.size).filter fun f=>(Tryz.prog.funcs[f]?).any (·.name.toUTF8.data.toList==b))=[221]∧
   ((List.range Tryz.prog.funcs.size).filter fun f=>(Tryz.prog.funcs[f]?).any (·.name.toUTF8.data.toList==c))=[222]∧a≠[]∧b≠[]∧c≠[]∧
   [y0.1,y1.1,y2.1]=[.held a,.held b,.held c]:=by
  refine ⟨_,_,_,rfl,by kernel_rfl,by kernel_rfl,by kernel_rfl,by simp,by simp,by simp,?_⟩
  have:=congrArg Prod.fst ex
  simp only [DataW.funcsOut] at this
  injection this with this
  exact this.symm
 obtain ⟨a,b,c,_,fa,fb,fc,na,nb,nc,e3⟩:=e2
 simp only [List.cons.injEq,and_true] at e3
 obtain ⟨z0,z1,z2⟩:=e3
 have g0:=hx 0 (by omega)
 have g1:=hx 1 (by omega)
 have g2:=hx 2 (by omega)
 rw [hc1] at g0 g1 g2
 have key: ∀(v:Value) (y:DataW (List UInt8)×List MemPlace) (l:List UInt8) (f0:FuncId),DataW.trod (funcToken Tryz.prog) Tryz.prog W 0 (fun _=>true) true m 124 [v]=some y→y.1= .held l→l≠[]→((List.range Tryz.prog.funcs.size).filter fun f=>(Tryz.prog.funcs[f]?).any (·.name.toUTF8.data.toList==l))=[f0]→v= .func (.func f0) #[] #[]:=by
  intro v y l f0 h1 h2 h3 h4
  obtain ⟨y1,y2⟩:=y
  obtain rfl:y1= .held l:=h2
  cases l with
  |nil=>exact absurd rfl h3
  |cons b0 r0=>exact func_of_trod hfun h4 h1
 obtain rfl:=key c0 y0 a 220 g0 z0 na fa
 obtain rfl:=key c1 y1 b 221 g1 z1 nb fb
 obtain rfl:=key c2 y2 c 222 g2 z2 nc fc
 unfold World.var? at hv
 rw [hg] at hv
 simp only [Option.bind_some] at hv
 split at hv
 ·rename_i cs t f hb
  obtain rfl:=Option.some.inj hv
  exact ⟨t,f,hb⟩
 ·cases hv
end Go.Proofs.YtgplnpdblmcdoaaGreatDoor
