/- A part of the proof of a law. Condition of each theorem: as its statement says. -/
import Derived.Test.YtggpepeiedkbbaaGreatDoorVG7
set_option linter.all false
variable {B:Array Go.Obj} {v li st z:Int} {L:List Go.Lo.Bo} {k n ns ks nw cw nb cb j i q mm s e qx qc must N qw:Nat} {ps pw pb wp:Option Go.Addr} {h H h0:Go.Lo.Hp} {bt:Bool} {a1 a2 a3 u yv:Go.Value} {la xs ys ms:List Int} {cl l tv vs args:List Go.Value} {f:Nat×Nat} {YI:List Go.Lo.Bo→Go.Lo.Hp→Prop} {YS:Go.Lo.Hp→Prop}
set_option maxHeartbeats 4000000
set_option maxRecDepth 100000
set_option synthInstance.maxHeartbeats 1000000
set_option synthInstance.maxSize 100000
namespace Go.Proofs
open Go.Lo
open Go.Conc (G)
section
variable [LaidO B]
theorem jbc {b:Tb} (h:jfd b=v) (h0:v≠0):tbS b=v:=by rw [tbS,h,if_pos h0]
theorem jgy {b:Tb} (h:jfd b=0) (h0:jaR b.sts.length b.waters≠0):tbS b=jaR b.sts.length b.waters:=by rw [tbS,if_neg (fun e=>e h),jke,if_pos h0]
theorem jgz {b:Tb} (h:jfd b=0) (h0:jaR b.sts.length b.waters=0) (h1:jaR b.sts.length b.butts≠0):tbS b=jaR b.sts.length b.butts:=by rw [tbS,if_neg (fun e=>e h),jke,if_neg (fun e=>e h0),if_pos h1]
theorem jcm {b:Tb} (h:jfd b=0) (h0:jaR b.sts.length b.waters=0) (h1:jaR b.sts.length b.butts=0):tbS b=if jb1 b.waters+jb1 b.butts>2 then 2 else 0:=by rw [tbS,if_neg (fun e=>e h),jke,if_neg (fun e=>e h0),if_neg (fun e=>e h1)]
def jrO (L:List Ln) (k:Nat):Nat:=((L.take k).map jlJ).sum
theorem juw {L:List Ln} (h:k<L.length):jrO L (k+1)=jrO L k+jlJ (L.getD k default):=jfB jlJ L k h
theorem jco {b:Tb} (h0:jaR n b.waters=0) (h1:jaR n b.butts=0) (hk:b.waters.length+b.butts.length≤k):jrO (b.waters++b.butts) k=jb1 b.waters+jb1 b.butts:=by
 rw [jrO,List.take_of_length_le (by simpa using hk),List.map_append,List.sum_append,jpB h0,jpB h1]
theorem f66_c (m:Md Tryz.prog B) (h:Hp) {b:Tb} (rds:RdS B h 1 (.slice ps ns ks) ns (jaC b.sts)) (hcs:ns≤ks) (hns:ns≤1000) (hsl: ∀s∈b.sts,s.length≤100000) (rdw:RdLn B h (.slice pw nw cw) nw b.waters) (hnw:nw≤1000) (rdb:RdLn B h (.slice pb nb cb) nb b.butts) (hnb:nb≤1000) (hsm:TbSm b):FnC m 66 #[tbV b ps ns ks pw nw cw pb nb cb] h fun v h'=>h'=h∧v= .int .i64 (tbS b):=by
 have hml:=rds.elen zA
 refine jaf Tryz.func66 rfl rfl (l:=(tbV b ps ns ks pw nw cw pb nb cb)::uu93) rfl ?_
 intro cf cs K hK
 refine Z2 ?_
 refine jaX rfl zq (fun q1=>jau (jae ?_));refine Z7 ?_;refine D61 ?_
 rintro v (⟨hc,rfl⟩|⟨hc,rfl⟩)
 ·refine Z11 ?_;refine D61 ?_
  rintro v (⟨hc,rfl⟩|⟨hc,rfl⟩)
  ·refine Z11 ?_
   refine jai (fun nn l h'=> ∃(i:Nat),nn=ns-i∧(i≤ns)∧(jdc [] b.sts=jdc (b.sts.take i) (b.sts.drop i))∧(∃U:Nat→Value,l=((tbV b ps ns ks pw nw cw pb nb cb)::(.pointer (some ⟨q1,0,none⟩))::(U 2)::(.int .i64 (i:Int))::vw90 U 4 []))∧h++[⟨true,q1,.cells (tbL b ps ns ks pw nw cw pb nb cb).toArray 25 (0,0)⟩]=h') _ ⟨0,rfl,by omega,by simp,exU rfl,rfl⟩ ?_;rintro nn l h' ⟨i,rfl,hi,hnm,⟨U,rfl⟩,rfl⟩ hnext1;refine Z7 ?_
   refine jao rfl zq (fun hc=>?_) (fun hc=>?_)
   ·refine Z7 ?_
    have hdr:b.sts.drop i=b.sts.getD i []::b.sts.drop (i+1):=drop_at zO
    have hsi:(b.sts.getD i []).length≤100000:=hsl _ (jah (l:=b.sts) zO)
    have rdt:=rds.pre (m:=i) zO
    rw [Nat.mul_one,←jle] at rdt
    obtain ⟨s_b,s_o,hps⟩:=rds.ptr zO
    have rdsg:=rds
    rw [hps] at rdsg
    refine Z4 ?_;refine jcq rfl zq hps zO zO ?_;refine jaW rfl zq (rdsg.sat i zO zO) ?_;refine jag (Post:=fun v=>IsB _ v) rfl zq zK (fun H' hH=>f123_c m H' _ hsi) ?_
    rintro v (⟨hc,rfl⟩|⟨hc,rfl⟩)
    ·refine Z6 ?_;refine jar [Zp 0,Zp 2,Zp 4,Zp 6,Zr 1,Zp 3,Zr 5,Zp 7,Zr 8,Zk 9,Zp 10] zK zK (List.Sublist.refl _) ?_;refine Z5 ?_;refine jp8 (b:=i) rfl zq rds.okp rfl zO ?_;refine Zs ?_;refine jcq rfl zq hps zO zO ?_;refine jaW rfl zq (rdsg.sat i zO zO) ?_;refine jag (Post:=fun v=> ∃x:Int,v= .int .i64 x∧jfx x∧(0≤x↔b.sts.getD i []∈b.sts.take i)) rfl zq zK (fun H' hH=>f124_c m H' (rdt.keeps (sq hH)) zO _) ?_
     rintro v ⟨fx,rfl,hx64,hxi⟩;refine Zs ?_
     refine jcH rfl zq (fun hc=>?_) (fun hc=>?_)
     ·refine Z7 ?_;refine D77 ?_;refine Zs ?_
      refine ⟨rfl,congrArg (Value.int .i64) ?_⟩
      first
       |exact E42
       |exact E43
       |(refine (jbc (v:=4) ?_ zA).symm;rw [jbM zO zO,hnm,hdr];exact jdI zD)
       |(refine (jbc (v:=5) ?_ zA).symm;rw [jbM zO zO,hnm,hdr];exact jdH zD (hxi.1 zO))
       |exact (jgy hh0 zD).symm
       |exact E44
       |(rw [jcm hh0 hw0 hb0,←jco hw0 hb0 (k:=k) zO,if_pos zO];done)
       |(rw [jcm hh0 hw0 hb0,←jco hw0 hb0 (k:=k) zO,if_neg zO];done)
     ·refine Z9 ?_
      exact m.weak jab (hnext1 _ _ _ zO ⟨i+1,rfl,by omega,by rw [hnm,hdr,jp2 zD (fun e=>by have:=hxi.2 e;omega),←jkM b.sts i zO],exU rfl,rfl⟩)
    ·refine Z9 ?_;refine D77 ?_;refine Zs ?_
     refine ⟨rfl,congrArg (Value.int .i64) ?_⟩
     first
      |exact E42
      |exact E43
      |(refine (jbc (v:=4) ?_ zA).symm;rw [jbM zO zO,hnm,hdr];exact jdI zD)
      |(refine (jbc (v:=5) ?_ zA).symm;rw [jbM zO zO,hnm,hdr];exact jdH zD (hxi.1 zO))
      |exact (jgy hh0 zD).symm
      |exact E44
      |(rw [jcm hh0 hw0 hb0,←jco hw0 hb0 (k:=k) zO,if_pos zO];done)
      |(rw [jcm hh0 hw0 hb0,←jco hw0 hb0 (k:=k) zO,if_neg zO];done)
   ·refine Z5 ?_
    have hh0:jfd b=0:=by
     rw [jbM zO zO,hnm,List.drop_eq_nil_of_le zO];rfl
    refine Z4 ?_;refine jag (Post:=fun v=>v= .int .i64 (jaR b.sts.length b.waters)) rfl zq zK (fun H' hH=>f125_c m H' (rds.keeps (sq hH)) hcs hns hsl (rdw.keeps (sq hH)) hnw hsm.wat) ?_
    rintro v rfl;refine Z6 ?_
    refine jbK rfl zq (fun hc=>?_) (fun hc=>?_)
    ·refine Z8 ?_;refine D77 ?_;refine Zs ?_
     refine ⟨rfl,congrArg (Value.int .i64) ?_⟩
     first
      |exact E42
      |exact E43
      |(refine (jbc (v:=4) ?_ zA).symm;rw [jbM zO zO,hnm,hdr];exact jdI zD)
      |(refine (jbc (v:=5) ?_ zA).symm;rw [jbM zO zO,hnm,hdr];exact jdH zD (hxi.1 zO))
      |exact (jgy hh0 zD).symm
      |exact E44
      |(rw [jcm hh0 hw0 hb0,←jco hw0 hb0 (k:=k) zO,if_pos zO];done)
      |(rw [jcm hh0 hw0 hb0,←jco hw0 hb0 (k:=k) zO,if_neg zO];done)
    ·refine Z9 ?_;refine jag (Post:=fun v=>v= .int .i64 (jaR b.sts.length b.butts)) rfl zq zK (fun H' hH=>f125_c m H' (rds.keeps (sq hH)) hcs hns hsl (rdb.keeps (sq hH)) hnb hsm.but) ?_
     rintro v rfl;refine Z6 ?_
     refine jbK rfl zq (fun hc=>?_) (fun hc=>?_)
     ·refine Z8 ?_;refine D77 ?_;refine Zs ?_
      refine ⟨rfl,congrArg (Value.int .i64) ?_⟩
      first
       |exact E42
       |exact E43
       |(refine (jbc (v:=4) ?_ zA).symm;rw [jbM zO zO,hnm,hdr];exact jdI zD)
       |(refine (jbc (v:=5) ?_ zA).symm;rw [jbM zO zO,hnm,hdr];exact jdH zD (hxi.1 zO))
       |exact (jgy hh0 zD).symm
       |exact E44
       |(rw [jcm hh0 hw0 hb0,←jco hw0 hb0 (k:=k) zO,if_pos zO];done)
       |(rw [jcm hh0 hw0 hb0,←jco hw0 hb0 (k:=k) zO,if_neg zO];done)
     ·refine Z8 ?_
      have hw0:jaR b.sts.length b.waters=0:=by omega
      have hb0:jaR b.sts.length b.butts=0:=by omega
      obtain ⟨lw,hlw,rw_,hfw⟩:=rdw
      obtain ⟨lb,hlb,rb_,hfb⟩:=rdb
      have hlwl:=rw_.elen zA
      have hlbl:=rb_.elen zA
      have hbw:b.waters.length=nw:=by rw [←hlw,List.length_map,hlwl]
      have hbb:b.butts.length=nb:=by rw [←hlb,List.length_map,hlbl]
      refine jar [Zp 1,Zp 4,Zr 2,Zr 5,Zk 0,Zk 3,Zk 6,Zp 7] zK zK (List.Sublist.refl _) ?_;refine Z4 ?_;refine jtR kdq rfl zq (fun q58=>jau (jae ?_));refine jqc rfl zq (OwnS.zero (q:=q58)) rw_.up (jfh _) kdq zO zO (fun w61 n61 o61=>jae ?_);refine jqc rfl zq o61 rb_.up (jfh _) kdq zO zO (fun w64 n64 o64=>jae ?_);replace o64:OwnS 121 2 w64 (nw+nb) (jaC (lw++lb)) n64:=by rw [jbB];simpa using o64
      obtain ⟨p64,c64,rfl,hc64,r64⟩:=jav (B:=B) o64
      refine Z4 ?_
      have hall: ∀l∈b.waters++b.butts,jlJ l≤3000:=fun l hl=>by
       rcases List.mem_append.1 hl with hl|hl
       ·rw [jlI ((jha hw0).2 l hl).2];exact jlH (hsm.wat l hl).1
       ·rw [jlI ((jha hb0).2 l hl).2];exact jlH (hsm.but l hl).1
      have hlen:(lw++lb).length=nw+nb:=by rw [List.length_append,hlwl,hlbl]
      have hln:(lw++lb).map (·.ln)=b.waters++b.butts:=by rw [List.map_append,hlw,hlb]
      refine Z4 ?_
      refine jai (fun nn l h'=> ∃(k:Nat),nn=nw+nb-k∧(k≤nw+nb)∧(∃U:Nat→Value,l=((tbV b ps ns ks pw nw cw pb nb cb)::vw5 U 1 ((.int .i64 (jrO (b.waters++b.butts) k:Int))::(.slice p64 (nw+nb) c64)::(.int .i64 (k:Int))::vw85 U 9 [])))∧h++[⟨true,q1,.cells (tbL b ps ns ks pw nw cw pb nb cb).toArray 25 (0,0)⟩]++n64=h') _ ⟨0,rfl,by omega,exU rfl,rfl⟩ ?_;rintro nn l h' ⟨k,rfl,hk,⟨U,rfl⟩,rfl⟩ hnext2;have hck:jrO (b.waters++b.butts) k≤k*3000:=Nat.le_trans (ji9 jlJ 3000 _ fun l hl=>hall l (List.mem_of_mem_take hl)) (Nat.mul_le_mul_right _ zN)
      refine Z6 ?_
      refine jao rfl zq (fun hc=>?_) (fun hc=>?_)
      ·refine Z6 ?_
       have hxm0:(lw++lb).getD k default∈lw++lb:=jah zO
       obtain ⟨x,hx⟩: ∃x,x=(lw++lb).getD k default:=⟨_,rfl⟩
       rw [←hx] at hxm0
       have hxl:(b.waters++b.butts).getD k default=x.ln:=by rw [←hln,ja1 _ _ zO,←hx]
       have rdf0:0<x.ln.figs.length→RdS B h 1 (.slice x.p x.ln.figs.length x.c) x.ln.figs.length (jaC x.ln.figs):=by
        rcases List.mem_append.1 hxm0 with e|e
        ·exact (hfw x e).2
        ·exact (hfb x e).2
       have hxb:x.ln∈b.waters++b.butts:=hxl▸jah zN
       have hxs: ∀f∈x.ln.figs,jhy f≤3∧f.length≤100000:=fun f hf=>by
        rcases List.mem_append.1 hxb with e|e
        ·exact ⟨by rw [jsz (((jha hw0).2 _ e).2 f hf)];exact jjf f,(hsm.wat _ e).2 f hf⟩
        ·exact ⟨by rw [jsz (((jha hb0).2 _ e).2 f hf)];exact jjf f,(hsm.but _ e).2 f hf⟩
       have hxf:x.ln.figs.length≤1000:=by
        rcases List.mem_append.1 hxb with e|e
        ·exact (hsm.wat _ e).1
        ·exact (hsm.but _ e).1
       obtain ⟨b64,o64_,rfl⟩:=r64.ptr zO
       refine Z4 ?_
       rw [show jrO (b.waters++b.butts) k=jrO (b.waters++b.butts) k+((x.ln.figs.take 0).map jhy).sum by simp];refine jai (fun nn l h'=> ∃(j:Nat),nn=x.ln.figs.length-j∧(j≤x.ln.figs.length)∧(∃U:Nat→Value,l=((tbV b ps ns ks pw nw cw pb nb cb)::vw5 U 1 ((.int .i64 ((jrO (b.waters++b.butts) k+((x.ln.figs.take j).map jhy).sum:Nat):Int))::(.slice (some ⟨b64,o64_,none⟩) (nw+nb) c64)::(.int .i64 (k:Int))::(.int .i64 (j:Int))::vw84 U 10 [])))∧h++[⟨true,q1,.cells (tbL b ps ns ks pw nw cw pb nb cb).toArray 25 (0,0)⟩]++n64=h') _ ⟨0,rfl,by omega,exU rfl,rfl⟩ ?_;rintro nn l h' ⟨j,rfl,hj,⟨U,rfl⟩,rfl⟩ hnext3;have hcj:((x.ln.figs.take j).map jhy).sum≤j*3:=Nat.le_trans (ji9 jhy 3 _ fun f hf=>(hxs f (List.mem_of_mem_take hf)).1) (Nat.mul_le_mul_right _ zN)
       refine Z6 ?_;refine D12 ?_;refine Zs ?_;refine D69 ?_
       rw [←hx];refine Zs ?_
       refine jao rfl zq (fun hc=>?_) (fun hc=>?_);refine Z5 ?_
       have rdf:=rdf0 zO
       obtain ⟨fb,fo,hfp⟩:=rdf.ptr zO
       have rdg:=rdf
       rw [hfp] at rdg
       have hsk2:=hxs (x.ln.figs.getD j []) (jah (l:=x.ln.figs) zO)
       have hk3:k*3000≤2000*3000:=Nat.mul_le_mul_right _ zO
       refine D57 ?_;refine Z3 ?_;refine D12 ?_;refine Zs ?_;refine D69 ?_
       rw [←hx];refine Zs ?_;refine D54 ?_;refine jaW rfl zq (rdg.sat j zO zO) ?_;refine jag (Post:=fun v=>v=_) rfl zq zK (fun H' hH=>f126_c m H' _ hsk2.2) ?_
       rintro v rfl;refine Z4 ?_
       rotate_left
       refine Z3 ?_
       all_goals
        refine Z6 ?_
       ·rw [show (jrO (b.waters++b.butts) k+((x.ln.figs.take j).map jhy).sum:Nat)=jrO (b.waters++b.butts) (k+1) by rw [juw zN,hxl,jlJ,List.take_of_length_le zO]];exact m.weak jab (hnext2 _ _ _ zO ⟨k+1,rfl,by omega,exU rfl,rfl⟩)
       ·rw [show ((jrO (b.waters++b.butts) k+((x.ln.figs.take j).map jhy).sum:Nat):Int)+(jhy (x.ln.figs.getD j []):Int)=((jrO (b.waters++b.butts) k+((x.ln.figs.take (j+1)).map jhy).sum:Nat):Int) by rw [jfB jhy _ _ zO];show _+((jhy (x.ln.figs.getD j default):Nat):Int)=_;omega];exact m.weak jab (hnext3 _ _ _ zO ⟨j+1,rfl,by omega,exU rfl,rfl⟩)
      ·refine Z7 ?_
       refine jaY rfl zq (fun hc=>?_) (fun hc=>?_);refine Z2 ?_
       rotate_left
       refine Z3 ?_
       all_goals
        refine Z5 ?_;refine D77 ?_;refine Zs ?_
        refine ⟨rfl,congrArg (Value.int .i64) ?_⟩
        first
         |exact E42
         |exact E43
         |(refine (jbc (v:=4) ?_ zA).symm;rw [jbM zO zO,hnm,hdr];exact jdI zD)
         |(refine (jbc (v:=5) ?_ zA).symm;rw [jbM zO zO,hnm,hdr];exact jdH zD (hxi.1 zO))
         |exact (jgy hh0 zD).symm
         |exact E44
         |(rw [jcm hh0 hw0 hb0,←jco hw0 hb0 (k:=k) zO,if_pos zO];done)
         |(rw [jcm hh0 hw0 hb0,←jco hw0 hb0 (k:=k) zO,if_neg zO];done)
  ·refine Z9 ?_;refine D77 ?_;refine Zs ?_
   refine ⟨rfl,congrArg (Value.int .i64) ?_⟩
   first
    |exact E42
    |exact E43
    |(refine (jbc (v:=4) ?_ zA).symm;rw [jbM zO zO,hnm,hdr];exact jdI zD)
    |(refine (jbc (v:=5) ?_ zA).symm;rw [jbM zO zO,hnm,hdr];exact jdH zD (hxi.1 zO))
    |exact (jgy hh0 zD).symm
    |exact E44
    |(rw [jcm hh0 hw0 hb0,←jco hw0 hb0 (k:=k) zO,if_pos zO];done)
    |(rw [jcm hh0 hw0 hb0,←jco hw0 hb0 (k:=k) zO,if_neg zO];done)
 ·refine Z9 ?_;refine D77 ?_;refine Zs ?_
  refine ⟨rfl,congrArg (Value.int .i64) ?_⟩
  first
   |exact E42
   |exact E43
   |(refine (jbc (v:=4) ?_ zA).symm;rw [jbM zO zO,hnm,hdr];exact jdI zD)
   |(refine (jbc (v:=5) ?_ zA).symm;rw [jbM zO zO,hnm,hdr];exact jdH zD (hxi.1 zO))
   |exact (jgy hh0 zD).symm
   |exact E44
   |(rw [jcm hh0 hw0 hb0,←jco hw0 hb0 (k:=k) zO,if_pos zO];done)
   |(rw [jcm hh0 hw0 hb0,←jco hw0 hb0 (k:=k) zO,if_neg zO];done)
end
section
variable [LaidO B]
structure RdTb (B:Array Obj) (h:Hp) (b:Tb) (ps:Option Addr) (ns ks:Nat) (pw:Option Addr) (nw cw:Nat) (pb:Option Addr) (nb cb:Nat):Prop where
 s:RdS B h 1 (.slice ps ns ks) ns (jaC b.sts)
 sc:ns≤ks
 w:RdLn B h (.slice pw nw cw) nw b.waters
 u:RdLn B h (.slice pb nb cb) nb b.butts
 sm:TbSm b
 n1:1≤ns
 n3:ns≤3
 w2:nw≤2
 b2:nb≤2
 wf: ∀l∈b.waters,l.figs.length=ns∧ ∀f∈l.figs,jbx f=true
 bf: ∀l∈b.butts,l.figs.length=ns∧ ∀f∈l.figs,jbx f=true
section
variable {b:Tb}
theorem RdTb.keeps (r:RdTb B h b ps ns ks pw nw cw pb nb cb) (s:h.Sublist H):RdTb B H b ps ns ks pw nw cw pb nb cb:=
 ⟨r.s.keeps s,r.sc,r.w.keeps s,r.u.keeps s,r.sm,r.n1,r.n3,r.w2,r.b2,r.wf,r.bf⟩
theorem RdTb.sl (r:RdTb B h b ps ns ks pw nw cw pb nb cb):b.sts.length=ns:=r.s.elen zA
theorem RdTb.wl (r:RdTb B h b ps ns ks pw nw cw pb nb cb):b.waters.length=nw:=jaV r.w
theorem RdTb.bl (r:RdTb B h b ps ns ks pw nw cw pb nb cb):b.butts.length=nb:=jaV r.u
end
abbrev cV (bt:Bool) (li st:Int):Value:= .agg [.bool bt,.int .i64 li,.int .i64 st].toArray
theorem f94_c (m:Md Tryz.prog B) (hs:h.Sublist H) {b:Tb} (rd:RdTb B h b ps ns ks pw nw cw pb nb cb) (h0:0≤li) (h1:li<(jap b bt).length):FnC m 94 #[tbV b ps ns ks pw nw cw pb nb cb,cV bt li st] H fun v h'=>h'=H∧ ∃x:Lp,v=lpV x∧x.ln=jaT b ⟨bt,li,st⟩∧x.ln.figs.length≤x.c∧(0<x.ln.figs.length→RdS B h 1 (.slice x.p x.ln.figs.length x.c) x.ln.figs.length (jaC x.ln.figs)):=by
 refine jaf Tryz.func94 rfl rfl (l:=(tbV b ps ns ks pw nw cw pb nb cb)::(cV bt li st)::uu17) rfl ?_
 intro cf cs K hK
 refine Z2 ?_
 refine jaX rfl zq (fun q2=>jau (jae ?_));refine jaX rfl zq (fun q3=>jau (jae ?_));refine jax rfl zq (fun q4=>jau (jae ?_));refine Z7 ?_
 refine jcS (fun hc=>?_) (fun hc=>?_);first|replace hc:=of_decide_eq_true hc|replace hc:=of_decide_eq_false hc|skip
 refine Zs ?_
 subst hc
 have hlt:li<b.butts.length:=h1
 obtain ⟨lps,hle,rl,hfig⟩:=rd.u
 have hll:=rl.elen zA
 have hln:b.butts.length=lps.length:=by rw [←hle,List.length_map]
 rotate_left
 first|replace hc:=of_decide_eq_true hc|replace hc:=of_decide_eq_false hc|skip
 refine Z2 ?_
 subst hc
 have hlt:li<b.waters.length:=h1
 obtain ⟨lps,hle,rl,hfig⟩:=rd.w
 have hll:=rl.elen zA
 have hln:b.waters.length=lps.length:=by rw [←hle,List.length_map]
 all_goals
  obtain ⟨z_b,z_o,hzp⟩:=rl.ptr zO
  have rlg:=rl.keeps hs
  rw [hzp] at rlg
  refine Z5 ?_;refine D78 ?_;refine jc5 (vs:=[.int .i64 (lps.getD li.toNat default).ln.lat,.slice (lps.getD li.toNat default).p (lps.getD li.toNat default).ln.figs.length (lps.getD li.toNat default).c]) rfl zq rfl (rlg.eat li.toNat zO zO) ?_;refine D6 ?_;refine Z2 ?_;refine jad (H) rfl Tryz.func94 rfl jab ?_;refine Zs ?_
  refine ⟨rfl,lps.getD li.toNat default,rfl,?_,hfig _ (jah zO)⟩
  rw [jaT,jap]
 ·show _=List.getD b.waters li.toNat default
  rw [←hle,ja1 _ _ zO]
 ·show _=List.getD b.butts li.toNat default
  rw [←hle,ja1 _ _ zO]
theorem jmb {b:Tb}:jbO b ⟨bt,li,st⟩=true↔(0≤li∧li≤(jap b bt).length-1)∧(0≤st∧st≤(b.sts.length:Int)-1):=by
 unfold jbO
 simp only [Bool.and_eq_true,decide_eq_true_iff]
 omega
theorem figs_len {b:Tb} (rd:RdTb B h b ps ns ks pw nw cw pb nb cb) {c:Ce} (h0:jbO b c=true):jaT b c∈jap b c.butt∧(jaT b c).figs.length=ns:=by
 have hm:jaT b c∈jap b c.butt:=by
  unfold jbO at h0
  simp only [Bool.and_eq_true,decide_eq_true_iff] at h0
  exact jah (l:=jap b c.butt) zO
 refine ⟨hm,?_⟩
 unfold jap at hm
 split at hm
 ·exact (rd.bf _ hm).1
 ·exact (rd.wf _ hm).1
theorem f27_c (m:Md Tryz.prog B) (h:Hp) {b:Tb} (rd:RdTb B h b ps ns ks pw nw cw pb nb cb):FnC m 27 #[tbV b ps ns ks pw nw cw pb nb cb,cV bt li st] h fun v h'=>h'=h∧v= .tuple [str (if jbO b ⟨bt,li,st⟩ then jbo b ⟨bt,li,st⟩ else []),.bool (jbO b ⟨bt,li,st⟩)].toArray:=by
 have hsl:=rd.sl
 have hwl:=rd.wl
 have hbl:=rd.bl
 have rds:=rd.s
 have hn1:=rd.n1
 have hn3:=rd.n3
 have hw2:=rd.w2
 have hb2:=rd.b2
 refine jaf Tryz.func27 rfl rfl (l:=(tbV b ps ns ks pw nw cw pb nb cb)::(cV bt li st)::uu37) rfl ?_
 intro cf cs K hK
 refine Z2 ?_
 refine jaX rfl zq (fun q2=>jau (jae ?_));refine jaX rfl zq (fun q3=>jau (jae ?_));refine Z16 ?_
 refine jcS (fun hc=>?_) (fun hc=>?_);first|replace hc:=of_decide_eq_true hc|replace hc:=of_decide_eq_false hc|skip
 refine Z6 ?_
 rotate_left
 first|replace hc:=of_decide_eq_true hc|replace hc:=of_decide_eq_false hc|skip
 refine Zs ?_
 all_goals
  refine Z2 ?_
  have hbt:=hc
  first
   |(have hnl:(jap b bt).length=nb:=by rw [hbt];exact hbl)
   |(have hnl:(jap b bt).length=nw:=by rw [hbt];exact hwl)
  refine D41 ?_;refine Z4 ?_;refine D61 ?_
  rintro v (⟨hc,rfl⟩|⟨hc,rfl⟩)
  ·refine Z8 ?_;refine D95 ?_;refine jag (Post:=fun v=>IsB _ v) rfl rfl zK (fun H' hH=>f57_c m H' _ _ _) ?_
   rintro v (⟨hc,rfl⟩|⟨hc,rfl⟩);refine Z7 ?_
   have hyes:jbO b ⟨bt,li,st⟩=true:=jmb.2 ⟨by omega,by omega⟩
   refine jar [Zp 4,Zr 0,Zr 1,Zr 5,Zk 2,Zp 3,Zp 6,Zk 7,Zp 8,Zp 9] zK zK (List.Sublist.refl _) ?_;refine Z4 ?_;refine jag (Post:=fun v=> ∃x:Lp,v=lpV x∧x.ln=jaT b ⟨bt,li,st⟩∧x.ln.figs.length≤x.c∧(0<x.ln.figs.length→RdS B h 1 (.slice x.p x.ln.figs.length x.c) x.ln.figs.length (jaC x.ln.figs))) rfl zq zK (fun H' hH=>f94_c m (sq hH) rd zO zO) ?_;rintro v ⟨x,rfl,hxl,hxc,rdf0⟩;refine Zs ?_
   have hfl:x.ln.figs.length=ns:=by rw [hxl];exact (figs_len rd hyes).2
   have rdf:=rdf0 (by have:=rd.n1;omega)
   obtain ⟨f_b,f_o,hfp⟩:=rdf.ptr zO
   have rdg:=rdf
   rw [hfp] at rdg
   refine k_fld rfl zq ?_;refine D54 ?_;refine jaW (v:=str (x.ln.figs.getD st.toNat [])) rfl zq (rdg.sat st.toNat zO zO) ?_;rotate_left
   refine D124 ?_;refine Z5 ?_
   all_goals
    refine Z4 ?_;refine jad (h) rfl Tryz.func27 rfl jab ?_;refine Zs ?_
    first
     |(have hno:jbO b ⟨bt,li,st⟩=false:=Bool.eq_false_iff.2 fun e=>by
        have:=jmb.1 e
        omega
       rw [hno];exact ⟨rfl,rfl⟩)
     |(rw [hyes];exact ⟨rfl,by rw [hxl];rfl⟩)
  ·refine Z20 ?_;refine jad (h) rfl Tryz.func27 rfl jab ?_;refine Zs ?_
   first
    |(have hno:jbO b ⟨bt,li,st⟩=false:=Bool.eq_false_iff.2 fun e=>by
       have:=jmb.1 e
       omega
      rw [hno];exact ⟨rfl,rfl⟩)
    |(rw [hyes];exact ⟨rfl,by rw [hxl];rfl⟩)
end
section
variable [LaidO B]
def jfQ (b:Tb) (c:Ce):Bool:=jbO b c&&decide (jbo b c≠jbG)
def jkT (b:Tb) (bt:Bool) (j k:Nat):List Ce:=((List.range k).map fun (s:Nat)=>(⟨bt,(j:Int),(s:Int)⟩:Ce)).filter (jfQ b)
def jr1 (b:Tb) (bt:Bool) (j:Nat):List Ce:=(List.range j).flatMap fun j'=>jkT b bt j' b.sts.length
def accI (b:Tb) (i:Nat):List Ce:=(List.range i).flatMap fun i'=>jr1 b (decide (i'=1)) 2
def jbY (b:Tb) (i j k:Nat):List Ce:=accI b i++jr1 b (decide (i=1)) j++jkT b (decide (i=1)) j k
theorem rowK_yes {b:Tb} (h:jfQ b ⟨bt,(j:Int),(k:Int)⟩=true):jkT b bt j (k+1)=jkT b bt j k++[⟨bt,(j:Int),(k:Int)⟩]:=by
 rw [jkT,List.range_succ,List.map_append,List.filter_append];simp [h,jkT]
theorem rowK_no {b:Tb} (h:jfQ b ⟨bt,(j:Int),(k:Int)⟩=false):jkT b bt j (k+1)=jkT b bt j k:=by
 rw [jkT,List.range_succ,List.map_append,List.filter_append];simp [h,jkT]
theorem jqw {b:Tb} (h:jfQ b ⟨decide (i=1),(j:Int),(k:Int)⟩=true):jbY b i j (k+1)=jbY b i j k++[⟨decide (i=1),(j:Int),(k:Int)⟩]:=by
 rw [jbY,rowK_yes h,jbY];simp only [List.append_assoc]
theorem jpj {b:Tb} (h:jfQ b ⟨decide (i=1),(j:Int),(k:Int)⟩=false):jbY b i j (k+1)=jbY b i j k:=by
 rw [jbY,rowK_no h,jbY]
theorem jhv (b:Tb) (i j:Nat):jbY b i j b.sts.length=jbY b i (j+1) 0:=by
 rw [jbY,jbY,jr1,jr1,List.range_succ,List.flatMap_append];simp [jkT]
theorem jkl (b:Tb) (i:Nat):jbY b i 2 0=jbY b (i+1) 0 0:=by
 rw [jbY,jbY,accI,accI,List.range_succ,List.flatMap_append];simp [jkT,jr1]
theorem jmy (b:Tb):jbY b 2 0 0=jaa b:=by
 have e (bt:Bool) (j:Nat):rowT b bt j=jkT b bt j b.sts.length:=rfl
 have z (bt:Bool) (j:Nat):jkT b bt j 0=[]:=rfl
 rw [jaa,e,e,e,e];simp [jbY,accI,jr1,z,List.range_succ]
theorem jjn (b:Tb) (bt:Bool) (j k:Nat):(jkT b bt j k).length≤k:=by
 have:=List.length_filter_le (jfQ b) ((List.range k).map fun (s:Nat)=>(⟨bt,(j:Int),(s:Int)⟩:Ce))
 simpa [jkT] using this
theorem jib (b:Tb) (bt:Bool) (hj:j≤2):(jr1 b bt j).length≤j*b.sts.length:=by
 rcases (by omega:j=0∨j=1∨j=2) with rfl|rfl|rfl
 ·simp [jr1]
 ·have:=jjn b bt 0 b.sts.length
  simp [jr1,List.range_succ]
  omega
 ·have:=jjn b bt 0 b.sts.length
  have:=jjn b bt 1 b.sts.length
  simp [jr1,List.range_succ]
  omega
theorem accC_le (b:Tb) (hi:i≤2) (hj:j≤2) (h3:b.sts.length≤3) (hk:k≤3):(jbY b i j k).length≤21:=by
 have h1:=jib b (decide (i=1)) hj
 have h2:=jjn b (decide (i=1)) j k
 have h4:(accI b i).length≤12:=by
  have a0:=jib b (decide (0=1)) (Nat.le_refl 2)
  have a1:=jib b (decide (1=1)) (Nat.le_refl 2)
  rcases (by omega:i=0∨i=1∨i=2) with rfl|rfl|rfl<;>simp [accI,List.range_succ] at* <;>omega
 have h5:j*b.sts.length≤2*3:=Nat.mul_le_mul hj h3
 rw [jbY,List.length_append,List.length_append];omega
theorem f26_c (m:Md Tryz.prog B) (h:Hp) {b:Tb} (rd:RdTb B h b ps ns ks pw nw cw pb nb cb):FnC m 26 #[tbV b ps ns ks pw nw cw pb nb cb] h fun v h'=> ∃new,h'=h++new∧OwnS 37 3 v (jaa b).length (jaC (jaa b)) new:=by
 have hsl:=rd.sl
 have rds:=rd.s
 have hn1:=rd.n1
 have hn3:=rd.n3
 refine jaf Tryz.func26 rfl rfl (l:=(tbV b ps ns ks pw nw cw pb nb cb)::uu45) rfl ?_
 intro cf cs K hK
 refine Z2 ?_
 refine jaX rfl zq (fun q1=>jau (jae ?_));refine Z12 ?_
 refine jai (fun nn l h'=> ∃(i:Nat) (wpi:Option Addr) (wci:Nat) (Mi:Hp),nn=2-i∧(i≤2)∧(OwnS 37 3 (.slice wpi (jbY b i 0 0).length wci) (jbY b i 0 0).length (jaC (jbY b i 0 0)) Mi)∧(∃U:Nat→Value,l=((tbV b ps ns ks pw nw cw pb nb cb)::(.pointer (some ⟨q1,0,none⟩))::(U 2)::(.slice wpi (jbY b i 0 0).length wci)::(.int .i64 (i:Int))::vw41 U 5 []))∧h++[⟨true,q1,.cells (tbL b ps ns ks pw nw cw pb nb cb).toArray 25 (0,0)⟩]++Mi=h') _ ⟨0,none,0,[],rfl,by omega,OwnS.nil,exU rfl,zS⟩ ?_;rintro nn l h' ⟨i,wpi,wci,Mi,rfl,hi,howi,⟨U,rfl⟩,rfl⟩ hnext1;refine Z4 ?_
 refine jao rfl zq (fun hc=>?_) (fun hc=>?_)
 ·refine Z10 ?_
  refine jai (fun nn l h'=> ∃(j:Nat) (wpj:Option Addr) (wcj:Nat) (Mj:Hp),nn=2-j∧(j≤2)∧(OwnS 37 3 (.slice wpj (jbY b i j 0).length wcj) (jbY b i j 0).length (jaC (jbY b i j 0)) Mj)∧(∃U:Nat→Value,l=((tbV b ps ns ks pw nw cw pb nb cb)::(.pointer (some ⟨q1,0,none⟩))::(U 2)::(.slice wpj (jbY b i j 0).length wcj)::(.int .i64 (i:Int))::(.int .i64 (j:Int))::vw40 U 6 []))∧h++[⟨true,q1,.cells (tbL b ps ns ks pw nw cw pb nb cb).toArray 25 (0,0)⟩]++Mj=h') _ ⟨0,wpi,wci,Mi,rfl,by omega,howi,exU rfl,rfl⟩ ?_;rintro nn l h' ⟨j,wpj,wcj,Mj,rfl,hj,howj,⟨U,rfl⟩,rfl⟩ hnext2;refine Z4 ?_
  refine jao rfl zq (fun hc=>?_) (fun hc=>?_)
  ·refine Z10 ?_
   refine jai (fun nn l h'=> ∃(k:Nat) (wpk:Option Addr) (wck:Nat) (Mk:Hp),nn=ns-k∧(k≤ns)∧(OwnS 37 3 (.slice wpk (jbY b i j k).length wck) (jbY b i j k).length (jaC (jbY b i j k)) Mk)∧(∃U:Nat→Value,l=((tbV b ps ns ks pw nw cw pb nb cb)::(.pointer (some ⟨q1,0,none⟩))::(U 2)::(.slice wpk (jbY b i j k).length wck)::(.int .i64 (i:Int))::(.int .i64 (j:Int))::(.int .i64 (k:Int))::vw39 U 7 []))∧h++[⟨true,q1,.cells (tbL b ps ns ks pw nw cw pb nb cb).toArray 25 (0,0)⟩]++Mk=h') _ ⟨0,wpj,wcj,Mj,rfl,by omega,howj,exU rfl,rfl⟩ ?_;rintro nn l h' ⟨k,wpk,wck,Mk,rfl,hk,howk,⟨U,rfl⟩,rfl⟩ hnext3;have hal:=accC_le b (i:=i) (j:=j) (k:=k) zO zO zO zO
   refine Z7 ?_
   refine jao rfl zq (fun hc=>?_) (fun hc=>?_)
   ·refine Z8 ?_;refine k_eqlV (decide (i=1)) rfl zq (decide_eq_decide.2 zO) ?_;refine Z2 ?_;refine D37 ?_
    refine jax rfl zq (fun q7=>jau (jae ?_));refine D6 ?_;refine Z5 ?_;refine jag (Post:=fun v=>v= .tuple [str (if jbO b ⟨decide (i=1),(j:Int),(k:Int)⟩ then jbo b ⟨decide (i=1),(j:Int),(k:Int)⟩ else []),.bool (jbO b ⟨decide (i=1),(j:Int),(k:Int)⟩)].toArray) rfl zq zK (fun H' hH=>f27_c m H' (rd.keeps (sq hH))) ?_
    rintro v rfl;refine Z8 ?_
    cases hht:jbO b ⟨decide (i=1),(j:Int),(k:Int)⟩
    have hkc:jfQ b ⟨decide (i=1),(j:Int),(k:Int)⟩=false:=by rw [jfQ,hht];rfl
    rotate_left
    rw [if_pos rfl];all_goals
     refine Z3 ?_
    ·refine Zs ?_
     by_cases hda:jbo b ⟨decide (i=1),(j:Int),(k:Int)⟩=[45]
     refine jdL rfl rfl hda ?_;have hkc:jfQ b ⟨decide (i=1),(j:Int),(k:Int)⟩=false:=by rw [jfQ,hht,decide_eq_false (fun e=>e hda)];rfl
     refine Z4 ?_
     rotate_left
     refine jhR rfl rfl hda ?_;have hkc:jfQ b ⟨decide (i=1),(j:Int),(k:Int)⟩=true:=by rw [jfQ,hht,decide_eq_true (show jbo b ⟨decide (i=1),(j:Int),(k:Int)⟩≠jbG from hda)];rfl
     refine Z6 ?_
     refine jdk kdq rfl zq zA zA rfl (fun q43=>jau (jae ?_));refine jbL rfl zq rfl howk kdq zO zO (fun w9 n9 o9=>jae ?_);obtain ⟨p9,c9,rfl,hc9,r9⟩:=jav (B:=B) o9
     refine Z2 ?_
     all_goals
      refine Z6 ?_
     ·have hks:=jqw hkc
      have hkl:(jbY b i j (k+1)).length=(jbY b i j k).length+1:=by rw [hks];simp
      rw [←hkl];exact m.weak jab (hnext3 _ _ _ zO ⟨k+1,p9,c9,n9,rfl,by omega,by rw [hkl,hks,jbB];exact o9,exU rfl,rfl⟩)
     ·have hks:=jpj hkc
      rw [←hks];exact E45
    ·refine Z12 ?_
     have hks:=jpj hkc
     rw [←hks];exact E45
   ·refine Z9 ?_
    have hk2:k=b.sts.length:=by omega
    rw [show jbY b i j k=jbY b i (j+1) 0 by rw [hk2];exact jhv b i j];exact m.weak jab (hnext2 _ _ _ zO ⟨j+1,wpk,wck,Mk,rfl,by omega,by rw [←jhv,←hk2];exact howk,exU rfl,rfl⟩)
  ·refine Z9 ?_
   have hj2:j=2:=by omega
   rw [show jbY b i j 0=jbY b (i+1) 0 0 by rw [hj2];exact jkl b i];exact m.weak jab (hnext1 _ _ _ zO ⟨i+1,wpj,wcj,Mj,rfl,by omega,by rw [←jkl,←hj2];exact howj,exU rfl,rfl⟩)
 ·refine Z9 ?_;refine jad (h++Mi) rfl Tryz.func26 rfl jab ?_;refine Zs ?_
  obtain rfl:i=2:=by omega
  rw [jmy] at howi⊢
  exact ⟨Mi,rfl,howi⟩
end
section
variable [LaidO B]
instance:KeyCT Tryz.prog 37:=⟨by kernel_rfl⟩
end
section
variable [LaidO B]
theorem jjP (i:Nat) (hi:i<2):(halvesL.drop ((i:Int).toNat*3)).take 3=[str (hwS i),.bool (decide (i=1)),.func (.func (261+i)) #[] #[]]:=by
 rcases (by omega:i=0∨i=1) with rfl|rfl<;>rfl
theorem jmd (b:Tb) (hi:i<2):hL b i=jap b (decide (i=1)):=by
 rcases (by omega:i=0∨i=1) with rfl|rfl<;>rfl
theorem jtZ {b:Tb} (hi:i<2):jbO b ⟨decide (i=1),(k:Int),(j:Int)⟩=true↔k<(hL b i).length∧j<b.sts.length:=by
 rw [jbk,jmd b hi];simp only
 omega
theorem figT_at {b:Tb} (hi:i<2):jbo b ⟨decide (i=1),(k:Int),(j:Int)⟩=((hL b i).getD k default).figs.getD j []:=by
 rw [jbo,jaT,jmd b hi];simp only [Int.toNat_natCast]
theorem jne {b:Tb} (hi:i<2) (hk:(hL b i).length≤k):jkT b (decide (i=1)) k n=[]:=by
 rw [jkT,List.filter_eq_nil_iff];intro c hc
 obtain ⟨s,_,rfl⟩:=List.mem_map.1 hc
 rw [jfQ];cases hh:jbO b ⟨decide (i=1),(k:Int),(s:Int)⟩ with
 |false=>simp
 |true=>have:=(jtZ hi).1 hh;omega
theorem jrW (b:Tb) (hi:i<2) (hk:k≤2) (hl:(hL b i).length≤k):jbY b i k 0=jbY b (i+1) 0 0:=by
 rw [←jkl];have one: ∀k,(hL b i).length≤k→jbY b i k 0=jbY b i (k+1) 0:=fun k hk=>by
  rw [←jhv,jbY,jbY,jne hi hk,jne hi hk]
 rcases (by omega:k=0∨k=1∨k=2) with rfl|rfl|rfl
 ·rw [one 0 hl,one 1 zO]
 ·rw [one 1 hl]
 ·rfl
theorem jl3 {b:Tb} {c:Ce} (h:c∈jkT b bt j k):c.butt=bt∧c.line=j∧0≤c.st∧c.st<k:=by
 rw [jkT,List.mem_filter,List.mem_map] at h
 obtain ⟨⟨s,hs,rfl⟩,_⟩:=h
 rw [List.mem_range] at hs
 exact ⟨rfl,rfl,by simp only;omega,by simp only;omega⟩
theorem accC_new {b:Tb} (hi:i<2):(⟨decide (i=1),(k:Int),(j:Int)⟩:Ce)∉jbY b i k j:=by
 intro h
 rw [jbY,List.mem_append,List.mem_append] at h
 rcases h with (h|h)|h
 ·simp only [accI,jr1,List.mem_flatMap,List.mem_range] at h
  obtain ⟨i',hi',j',_,h⟩:=h
  have:=(jl3 h).1
  simp only at this
  rw [decide_eq_decide] at this
  omega
 ·simp only [jr1,List.mem_flatMap,List.mem_range] at h
  obtain ⟨j',hj',h⟩:=h
  have:=(jl3 h).2.1
  simp only at this
  omega
 ·have:=(jl3 h).2.2.2
  simp only at this
  omega
theorem jqx (b:Tb) (hi:i≤2) (hk:k≤2) (h3:b.sts.length≤3):(jbY b i k j).length≤(i*2+k)*3+j:=by
 have h1:=jib b (decide (i=1)) hk
 have h2:=jjn b (decide (i=1)) k j
 have h4:(accI b i).length≤i*6:=by
  have a0:=jib b (decide (0=1)) (Nat.le_refl 2)
  have a1:=jib b (decide (1=1)) (Nat.le_refl 2)
  rcases (by omega:i=0∨i=1∨i=2) with rfl|rfl|rfl<;>simp [accI,List.range_succ] at* <;>omega
 have h5:k*b.sts.length≤k*3:=Nat.mul_le_mul_left k h3
 rw [jbY,List.length_append,List.length_append];omega
def shC (tb:List Value) (cv mv:Value) (la:List Int) (cl:List Value):List Value:=tb++[cv,mv]++(jaI la++cl)
section
variable {a0 a1 a2 a3 cv mv:Value}
instance:At (shC [a0,a1,a2,a3] cv mv la cl) 4 cv:=⟨rfl⟩
instance:At (shC [a0,a1,a2,a3] cv mv la cl) 5 mv:=⟨rfl⟩
instance:SetSeg (shC [a0,a1,a2,a3] cv mv la cl) 4 [u] (shC [a0,a1,a2,a3] u mv la cl):=⟨by simp [shC],by simp [shC]⟩
theorem jd3 {l':List Value} {v:Value} (h:i<l.length) (e:l'=l.set i v):SetSeg l i [v] l':=⟨by
 rw [e,List.set_eq_take_append_cons_drop,if_pos h];simp,by simp;omega⟩
theorem shC_lat (h:k<la.length) (z:Int):SetSeg (shC [a0,a1,a2,a3] cv mv la cl) (6+(k:Int).toNat*1) [.int .i64 z] (shC [a0,a1,a2,a3] cv mv (la.set k z) cl):=by
 rw [Int.toNat_natCast,Nat.mul_one];have hk:k<(jaI la).length:=by simpa using h
 refine jd3 (by simp [shC];omega) ?_
 rw [shC,shC,List.set_append_right _ _ zS,show 6+k-([a0,a1,a2,a3]++[cv,mv]).length=k by simp,List.set_append_left _ _ hk,jaI,jaI,List.map_set]
theorem shC_can (hl:la.length=12) (h:k<cl.length) (u:Value):SetSeg (shC [a0,a1,a2,a3] cv mv la cl) (18+(k:Int).toNat*1) [u] (shC [a0,a1,a2,a3] cv mv la (cl.set k u)):=by
 rw [Int.toNat_natCast,Nat.mul_one];refine jd3 (by simp [shC,hl];omega) ?_
 rw [shC,shC,List.set_append_right _ _ zN,List.set_append_right _ _ (by simp [hl];omega),show 18+k-([a0,a1,a2,a3]++[cv,mv]).length-(jaI la).length=k by simp [hl];omega]
theorem jsG (h:k<la.length):(shC [a0,a1,a2,a3] cv mv la cl)[6+k]?=some (.int .i64 (la.getD k 0)):=by
 have e:shC [a0,a1,a2,a3] cv mv la cl=[a0,a1,a2,a3,cv,mv]++(jaI la++cl):=rfl
 rw [e,List.getElem?_append_right zS,show 6+k-[a0,a1,a2,a3,cv,mv].length=k by simp,List.getElem?_append_left (by simpa using h),List.getElem?_map,List.getElem?_eq_getElem h,List.getD_eq_getElem?_getD,List.getElem?_eq_getElem h];rfl
theorem jsH (h:la.length=12):(shC [a0,a1,a2,a3] cv mv la cl)[18+k]?=cl[k]?:=by
 have e:shC [a0,a1,a2,a3] cv mv la cl=([a0,a1,a2,a3,cv,mv]++jaI la)++cl:=by simp [shC]
 rw [e,List.getElem?_append_right (by simp [h]),show 18+k-([a0,a1,a2,a3,cv,mv]++jaI la).length=k by simp [h]]
end
def LatOk (b:Tb) (cs:List Ce) (la:List Int):Prop:=la.length=12∧ ∀x,x<cs.length→la.getD x 0=(jaT b (cs.getD x default)).lat
def CanOk (B:Array Obj) (M:Hp) (b:Tb) (cs:List Ce) (cl:List Value):Prop:=cl.length=12∧ ∀x,x<cs.length→ ∃p c,cl[x]?=some (.slice p (jbl (jbo b (cs.getD x default))).length c)∧(jbl (jbo b (cs.getD x default))).length≤c∧RdS B M 1 (.slice p (jbl (jbo b (cs.getD x default))).length c) (jbl (jbo b (cs.getD x default))).length (jaI (jbl (jbo b (cs.getD x default))))
theorem jhi {α:Type} {d:α} {l:List α} {a:α} (x:Nat):(l++[a]).getD x d=if x<l.length then l.getD x d else if x=l.length then a else d:=by
 rw [List.getD_eq_getElem?_getD,List.getElem?_append];split
 ·rw [List.getD_eq_getElem?_getD]
 ·rename_i h
  split
  ·rename_i e
   subst e
   simp
  ·rw [List.getElem?_eq_none zN];rfl
theorem LatOk.snoc {b:Tb} {cs:List Ce} {la:List Int} (h:LatOk b cs la) {c:Ce} {z:Int} (hl:cs.length<12) (hz:z=(jaT b c).lat):LatOk b (cs++[c]) (la.set cs.length z):=by
 refine ⟨by simpa using h.1,fun x hx=>?_⟩
 rw [List.length_append,List.length_singleton] at hx
 rw [jhi,List.getD_eq_getElem?_getD,List.getElem?_set];by_cases e:x<cs.length
 ·rw [if_pos e,if_neg zO,←List.getD_eq_getElem?_getD,h.2 x e]
 ·obtain rfl:x=cs.length:=by omega
  rw [if_neg e,if_pos rfl,if_pos rfl,if_pos (by rw [h.1];exact hl),hz];rfl
theorem CanOk.snoc {B:Array Obj} {M:Hp} {b:Tb} {cs:List Ce} {cl:List Value} (h:CanOk B M b cs cl) {c:Ce} (hl:cs.length<12) {nw:Hp} {u:Value} {f:Str} (hf:f=jbo b c) (o:OwnS 3 1 u (jbl f).length (jaI (jbl f)) nw):CanOk B (M++nw) b (cs++[c]) (cl.set cs.length u):=by
 subst hf
 refine ⟨by simpa using h.1,fun x hx=>?_⟩
 rw [List.length_append,List.length_singleton] at hx
 rw [jhi,List.getElem?_set];by_cases e:x<cs.length
 ·rw [if_pos e,if_neg zO];obtain ⟨p,c',e1,e2,e3⟩:=h.2 x e
  exact ⟨p,c',e1,e2,e3.keeps (List.sublist_append_left _ _)⟩
 ·obtain rfl:x=cs.length:=by omega
  rw [if_neg e,if_pos rfl,if_pos rfl,if_pos (by rw [h.1];exact hl)];obtain ⟨p,c',rfl,hc,rd⟩:=jav (B:=B) o
  exact ⟨p,c',rfl,hc,rd.keeps (List.sublist_append_right _ _)⟩
theorem LatOk.nil (b:Tb):LatOk b [] (List.replicate 12 0):=⟨rfl,fun x hx=>by simp at hx⟩
theorem CanOk.nil (B:Array Obj) (b:Tb):CanOk B [] b [] (List.replicate 12 (.slice none 0 0)):=⟨rfl,fun x hx=>by simp at hx⟩
structure Sheet (B:Array Obj) (H:Hp) (b:Tb) (q:Nat) (tv:List Value):Prop where
 twelve:(jaa b).length≤12
 tb:RdN B H q 0 tv
 cells: ∃p c,Rd B H ⟨q,4,none⟩ (.slice p (jaa b).length c)∧(jaa b).length≤c∧RdS B H 3 (.slice p (jaa b).length c) (jaa b).length (jaC (jaa b))
 map: ∃rw qm,Rd B H ⟨q,5,none⟩ (.map (some qm))∧(⟨rw,qm,jhz (jaa b)⟩:Chunk)∈H
 lat: ∀i,i<(jaa b).length→Rd B H ⟨q,6+i,none⟩ (.int .i64 (dA (cdT b) i).lat)
 can: ∀i,i<(jaa b).length→ ∃p c,Rd B H ⟨q,18+i,none⟩ (.slice p (dA (cdT b) i).can.length c)∧(dA (cdT b) i).can.length≤c∧RdS B H 1 (.slice p (dA (cdT b) i).can.length c) (dA (cdT b) i).can.length (jaI (dA (cdT b) i).can)
theorem Sheet.keeps {H':Hp} {b:Tb} (s:Sheet B H b q tv) (k:H.Sublist H'):Sheet B H' b q tv:=by
 obtain ⟨h0,h1,⟨p,c,h2,h3,h4⟩,⟨rw,qm,h5,h6⟩,h7,h8⟩:=s
 refine ⟨h0,fun j hj=>(h1 j hj).keeps k,⟨p,c,h2.keeps k,h3,h4.keeps k⟩,⟨rw,qm,h5.keeps k,k.subset h6⟩,fun i hi=>(h7 i hi).keeps k,fun i hi=>?_⟩
 obtain ⟨p,c,a1,a2,a3⟩:=h8 i hi
 exact ⟨p,c,a1.keeps k,a2,a3.keeps k⟩
theorem sheet_of {W M:Hp} {b:Tb} {qm:Nat} {a0:Value} {wc:Nat} (hn:(jaa b).length≤12)
  (o:OwnS 37 3 (.slice wp (jaa b).length wc) (jaa b).length (jaC (jaa b)) W) (hla:LatOk b (jaa b) la) (hcl:CanOk B M b (jaa b) cl):
  Sheet B ([⟨true,qm,jhz (jaa b)⟩,⟨true,q,.cells (shC [a0,a1,a2,a3] (.slice wp (jaa b).length wc) (.map (some qm)) la cl).toArray 132 (0,0)⟩]++W++M) b q [a0,a1,a2,a3]:=by
 have hin:(⟨true,q,.cells (shC [a0,a1,a2,a3] (.slice wp (jaa b).length wc) (.map (some qm)) la cl).toArray 132 (0,0)⟩:Chunk)∈[⟨true,qm,jhz (jaa b)⟩,⟨true,q,.cells (shC [a0,a1,a2,a3] (.slice wp (jaa b).length wc) (.map (some qm)) la cl).toArray 132 (0,0)⟩]++W++M:=by simp
 have rd: ∀o v,(shC [a0,a1,a2,a3] (.slice wp (jaa b).length wc) (.map (some qm)) la cl)[o]?=some v→Rd B ([⟨true,qm,jhz (jaa b)⟩,⟨true,q,.cells (shC [a0,a1,a2,a3] (.slice wp (jaa b).length wc) (.map (some qm)) la cl).toArray 132 (0,0)⟩]++W++M) ⟨q,o,none⟩ v:=fun o v e=>Rd.held hin (by simpa using e)
 obtain ⟨p',c',e,hc,r⟩:=jav (B:=B) o
 cases e
 refine ⟨hn,fun j hj=>?_,⟨wp,wc,rd _ _ rfl,hc,r.keeps (List.Sublist.trans (List.sublist_append_right _ _) (List.sublist_append_left _ _))⟩,⟨true,qm,rd _ _ rfl,by simp⟩,fun i hi=>?_,fun i hi=>?_⟩
 ·rw [Nat.zero_add];refine rd _ _ ?_
  simp only [List.length_cons,List.length_nil] at hj
  rcases (by omega:j=0∨j=1∨j=2∨j=3) with rfl|rfl|rfl|rfl<;>rfl
 ·rw [jaF b hi];refine rd _ _ ?_
  rw [jsG (by rw [hla.1];omega),hla.2 i hi];rfl
 ·rw [jaF b hi];obtain ⟨p,c,e1,e2,e3⟩:=hcl.2 i hi
  exact ⟨p,c,rd _ _ (by rw [jsH hla.1];exact e1),e2,e3.keeps (List.sublist_append_right _ _)⟩
theorem jd7 {h' F1 F2 F3 X Y Z:Hp} [a:Off h' Z F1] [b:Off F1 Y F2] [c:Off F2 X F3] [s:SubH H F3]:Weak B h' (H++X++(Y++Z)):=by
 rw [←List.append_assoc];exact (Weak.perm a.perm).trans (((Weak.perm b.perm).trans (((Weak.perm c.perm).trans ((Weak.sub s.sub).apps X)).apps Y)).apps Z)
theorem f95_c (m:Md Tryz.prog B) (h:Hp) {b:Tb} (rd:RdTb B h b ps ns ks pw nw cw pb nb cb):FnC m 95 #[tbV b ps ns ks pw nw cw pb nb cb] h fun v h'=> ∃new q,h'=h++new∧v= .pointer (some ⟨q,0,none⟩)∧Sheet B new b q (tbL b ps ns ks pw nw cw pb nb cb):=by
 have hsl:=rd.sl
 have hn1:=rd.n1
 have hn3:=rd.n3
 have hw2:=rd.w2
 have hb2:=rd.b2
 refine jaf Tryz.func95 rfl rfl (l:=(tbV b ps ns ks pw nw cw pb nb cb)::uu94) rfl ?_
 intro cf cs K hK
 refine Z2 ?_
 refine jaX rfl zq (fun q1=>jau (jae ?_));refine Z5 ?_;refine D37 ?_
 refine k_mkmapC rfl zq (fun qm=>jau (jae ?_));refine D37 ?_
 refine jaX rfl zq (fun q18=>jau (jae ?_));refine Z5 ?_;refine jc5 (vs:=halvesL) rfl zq rfl jgL ?_;refine Z3 ?_
 refine jai (fun nn l h'=> ∃(i:Nat) (wp1:Option Addr) (wc1:Nat) (W1 M1:Hp) (la1:List Int) (cl1:List Value),nn=2-i∧(i≤2)∧(OwnS 37 3 (.slice wp1 (jbY b i 0 0).length wc1) (jbY b i 0 0).length (jaC (jbY b i 0 0)) W1)∧(LatOk b (jbY b i 0 0) la1)∧(CanOk B M1 b (jbY b i 0 0) cl1)∧(∃U:Nat→Value,l=((tbV b ps ns ks pw nw cw pb nb cb)::(.pointer (some ⟨q1,0,none⟩))::(U 2)::(.pointer (some ⟨q18,0,none⟩))::vw15 U 4 ((.agg halvesL.toArray)::(.int .i64 (i:Int))::vw74 U 21 [])))∧h++[⟨true,q1,.cells (tbL b ps ns ks pw nw cw pb nb cb).toArray 25 (0,0)⟩,⟨true,qm,jhz (jbY b i 0 0)⟩,⟨true,q18,.cells (shC (tbL b ps ns ks pw nw cw pb nb cb) (.slice wp1 (jbY b i 0 0).length wc1) (.map (some qm)) la1 cl1).toArray 132 (0,0)⟩]++W1++M1=h') _ ⟨0,none,0,[],[],List.replicate 12 0,List.replicate 12 (.slice none 0 0),rfl,by omega,OwnS.nil,LatOk.nil b,CanOk.nil B b,exU rfl,(by rw [List.append_nil,List.append_nil];rfl)⟩ ?_;rintro nn l h' ⟨i,wp1,wc1,W1,M1,la1,cl1,rfl,hi,how1,hla1,hcl1,⟨U,rfl⟩,rfl⟩ hnext1;refine Z2 ?_
 refine jao rfl zq (fun hc=>?_) (fun hc=>?_)
 ·refine Z8 ?_;refine jqa rfl zq zO zO (jjP i zO) ?_
  refine jax rfl zq (fun q5=>jau (jae ?_));refine D6 ?_;refine Z2 ?_
  have hin:i<2:=by omega
  obtain ⟨pl,nl,cl0,hsl1,hln,hnl⟩:=jt1 (B:=B) (b:=b) (ps:=ps) (ns:=ns) (ks:=ks) rd.w (show nw≤1000 by omega) rd.u (show nb≤1000 by omega) i hin
  have hsmi: ∀l∈hL b i,l.figs.length=ns∧ ∀f∈l.figs,f.length≤100000∧jbx f=true:=by
   unfold hL
   split
   ·exact fun l hl=>⟨(rd.wf l hl).1,fun f hf=>⟨(rd.sm.wat l hl).2 f hf,(rd.wf l hl).2 f hf⟩⟩
   ·exact fun l hl=>⟨(rd.bf l hl).1,fun f hf=>⟨(rd.sm.but l hl).2 f hf,(rd.bf l hl).2 f hf⟩⟩
  have hnl2:nl≤2:=by
   have h1:=jaV hln
   unfold hL at h1
   have h2:=rd.wl
   have h3:=rd.bl
   split at h1<;>omega
  refine Z3 ?_;refine D89 ?_
  rintro v rfl;refine Z2 ?_;refine jaW (v:= .slice pl nl cl0) rfl zq (rd_nth hsl1) ?_;refine Z4 ?_
  obtain ⟨lps,hle,rl,hfig⟩:=hln
  have hll:=rl.elen zA
  have hln2:(hL b i).length=nl:=by rw [←hle,List.length_map,hll]
  refine m.weak (h':=h++[⟨true,q1,.cells (tbL b ps ns ks pw nw cw pb nb cb).toArray 25 (0,0)⟩,⟨true,qm,jhz (jbY b i 0 0)⟩,⟨true,q18,.cells (shC (tbL b ps ns ks pw nw cw pb nb cb) (.slice wp1 (jbY b i 0 0).length wc1) (.map (some qm)) la1 cl1).toArray 132 (0,0)⟩]++[⟨true,q5,.cells [str (hwS i),.bool (decide (i=1)),.func (.func (261+i)) #[] #[]].toArray 184 (0,0)⟩]++W1++M1) jf2 ?_
  refine jai (fun nn l h'=> ∃(k:Nat) (wp2:Option Addr) (wc2:Nat) (W2 M2:Hp) (la2:List Int) (cl2:List Value),nn=nl-k∧(k≤nl)∧(OwnS 37 3 (.slice wp2 (jbY b i k 0).length wc2) (jbY b i k 0).length (jaC (jbY b i k 0)) W2)∧(LatOk b (jbY b i k 0) la2)∧(CanOk B M2 b (jbY b i k 0) cl2)∧(∃U:Nat→Value,l=((tbV b ps ns ks pw nw cw pb nb cb)::(.pointer (some ⟨q1,0,none⟩))::(U 2)::(.pointer (some ⟨q18,0,none⟩))::(U 4)::(.pointer (some ⟨q5,0,none⟩))::vw13 U 6 ((.agg halvesL.toArray)::(.int .i64 (i:Int))::vw6 U 21 ((.slice pl nl cl0)::(.int .i64 (nl:Int))::(.int .i64 (k:Int))::vw65 U 30 []))))∧h++[⟨true,q1,.cells (tbL b ps ns ks pw nw cw pb nb cb).toArray 25 (0,0)⟩,⟨true,qm,jhz (jbY b i k 0)⟩,⟨true,q18,.cells (shC (tbL b ps ns ks pw nw cw pb nb cb) (.slice wp2 (jbY b i k 0).length wc2) (.map (some qm)) la2 cl2).toArray 132 (0,0)⟩]++[⟨true,q5,.cells [str (hwS i),.bool (decide (i=1)),.func (.func (261+i)) #[] #[]].toArray 184 (0,0)⟩]++W2++M2=h') _ ⟨0,wp1,wc1,W1,M1,la1,cl1,rfl,by omega,how1,hla1,hcl1,exU rfl,rfl⟩ ?_;rintro nn l h' ⟨k,wp2,wc2,W2,M2,la2,cl2,rfl,hk,how2,hla2,hcl2,⟨U,rfl⟩,rfl⟩ hnext2;refine Z2 ?_
  refine jao rfl zq (fun hc=>?_) (fun hc=>?_)
  ·refine Z7 ?_
   obtain ⟨rl_b,rl_o,rfl⟩:=rl.ptr zO
   refine Z2 ?_;refine D12 ?_;refine D58 ?_
   obtain ⟨x,hx⟩: ∃x,x=lps.getD k default:=⟨_,rfl⟩
   rw [←hx];refine jax rfl zq (fun q7=>jau (jae ?_));refine Zs ?_;refine D6 ?_;refine Zs ?_;refine jsL ?_;refine Zs ?_;refine jsN ?_;refine Zs ?_
   have hxm:x∈lps:=hx▸jah zO
   obtain ⟨hxc,rdf0⟩:=hfig x hxm
   have hxl:(hL b i).getD k default=x.ln:=by rw [←hle,ja1 _ _ zO,←hx]
   obtain ⟨hfl,hfs⟩:=hsmi x.ln (hxl▸jah zO)
   refine Z7 ?_;refine m.weak (h':=h++[⟨true,q1,.cells (tbL b ps ns ks pw nw cw pb nb cb).toArray 25 (0,0)⟩,⟨true,qm,jhz (jbY b i k 0)⟩,⟨true,q18,.cells (shC (tbL b ps ns ks pw nw cw pb nb cb) (.slice wp2 (jbY b i k 0).length wc2) (.map (some qm)) la2 cl2).toArray 132 (0,0)⟩]++[⟨true,q5,.cells [str (hwS i),.bool (decide (i=1)),.func (.func (261+i)) #[] #[]].toArray 184 (0,0)⟩]++[⟨true,q7,.cells [.int .i64 x.ln.lat,.slice x.p x.ln.figs.length x.c].toArray 121 (0,0)⟩]++W2++M2) jf2 ?_
   refine jai (fun nn l h'=> ∃(j:Nat) (wp3:Option Addr) (wc3:Nat) (W3 M3:Hp) (la3:List Int) (cl3:List Value),nn=x.ln.figs.length-j∧(j≤x.ln.figs.length)∧(OwnS 37 3 (.slice wp3 (jbY b i k j).length wc3) (jbY b i k j).length (jaC (jbY b i k j)) W3)∧(LatOk b (jbY b i k j) la3)∧(CanOk B M3 b (jbY b i k j) cl3)∧(∃U:Nat→Value,l=((tbV b ps ns ks pw nw cw pb nb cb)::(.pointer (some ⟨q1,0,none⟩))::(U 2)::(.pointer (some ⟨q18,0,none⟩))::(U 4)::(.pointer (some ⟨q5,0,none⟩))::(.int .i64 (k:Int))::(.pointer (some ⟨q7,0,none⟩))::vw11 U 8 ((.agg halvesL.toArray)::(.int .i64 (i:Int))::vw6 U 21 ((.slice (some ⟨rl_b,rl_o,none⟩) nl cl0)::(.int .i64 (nl:Int))::(.int .i64 (k:Int))::vw5 U 30 ((.slice x.p x.ln.figs.length x.c)::(.int .i64 (x.ln.figs.length:Int))::(.int .i64 (j:Int))::vw57 U 38 [])))))∧h++[⟨true,q1,.cells (tbL b ps ns ks pw nw cw pb nb cb).toArray 25 (0,0)⟩,⟨true,qm,jhz (jbY b i k j)⟩,⟨true,q18,.cells (shC (tbL b ps ns ks pw nw cw pb nb cb) (.slice wp3 (jbY b i k j).length wc3) (.map (some qm)) la3 cl3).toArray 132 (0,0)⟩]++[⟨true,q5,.cells [str (hwS i),.bool (decide (i=1)),.func (.func (261+i)) #[] #[]].toArray 184 (0,0)⟩]++[⟨true,q7,.cells [.int .i64 x.ln.lat,.slice x.p x.ln.figs.length x.c].toArray 121 (0,0)⟩]++W3++M3=h') _ ⟨0,wp2,wc2,W2,M2,la2,cl2,rfl,by omega,how2,hla2,hcl2,exU rfl,rfl⟩ ?_;rintro nn l h' ⟨j,wp3,wc3,W3,M3,la3,cl3,rfl,hj,how3,hla3,hcl3,⟨U,rfl⟩,rfl⟩ hnext3;refine Z2 ?_
   refine jao rfl zq (fun hc=>?_) (fun hc=>?_)
   ·refine Z7 ?_
    have rdf:=rdf0 zO
    obtain ⟨fb,fo,hfp⟩:=rdf.ptr zO
    have rdg:=rdf
    rw [hfp] at rdg
    obtain ⟨hsk2,hsk3⟩:=hfs _ (jah (l:=x.ln.figs) (show j<x.ln.figs.length by omega))
    replace hsk2:(x.ln.figs.getD j []).length≤100000:=hsk2
    replace hsk3:jbx (x.ln.figs.getD j [])=true:=hsk3
    have hht:jbO b (⟨decide (i=1),(k:Int),(j:Int)⟩:Ce)=true:=(jtZ hin).2 ⟨by omega,by omega⟩
    have hft:jbo b (⟨decide (i=1),(k:Int),(j:Int)⟩:Ce)=x.ln.figs.getD j []:=by rw [figT_at hin,hxl]
    have hn12:(jbY b i k j).length<12:=by
     have:=jqx b (i:=i) (k:=k) (j:=j) zO zO zO
     omega
    refine Z2 ?_;refine D54 ?_;refine jaW rfl zq (rdg.sat j zO zO) ?_;refine Z7 ?_
    by_cases hda:x.ln.figs.getD j []=[45]
    ·refine jhS rfl zq hda ?_;have hkc:jfQ b (⟨decide (i=1),(k:Int),(j:Int)⟩:Ce)=false:=by rw [jfQ,hht,hft,decide_eq_false (fun e=>e hda)];rfl
     refine Z7 ?_
     have hks:=jpj hkc
     rw [←hks];refine m.weak (h':=h++[⟨true,q1,.cells (tbL b ps ns ks pw nw cw pb nb cb).toArray 25 (0,0)⟩,⟨true,qm,jhz (jbY b i k (j+1))⟩,⟨true,q18,.cells (shC (tbL b ps ns ks pw nw cw pb nb cb) (.slice wp3 (jbY b i k (j+1)).length wc3) (.map (some qm)) la3 cl3).toArray 132 (0,0)⟩]++[⟨true,q5,.cells [str (hwS i),.bool (decide (i=1)),.func (.func (261+i)) #[] #[]].toArray 184 (0,0)⟩]++[⟨true,q7,.cells [.int .i64 x.ln.lat,.slice x.p x.ln.figs.length x.c].toArray 121 (0,0)⟩]++W3++M3) jf2 ?_
     exact hnext3 _ _ _ zO ⟨j+1,wp3,wc3,W3,M3,la3,cl3,rfl,by omega,by rw [hks];exact how3,by rw [hks];exact hla3,by rw [hks];exact hcl3,exU rfl,rfl⟩
    ·refine jhT rfl zq hda ?_;have hkc:jfQ b (⟨decide (i=1),(k:Int),(j:Int)⟩:Ce)=true:=by rw [jfQ,hht,hft,decide_eq_true (show x.ln.figs.getD j []≠jbG from hda)];rfl
     have hfo:ja6 (x.ln.figs.getD j [])=true:=by
      rw [jbx,Bool.or_eq_true] at hsk3
      exact hsk3.resolve_right fun e=>hda (of_decide_eq_true e)
     have hms:jbl (x.ln.figs.getD j [])=jdJ (jal (x.ln.figs.getD j [])):=by rw [jbl,if_pos hfo]
     have hnew:=accC_new (b:=b) (i:=i) (k:=k) (j:=j) hin
     have hlat:x.ln.lat=(jaT b (⟨decide (i=1),(k:Int),(j:Int)⟩:Ce)).lat:=by rw [jaT,←jmd b hin];simp only [Int.toNat_natCast];rw [hxl]
     refine Z4 ?_;refine jar [Zp 0,Zp 1,Zp 2,Zp 5,Zp 7,Zp 8,Zr 3,Zp 4,Zr 6,Zp 9,Za 10,Zp 11,Zf 12] zK zK (List.Sublist.refl _) ?_;refine Z9 ?_;refine D37 ?_
     refine jax rfl zq (fun q11=>jau (jae ?_));refine Zs ?_;refine D6 ?_;refine Z4 ?_;refine jag (Post:=fun v=>v=_) rfl zq zK (fun H' hH=>f119_c m H' _ hsk2) ?_
     rintro v rfl;refine Z4 ?_
     refine jax rfl zq (fun q12=>jau (jae ?_));refine D55 ?_;refine Z2 ?_;refine jb3 (S:=h++[⟨true,q1,.cells (tbL b ps ns ks pw nw cw pb nb cb).toArray 25 (0,0)⟩]++[⟨true,q5,.cells [str (hwS i),.bool (decide (i=1)),.func (.func (261+i)) #[] #[]].toArray 184 (0,0)⟩]++[⟨true,q7,.cells [.int .i64 x.ln.lat,.slice x.p x.ln.figs.length x.c].toArray 121 (0,0)⟩]++[⟨true,q11,.cells [.bool (decide (i=1)),.int .i64 (k:Int),.int .i64 (j:Int)].toArray 37 (0,0)⟩,⟨true,q12,.cells (jaI (jal (x.ln.figs.getD j []))).toArray 145 (0,0)⟩]) [0,1,2,3,4,5,6,7,8,9,10,11,12,13,14,15,16,17,18,19,20,21,22,23,24,25,26,27,28,29,30,31,32,33,34,35] zK zK SubH.sub ?_
     refine DrawT.split 4 13 zA (DrawT.split 4 15 zA (DrawT.split 13 15 zA ?_ ?_) ?_) (DrawT.split 4 15 zA ?_ (DrawT.split 4 16 zA (DrawT.split 13 15 zA ?_ ?_) (DrawT.split 4 21 zA (DrawT.split 13 15 zA ?_ ?_) (DrawT.split 13 15 zA ?_ ?_))))
     refine DrawT.leaf [Zp 0,Zp 1,Zp 2,Zp 3,Zp 6,Zp 7,Zp 8,Zp 9,Zp 10,Zp 11,Zp 12,Zp 17,Zp 18,Zp 28,Zp 29,Zp 32,Zp 33,Zr 5,Zr 14,Zr 19,Zr 20,Zk 4,Zk 13,Zk 15,Zk 16,Zk 21,Zp 22,Zp 23,Zk 24,Zk 25,Zp 26,Zk 27,Zp 30,Zk 31,Zp 34,Zk 35] zK ?_;refine Z20 ?_;refine D40 ?_;refine Z2 ?_
     refine jdk kdq rfl zq zA zA rfl (fun q74=>jau (jae ?_));refine jbL rfl zq rfl how3 zF zO zO (fun w9 n9 o9=>jae ?_);obtain ⟨p9,c9,rfl,hc9,r9⟩:=jav (B:=B) o9
     refine D3 ?_
     rintro w80 n80 o80;refine jaH (jae ?_);rw [←hms] at o80
     obtain ⟨p80,c80,rfl,_⟩:=jav (B:=B) o80
     have hfig80:=hft.symm
     rotate_left
     refine DrawT.leaf [Zp 0,Zp 1,Zp 2,Zp 3,Zp 6,Zp 7,Zp 8,Zp 9,Zp 10,Zp 11,Zp 12,Zp 17,Zp 18,Zp 28,Zp 29,Zp 32,Zp 33,Zr 5,Zr 14,Zr 19,Zr 20,Zk 4,Zk 15,Zk 13,Zk 16,Zk 21,Zp 22,Zp 23,Zk 24,Zk 25,Zp 26,Zk 27,Zp 30,Zk 31,Zp 34,Zk 35] zK ?_;refine Z20 ?_;refine D40 ?_;refine Zs ?_
     refine jdk kdq rfl zq zA zA rfl (fun q74=>jau (jae ?_));refine Zs ?_
     refine jbL rfl zq rfl how3 zF zO zO (fun w9 n9 o9=>jae ?_);obtain ⟨p9,c9,rfl,hc9,r9⟩:=jav (B:=B) o9
     refine D3 ?_
     rintro w80 n80 o80;refine jaH (jae ?_);rw [←hms] at o80
     obtain ⟨p80,c80,rfl,_⟩:=jav (B:=B) o80
     have hfig80:=hft.symm
     rotate_left
     refine DrawT.leaf [Zp 0,Zp 1,Zp 2,Zp 3,Zp 6,Zp 7,Zp 8,Zp 9,Zp 10,Zp 11,Zp 12,Zp 17,Zp 18,Zp 28,Zp 29,Zp 32,Zp 33,Zr 5,Zr 14,Zr 19,Zr 20,Zk 15,Zk 4,Zk 13,Zk 16,Zk 21,Zp 22,Zp 23,Zk 24,Zk 25,Zp 26,Zk 27,Zp 30,Zk 31,Zp 34,Zk 35] zK ?_;refine Z20 ?_;refine D40 ?_
     refine jdk kdq rfl zq zA zA rfl (fun q74=>jau (jae ?_));refine Z2 ?_
     refine jbL rfl zq rfl how3 zF zO zO (fun w9 n9 o9=>jae ?_);obtain ⟨p9,c9,rfl,hc9,r9⟩:=jav (B:=B) o9
     refine D3 ?_
     rintro w80 n80 o80;refine jaH (jae ?_);rw [←hms] at o80
     obtain ⟨p80,c80,rfl,_⟩:=jav (B:=B) o80
     have hfig80:=hft.symm
     rotate_left
     refine DrawT.leaf [Zp 0,Zp 1,Zp 2,Zp 3,Zp 6,Zp 7,Zp 8,Zp 9,Zp 10,Zp 11,Zp 12,Zp 17,Zp 18,Zp 28,Zp 29,Zp 32,Zp 33,Zr 5,Zr 14,Zr 19,Zr 20,Zk 13,Zk 4,Zk 15,Zk 16,Zk 21,Zp 22,Zp 23,Zk 24,Zk 25,Zp 26,Zk 27,Zp 30,Zk 31,Zp 34,Zk 35] zK ?_;refine Z20 ?_;refine D40 ?_;refine Z2 ?_
     refine jdk kdq rfl zq zA zA rfl (fun q74=>jau (jae ?_));refine jbL rfl zq rfl how3 zF zO zO (fun w9 n9 o9=>jae ?_);obtain ⟨p9,c9,rfl,hc9,r9⟩:=jav (B:=B) o9
     refine D3 ?_
     rintro w80 n80 o80;refine jaH (jae ?_);rw [←hms] at o80
     obtain ⟨p80,c80,rfl,_⟩:=jav (B:=B) o80
     have hfig80:=hft.symm
     rotate_left
     refine DrawT.leaf [Zp 0,Zp 1,Zp 2,Zp 3,Zp 6,Zp 7,Zp 8,Zp 9,Zp 10,Zp 11,Zp 12,Zp 17,Zp 18,Zp 28,Zp 29,Zp 32,Zp 33,Zr 5,Zr 14,Zr 19,Zr 20,Zk 13,Zk 15,Zk 4,Zk 16,Zk 21,Zp 22,Zp 23,Zk 24,Zk 25,Zp 26,Zk 27,Zp 30,Zk 31,Zp 34,Zk 35] zK ?_;refine Z20 ?_;refine D40 ?_;refine Zs ?_
     refine jdk kdq rfl zq zA zA rfl (fun q74=>jau (jae ?_));refine Zs ?_
     refine jbL rfl zq rfl how3 zF zO zO (fun w9 n9 o9=>jae ?_);obtain ⟨p9,c9,rfl,hc9,r9⟩:=jav (B:=B) o9
     refine D3 ?_
     rintro w80 n80 o80;refine jaH (jae ?_);rw [←hms] at o80
     obtain ⟨p80,c80,rfl,_⟩:=jav (B:=B) o80
     have hfig80:=hft.symm
     rotate_left
     refine DrawT.leaf [Zp 0,Zp 1,Zp 2,Zp 3,Zp 6,Zp 7,Zp 8,Zp 9,Zp 10,Zp 11,Zp 12,Zp 17,Zp 18,Zp 28,Zp 29,Zp 32,Zp 33,Zr 5,Zr 14,Zr 19,Zr 20,Zk 15,Zk 13,Zk 4,Zk 16,Zk 21,Zp 22,Zp 23,Zk 24,Zk 25,Zp 26,Zk 27,Zp 30,Zk 31,Zp 34,Zk 35] zK ?_;refine Z20 ?_;refine D40 ?_
     refine jdk kdq rfl zq zA zA rfl (fun q74=>jau (jae ?_));refine Z2 ?_
     refine jbL rfl zq rfl how3 zF zO zO (fun w9 n9 o9=>jae ?_);obtain ⟨p9,c9,rfl,hc9,r9⟩:=jav (B:=B) o9
     refine D3 ?_
     rintro w80 n80 o80;refine jaH (jae ?_);rw [←hms] at o80
     obtain ⟨p80,c80,rfl,_⟩:=jav (B:=B) o80
     have hfig80:=hft.symm
     rotate_left
     refine DrawT.leaf [Zp 0,Zp 1,Zp 2,Zp 3,Zp 6,Zp 7,Zp 8,Zp 9,Zp 10,Zp 11,Zp 12,Zp 17,Zp 18,Zp 28,Zp 29,Zp 32,Zp 33,Zr 5,Zr 14,Zr 19,Zr 20,Zk 13,Zk 15,Zk 16,Zk 4,Zk 21,Zp 22,Zp 23,Zk 24,Zk 25,Zp 26,Zk 27,Zp 30,Zk 31,Zp 34,Zk 35] zK ?_;refine Z20 ?_;refine D40 ?_;refine Zs ?_
     refine jdk kdq rfl zq zA zA rfl (fun q74=>jau (jae ?_));refine jbL rfl zq rfl how3 zF zO zO (fun w9 n9 o9=>jae ?_);obtain ⟨p9,c9,rfl,hc9,r9⟩:=jav (B:=B) o9
     refine Zs ?_;refine D3 ?_
     rintro w80 n80 o80;refine jaH (jae ?_);rw [←hms] at o80
     obtain ⟨p80,c80,rfl,_⟩:=jav (B:=B) o80
     have hfig80:=hft.symm
     rotate_left
     refine DrawT.leaf [Zp 0,Zp 1,Zp 2,Zp 3,Zp 6,Zp 7,Zp 8,Zp 9,Zp 10,Zp 11,Zp 12,Zp 17,Zp 18,Zp 28,Zp 29,Zp 32,Zp 33,Zr 5,Zr 14,Zr 19,Zr 20,Zk 15,Zk 13,Zk 16,Zk 4,Zk 21,Zp 22,Zp 23,Zk 24,Zk 25,Zp 26,Zk 27,Zp 30,Zk 31,Zp 34,Zk 35] zK ?_;refine Z20 ?_;refine D40 ?_
     refine jdk kdq rfl zq zA zA rfl (fun q74=>jau (jae ?_));refine Zs ?_
     refine jbL rfl zq rfl how3 zF zO zO (fun w9 n9 o9=>jae ?_);obtain ⟨p9,c9,rfl,hc9,r9⟩:=jav (B:=B) o9
     refine Zs ?_;refine D3 ?_
     rintro w80 n80 o80;refine jaH (jae ?_);rw [←hms] at o80
     obtain ⟨p80,c80,rfl,_⟩:=jav (B:=B) o80
     have hfig80:=hft.symm
     rotate_left
     refine DrawT.leaf [Zp 0,Zp 1,Zp 2,Zp 3,Zp 6,Zp 7,Zp 8,Zp 9,Zp 10,Zp 11,Zp 12,Zp 17,Zp 18,Zp 28,Zp 29,Zp 32,Zp 33,Zr 5,Zr 14,Zr 19,Zr 20,Zk 13,Zk 15,Zk 16,Zk 21,Zk 4,Zp 22,Zp 23,Zk 24,Zk 25,Zp 26,Zk 27,Zp 30,Zk 31,Zp 34,Zk 35] zK ?_;refine Z20 ?_;refine D40 ?_;refine Zs ?_
     refine jdk kdq rfl zq zA zA rfl (fun q74=>jau (jae ?_));refine jbL rfl zq rfl how3 zF zO zO (fun w9 n9 o9=>jae ?_);obtain ⟨p9,c9,rfl,hc9,r9⟩:=jav (B:=B) o9
     refine D3 ?_
     rintro w80 n80 o80;refine jaH (jae ?_);rw [←hms] at o80
     obtain ⟨p80,c80,rfl,_⟩:=jav (B:=B) o80
     have hfig80:=hft.symm
     refine Zs ?_
     rotate_left
     refine DrawT.leaf [Zp 0,Zp 1,Zp 2,Zp 3,Zp 6,Zp 7,Zp 8,Zp 9,Zp 10,Zp 11,Zp 12,Zp 17,Zp 18,Zp 28,Zp 29,Zp 32,Zp 33,Zr 5,Zr 14,Zr 19,Zr 20,Zk 15,Zk 13,Zk 16,Zk 21,Zk 4,Zp 22,Zp 23,Zk 24,Zk 25,Zp 26,Zk 27,Zp 30,Zk 31,Zp 34,Zk 35] zK ?_;refine Z20 ?_;refine D40 ?_
     refine jdk kdq rfl zq zA zA rfl (fun q74=>jau (jae ?_));refine Zs ?_
     refine jbL rfl zq rfl how3 zF zO zO (fun w9 n9 o9=>jae ?_);obtain ⟨p9,c9,rfl,hc9,r9⟩:=jav (B:=B) o9
     refine D3 ?_
     rintro w80 n80 o80;refine jaH (jae ?_);rw [←hms] at o80
     obtain ⟨p80,c80,rfl,_⟩:=jav (B:=B) o80
     have hfig80:=hft.symm
     refine Zs ?_
     all_goals
      refine Z2 ?_;refine D9 ?_
      refine jo0 (c:=(⟨decide (i=1),(k:Int),(j:Int)⟩:Ce)) (cs:=(jbY b i k j)) (k:=37) (e:=3) zK rfl zq hnew (jae ?_);refine Zs ?_;refine jl8 (c:=(⟨decide (i=1),(k:Int),(j:Int)⟩:Ce)) (cs:=(jbY b i k j)) rfl zq rfl ?_;refine Zs ?_
      haveI hss1:=shC_lat (a0:= .int .i64 b.wrong) (a1:= .slice ps ns ks) (a2:= .slice pw nw cw) (a3:= .slice pb nb cb) (cv:= .slice p9 ((jbY b i k j).length+1) c9) (mv:= .map (some qm)) (la:=la3) (cl:=cl3) (k:=(jbY b i k j).length) (by rw [hla3.1];exact hn12) x.ln.lat
      refine D9 ?_;refine Zs ?_
      haveI hss2:=shC_can (a0:= .int .i64 b.wrong) (a1:= .slice ps ns ks) (a2:= .slice pw nw cw) (a3:= .slice pb nb cb) (cv:= .slice p9 ((jbY b i k j).length+1) c9) (mv:= .map (some qm)) (la:=la3.set (jbY b i k j).length x.ln.lat) (cl:=cl3) (k:=(jbY b i k j).length) (by simpa using hla3.1) (by rw [hcl3.1];exact hn12) (.slice p80 (jbl (x.ln.figs.getD j [])).length c80)
      refine D9 ?_;refine Z6 ?_
      have hks:=jqw hkc
      have hkl:(jbY b i k (j+1)).length=(jbY b i k j).length+1:=by rw [hks];simp
      rw [←hkl,←hks];refine m.weak (h':=h++[⟨true,q1,.cells (tbL b ps ns ks pw nw cw pb nb cb).toArray 25 (0,0)⟩,⟨true,qm,jhz (jbY b i k (j+1))⟩,⟨true,q18,.cells (shC (tbL b ps ns ks pw nw cw pb nb cb) (.slice p9 (jbY b i k (j+1)).length c9) (.map (some qm)) (la3.set (jbY b i k j).length x.ln.lat) (cl3.set (jbY b i k j).length (.slice p80 (jbl (x.ln.figs.getD j [])).length c80))).toArray 132 (0,0)⟩]++[⟨true,q5,.cells [str (hwS i),.bool (decide (i=1)),.func (.func (261+i)) #[] #[]].toArray 184 (0,0)⟩]++[⟨true,q7,.cells [.int .i64 x.ln.lat,.slice x.p x.ln.figs.length x.c].toArray 121 (0,0)⟩]++n9++(M3++n80)) jd7 ?_
      exact hnext3 _ _ _ zO ⟨j+1,p9,c9,n9,M3++n80,_,_,rfl,by omega,by rw [hkl,hks,jbB];exact o9,by rw [hks];exact hla3.snoc hn12 hlat,by rw [hks];exact hcl3.snoc hn12 hfig80 o80,exU rfl,rfl⟩
   ·refine Z4 ?_;refine joC ?_;refine Z5 ?_
    have hac:jbY b i k j=jbY b i (k+1) 0:=by rw [show j=b.sts.length by omega];exact jhv b i k
    rw [hac];refine m.weak (h':=h++[⟨true,q1,.cells (tbL b ps ns ks pw nw cw pb nb cb).toArray 25 (0,0)⟩,⟨true,qm,jhz (jbY b i (k+1) 0)⟩,⟨true,q18,.cells (shC (tbL b ps ns ks pw nw cw pb nb cb) (.slice wp3 (jbY b i (k+1) 0).length wc3) (.map (some qm)) la3 cl3).toArray 132 (0,0)⟩]++[⟨true,q5,.cells [str (hwS i),.bool (decide (i=1)),.func (.func (261+i)) #[] #[]].toArray 184 (0,0)⟩]++W3++M3) jf2 ?_
    exact hnext2 _ _ _ zO ⟨k+1,wp3,wc3,W3,M3,la3,cl3,rfl,by omega,by rw [←hac];exact how3,by rw [←hac];exact hla3,by rw [←hac];exact hcl3,exU rfl,rfl⟩
  ·refine Z9 ?_
   have hac:=jrW b hin (show k≤2 by omega) zO
   rw [hac];refine m.weak (h':=h++[⟨true,q1,.cells (tbL b ps ns ks pw nw cw pb nb cb).toArray 25 (0,0)⟩,⟨true,qm,jhz (jbY b (i+1) 0 0)⟩,⟨true,q18,.cells (shC (tbL b ps ns ks pw nw cw pb nb cb) (.slice wp2 (jbY b (i+1) 0 0).length wc2) (.map (some qm)) la2 cl2).toArray 132 (0,0)⟩]++W2++M2) jf2 ?_
   exact hnext1 _ _ _ zO ⟨i+1,wp2,wc2,W2,M2,la2,cl2,rfl,by omega,by rw [←hac];exact how2,by rw [←hac];exact hla2,by rw [←hac];exact hcl2,exU rfl,rfl⟩
 ·refine Z5 ?_
  obtain rfl:i=2:=by omega
  rw [jmy] at how1 hla1 hcl1⊢
  have hc12:(jaa b).length≤12:=by
   rw [←jmy];have:=jqx b (i:=2) (k:=0) (j:=0) zO zO zO
   omega
  refine Z5 ?_;refine jad (h++[⟨true,qm,jhz (jaa b)⟩,⟨true,q18,.cells (shC (tbL b ps ns ks pw nw cw pb nb cb) (.slice wp1 (jaa b).length wc1) (.map (some qm)) la1 cl1).toArray 132 (0,0)⟩]++W1++M1) rfl Tryz.func95 rfl jab ?_;refine Zs ?_
  exact ⟨[⟨true,qm,jhz (jaa b)⟩,⟨true,q18,.cells (shC (tbL b ps ns ks pw nw cw pb nb cb) (.slice wp1 (jaa b).length wc1) (.map (some qm)) la1 cl1).toArray 132 (0,0)⟩]++W1++M1,q18,by rw [←List.append_assoc,←List.append_assoc],rfl,sheet_of hc12 how1 hla1 hcl1⟩
end
section
variable [LaidO B]
def jgm (a c:Cd) (n m:Int):Bool:=!riC a c n m
theorem jbe {a c:Cd} {n m:Int} (h:a.st≠c.st):jgm a c n m=false:=by rw [jgm,riC,if_pos h];rfl
theorem jbd {a c:Cd} {n m:Int} (h:a.st=c.st) (hb:a.butt=c.butt):jgm a c n m=decide ((a.lat<c.lat∧m<n)∨(c.lat<a.lat∧n<m)):=by
 rw [jgm,riC,if_neg (fun e=>e h),if_pos hb];have:=jgA (la:=a.lat) (lc:=c.lat) (ma:=n) (mc:=m)
 cases hr:riL a.lat c.lat n m with
 |true=>have:=this.1 hr;exact (decide_eq_false zO).symm
 |false=>exact E46
theorem jaZ {a c:Cd} {n m:Int} (h:a.st=c.st) (ha:a.butt=false) (hc:c.butt=true):jgm a c n m=decide ((m<a.lat∧n<c.lat)∨(a.lat<m∧c.lat<n)):=by
 rw [jgm,riC,if_neg (fun e=>e h),if_neg (by rw [ha,hc];simp),if_neg (by rw [ha];simp)];have:=jee (la:=a.lat) (lc:=c.lat) (ma:=n) (mc:=m)
 cases hr:riX a.lat c.lat n m with
 |true=>have:=this.1 hr;exact (decide_eq_false zO).symm
 |false=>exact E46
theorem fall_turn {a c:Cd} {n m:Int}:jgm a c n m=jgm c a m n:=by rw [jgm,jgm,jes]
section
variable {H H':Hp} {b:Tb}
theorem Sheet.latI (s:Sheet B H b q tv) (hi:i<(jaa b).length):Rd B H ⟨q,6+(i:Int).toNat*1,none⟩ (.int .i64 (jcI b ((jaa b).getD i default)).lat):=by
 rw [Int.toNat_natCast,Nat.mul_one,←jaF b hi];exact s.lat i hi
end
theorem rdTb_of {b:Tb} (rds:RdS B h 1 (.slice ps ns ks) ns (jaC b.sts)) (hcs:ns≤ks) (rdw:RdLn B h (.slice pw nw cw) nw b.waters) (rdb:RdLn B h (.slice pb nb cb) nb b.butts) (hsm:TbSm b) (k:TbOk b):RdTb B h b ps ns ks pw nw cw pb nb cb:=by
 have hml:b.sts.length=ns:=rds.elen zA
 have h1:=k.n1
 have h3:=k.n3
 have hw:=k.waters.two
 have hb:=k.butts.two
 rw [jaV rdw] at hw
 rw [jaV rdb] at hb
 exact ⟨rds,hcs,rdw,rdb,hsm,by omega,by omega,hw,hb,fun l hl=>⟨hml▸(k.waters.ok l hl).len,(k.waters.ok l hl).fig⟩,fun l hl=>⟨hml▸(k.butts.ok l hl).len,(k.butts.ok l hl).fig⟩⟩
theorem f98_b (m:Md Tryz.prog B) (h:Hp) (s i:Nat) (hs:s<4096) (hi:i<12):FnC m 98 #[.int .u64 (s:Int),.int .i64 (i:Int)] h fun v h'=>h'=h∧IsB (s.testBit i=true) v:=
 CallF.mono (f98_c m h s i hs hi) fun v h' ⟨e1,e2⟩=>⟨e1,by rw [e2];cases s.testBit i;exact .inr ⟨by simp,rfl⟩;exact .inl ⟨rfl,rfl⟩⟩
theorem f176n_c (m:Md Tryz.prog B) (h:Hp) {b:Tb} (sh:Sheet B h b q tv) (hi:i<(jaa b).length) (hk:k<(jaa b).length) (mi mk:Int) (hn:(jcI b ((jaa b).getD i default)).butt=(jcI b ((jaa b).getD k default)).butt∨(jcI b ((jaa b).getD i default)).butt=false):FnC m 176 #[.pointer (some ⟨q,0,none⟩),.int .i64 (i:Int),.int .i64 (k:Int),.int .i64 mi,.int .i64 mk] h fun v h'=>h'=h∧v= .bool (jgm (dA (cdT b) i) (dA (cdT b) k) mi mk):=by
 have h12:=sh.twelve
 obtain ⟨pc,cc,hcv,hcc,hcr⟩:=sh.cells
 obtain ⟨pcb,pco,hpc⟩:=hcr.ptr zO
 refine D68 ?_
 intro cf cs K hK
 refine Z5 ?_;refine D36 ?_;refine Z8 ?_;refine D66 ?_;refine D93 ?_;refine D50 ?_;refine D66 ?_;refine D93 ?_;refine D51 ?_
 refine jax rfl zq (fun q11=>jau (jae ?_));refine jax rfl zq (fun q12=>jau (jae ?_));refine D6 ?_;refine D6 ?_;refine Z9 ?_
 refine jbK rfl zq (fun hc=>?_) (fun hc=>?_)
 ·refine Z8 ?_;refine jkn ?_
  refine ⟨rfl,?_⟩
  rw [jaF b hi,jaF b hk];first
   |(rw [jbe zD];done)
   |(rw [jbd zD hbt];exact E47)
   |(rw [jaZ zD hbf hbg];exact E47)
 ·refine Z9 ?_
  refine jnK rfl zq zK (fun hbt=>?_) (fun hbt=>?_)
  ·refine Z4 ?_;refine D13 ?_;refine Z10 ?_;refine D76 ?_;refine jaW rfl zq ((sh.latI (i:=k) zO).keeps SubH.sub) ?_
   refine jao rfl zq (fun hc=>?_) (fun hc=>?_)
   ·refine Z3 ?_
    refine jaY rfl rfl (fun hc=>?_) (fun hc=>?_)
    ·refine Z24 ?_;refine jkn ?_
     refine ⟨rfl,?_⟩
     rw [jaF b hi,jaF b hk];first
      |(rw [jbe zD];done)
      |(rw [jbd zD hbt];exact E47)
      |(rw [jaZ zD hbf hbg];exact E47)
    ·refine Z12 ?_;refine D39 ?_;refine D28 ?_
     refine jaY rfl rfl (fun hc=>?_) (fun hc=>?_)
     ·refine Z3 ?_
      refine jao rfl rfl (fun hc=>?_) (fun hc=>?_);all_goals
       refine Z5 ?_;refine jkn ?_
       refine ⟨rfl,?_⟩
       rw [jaF b hi,jaF b hk];first
        |(rw [jbe zD];done)
        |(rw [jbd zD hbt];exact E47)
        |(rw [jaZ zD hbf hbg];exact E47)
     ·refine Z9 ?_;refine jkn ?_
      refine ⟨rfl,?_⟩
      rw [jaF b hi,jaF b hk];first
       |(rw [jbe zD];done)
       |(rw [jbd zD hbt];exact E47)
       |(rw [jaZ zD hbf hbg];exact E47)
   ·refine Z16 ?_;refine D39 ?_;refine D28 ?_
    refine jaY rfl rfl (fun hc=>?_) (fun hc=>?_)
    ·refine Z3 ?_
     refine jao rfl rfl (fun hc=>?_) (fun hc=>?_);all_goals
      refine Z5 ?_;refine jkn ?_
      refine ⟨rfl,?_⟩
      rw [jaF b hi,jaF b hk];first
       |(rw [jbe zD];done)
       |(rw [jbd zD hbt];exact E47)
       |(rw [jaZ zD hbf hbg];exact E47)
    ·refine Z9 ?_;refine jkn ?_
     refine ⟨rfl,?_⟩
     rw [jaF b hi,jaF b hk];first
      |(rw [jbe zD];done)
      |(rw [jbd zD hbt];exact E47)
      |(rw [jaZ zD hbf hbg];exact E47)
  ·refine Z9 ?_
   refine jcS (fun hc=>?_) (fun hc=>?_)
   ·first|replace hc:=of_decide_eq_true hc|replace hc:=of_decide_eq_false hc|skip
    refine Zs ?_
    exact absurd hn (by rintro (e|e);exact hbt e;rw [e] at hc;cases hc)
   ·first|replace hc:=of_decide_eq_true hc|replace hc:=of_decide_eq_false hc|skip
    refine Z3 ?_
    have hbf:(jcI b ((jaa b).getD i default)).butt=false:=hc
    have hbg:(jcI b ((jaa b).getD k default)).butt=true:=by cases e:(jcI b ((jaa b).getD k default)).butt;exact absurd (hbf.trans e.symm) hbt;rfl
    refine rr39 ?_;refine Z6 ?_;refine D76 ?_;refine jao rfl zq (fun hc=>?_) (fun hc=>?_);rotate_left
    refine Z10 ?_
    all_goals
     refine Z7 ?_
    ·refine D39 ?_
     refine jaY rfl rfl (fun hc=>?_) (fun hc=>?_)
     ·refine Z7 ?_;refine D28 ?_
      refine jaY rfl rfl (fun hc=>?_) (fun hc=>?_);all_goals
       refine Z5 ?_;refine jkn ?_
       refine ⟨rfl,?_⟩
       rw [jaF b hi,jaF b hk];first
        |(rw [jbe zD];done)
        |(rw [jbd zD hbt];exact E47)
        |(rw [jaZ zD hbf hbg];exact E47)
     ·refine Z14 ?_;refine jkn ?_
      refine ⟨rfl,?_⟩
      rw [jaF b hi,jaF b hk];first
       |(rw [jbe zD];done)
       |(rw [jbd zD hbt];exact E47)
       |(rw [jaZ zD hbf hbg];exact E47)
    ·refine D28 ?_
     refine jao rfl rfl (fun hc=>?_) (fun hc=>?_)
     ·refine Z24 ?_;refine jkn ?_
      refine ⟨rfl,?_⟩
      rw [jaF b hi,jaF b hk];first
       |(rw [jbe zD];done)
       |(rw [jbd zD hbt];exact E47)
       |(rw [jaZ zD hbf hbg];exact E47)
     ·refine Z8 ?_;refine D39 ?_
      refine jaY rfl rfl (fun hc=>?_) (fun hc=>?_)
      ·refine Z7 ?_;refine D28 ?_
       refine jaY rfl rfl (fun hc=>?_) (fun hc=>?_);all_goals
        refine Z5 ?_;refine jkn ?_
        refine ⟨rfl,?_⟩
        rw [jaF b hi,jaF b hk];first
         |(rw [jbe zD];done)
         |(rw [jbd zD hbt];exact E47)
         |(rw [jaZ zD hbf hbg];exact E47)
      ·refine Z14 ?_;refine jkn ?_
       refine ⟨rfl,?_⟩
       rw [jaF b hi,jaF b hk];first
        |(rw [jbe zD];done)
        |(rw [jbd zD hbt];exact E47)
        |(rw [jaZ zD hbf hbg];exact E47)
theorem f176_c (m:Md Tryz.prog B) (h:Hp) {b:Tb} (sh:Sheet B h b q tv) (hi:i<(jaa b).length) (hk:k<(jaa b).length) (mi mk:Int):FnC m 176 #[.pointer (some ⟨q,0,none⟩),.int .i64 (i:Int),.int .i64 (k:Int),.int .i64 mi,.int .i64 mk] h fun v h'=>h'=h∧v= .bool (jgm (dA (cdT b) i) (dA (cdT b) k) mi mk):=by
 have h12:=sh.twelve
 obtain ⟨pc,cc,hcv,hcc,hcr⟩:=sh.cells
 obtain ⟨pcb,pco,hpc⟩:=hcr.ptr zO
 refine D68 ?_
 intro cf cs K hK
 refine Z5 ?_;refine D36 ?_;refine Z8 ?_;refine D66 ?_;refine D93 ?_;refine D50 ?_;refine D66 ?_;refine D93 ?_;refine D51 ?_
 refine jax rfl zq (fun q11=>jau (jae ?_));refine jax rfl zq (fun q12=>jau (jae ?_));refine D6 ?_;refine D6 ?_;refine Z9 ?_
 refine jbK rfl zq (fun hc=>?_) (fun hc=>?_)
 ·refine Z8 ?_;refine jkn ?_
  first
   |exact E49
   |(refine ⟨rfl,?_⟩
     rw [jaF b hi,jaF b hk];first
      |(rw [jbe zD];done)
      |(rw [jbd zD hbt];exact E47)
      |(rw [jaZ zD hbf hbg];exact E47))
 ·refine Z9 ?_
  refine jnK rfl zq zK (fun hbt=>?_) (fun hbt=>?_)
  ·refine Z4 ?_;refine D13 ?_;refine Z10 ?_;refine D76 ?_;refine jaW rfl zq ((sh.latI (i:=k) zO).keeps SubH.sub) ?_
   refine jao rfl zq (fun hc=>?_) (fun hc=>?_)
   ·refine Z3 ?_
    refine jaY rfl rfl (fun hc=>?_) (fun hc=>?_)
    ·refine Z24 ?_;refine jkn ?_
     first
      |exact E49
      |(refine ⟨rfl,?_⟩
        rw [jaF b hi,jaF b hk];first
         |(rw [jbe zD];done)
         |(rw [jbd zD hbt];exact E47)
         |(rw [jaZ zD hbf hbg];exact E47))
    ·refine Z12 ?_;refine D39 ?_;refine D28 ?_
     refine jaY rfl rfl (fun hc=>?_) (fun hc=>?_)
     ·refine Z3 ?_
      refine jao rfl rfl (fun hc=>?_) (fun hc=>?_);all_goals
       refine Z5 ?_;refine jkn ?_
       first
        |exact E49
        |(refine ⟨rfl,?_⟩
          rw [jaF b hi,jaF b hk];first
           |(rw [jbe zD];done)
           |(rw [jbd zD hbt];exact E47)
           |(rw [jaZ zD hbf hbg];exact E47))
     ·refine Z9 ?_;refine jkn ?_
      first
       |exact E49
       |(refine ⟨rfl,?_⟩
         rw [jaF b hi,jaF b hk];first
          |(rw [jbe zD];done)
          |(rw [jbd zD hbt];exact E47)
          |(rw [jaZ zD hbf hbg];exact E47))
   ·refine Z16 ?_;refine D39 ?_;refine D28 ?_
    refine jaY rfl rfl (fun hc=>?_) (fun hc=>?_)
    ·refine Z3 ?_
     refine jao rfl rfl (fun hc=>?_) (fun hc=>?_);all_goals
      refine Z5 ?_;refine jkn ?_
      first
       |exact E49
       |(refine ⟨rfl,?_⟩
         rw [jaF b hi,jaF b hk];first
          |(rw [jbe zD];done)
          |(rw [jbd zD hbt];exact E47)
          |(rw [jaZ zD hbf hbg];exact E47))
    ·refine Z9 ?_;refine jkn ?_
     first
      |exact E49
      |(refine ⟨rfl,?_⟩
        rw [jaF b hi,jaF b hk];first
         |(rw [jbe zD];done)
         |(rw [jbd zD hbt];exact E47)
         |(rw [jaZ zD hbf hbg];exact E47))
  ·refine Z9 ?_
   refine jcS (fun hc=>?_) (fun hc=>?_)
   ·first|replace hc:=of_decide_eq_true hc|replace hc:=of_decide_eq_false hc|skip
    refine Zs ?_
    have hab:(jcI b ((jaa b).getD i default)).butt=true:=hc
    have hkb:(jcI b ((jaa b).getD k default)).butt=false:=by cases e:(jcI b ((jaa b).getD k default)).butt;rfl;exact absurd (hab.trans e.symm) hbt
    refine Z6 ?_;refine jag (Post:=fun v=>v= .bool (jgm (dA (cdT b) k) (dA (cdT b) i) mk mi)) rfl zq zK (fun H' hH=>f176n_c m H' (sh.keeps (sq hH)) hk hi mk mi (.inr hkb)) ?_
    rintro v rfl;refine Z4 ?_;refine jkn ?_
    first
     |exact E49
     |(refine ⟨rfl,?_⟩
       rw [jaF b hi,jaF b hk];first
        |(rw [jbe zD];done)
        |(rw [jbd zD hbt];exact E47)
        |(rw [jaZ zD hbf hbg];exact E47))
   ·first|replace hc:=of_decide_eq_true hc|replace hc:=of_decide_eq_false hc|skip
    refine Z3 ?_
    have hbf:(jcI b ((jaa b).getD i default)).butt=false:=hc
    have hbg:(jcI b ((jaa b).getD k default)).butt=true:=by cases e:(jcI b ((jaa b).getD k default)).butt;exact absurd (hbf.trans e.symm) hbt;rfl
    refine rr39 ?_;refine Z6 ?_;refine D76 ?_;refine jao rfl zq (fun hc=>?_) (fun hc=>?_);rotate_left
    refine Z10 ?_
    all_goals
     refine Z7 ?_
    ·refine D39 ?_
     refine jaY rfl rfl (fun hc=>?_) (fun hc=>?_)
     ·refine Z7 ?_;refine D28 ?_
      refine jaY rfl rfl (fun hc=>?_) (fun hc=>?_);all_goals
       refine Z5 ?_;refine jkn ?_
       first
        |exact E49
        |(refine ⟨rfl,?_⟩
          rw [jaF b hi,jaF b hk];first
           |(rw [jbe zD];done)
           |(rw [jbd zD hbt];exact E47)
           |(rw [jaZ zD hbf hbg];exact E47))
     ·refine Z14 ?_;refine jkn ?_
      first
       |exact E49
       |(refine ⟨rfl,?_⟩
         rw [jaF b hi,jaF b hk];first
          |(rw [jbe zD];done)
          |(rw [jbd zD hbt];exact E47)
          |(rw [jaZ zD hbf hbg];exact E47))
    ·refine D28 ?_
     refine jao rfl rfl (fun hc=>?_) (fun hc=>?_)
     ·refine Z24 ?_;refine jkn ?_
      first
       |exact E49
       |(refine ⟨rfl,?_⟩
         rw [jaF b hi,jaF b hk];first
          |(rw [jbe zD];done)
          |(rw [jbd zD hbt];exact E47)
          |(rw [jaZ zD hbf hbg];exact E47))
     ·refine Z8 ?_;refine D39 ?_
      refine jaY rfl rfl (fun hc=>?_) (fun hc=>?_)
      ·refine Z7 ?_;refine D28 ?_
       refine jaY rfl rfl (fun hc=>?_) (fun hc=>?_);all_goals
        refine Z5 ?_;refine jkn ?_
        first
         |exact E49
         |(refine ⟨rfl,?_⟩
           rw [jaF b hi,jaF b hk];first
            |(rw [jbe zD];done)
            |(rw [jbd zD hbt];exact E47)
            |(rw [jaZ zD hbf hbg];exact E47))
      ·refine Z14 ?_;refine jkn ?_
       first
        |exact E49
        |(refine ⟨rfl,?_⟩
          rw [jaF b hi,jaF b hk];first
           |(rw [jbe zD];done)
           |(rw [jbd zD hbt];exact E47)
           |(rw [jaZ zD hbf hbg];exact E47))
end
end Go.Proofs
namespace Go.Proofs
open Go.Lo
theorem jhl (n:Nat):(jeT n).length=n:=by simp [jeT]
theorem jht: ∀xs:List Int,jbX xs xs=false
 |[]=>rfl
 |a::r=>by unfold jbX;rw [if_pos rfl];exact jht r
theorem jiw: ∀xs ys zs:List Int,jbX xs ys=true→jbX ys zs=true→jbX xs zs=true
 |[],[],_,h,_=>by simp [jbX] at h
 |[],_::_,[],_,h=>by simp [jbX] at h
 |[],_::_,_::_,_,_=>rfl
 |_::_,[],_,h,_=>by simp [jbX] at h
 |_::_,_::_,[],_,h=>by simp [jbX] at h
 |a::r,c::s,d::t,h1,h2=>by
  unfold jbX at h1 h2⊢
  by_cases e1:a=c
  ·by_cases e2:c=d
   ·rw [if_pos e1] at h1
    rw [if_pos e2] at h2
    rw [if_pos (e1.trans e2)];exact jiw r s t h1 h2
   ·rw [if_neg e2] at h2
    rw [if_neg (e1▸e2),e1];exact h2
  ·rw [if_neg e1] at h1
   have h1:=of_decide_eq_true h1
   by_cases e2:c=d
   ·rw [if_neg (e2▸e1),←e2];exact decide_eq_true h1
   ·rw [if_neg e2] at h2
    have h2:=of_decide_eq_true h2
    rw [if_neg zO];exact decide_eq_true zO
theorem jn2 (xs:List Int): ¬jff xs xs:=by
 rintro (h|⟨_,h⟩)
 ·omega
 ·rw [jht] at h
  cases h
theorem jj0 {zs:List Int} (h1:jff xs ys) (h2:jff ys zs):jff xs zs:=by
 rcases h1 with h1|⟨h1,h1'⟩<;>rcases h2 with h2|⟨h2,h2'⟩
 ·exact .inl zO
 ·exact .inl zO
 ·exact .inl zO
 ·exact .inr ⟨by omega,jiw _ _ _ h1' h2'⟩
theorem joi: ∀xs ys:List Int,xs=ys∨jbX xs ys=true∨jbX ys xs=true
 |[],[]=> .inl rfl
 |[],_::_=> .inr (.inl rfl)
 |_::_,[]=> .inr (.inr rfl)
 |a::r,c::s=>by
  unfold jbX
  by_cases e:a=c
  ·rw [if_pos e,if_pos e.symm];rcases joi r s with h|h|h
   ·exact .inl (by rw [e,h])
   ·exact .inr (.inl h)
   ·exact .inr (.inr h)
  ·rw [if_neg e,if_neg (fun x=>e x.symm)];rcases Int.lt_or_gt_of_ne e with h|h
   ·exact .inr (.inl (decide_eq_true h))
   ·exact .inr (.inr (decide_eq_true h))
theorem jqm (xs ys:List Int):xs=ys∨jff xs ys∨jff ys xs:=by
 unfold jff
 rcases joi xs ys with h|h|h
 ·exact .inl h
 ·rcases Nat.lt_trichotomy xs.length ys.length with e|e|e
  ·exact .inr (.inl (.inl e))
  ·exact .inr (.inl (.inr ⟨e,h⟩))
  ·exact .inr (.inr (.inl e))
 ·rcases Nat.lt_trichotomy xs.length ys.length with e|e|e
  ·exact .inr (.inl (.inl e))
  ·exact .inr (.inr (.inr ⟨e.symm,h⟩))
  ·exact .inr (.inr (.inl e))
theorem jhQ {p:Int→Bool}:z∈(jeT k).filter p↔ ∃i:Nat,i<k∧z=(i:Int)∧p i=true:=by
 rw [List.mem_filter];unfold jeT
 rw [List.mem_map];constructor
 ·rintro ⟨⟨i,hi,rfl⟩,h⟩;exact ⟨i,List.mem_range.1 hi,rfl,h⟩
 ·rintro ⟨i,hi,rfl,h⟩;exact ⟨⟨i,List.mem_range.2 hi,rfl⟩,h⟩
theorem jrT (h:Asc xs) (p:Int→Bool):Asc (xs.filter p):=List.Pairwise.sublist List.filter_sublist h
theorem jrS (k:Nat):Asc (jeT k):=by
 unfold jeT
 refine List.pairwise_map.2 ?_
 exact List.Pairwise.imp (fun h=>by omega) List.pairwise_lt_range
theorem jdC (mm k:Nat):Asc (jb6 mm k):=jrT (jrS _) _
theorem jtE (h:bitN mm k=1):jb6 mm (k+1)=jb6 mm k++[(k:Int)]:=by
 rw [jb6,jjX,List.filter_append,←jb6,List.filter_cons,Int.toNat_natCast,if_pos (decide_eq_true h)];rfl
theorem keptI_no (h:bitN mm k≠1):jb6 mm (k+1)=jb6 mm k:=by
 rw [jb6,jjX,List.filter_append,←jb6,List.filter_cons,Int.toNat_natCast,if_neg (by rw [decide_eq_true_iff];exact h)];simp
theorem jl7 (mm k:Nat):(jb6 mm k).length≤k:=by
 have:=List.length_filter_le (fun i:Int=>decide (bitN mm i.toNat=1)) (jeT k)
 rw [jhl] at this
 exact this
def jkg (p:Nat→Bool):Nat→Nat
 |0=>0
 |n+1=>if p n then 2^n+jkg p n else jkg p n
theorem jkf (p:Nat→Bool): ∀n,jkg p n<2^n
 |0=>Nat.one_pos
 |n+1=>by
  have:=jkf p n
  rw [jkg,Nat.pow_succ];split<;>omega
theorem jh7 (p:Nat→Bool): ∀n i,i<n→(jkg p n).testBit i=p i
 |0,i,h=>by omega
 |n+1,i,h=>by
  rw [jkg];by_cases e:i=n
  ·subst e
   have h1:=Nat.testBit_lt_two_pow (jkf p i)
   split
   ·rw [Nat.testBit_two_pow_add_eq,h1];rename_i h
    rw [h];rfl
   ·rename_i h
    rw [h1];exact (Bool.eq_false_iff.2 h).symm
  ·have ih:=jh7 p n i zO
   split
   ·rw [Nat.testBit_two_pow_add_gt zO];exact ih
   ·exact ih
theorem jdB (mm i:Nat):bitN mm i=1↔mm.testBit i=true:=by
 rw [Nat.testBit_eq_decide_div_mod_eq];unfold bitN
 simp
theorem jek:z∈jb6 mm k↔ ∃i:Nat,i<k∧z=(i:Int)∧bitN mm i=1:=by
 unfold jb6
 rw [jhQ];simp
theorem jtD (ha:Asc xs) (h: ∀x∈xs,0≤x∧x<n): ∃mm,mm<2^n∧xs=jb6 mm n:=by
 refine ⟨jkg (fun i=>decide ((i:Int)∈xs)) n,jkf _ _,Asc.eq ha (jdC _ _) fun z=>?_⟩
 rw [jek];constructor
 ·intro hz
  have h1:=h z hz
  refine ⟨z.toNat,by omega,by omega,(jdB _ _).2 ?_⟩
  rw [jh7 _ _ _ zO,show ((z.toNat:Nat):Int)=z by omega];exact decide_eq_true hz
 ·rintro ⟨i,hi,rfl,hb⟩;have:=(jdB _ _).1 hb
  rw [jh7 _ _ _ hi] at this
  exact of_decide_eq_true this
theorem jkj (h:Asc ys):ys.Nodup:=List.Pairwise.imp (fun h=>by omega) h
end Go.Proofs
namespace Go.Proofs
open Go.Lo
open Go.Conc (G)
section
variable [LaidO B]
def btL (s:Nat) (ms:List Int):List Value:= .int .u64 (s:Int)::jaI ms
abbrev btV (s:Nat) (ms:List Int):Value:= .agg (btL s ms).toArray
theorem btL_one (s:Nat) (ms:List Int): ∀u∈btL s ms,u.oneCell'=true:=by
 intro u hu
 rcases List.mem_cons.1 hu with rfl|hu
 ·rfl
 ·obtain ⟨n,_,rfl⟩:=List.mem_map.1 hu
  rfl
instance:Ones (btL s ms):=⟨btL_one s ms⟩
instance:At (btL s ms) 0 (.int .u64 (s:Int)):=⟨rfl⟩
theorem bt_at {rw:Bool} [x:Has h q rw (.cells (btL s ms).toArray e f)] (i:Nat) (hi:i<ms.length):Rd B h ⟨q,1+(i:Int).toNat*1,none⟩ (.int .i64 (ms.getD i 0)):=by
 refine Rd.held x.mem ?_
 rw [show 1+(i:Int).toNat*1=i+1 by omega,List.getElem?_toArray,btL,List.getElem?_cons_succ,List.getElem?_map,List.getElem?_eq_getElem hi,List.getD_eq_getElem?_getD,List.getElem?_eq_getElem hi];rfl
theorem isB_of {p:Bool} {v:Value} (h:v= .bool p):IsB (p=true) v:=by
 rw [h];cases p
 exact .inr ⟨by simp,rfl⟩
 exact .inl ⟨rfl,rfl⟩
def fitsN (D:List Cd) (s:Nat) (ms:List Int) (i k:Nat):Prop:= ∀j,j<k→s.testBit j=false→riC (dA D j) (dA D i) (ms.getD j 0) (ms.getD i 0)=true
theorem f156_c (m:Md Tryz.prog B) (h:Hp) (s:Nat) (hs:s<4096):FnC m 156 #[.int .u64 (s:Int)] h fun v h'=> ∃new,h'=h++new∧OwnS 3 1 v (jb6 s 12).length (jaI (jb6 s 12)) new:=by
 refine jaf Tryz.func156 rfl rfl (l:=(.int .u64 (s:Int))::uu16) rfl ?_
 intro cf cs K hK
 refine Z14 ?_
 refine jai (fun nn l h'=> ∃(k:Nat) (wp:Option Addr) (wc:Nat) (M:Hp),nn=12-k∧(k≤12)∧(OwnS 3 1 (.slice wp (jb6 s k).length wc) (jb6 s k).length (jaI (jb6 s k)) M)∧(∃U:Nat→Value,l=((.int .u64 (s:Int))::(U 1)::(U 2)::(.slice wp (jb6 s k).length wc)::(U 4)::(.int .i64 (k:Int))::vw11 U 6 []))∧h++M=h') _ ⟨0,none,0,[],rfl,by omega,OwnS.nil,exU rfl,zS⟩ ?_;rintro nn l h' ⟨k,wp,wc,M,rfl,hk,how,⟨U,rfl⟩,rfl⟩ hnext;have hkl:=jl7 s k
 refine Z2 ?_
 refine jao rfl zq (fun hc=>?_) (fun hc=>?_);refine Z6 ?_
 rotate_left
 refine Z4 ?_
 all_goals
  refine Z5 ?_
 ·refine Zs ?_;refine jad (h++M) rfl Tryz.func156 rfl jab ?_;refine Zs ?_
  obtain rfl:k=12:=by omega
  exact ⟨M,rfl,how⟩
 ·refine Z4 ?_;refine jag (Post:=fun v=>IsB _ v) rfl zq zK (fun H' hH=>f98_b m H' s k hs zO) ?_
  rintro v (⟨hc,rfl⟩|⟨hc,rfl⟩);refine Z6 ?_
  refine jdk kdq rfl zq zA zA rfl (fun q13=>jau (jae ?_));refine jbL rfl zq rfl how kdq zO zO (fun w9 n9 o9=>jae ?_);obtain ⟨p9,c9,rfl,hc9,r9⟩:=jav (B:=B) o9
  refine Z2 ?_
  rotate_left
  refine Z4 ?_
  all_goals
   refine Z5 ?_
  ·have hks:=keptI_no (mm:=s) (k:=k) (fun e=>hc ((jdB s k).1 e))
   rw [←hks];exact E19
  ·have hks:=jtE (mm:=s) (k:=k) ((jdB s k).2 hc)
   have hkl1:(jb6 s (k+1)).length=(jb6 s k).length+1:=by rw [hks];simp
   rw [←hkl1];exact m.weak jab (hnext _ _ _ zO ⟨k+1,p9,c9,n9,rfl,by omega,by rw [hkl1,hks,jcx];exact o9,exU rfl,rfl⟩)
theorem f139_c (m:Md Tryz.prog B) (h:Hp) {b:Tb} (sh:Sheet B h b q tv) (hi:i<(jaa b).length) (s:Nat) (hs:s<4096) (hm:ms.length=12):FnC m 139 #[.pointer (some ⟨q,0,none⟩),btV s ms,.int .i64 (i:Int)] h fun v h'=>h'=h∧IsB (fitsN (cdT b) s ms i i) v:=by
 have h12:=sh.twelve
 refine jaf Tryz.func139 rfl rfl (l:=(.pointer (some ⟨q,0,none⟩))::(btV s ms)::(.int .i64 (i:Int))::uu29) rfl ?_
 intro cf cs K hK
 refine Z2 ?_
 refine jaX rfl zq (fun q4=>jau (jae ?_));refine Z9 ?_
 refine jai (fun nn l h'=> ∃(k:Nat),nn=i-k∧(k≤i)∧(fitsN (cdT b) s ms i k)∧(∃U:Nat→Value,l=((.pointer (some ⟨q,0,none⟩))::(btV s ms)::(.int .i64 (i:Int))::(U 3)::(.pointer (some ⟨q4,0,none⟩))::(U 5)::(U 6)::(U 7)::(.int .i64 (i:Int))::(.int .i64 (k:Int))::vw22 U 10 []))∧h++[⟨true,q4,.cells (btL s ms).toArray 136 (0,0)⟩]=h') _ ⟨0,rfl,by omega,fun j hj=>absurd hj zO,exU rfl,rfl⟩ ?_;rintro nn l h' ⟨k,rfl,hk,hno,⟨U,rfl⟩,rfl⟩ hnext;refine Z2 ?_
 refine jao rfl zq (fun hc=>?_) (fun hc=>?_)
 ·refine Z12 ?_;refine jar [Zp 0,Zp 2,Zr 1,Zk 3,Zp 4,Zp 5,Zp 6,Zp 7,Zp 8,Zp 9,Zp 10,Zp 11,Zp 13,Zp 14,Zp 15,Zr 12,Zr 16,Zk 17,Zp 18] zK zK (List.Sublist.refl _) ?_;refine Z3 ?_;refine jag (Post:=fun v=>IsB _ v) rfl zq zK (fun H' hH=>f98_b m H' s k hs zO) ?_
  rintro v (⟨hc,rfl⟩|⟨hc,rfl⟩)
  ·refine Zs ?_
   have hbt:s.testBit k=true:=hc
   refine Z23 ?_
   exact m.weak jab (hnext _ _ _ zO ⟨k+1,rfl,by omega,fun j hj hb=>by
    by_cases e:j<k
    ·exact hno j e hb
    ·obtain rfl:j=k:=by omega
     first|(rw [hc] at hb;cases hb;done)|(rw [hbt] at hb;cases hb;done)|(have hf:=hc;rw [jgm] at hf;simpa using hf),exU rfl,rfl⟩)
  ·refine Zs ?_
   have hbf:s.testBit k=false:=by simpa using hc
   refine Z11 ?_;refine jaW rfl rfl (bt_at k zO) ?_;refine jaW rfl rfl (bt_at i zO) ?_;refine jag (Post:=fun v=>IsB _ v) rfl rfl zK (fun H' hH=>CallF.mono (f176_c m H' (sh.keeps (sq hH)) (i:=k) (k:=i) zO hi (ms.getD k 0) (ms.getD i 0)) fun v h' ⟨e1,e2⟩=>⟨e1,isB_of e2⟩) ?_
   rintro v (⟨hc,rfl⟩|⟨hc,rfl⟩)
   ·refine Z9 ?_;refine jad (h) rfl Tryz.func139 rfl jab ?_;refine Zs ?_
    refine ⟨rfl,IsB.no fun e=>?_⟩
    have:=e k zO hbf
    rw [jgm,this] at hc
    cases hc
   ·refine Z10 ?_
    exact m.weak jab (hnext _ _ _ zO ⟨k+1,rfl,by omega,fun j hj hb=>by
     by_cases e:j<k
     ·exact hno j e hb
     ·obtain rfl:j=k:=by omega
      first|(rw [hc] at hb;cases hb;done)|(rw [hbt] at hb;cases hb;done)|(have hf:=hc;rw [jgm] at hf;simpa using hf),exU rfl,rfl⟩)
 ·refine Z9 ?_;refine jad (h) rfl Tryz.func139 rfl jab ?_;refine Zs ?_
  obtain rfl:k=i:=by omega
  exact ⟨rfl,IsB.yes hno⟩
end
section
variable [LaidO B]
theorem jrV {D:List Cd} {x:Bo} {d:Cd} (h:x.length≤D.length):jam d v D x=jam d v (D.take x.length) x:=by
 have hl:x.length=(D.take x.length).length:=by rw [List.length_take];omega
 have:=jeY (d:=d) (v:=v) (C:=D.drop x.length) hl
 rwa [List.take_append_drop] at this
theorem jlb {D:List Cd} {x:Bo} (h:x.length<D.length) (h12:D.length≤12):fitsN D (jcf (x++[some v])) (jpX (x++[some v])) x.length x.length↔jam (dA D x.length) v D x=true:=by
 have hl:x.length=(D.take x.length).length:=by rw [List.length_take];omega
 rw [jrV zO,jd6 hl];have hv:(jpX (x++[some v])).getD x.length 0=v:=by
  rw [jgI zO,xA,List.getD_eq_getElem?_getD];simp
 have hj: ∀j,j<x.length→(jpX (x++[some v])).getD j 0=(xA x j).getD 0:=fun j hj=>by
  rw [jgI zO,xA,xA,List.getD_eq_getElem?_getD,List.getElem?_append_left hj,List.getD_eq_getElem?_getD]
 have hd: ∀j,j<x.length→dA (D.take x.length) j=dA D j:=fun j hj=>by
  rw [dA,dA,List.getD_eq_getElem?_getD,List.getElem?_take,if_pos hj,List.getD_eq_getElem?_getD]
 have hb: ∀j,j<x.length→((jcf (x++[some v])).testBit j=false↔ ∃u,xA x j=some u):=fun j hj=>by
  rw [jlk,jdf];cases hx:xA x j with
  |none=>simp [hj]
  |some u=>simp
 constructor
 ·intro hh j u hu
  have hjl:j<x.length:=Classical.byContradiction fun e=>by
   rw [xA,List.getD_eq_getElem?_getD,List.getElem?_eq_none zO] at hu
   cases hu
  have:=hh j hjl ((hb j hjl).2 ⟨u,hu⟩)
  rw [hv,hj j hjl,hu] at this
  rw [hd j hjl,jes];exact this
 ·intro hh j hjl hbj
  obtain ⟨u,hu⟩:=(hb j hjl).1 hbj
  have:=hh j u hu
  rw [hd j hjl,jes] at this
  rw [hv,hj j hjl,hu];exact this
theorem jiK (s:Str):(jbl s).length≤960:=by
 rw [jbl];split
 ·rw [jdJ,List.length_map];have:=List.length_filter_le (jcr (jal s)) (List.range 960)
  rwa [List.length_range] at this
 ·simp
theorem jh4 (b:Tb) (hi:i<(jaa b).length):(dA (cdT b) i).can.length≤960:=by
 rw [jaF b hi];exact jiK _
theorem bo_some {x:Bo} (h:x.length<12):SetSeg (boL x) (1+(x.length:Int).toNat*1) [.int .i64 v] (boL (x++[some v])):=by
 refine jd3 (by rw [ja2];omega) ?_
 rw [boL,boL,jlk,js6 h,show 1+(x.length:Int).toNat*1=x.length+1 by omega,List.set_cons_succ,List.map_set]
theorem juF {x:Bo} (h:x.length<12):SetSeg (boL x) 0 [.int .u64 ((jcf x|||2^x.length:Nat):Int)] (boL (x++[none])):=by
 refine jd3 (by rw [ja2];omega) ?_
 rw [boL,boL,jrR,js7 h,List.set_cons_zero]
instance {x:Bo}:Ones (boL x):=⟨juG x⟩
instance {x:Bo}:LenIs (boL x) 13:=⟨ja2 x⟩
instance {x:Bo}:At (boL x) 0 (.int .u64 (jcf x:Int)):=⟨rfl⟩
theorem seg_all (h:l.length=n):Seg l 0 n l:=⟨by rw [List.drop_zero];exact List.take_of_length_le zO,h⟩
instance {x:Bo}:Seg (boL x) 0 13 (boL x):=seg_all (ja2 x)
theorem jkP {r:List Value} (h:l.length=r.length):SetSeg l 0 r r:=⟨by rw [List.drop_eq_nil_of_le zO];simp,by omega⟩
instance {v1 v2 v3 v4 v5 v6 v7 v8 v9 v10 v11 v12 v13:Value} {x:Bo}:SetSeg [v1,v2,v3,v4,v5,v6,v7,v8,v9,v10,v11,v12,v13] 0 (boL x) (boL x):=jkP (by rw [ja2];rfl)
theorem CallV.fn' {P:Program} {m:Md P B} {f:FuncId} {first cap vs:Array Value} {Post:Value→Hp→Prop} (hf:jcF P f=true) (e:first++args.toArray++cap=vs) (c:FnC m f vs h Post):CallV m (.func (.func f) first cap) args h Post:=CallV.fn hf (e▸c)
theorem jiU:jcF Tryz.prog 180=true:=by kernel_rfl
def EachO {P:Program} {B:Array Obj} (m:Md P B) (h0:Hp) (G:List Bo) (N:Nat) (yv:Value) (YI:List Bo→Hp→Prop) (YS:Hp→Prop):Prop:=
 ∀(F R:Hp) (dn:List Bo) (x:Bo),h0.Sublist F→x∈G→dn.length<N→YI dn R→CallV m yv [boV x] (F++R) fun v h'=> ∃R',h'=F++R'∧((v= .bool true∧YI (dn++[x]) R')∨(v= .bool false∧YS R'))
theorem f180_c (m:Md Tryz.prog B) {b:Tb} (sh:Sheet B h0 b q tv) {qm:Nat} (rx:Rd B h0 ⟨qx,0,none⟩ (.pointer (some ⟨q,0,none⟩))) {can:Nat} (rm:Rd B h0 ⟨qm,0,none⟩ (.int .u64 (must:Int))) (rc:Rd B h0 ⟨qc,0,none⟩ (.int .u64 (can:Int))) (hmu:must<4096) (hca:can<4096) [CellsV yv [yv]] {G:List Bo} (hY:EachO m h0 G N yv YI YS) (qy qn:Nat):
  ∀(d w:Nat) (x:Bo) (dn:List Bo) (X R:Hp),x.length+d=(jaa b).length→w≤100→(∀y∈jeE (cdT b) can must d w x,y∈G)→dn.length+(jeE (cdT b) can must d w x).length≤N→YI dn R→
   FnC m 180 #[boV x,.int .i64 (x.length:Int),.int .i64 (w:Int),.pointer (some ⟨qx,0,none⟩),.pointer (some ⟨qy,0,none⟩),.pointer (some ⟨qm,0,none⟩),.pointer (some ⟨qn,0,none⟩),.pointer (some ⟨qc,0,none⟩)] (((h0++[⟨true,qy,.cells [yv].toArray 220 (0,0)⟩,⟨true,qn,.cells [.func (.func 180) #[] [.pointer (some ⟨qx,0,none⟩),.pointer (some ⟨qy,0,none⟩),.pointer (some ⟨qm,0,none⟩),.pointer (some ⟨qn,0,none⟩),.pointer (some ⟨qc,0,none⟩)].toArray].toArray 221 (0,0)⟩])++X)++R) fun v h'=> ∃R',h'=((h0++[⟨true,qy,.cells [yv].toArray 220 (0,0)⟩,⟨true,qn,.cells [.func (.func 180) #[] [.pointer (some ⟨qx,0,none⟩),.pointer (some ⟨qy,0,none⟩),.pointer (some ⟨qm,0,none⟩),.pointer (some ⟨qn,0,none⟩),.pointer (some ⟨qc,0,none⟩)].toArray].toArray 221 (0,0)⟩])++X)++R'∧((v= .bool true∧YI (dn++jeE (cdT b) can must d w x) R')∨(v= .bool false∧YS R')):=by
 intro d
 induction d using Nat.strongRecOn
 rename_i d ih
 intro w x dn X R hid hw hok hdn hR
 have h12:=sh.twelve
 obtain ⟨pc,cc0,hcv,hcc,hcr0⟩:=sh.cells
 refine jaf Tryz.func180 rfl rfl (l:=(boV x)::(.int .i64 (x.length:Int))::(.int .i64 (w:Int))::(.pointer (some ⟨qx,0,none⟩))::(.pointer (some ⟨qy,0,none⟩))::(.pointer (some ⟨qm,0,none⟩))::(.pointer (some ⟨qn,0,none⟩))::(.pointer (some ⟨qc,0,none⟩))::uu71) rfl ?_
 intro cf cs K hK
 refine Z2 ?_
 refine jaX rfl zq (fun q8=>jnA (Weak.mid ((h0++[⟨true,qy,.cells [yv].toArray 220 (0,0)⟩,⟨true,qn,.cells [.func (.func 180) #[] [.pointer (some ⟨qx,0,none⟩),.pointer (some ⟨qy,0,none⟩),.pointer (some ⟨qm,0,none⟩),.pointer (some ⟨qn,0,none⟩),.pointer (some ⟨qc,0,none⟩)].toArray].toArray 221 (0,0)⟩])++X) R _) (jae ?_));refine Z6 ?_;refine D116 ?_;refine Z2 ?_;refine D66 ?_;refine Zs ?_
 refine jaS rfl zq (fun hc=>?_) (fun hc=>?_)
 ·obtain rfl:d=0:=by omega
  have hgn:jeE (cdT b) can must 0 w x=[x]:=rfl
  rw [hgn] at hdn hok
  refine Z6 ?_
  have hcv2:=hY (((h0++[⟨true,qy,.cells [yv].toArray 220 (0,0)⟩,⟨true,qn,.cells [.func (.func 180) #[] [.pointer (some ⟨qx,0,none⟩),.pointer (some ⟨qy,0,none⟩),.pointer (some ⟨qm,0,none⟩),.pointer (some ⟨qn,0,none⟩),.pointer (some ⟨qc,0,none⟩)].toArray].toArray 221 (0,0)⟩])++X)++[⟨true,q8,.cells (boL x).toArray 136 (0,0)⟩]) R dn x zS (hok x zS) (by simp at hdn;omega) hR
  refine jhU rfl zq hcv2 ?_;rintro v h' ⟨R2,rfl,hh⟩;refine Z4 ?_;refine D10 ?_;refine Zs ?_
  exact ⟨R2,rfl,by rw [hgn];exact hh⟩
 ·obtain ⟨d1,rfl⟩: ∃d1,d=d1+1:=⟨d-1,by omega⟩
  have hxl:x.length<(jaa b).length:=by omega
  have hx12:x.length<12:=by omega
  have hbs:=jdr (x:=x) zO
  refine Z6 ?_;refine jaW rfl zq (rm.keeps SubH.sub) ?_;refine Zs ?_;refine jag (Post:=fun v=>IsB _ v) rfl zq zK (fun H' hH=>f98_b m H' must x.length hmu hx12) ?_
  rintro v (⟨hc,rfl⟩|⟨hc,rfl⟩)
  ·refine Zs ?_
   have hmb:must.testBit x.length=true:=hc
   have hgm:=jnU (D:=cdT b) (can:=can) (f:=d1) (w:=w) hmb
   refine Z6 ?_
   first
    |have hpre: ∃pre,jeE (cdT b) can must (d1+1) w x=pre++(if w=0∨can.testBit x.length=false then [] else jeE (cdT b) can must d1 (w-1) (x++[none]))∧YI (dn++pre) R1:=⟨_,hgf j zO,hR1⟩
    |have hpre: ∃pre,jeE (cdT b) can must (d1+1) w x=pre++(if w=0∨can.testBit x.length=false then [] else jeE (cdT b) can must d1 (w-1) (x++[none]))∧YI (dn++pre) R:=⟨[],hgm,by rw [List.append_nil];exact hR⟩
   obtain ⟨pre,hgp,hRp⟩:=hpre
   refine Z2 ?_
   refine jaS rfl zq (fun hc=>?_) (fun hc=>?_)
   ·refine Z13 ?_;refine D25 ?_;refine Zs ?_
    exact E50
   ·refine Zs ?_;refine jaW rfl rfl (rc.keeps SubH.sub) ?_;refine Zs ?_;refine jag (Post:=fun v=>IsB _ v) rfl rfl zK (fun H' hH=>f98_b m H' can x.length hca hx12) ?_
    rintro v (⟨hc,rfl⟩|⟨hc,rfl⟩)
    ·refine Z11 ?_;refine D79 ?_
     rintro v rfl;refine Z2 ?_
     haveI hsn:=juF (x:=x) hx12
     refine D9 ?_;refine Z9 ?_
     have hw1:w≠0:=by omega
     have hcb:can.testBit x.length=true:=by assumption
     have hgg:(if w=0∨can.testBit x.length=false then [] else jeE (cdT b) can must d1 (w-1) (x++[none]))=jeE (cdT b) can must d1 (w-1) (x++[none]):=if_neg (by rw [hcb];simp;exact hw1)
     have hrec:=ih d1 zO (w-1) (x++[none]) (dn++pre) (X++[⟨true,q8,.cells (boL (x++[none])).toArray 136 (0,0)⟩]) _ zN zO (fun y hy=>hok y (by
      rw [hgp,hgg];exact List.mem_append_right _ hy)) (by
      rw [hgp,hgg,List.length_append] at hdn
      rw [List.length_append];omega) hRp
     rw [show (((x++[none]:Bo).length:Nat):Int)=(x.length:Int)+1 by simp,show ((w-1:Nat):Int)=(w:Int)-1 by omega,←List.append_assoc (h0++_) X] at hrec
     have hcv2:=CallV.fn' (first:= #[]) (args:=[boV (x++[none]),.int .i64 ((x.length:Int)+1),.int .i64 ((w:Int)-1)]) (cap:=[Value.pointer (some ⟨qx,0,none⟩),Value.pointer (some ⟨qy,0,none⟩),Value.pointer (some ⟨qm,0,none⟩),Value.pointer (some ⟨qn,0,none⟩),Value.pointer (some ⟨qc,0,none⟩)].toArray) jiU zS hrec
     refine jhU rfl zq hcv2 ?_;clear hcv2 hrec
     rintro v h' ⟨R2,rfl,hh⟩;refine Z4 ?_;refine D10 ?_;refine Zs ?_
     exact ⟨R2,rfl,by rw [hgp,hgg,←List.append_assoc];exact hh⟩
    ·refine D124 ?_;refine Z8 ?_;refine D25 ?_;refine Zs ?_
     exact E50
  ·refine Zs ?_
   have hmb:must.testBit x.length=false:=by simpa using hc
   have hgf:=fun j=>jt7 (D:=cdT b) (can:=can) (f:=d1) (w:=w) (j:=j) hmb
   obtain ⟨cp,cc,hcan,hccl,hcr⟩:=sh.can x.length hxl
   have h960:=jh4 b hxl
   have hcan2:Rd B h0 ⟨q,18+(x.length:Int).toNat*1,none⟩ (.slice cp (dA (cdT b) x.length).can.length cc):=by rw [Int.toNat_natCast,Nat.mul_one];exact hcan
   refine Z5 ?_;refine D116 ?_;refine Z4 ?_;refine jaW rfl zq (hcan2.keeps SubH.sub) ?_;refine Z4 ?_
   refine jai (fun nn l h'=> ∃(j:Nat) (R1:Hp),nn=(dA (cdT b) x.length).can.length-j∧(j≤(dA (cdT b) x.length).can.length)∧(YI (dn++jhj (cdT b) can must d1 w x j) R1)∧(∃U:Nat→Value,l=((boV x)::(.int .i64 (x.length:Int))::(.int .i64 (w:Int))::(.pointer (some ⟨qx,0,none⟩))::(.pointer (some ⟨qy,0,none⟩))::(.pointer (some ⟨qm,0,none⟩))::(.pointer (some ⟨qn,0,none⟩))::(.pointer (some ⟨qc,0,none⟩))::(.pointer (some ⟨q8,0,none⟩))::vw25 U 9 ((.slice cp (dA (cdT b) x.length).can.length cc)::(.int .i64 ((dA (cdT b) x.length).can.length:Int))::(.int .i64 (j:Int))::vw42 U 37 [])))∧(((h0++[⟨true,qy,.cells [yv].toArray 220 (0,0)⟩,⟨true,qn,.cells [.func (.func 180) #[] [.pointer (some ⟨qx,0,none⟩),.pointer (some ⟨qy,0,none⟩),.pointer (some ⟨qm,0,none⟩),.pointer (some ⟨qn,0,none⟩),.pointer (some ⟨qc,0,none⟩)].toArray].toArray 221 (0,0)⟩])++X)++[⟨true,q8,.cells (boL x).toArray 136 (0,0)⟩])++R1=h') _ ⟨0,R,rfl,by omega,by rw [jrF,List.append_nil];exact hR,exU rfl,rfl⟩ ?_;rintro nn l h' ⟨j,R1,rfl,hj,hR1,⟨U,rfl⟩,rfl⟩ hnext1;refine Z2 ?_
   refine jao rfl zq (fun hc=>?_) (fun hc=>?_)
   ·refine Z7 ?_
    obtain ⟨cpb,cpo,hcp⟩:=hcr.ptr zO
    have hcr':=hcr
    rw [hcp] at hcr'
    refine Zs ?_;refine jcq rfl zq hcp zO zO ?_;refine jaW rfl zq (hcr'.iat j zO zO) ?_;refine Z5 ?_
    refine jax rfl zq (fun q14=>jnA (Weak.mid (((h0++[⟨true,qy,.cells [yv].toArray 220 (0,0)⟩,⟨true,qn,.cells [.func (.func 180) #[] [.pointer (some ⟨qx,0,none⟩),.pointer (some ⟨qy,0,none⟩),.pointer (some ⟨qm,0,none⟩),.pointer (some ⟨qn,0,none⟩),.pointer (some ⟨qc,0,none⟩)].toArray].toArray 221 (0,0)⟩])++X)++[⟨true,q8,.cells (boL x).toArray 136 (0,0)⟩]) R1 _) (jae ?_));refine jnB rfl zq (ja2 x) ?_;refine Z7 ?_;haveI hss:=bo_some (x:=x) (v:=((dA (cdT b) x.length).can.getD j 0)) hx12
    refine D9 ?_;refine Z2 ?_;refine rr13 ?_;refine D116 ?_;refine Z2 ?_;refine jag (Post:=fun v=>IsB _ v) rfl zq zK (fun H' hH=>f139_c m H' (sh.keeps (sq hH)) hxl (jcf (x++[some ((dA (cdT b) x.length).can.getD j 0)])) (jdr zN) (ms:=jpX (x++[some ((dA (cdT b) x.length).can.getD j 0)])) (jch _)) ?_
    rintro v (⟨hc,rfl⟩|⟨hc,rfl⟩)
    ·refine Zs ?_
     have hag:=(jlb (by rw [jaq];exact hxl) (by rw [jaq];exact h12)).1 hc
     have hgs:=jt8 (D:=cdT b) (can:=can) (must:=must) (f:=d1) (w:=w) (j:=j) zO hag
     refine Z4 ?_;refine jrz rfl rfl (by unfold jfx;omega) ?_;refine Zs ?_
     have hle:=genMJ_le (D:=cdT b) (can:=can) (f:=d1) (w:=w) (j:=j+1) hmb
     have hgfl:=hgf _ (Nat.le_refl _)
     have hrec:=ih d1 zO w (x++[some ((dA (cdT b) x.length).can.getD j 0)]) (dn++jhj (cdT b) can must d1 w x j) (X++([⟨true,q8,.cells (boL x).toArray 136 (0,0)⟩]++[⟨true,q14,.cells (boL (x++[some ((dA (cdT b) x.length).can.getD j 0)])).toArray 136 (0,0)⟩])) R1 zN hw (fun y hy=>hok y (by
      rw [hgfl];refine List.mem_append_left _ ?_
      rw [jla (Nat.le_refl _)];refine List.mem_flatMap.2 ⟨_,List.mem_filter.2 ⟨?_,hag⟩,hy⟩
      rw [List.getD_eq_getElem?_getD,List.getElem?_eq_getElem zO];exact E52)) (by
      rw [hgs,List.length_append] at hle
      rw [List.length_append];omega) hR1
     rw [show (((x++[some ((dA (cdT b) x.length).can.getD j 0)]).length:Nat):Int)=(x.length:Int)+1 by simp,←List.append_assoc (h0++_) X,←List.append_assoc (_++X) _ _] at hrec
     have hcv2:=CallV.fn' (first:= #[]) (args:=[boV (x++[some ((dA (cdT b) x.length).can.getD j 0)]),.int .i64 ((x.length:Int)+1),.int .i64 (w:Int)]) (cap:=[Value.pointer (some ⟨qx,0,none⟩),Value.pointer (some ⟨qy,0,none⟩),Value.pointer (some ⟨qm,0,none⟩),Value.pointer (some ⟨qn,0,none⟩),Value.pointer (some ⟨qc,0,none⟩)].toArray) jiU zS hrec
     refine jhU rfl rfl hcv2 ?_;clear hcv2 hrec
     rintro v h' ⟨R2,rfl,(⟨rfl,hR2⟩|⟨rfl,hR2⟩)⟩
     ·refine Z11 ?_
      exact m.weak jab (hnext1 _ _ _ zO ⟨j+1,R2,rfl,by omega,by rw [hgs,←List.append_assoc];exact hR2,exU rfl,rfl⟩)
     ·refine D124 ?_;refine Z8 ?_;refine D10 ?_;refine Zs ?_
      exact ⟨R2,rfl,.inr ⟨rfl,hR2⟩⟩
    ·refine Zs ?_
     have hag:jam (dA (cdT b) x.length) ((dA (cdT b) x.length).can.getD j 0) (cdT b) x=false:=by
      cases e:jam (dA (cdT b) x.length) ((dA (cdT b) x.length).can.getD j 0) (cdT b) x with
      |false=>rfl
      |true=>exact absurd ((jlb (by rw [jaq];exact hxl) (by rw [jaq];exact h12)).2 e) hc
     have hgs:=genMJ_no (D:=cdT b) (can:=can) (must:=must) (f:=d1) (w:=w) (j:=j) zO hag
     refine Z17 ?_
     exact m.weak jab (hnext1 _ _ _ zO ⟨j+1,R1,rfl,by omega,by rw [hgs];exact hR1,exU rfl,rfl⟩)
   ·refine Z6 ?_
    first
     |have hpre: ∃pre,jeE (cdT b) can must (d1+1) w x=pre++(if w=0∨can.testBit x.length=false then [] else jeE (cdT b) can must d1 (w-1) (x++[none]))∧YI (dn++pre) R1:=⟨_,hgf j zO,hR1⟩
     |have hpre: ∃pre,jeE (cdT b) can must (d1+1) w x=pre++(if w=0∨can.testBit x.length=false then [] else jeE (cdT b) can must d1 (w-1) (x++[none]))∧YI (dn++pre) R:=⟨[],hgm,by rw [List.append_nil];exact hR⟩
    obtain ⟨pre,hgp,hRp⟩:=hpre
    refine Z2 ?_
    refine jaS rfl zq (fun hc=>?_) (fun hc=>?_)
    ·refine Z13 ?_;refine D24 ?_;refine Zs ?_
     exact E50
    ·refine Zs ?_;refine jaW rfl rfl (rc.keeps SubH.sub) ?_;refine Zs ?_;refine jag (Post:=fun v=>IsB _ v) rfl rfl zK (fun H' hH=>f98_b m H' can x.length hca hx12) ?_
     rintro v (⟨hc,rfl⟩|⟨hc,rfl⟩)
     ·refine Z11 ?_;refine D79 ?_
      rintro v rfl;refine Z2 ?_
      haveI hsn:=juF (x:=x) hx12
      refine D9 ?_;refine Z9 ?_
      have hw1:w≠0:=by omega
      have hcb:can.testBit x.length=true:=by assumption
      have hgg:(if w=0∨can.testBit x.length=false then [] else jeE (cdT b) can must d1 (w-1) (x++[none]))=jeE (cdT b) can must d1 (w-1) (x++[none]):=if_neg (by rw [hcb];simp;exact hw1)
      have hrec:=ih d1 zO (w-1) (x++[none]) (dn++pre) (X++[⟨true,q8,.cells (boL (x++[none])).toArray 136 (0,0)⟩]) _ zN zO (fun y hy=>hok y (by
       rw [hgp,hgg];exact List.mem_append_right _ hy)) (by
       rw [hgp,hgg,List.length_append] at hdn
       rw [List.length_append];omega) hRp
      rw [show (((x++[none]:Bo).length:Nat):Int)=(x.length:Int)+1 by simp,show ((w-1:Nat):Int)=(w:Int)-1 by omega,←List.append_assoc (h0++_) X] at hrec
      have hcv2:=CallV.fn' (first:= #[]) (args:=[boV (x++[none]),.int .i64 ((x.length:Int)+1),.int .i64 ((w:Int)-1)]) (cap:=[Value.pointer (some ⟨qx,0,none⟩),Value.pointer (some ⟨qy,0,none⟩),Value.pointer (some ⟨qm,0,none⟩),Value.pointer (some ⟨qn,0,none⟩),Value.pointer (some ⟨qc,0,none⟩)].toArray) jiU zS hrec
      refine jhU rfl zq hcv2 ?_;clear hcv2 hrec
      rintro v h' ⟨R2,rfl,hh⟩;refine Z4 ?_;refine D10 ?_;refine Zs ?_
      exact ⟨R2,rfl,by rw [hgp,hgg,←List.append_assoc];exact hh⟩
     ·refine D124 ?_;refine Z8 ?_;refine D24 ?_;refine Zs ?_
      exact E50
end
section
variable [LaidO B]
theorem jls {h' F1 L:Hp} [a:Off h' L F1] [s:SubH H F1]:Weak B h' (H++L):=(Weak.perm a.perm).trans ((Weak.sub s.sub).apps L)
theorem weak_beg (F nw:Hp) (a b c d:Chunk):Weak B ((F++[a,b])++c::(nw++[d])) (F++[a,b,c,d]++nw):=Weak.perm (by
 rw [List.append_assoc,List.append_assoc];refine List.Perm.append_left F ?_
 show (a::b::c::(nw++[d])).Perm (a::b::c::d::nw)
 exact .cons _ (.cons _ (.cons _ (List.perm_append_comm (l₁:=nw) (l₂:=[d])))))
theorem weak179 (h0 R:Hp) (y n:Chunk):Weak B ((h0++R)++[y,n]) (((h0++[y,n])++[])++R):=Weak.perm (by
 rw [List.append_nil,List.append_assoc,List.append_assoc];exact List.Perm.append_left h0 List.perm_append_comm)
theorem negs_smu (s:Str):negs (jal s)=jb0 s:=by
 rw [negs,jb0];refine List.countP_congr fun x hx=>?_
 obtain ⟨j,hj,rfl⟩:=List.mem_iff_getElem.1 hx
 have:=(jbi s).lo j
 rw [List.getD_eq_getElem?_getD,List.getElem?_eq_getElem hj] at this
 simp only [Option.getD_some] at this
 simp only [decide_eq_true_eq]
 omega
theorem smuF_nil:jb0 []=0:=by decide
theorem smu_line {l:Ln} (h:l.figs.length≤n):((List.range n).map fun j=>jb0 (l.figs.getD j [])).sum=jcQ l:=by
 rw [jcQ,←jkq (l.figs.map jb0) n (by simpa using h)];congr 1
 refine List.map_congr_left fun j _=>?_
 simp only [List.getD_eq_getElem?_getD,List.getElem?_map]
 cases l.figs[j]? with
 |none=>simp [smuF_nil]
 |some f=>rfl
theorem jm3:jcQ default=0:=by decide
theorem jsy {ls:List Ln} (h:ls.length≤2):jcQ (ls.getD 0 default)+jcQ (ls.getD 1 default)=jb1 ls:=by
 match ls,h with
 |[],_=>decide
 |[a],_=>simp [jb1,jm3]
 |[a,c],_=>simp [jb1]
theorem jsA {b:Tb} (k:TbOk b):((jaa b).map fun c=>jb0 (jbo b c)).sum≤2:=by
 have h1:((jaa b).map fun c=>jb0 (jbo b c)).sum≤((jcu b.sts.length).map fun c=>jb0 (jbo b c)).sum:=by
  rw [jbq];exact jgY _ _ _
 have row: ∀(bt:Bool) (i:Nat),((jmz b.sts.length bt i).map fun c=>jb0 (jbo b c)).sum=jcQ ((jap b bt).getD i default):=by
  intro bt i
  have hl:((jap b bt).getD i default).figs.length≤b.sts.length:=by
   by_cases hi:i<(jap b bt).length
   ·rw [((k.lines bt).ok _ (jah hi)).len];exact Nat.le_refl _
   ·rw [List.getD_eq_getElem?_getD,List.getElem?_eq_none zO];exact Nat.zero_le _
  rw [←smu_line hl,jmz,List.map_map];congr 1
 have h2:((jcu b.sts.length).map fun c=>jb0 (jbo b c)).sum=jb1 b.waters+jb1 b.butts:=by
  rw [jcu];simp only [List.map_append,List.sum_append,row]
  rw [show jap b false=b.waters from rfl,show jap b true=b.butts from rfl,jsy k.waters.two,jsy k.butts.two]
 have:=k.smu
 omega
theorem meaS_12 (s:Str):(jbl s).length≤12^jb0 s:=by
 rw [jbl];split
 ·rw [←negs_smu];exact meaP_12 (jbi s).len
 ·exact Nat.zero_le _
theorem prod_144 {b:Tb} (k:TbOk b):jgk (cdT b)≤144:=by
 have gen: ∀l:List Ce,jgk (l.map (jcI b))≤12^(l.map fun c=>jb0 (jbo b c)).sum:=by
  intro l
  induction l with
  |nil=>simp [jgk]
  |cons c l ih=>
   rw [List.map_cons,jgk,List.map_cons,List.sum_cons,Nat.pow_add];refine Nat.mul_le_mul ?_ ih
   have h1:=meaS_12 (jbo b c)
   have h2:1≤12^jb0 (jbo b c):=Nat.pow_pos zO
   show max 1 (jbl (jbo b c)).length≤_
   omega
 refine Nat.le_trans (gen _) ?_
 have:=Nat.pow_le_pow_right (show 0<12 by omega) (jsA k)
 exact this
theorem jbC {b:Tb} (k:TbOk b):(jac b).length≤12000:=by
 have h1:=jh6 (cdT b) b.wrong.toNat
 have h2:=prod_144 k
 have h3:jjb (cdT b).length b.wrong.toNat≤jjb 12 2:=jfC (by rw [jaq];exact jbH k) (by have:=k.wrong;omega)
 have h4:jjb 12 2=79:=by decide
 have h5:=Nat.mul_le_mul (Nat.le_trans h3 (Nat.le_of_eq h4)) h2
 rw [jac];omega
instance {a:List Value}:AppL a [] a:=⟨List.append_nil a⟩
theorem juo {x:Bo}:jaC [x]=boL x:=by simp [jaC,Enc.enc]
abbrev B4 (q qx qw qc qm w can must:Nat):Hp:=[⟨true,qx,.cells [.pointer (some ⟨q,0,none⟩)].toArray 109 (0,0)⟩,⟨true,qw,.cells [.int .i64 (w:Int)].toArray 3 (0,0)⟩,⟨true,qc,.cells [.int .u64 (can:Int)].toArray 134 (0,0)⟩,⟨true,qm,.cells [.int .u64 (must:Int)].toArray 134 (0,0)⟩]
theorem B4.x {qm w can:Nat}:Rd B (h++B4 q qx qw qc qm w can must) ⟨qx,0,none⟩ (.pointer (some ⟨q,0,none⟩)):=Rd.held (c:=[.pointer (some ⟨q,0,none⟩)].toArray) (t:=109) (f:=(0,0)) (rw:=true) (List.mem_append_right _ List.mem_cons_self) rfl
theorem B4.w {qm w can:Nat}:Rd B (h++B4 q qx qw qc qm w can must) ⟨qw,0,none⟩ (.int .i64 (w:Int)):=Rd.held (c:=[.int .i64 (w:Int)].toArray) (t:=3) (f:=(0,0)) (rw:=true) (List.mem_append_right _ (List.mem_cons_of_mem _ List.mem_cons_self)) rfl
theorem B4.c {qm w can:Nat}:Rd B (h++B4 q qx qw qc qm w can must) ⟨qc,0,none⟩ (.int .u64 (can:Int)):=Rd.held (c:=[.int .u64 (can:Int)].toArray) (t:=134) (f:=(0,0)) (rw:=true) (List.mem_append_right _ (List.mem_cons_of_mem _ (List.mem_cons_of_mem _ List.mem_cons_self))) rfl
theorem B4.m {qm w can:Nat}:Rd B (h++B4 q qx qw qc qm w can must) ⟨qm,0,none⟩ (.int .u64 (must:Int)):=Rd.held (c:=[.int .u64 (must:Int)].toArray) (t:=134) (f:=(0,0)) (rw:=true) (List.mem_append_right _ (List.mem_cons_of_mem _ (List.mem_cons_of_mem _ (List.mem_cons_of_mem _ List.mem_cons_self)))) rfl
theorem f148_c (m:Md Tryz.prog B) (h:Hp) {w can:Nat}:FnC m 148 #[.pointer (some ⟨q,0,none⟩),.int .i64 (w:Int),.int .u64 (can:Int),.int .u64 (must:Int)] h fun v h'=> ∃qx qw qc qm,h'=h++B4 q qx qw qc qm w can must∧v= .func (.func 179) #[] [.pointer (some ⟨qx,0,none⟩),.pointer (some ⟨qm,0,none⟩),.pointer (some ⟨qc,0,none⟩),.pointer (some ⟨qw,0,none⟩)].toArray:=by
 refine jaf Tryz.func148 rfl rfl (l:=(.pointer (some ⟨q,0,none⟩))::(.int .i64 (w:Int))::(.int .u64 (can:Int))::(.int .u64 (must:Int))::uu6) rfl ?_
 intro cf cs K hK
 refine Z2 ?_
 refine jaX rfl zq (fun qx=>jau (jae ?_));refine jaX rfl zq (fun qw=>jau (jae ?_));refine jaX rfl zq (fun qc=>jau (jae ?_));refine jaX rfl zq (fun qm=>jau (jae ?_));refine Z4 ?_;refine jiB rfl zq ?_;refine Z3 ?_;refine jad (h++B4 q qx qw qc qm w can must) rfl Tryz.func148 rfl jab ?_;refine Zs ?_
 exact ⟨qx,qw,qc,qm,rfl,rfl⟩
theorem f179_c (m:Md Tryz.prog B) {b:Tb} (sh:Sheet B h0 b q tv) {qm:Nat} (rx:Rd B h0 ⟨qx,0,none⟩ (.pointer (some ⟨q,0,none⟩))) {can:Nat} (rm:Rd B h0 ⟨qm,0,none⟩ (.int .u64 (must:Int))) (rc:Rd B h0 ⟨qc,0,none⟩ (.int .u64 (can:Int))) (hmu:must<4096) (hca:can<4096) {w:Nat} (rw:Rd B h0 ⟨qw,0,none⟩ (.int .i64 (w:Int))) (hw:w≤100) [CellsV yv [yv]] {G:List Bo} (hY:EachO m h0 G N yv YI YS) (hG:G=jeE (cdT b) can must (jaa b).length w []) (hN:G.length≤N) {R:Hp} (hR:YI [] R):
  FnC m 179 #[yv,.pointer (some ⟨qx,0,none⟩),.pointer (some ⟨qm,0,none⟩),.pointer (some ⟨qc,0,none⟩),.pointer (some ⟨qw,0,none⟩)] (h0++R) fun v h'=>v= .tuple [].toArray∧ ∃R',h'=h0++R'∧(YI G R'∨YS R'):=by
 refine jaf Tryz.func179 rfl rfl (l:=yv::(.pointer (some ⟨qx,0,none⟩))::(.pointer (some ⟨qm,0,none⟩))::(.pointer (some ⟨qc,0,none⟩))::(.pointer (some ⟨qw,0,none⟩))::uu7) rfl ?_
 intro cf cs K hK
 refine Z2 ?_
 refine jaX rfl zq (fun qy=>jau (jae ?_));refine Z3 ?_
 refine jax rfl zq (fun qn=>jau (jae ?_));refine Z3 ?_;refine jiB rfl zq ?_;refine D9 ?_;refine Z3 ?_;refine D37 ?_;refine jaW rfl zq (rw.keeps SubH.sub) ?_;refine jnA (weak179 h0 R _ _) ?_
 have hw2:=f180_c m sh rx rm rc hmu hca hY qy qn (jaa b).length w [] [] [] R zS hw (fun y hy=>hG▸hy) (by rw [←hG];simpa using hN) hR
 rw [←hG,List.nil_append] at hw2
 have hcv:=CallV.fn' (first:= #[]) (args:=[boV [],.int .i64 0,.int .i64 (w:Int)]) (cap:=[Value.pointer (some ⟨qx,0,none⟩),Value.pointer (some ⟨qy,0,none⟩),Value.pointer (some ⟨qm,0,none⟩),Value.pointer (some ⟨qn,0,none⟩),Value.pointer (some ⟨qc,0,none⟩)].toArray) jiU zS hw2
 refine jhU rfl zq hcv ?_;clear hcv hw2
 rintro v h' ⟨R2,rfl,hh⟩;refine Z2 ?_;refine jdm rfl ?_;refine jad (h0++R2) rfl Tryz.func179 rfl jab ?_;refine Zs ?_
 exact ⟨rfl,R2,rfl,hh.elim (fun h=> .inl h.2) (fun h=> .inr h.2)⟩
theorem f96_c (m:Md Tryz.prog B) (h:Hp) {b:Tb} (sh:Sheet B h b q [.int .i64 b.wrong,a1,a2,a3]) (hk:TbOk b):FnC m 96 #[.pointer (some ⟨q,0,none⟩)] h fun v h'=> ∃nw,h'=h++nw∧OwnS 136 13 v (jac b).length (jaC (jac b)) nw:=by
 have hwr:=hk.wrong
 refine jaf Tryz.func96 rfl rfl (l:=(.pointer (some ⟨q,0,none⟩))::uu19) rfl ?_
 intro cf cs K hK
 refine Z6 ?_
 refine jax rfl zq (fun q3=>jau (jae ?_));refine Z3 ?_;refine jar [Zp 0,Zp 1,Zp 2,Zp 3,Zp 4,Zp 5,Zr 6,Zk 7,Zk 8] zK zK (List.Sublist.refl _) ?_;refine Z6 ?_;refine jaW rfl zq ((sh.tb 0 zS).keeps SubH.sub) ?_;refine jag (Post:=fun v=>v=_) rfl zq zK (fun H' hH=>f106_c m H' 12 zO) ?_
 rintro v rfl;refine Zs ?_
 refine jaD (Post:=fun v nw=> ∃qx qw qc qm,nw=B4 q qx qw qc qm b.wrong.toNat 4095 0∧v= .func (.func 179) #[] [.pointer (some ⟨qx,0,none⟩),.pointer (some ⟨qm,0,none⟩),.pointer (some ⟨qc,0,none⟩),.pointer (some ⟨qw,0,none⟩)].toArray) rfl zq zK (fun H' hH=>by
  have h1:=f148_c m H' (q:=q) (w:=b.wrong.toNat) (can:=4095) (must:=0)
  rw [show ((b.wrong.toNat:Nat):Int)=b.wrong by omega] at h1
  exact CallF.mono h1 fun v h' ⟨qx,qw,qc,qm,e1,e2⟩=>⟨_,e1,qx,qw,qc,qm,rfl,e2⟩) ?_
 rintro v _ ⟨qx,qw,qc,qm,rfl,rfl⟩;refine Zs ?_;refine jnA (Weak.mid h [⟨true,q3,.cells [.slice none 0 0].toArray 110 (0,0)⟩] (B4 q qx qw qc qm b.wrong.toNat 4095 0)) ?_;refine Z2 ?_
 refine jkR rfl rfl zK (fun q11 q12=>?_);generalize hrec:jgS _ _ _ _ _ _ LoopState.ready=rec0
 have hY:EachO m (h++B4 q qx qw qc qm b.wrong.toNat 4095 0) (jac b) 12000 (.func (.yield q12) #[] #[]) (fun dn R=> ∃bp bc nw,R=[⟨true,q3,.cells [.slice bp dn.length bc].toArray 110 (0,0)⟩,⟨true,q11,.deferred (some [])⟩,⟨true,q12,rec0⟩]++nw∧OwnS 136 13 (.slice bp dn.length bc) dn.length (jaC dn) nw) (fun _=>False):=?hY
 rotate_left
 intro F R dn x hF hx hdn hR
 obtain ⟨bp,bc,nw,rfl,ho⟩:=hR
 subst hrec
 haveI hsF:SubH (h++B4 q qx qw qc qm b.wrong.toNat 4095 0) F:=⟨hF⟩
 refine CallV.yield (rw:=true) (q1:=q11) (st:= .ready) (List.mem_append_right _ (List.mem_append_left _ (List.mem_cons_of_mem _ (List.mem_cons_of_mem _ List.mem_cons_self)))) rfl (by simp;rfl) ?_
 intro cf2 cs2 K2 hK2
 ·refine Zs ?_
  refine jax rfl zq (fun q14=>jau (jae ?_));refine jnB rfl zq (ja2 x) ?_;refine Zs ?_;apply jgp (F:=F++[⟨true,q3,.cells [.slice bp dn.length bc].toArray 110 (0,0)⟩,⟨true,q11,.deferred (some [])⟩]) (E:=nw++[⟨true,q14,.cells (boL x).toArray 136 (0,0)⟩])
  case hh=>
   simp only [List.append_assoc,List.cons_append,List.nil_append]
   rfl
  generalize hbz:jgS _ _ _ _ _ _ LoopState.busy=rec1
  refine m.weak (h':=F++[⟨true,q3,.cells [.slice bp dn.length bc].toArray 110 (0,0)⟩,⟨true,q11,.deferred (some [])⟩,⟨true,q12,rec1⟩,⟨true,q14,.cells (boL x).toArray 136 (0,0)⟩]++nw) (weak_beg _ _ _ _ _ _) ?_;refine Z4 ?_
  refine jdk kdq rfl zq zA zA rfl (fun q17=>jau (jae ?_));refine jbL rfl zq (ja2 x) ho kdq zO zO (fun w9 n9 o9=>jae ?_);obtain ⟨p9,c9,rfl,hc9,r9⟩:=jav (B:=B) o9
  have e1:dn.length+1=(dn++[x]).length:=by simp
  have e2:jaC dn++boL x=jaC (dn++[x]):=by rw [jbB,juo]
  have ho2:=o9
  rw [e2,e1] at ho2
  rw [e1];refine D9 ?_;refine Z2 ?_;refine m.weak (h':=F++[⟨true,q3,.cells [.slice p9 (dn++[x]).length c9].toArray 110 (0,0)⟩,⟨true,q11,.deferred (some [])⟩,⟨true,q12,rec1⟩]++n9) jls ?_
  subst hbz
  apply jnc (F:=F++[⟨true,q3,.cells [.slice p9 (dn++[x]).length c9].toArray 110 (0,0)⟩,⟨true,q11,.deferred (some [])⟩]) (E:=n9)
  case hh=>
   simp only [List.append_assoc,List.cons_append,List.nil_append]
   rfl
  rw [show F++[⟨true,q3,.cells [.slice p9 (dn++[x]).length c9].toArray 110 (0,0)⟩,⟨true,q11,.deferred (some [])⟩]++(_::n9)=F++([⟨true,q3,.cells [.slice p9 (dn++[x]).length c9].toArray 110 (0,0)⟩,⟨true,q11,.deferred (some [])⟩,_]++n9) by simp;rfl];exact hK2 _ _ ⟨_,rfl,.inl ⟨rfl,_,_,n9,rfl,ho2⟩⟩
 ·have hl:=f179_c m (sh.keeps (List.sublist_append_left _ _)) B4.x B4.m B4.c zO zO B4.w (by have:=hk.wrong;omega) hY (by rw [jac,←jaq];exact (genM_all fun i hi=>by
   have:=jbH hk
   rw [jaq] at hi
   rw [show 4095=2^12-1 by rfl,Nat.testBit_two_pow_sub_one];exact decide_eq_true zO).symm) (jbC hk) (R:=[⟨true,q3,.cells [.slice none 0 0].toArray 110 (0,0)⟩,⟨true,q11,.deferred (some [])⟩,⟨true,q12,rec0⟩]) ⟨none,0,[],by simp,OwnS.nil⟩
  rw [show (h++B4 q qx qw qc qm b.wrong.toNat 4095 0)++[⟨true,q3,.cells [.slice none 0 0].toArray 110 (0,0)⟩,⟨true,q11,.deferred (some [])⟩,⟨true,q12,rec0⟩]=(h++B4 q qx qw qc qm b.wrong.toNat 4095 0)++[⟨true,q3,.cells [.slice none 0 0].toArray 110 (0,0)⟩]++[⟨true,q11,.deferred (some [])⟩,⟨true,q12,rec0⟩] by simp] at hl
  refine CallF.mono hl ?_
  rintro v h' ⟨rfl,R',rfl,(⟨bp,bc,nw,rfl,ho⟩|hF)⟩;case inr=>exact hF.elim
  subst hrec
  apply jig (F:=(h++B4 q qx qw qc qm b.wrong.toNat 4095 0)++[⟨true,q3,.cells [.slice bp (jac b).length bc].toArray 110 (0,0)⟩,⟨true,q11,.deferred (some [])⟩]) (E:=nw)
  case hh=>
   simp only [List.append_assoc,List.cons_append,List.nil_append]
   rfl
  case hst=>exact .inl rfl
  refine Z7 ?_;refine je2 (F:=(h++B4 q qx qw qc qm b.wrong.toNat 4095 0)++[⟨true,q3,.cells [.slice bp (jac b).length bc].toArray 110 (0,0)⟩]) (E:=nw) zS ?_;refine jad (h++nw) rfl Tryz.func96 rfl jab ?_;refine Zs ?_
  exact ⟨nw,rfl,ho⟩
theorem f104_c (m:Md Tryz.prog B) (h:Hp) {b:Tb} (sh:Sheet B h b q tv) (hs:s<4096):FnC m 104 #[.pointer (some ⟨q,0,none⟩),.int .u64 (s:Int)] h fun v h'=>h'=h∧IsB (jg4 (cdT b) (jeq s (jaa b).length)≠[]) v:=by
 refine jaf Tryz.func104 rfl rfl (l:=(.pointer (some ⟨q,0,none⟩))::(.int .u64 (s:Int))::uu8) rfl ?_
 intro cf cs K hK
 refine Z2 ?_
 refine jax rfl zq (fun q4=>jau (jae ?_));refine Z7 ?_;refine ja7 (Post:=fun v h'=> ∃qx qw qc qm,h'=h++[⟨true,q4,.cells [.bool false].toArray 4 (0,0)⟩]++B4 q qx qw qc qm 12 s s∧v= .func (.func 179) #[] [.pointer (some ⟨qx,0,none⟩),.pointer (some ⟨qm,0,none⟩),.pointer (some ⟨qc,0,none⟩),.pointer (some ⟨qw,0,none⟩)].toArray) rfl zq zK (f148_c m _ (q:=q) (w:=12) (can:=s) (must:=s)) ?_
 rintro v _ ⟨qx,qw,qc,qm,rfl,rfl⟩;refine Zs ?_;refine jnA (Weak.mid h [⟨true,q4,.cells [.bool false].toArray 4 (0,0)⟩] (B4 q qx qw qc qm 12 s s)) ?_;refine Z2 ?_
 refine jkR rfl rfl zK (fun q11 q12=>?_);generalize hrec:jgS _ _ _ _ _ _ LoopState.ready=rec0
 obtain ⟨GS,hGS⟩: ∃GS,GS=jeE (cdT b) s s (jaa b).length 12 []:=⟨_,rfl⟩
 have hY:EachO m (h++B4 q qx qw qc qm 12 s s) GS (GS.length+1) (.func (.yield q12) #[] #[]) (fun dn R=>dn=[]∧R=[⟨true,q4,.cells [.bool false].toArray 4 (0,0)⟩,⟨true,q11,.deferred (some [])⟩,⟨true,q12,rec0⟩]) (fun R=>GS≠[]∧ ∃fn9 l9 ps9 a9 c9,R=[⟨true,q4,.cells [.bool true].toArray 4 (0,0)⟩,⟨true,q11,.deferred (some [])⟩,⟨true,q12,jrt fn9 l9 ps9 a9 c9 q11⟩]):=?hY
 rotate_left
 intro F R dn x hF hx hdn hR
 obtain ⟨rfl,rfl⟩:=hR
 subst hrec
 haveI hsF:SubH (h++B4 q qx qw qc qm 12 s s) F:=⟨hF⟩
 refine CallV.yield (rw:=true) (q1:=q11) (st:= .ready) (List.mem_append_right _ (List.mem_cons_of_mem _ (List.mem_cons_of_mem _ List.mem_cons_self))) rfl (by simp;rfl) ?_
 intro cf2 cs2 K2 hK2
 ·refine Zs ?_
  apply jgp (F:=F++[⟨true,q4,.cells [.bool false].toArray 4 (0,0)⟩,⟨true,q11,.deferred (some [])⟩]) (E:=[])
  case hh=>
   simp only [List.append_assoc,List.cons_append,List.nil_append]
   rfl
  generalize hbz:jgS _ _ _ _ _ _ LoopState.busy=rec1
  refine Z3 ?_;refine D9 ?_;refine Zs ?_
  subst hbz
  apply jna (F:=F++[⟨true,q4,.cells [.bool true].toArray 4 (0,0)⟩,⟨true,q11,.deferred (some [])⟩]) (E:=[])
  case hh=>
   simp only [List.append_assoc,List.cons_append,List.nil_append]
   rfl
  rw [List.append_assoc];exact hK2 _ _ ⟨_,rfl,.inr ⟨rfl,(fun e=>by rw [e] at hx;cases hx),_,_,_,_,_,rfl⟩⟩
 ·have hl:=f179_c m (sh.keeps (List.sublist_append_left _ _)) B4.x B4.m B4.c hs hs B4.w zO hY hGS zO (R:=[⟨true,q4,.cells [.bool false].toArray 4 (0,0)⟩,⟨true,q11,.deferred (some [])⟩,⟨true,q12,rec0⟩]) ⟨rfl,rfl⟩
  rw [show (h++B4 q qx qw qc qm 12 s s)++[⟨true,q4,.cells [.bool false].toArray 4 (0,0)⟩,⟨true,q11,.deferred (some [])⟩,⟨true,q12,rec0⟩]=(h++B4 q qx qw qc qm 12 s s)++[⟨true,q4,.cells [.bool false].toArray 4 (0,0)⟩]++[⟨true,q11,.deferred (some [])⟩,⟨true,q12,rec0⟩] by simp] at hl
  have hG2:GS=jg4 (cdT b) (jeq s (jaa b).length):=by
   rw [hGS,←jaq];exact jt6 (by rw [jaq];exact sh.twelve)
  refine CallF.mono hl ?_
  rintro v h' ⟨rfl,R',rfl,(⟨hbo,rfl⟩|⟨hbo,fn9,l9,ps9,a9,c9,rfl⟩)⟩
  ·subst hrec
   apply jig (F:=(h++B4 q qx qw qc qm 12 s s)++[⟨true,q4,.cells [.bool false].toArray 4 (0,0)⟩,⟨true,q11,.deferred (some [])⟩]) (E:=[])
   case hh=>
    simp only [List.append_assoc,List.cons_append,List.nil_append]
    rfl
   case hst=>exact .inl rfl
   refine Z3 ?_;refine D9 ?_;refine Z2 ?_;refine je2 (F:=(h++B4 q qx qw qc qm 12 s s)++[⟨true,q4,.cells [.bool false].toArray 4 (0,0)⟩]) (E:=[]) zS ?_;refine jad (h) rfl Tryz.func104 rfl jab ?_;refine Zs ?_
   first|exact ⟨rfl,IsB.yes (hG2▸hbo)⟩|exact ⟨rfl,IsB.no fun e=>e (hG2▸hbo)⟩
  ·apply jlL (F:=(h++B4 q qx qw qc qm 12 s s)++[⟨true,q4,.cells [.bool true].toArray 4 (0,0)⟩,⟨true,q11,.deferred (some [])⟩]) (E:=[])
   case hh=>
    simp only [List.append_assoc,List.cons_append,List.nil_append]
    rfl
   refine Zs ?_;refine je2 (F:=(h++B4 q qx qw qc qm 12 s s)++[⟨true,q4,.cells [.bool true].toArray 4 (0,0)⟩]) (E:=[]) zS ?_;refine jad (h) rfl Tryz.func104 rfl jab ?_;refine Zs ?_
   first|exact ⟨rfl,IsB.yes (hG2▸hbo)⟩|exact ⟨rfl,IsB.no fun e=>e (hG2▸hbo)⟩
end
section
variable [LaidO B]
structure RawTb (B:Array Obj) (h:Hp) (b:Tb) (ps:Option Addr) (ns ks:Nat) (pw:Option Addr) (nw cw:Nat) (pb:Option Addr) (nb cb:Nat):Prop where
 s:RdS B h 1 (.slice ps ns ks) ns (jaC b.sts)
 sc:ns≤ks
 sn:ns≤1000
 w:RdLn B h (.slice pw nw cw) nw b.waters
 wn:nw≤1000
 u:RdLn B h (.slice pb nb cb) nb b.butts
 un:nb≤1000
 sm:TbSm b
section
variable {b:Tb}
theorem RawTb.keeps (r:RawTb B h b ps ns ks pw nw cw pb nb cb) (s:h.Sublist H):RawTb B H b ps ns ks pw nw cw pb nb cb:=
 ⟨r.s.keeps s,r.sc,r.sn,r.w.keeps s,r.wn,r.u.keeps s,r.un,r.sm⟩
theorem RawTb.rd (r:RawTb B h b ps ns ks pw nw cw pb nb cb) (k:TbOk b):RdTb B h b ps ns ks pw nw cw pb nb cb:=rdTb_of r.s r.sc r.w r.u r.sm k
theorem f65_r (m:Md Tryz.prog B) (h:Hp) (r:RawTb B h b ps ns ks pw nw cw pb nb cb):FnC m 65 #[tbV b ps ns ks pw nw cw pb nb cb] h fun v h'=>h'=h∧v= .int .i64 (tbS b):=f65_c m h r.s r.sc r.sn r.sm.sts r.w r.wn r.u r.un r.sm
theorem f95_r (m:Md Tryz.prog B) (h:Hp) (r:RawTb B h b ps ns ks pw nw cw pb nb cb) (k:TbOk b):FnC m 95 #[tbV b ps ns ks pw nw cw pb nb cb] h fun v h'=> ∃new,h'=h++new∧ ∃q,v= .pointer (some ⟨q,0,none⟩)∧Sheet B new b q (tbL b ps ns ks pw nw cw pb nb cb):=
 CallF.mono (f95_c m h (r.rd k)) fun v h' ⟨new,q,e1,e2,e3⟩=>⟨new,e1,q,e2,e3⟩
end
theorem ji1 {xs:List Int} (hs:SortR xs 0 xs.length): ∀t,t≤xs.length→Asc (jdE xs t)∧(∀z∈jdE xs t,∃i,i<t∧z=xs.getD i 0)
 |0,_=>⟨List.Pairwise.nil,by simp [jdE]⟩
 |t+1,h=>by
  obtain ⟨h1,h2⟩:=ji1 hs t zO
  rw [jdE];by_cases e:t=0∨xs.getD t 0≠xs.getD (t-1) 0
  ·rw [if_pos e];refine ⟨?_,fun z hz=>?_⟩
   ·unfold Asc at h1⊢
    rw [List.pairwise_append];refine ⟨h1,by simp,fun x hx y hy=>?_⟩
    simp only [List.mem_singleton] at hy
    subst hy
    obtain ⟨i,hi,rfl⟩:=h2 x hx
    have e1:xs.getD i 0≤xs.getD (t-1) 0:=by
     by_cases e2:i=t-1
     ·subst e2
      exact Int.le_refl _
     ·exact hs i (t-1) zO zO zO
    have e3:xs.getD (t-1) 0≤xs.getD t 0:=hs (t-1) t zO zO zO
    rcases e with e|e
    ·omega
    ·omega
   ·rcases List.mem_append.1 hz with hz|hz
    ·obtain ⟨i,hi,e⟩:=h2 z hz
     exact ⟨i,by omega,e⟩
    ·simp only [List.mem_singleton] at hz
     exact ⟨t,by omega,hz⟩
  ·rw [if_neg e,List.append_nil];exact ⟨h1,fun z hz=>by obtain ⟨i,hi,e⟩:=h2 z hz;exact ⟨i,by omega,e⟩⟩
theorem ji0 {xs:List Int}: ∀t i,i<t→xs.getD i 0∈jdE xs t
 |0,i,h=>by omega
 |t+1,i,h=>by
  rw [jdE,List.mem_append];rcases Nat.lt_or_ge i t with h1|h1
  ·exact .inl (ji0 t i h1)
  ·obtain rfl:i=t:=by omega
   by_cases e:i=0∨xs.getD i 0≠xs.getD (i-1) 0
   ·rw [if_pos e];exact .inr zS
   ·have h0:i≠0:=fun x=>e (.inl x)
    have e2:xs.getD i 0=xs.getD (i-1) 0:=Classical.byContradiction fun x=>e (.inr x)
    rw [e2];exact .inl (ji0 i (i-1) zO)
theorem rd_has {t:Nat} {rw:Bool} {v:Value} [x:Has h q rw (.cells [v].toArray t f)]:Rd B h ⟨q,0,none⟩ v:=Rd.held x.mem rfl
theorem js8 {v:Value} {new:Hp} (o:OwnS 3 1 v n (jaI xs) new) (h:0<n): ∃b c junk,v= .slice (some ⟨b,0,none⟩) n c∧new=[jbU b xs junk]∧xs.length=n∧n+junk.length=c:=by
 unfold jbU
 generalize hg:jaI xs=ys at o⊢
 have hy:ys.length=xs.length:=by rw [←hg];simp
 cases o with
 |nil=>omega
 |blk hl hc hn=>exact ⟨_,_,_,rfl,rfl,by omega,by omega⟩
theorem jtu (hs:SortR xs 0 xs.length):z∈jdE xs xs.length↔z∈xs:=by
 constructor
 ·intro h
  obtain ⟨i,hi,rfl⟩:=(ji1 hs _ (Nat.le_refl _)).2 z h
  exact jcU.2 ⟨i,hi,rfl⟩
 ·intro h
  obtain ⟨i,hi,rfl⟩:=jcU.1 h
  exact ji0 _ i hi
theorem jmt: ∀{xs ys:List Int},Asc xs→Asc ys→(∀z,z∈xs↔z∈ys)→xs=ys:=fun hx hy h=>List.Perm.eq_of_pairwise (fun a b _ _ h1 h2=>by omega) hx hy ((List.perm_ext_iff_of_nodup (jkj hx) (jkj hy)).2 h)
theorem jpU {α:Type}: ∀{l:List α} {n:Nat},l.length=n→jaM (List.replicate n true) l=l
 |[],_,h=>by subst h;rfl
 |a::l,n,h=>by
  obtain ⟨k,rfl⟩: ∃k,n=k+1:=⟨n-1,by simp at h;omega⟩
  rw [List.replicate_succ,jaM,jpU (by simpa using h)]
theorem js3 (n:Nat):jeq 0 n=(List.replicate n true).map (!·):=by
 rw [jeq];refine List.ext_getElem zS fun i h1 h2=>by simp
theorem pat_none {b:Tb}:jg4 (cdT b) (jeq 0 (jaa b).length)≠[]↔jbJ (cdT b)=true:=by
 have:=jga (D:=cdT b) (p:=List.replicate (jaa b).length true) (by simp [jaq])
 rw [js3,this,jpU (jaq b)]
def jic (B:Array Obj) (b:Tb) (tv:List Value) (s:Int) (nw:Hp) (v:Value):Prop:= ∃qp p n c,v= .tuple [.agg [.pointer qp,.slice p n c].toArray,.int .i64 s].toArray∧
 (s=0→ ∃q,qp=some ⟨q,0,none⟩∧Sheet B nw b q tv∧n=(jac b).length∧n≤c∧RdS B nw 13 (.slice p n c) n (jaC (jac b)))
theorem jhO {b:Tb} {s:Int} (h:s≠0):jic B b tv s [] (.tuple [.agg [.pointer none,.slice none 0 0].toArray,.int .i64 s].toArray):=⟨none,none,0,0,rfl,fun e=>absurd e h⟩
def plN (b:Tb) (c:Ce):Nat:=(jaa b).findIdx fun x=>decide (x=c)
theorem jkY {b:Tb} {c:Ce}:plN b c<(jaa b).length↔c∈jaa b:=by
 rw [plN,List.findIdx_lt_length];simp
theorem plN_get {b:Tb} {c:Ce} (h:c∈jaa b):(jaa b).getD (plN b c) default=c:=by
 have hl:=jkY.2 h
 have:=List.findIdx_getElem (w:=hl)
 rw [List.getD_eq_getElem?_getD,List.getElem?_eq_getElem hl];exact of_decide_eq_true this
theorem jjv {b:Tb} {c:Ce} (h:c∈jaa b):jdP (jaa b) c=some (plN b c:Int):=by
 have hh:(jaa b).findIdx (fun x=>decide (x=c))<(jaa b).length:=jkY.2 h
 rw [jdP,jhm,if_pos hh,Nat.zero_add];rfl
theorem jq5 {b:Tb} {c:Ce} (h:c∉jaa b):jdP (jaa b) c=none:=by
 have hh: ¬(jaa b).findIdx (fun x=>decide (x=c))<(jaa b).length:=fun e=>h (jkY.1 e)
 rw [jdP,jhm,if_neg hh];rfl
theorem f181_z (m:Md Tryz.prog B) (h:Hp):FnC m 181 #[.slice none 0 0,.int .i64 0,.int .i64 0] h fun v h'=>h'=h:=by
 refine jaf Tryz.func181 rfl rfl (l:=(.slice none 0 0)::(.int .i64 0)::(.int .i64 0)::uu46) rfl ?_
 intro cf cs K hK
 refine Z7 ?_
 refine jai (fun nn l h'=>nn=0∧(True)∧(∃U:Nat→Value,l=((.slice none 0 0)::(.int .i64 0)::(.int .i64 0)::(U 3)::(U 4)::(U 5)::(.int .i64 1)::vw42 U 7 []))∧h=h') _ ⟨rfl,trivial,exU rfl,rfl⟩ ?_;rintro nn l h' ⟨rfl,htt,⟨U,rfl⟩,rfl⟩ hnext;refine Z5 ?_;refine jnF rfl zq zO ?_;refine Z3 ?_;refine jdm rfl ?_;refine jad (h) rfl Tryz.func181 rfl jab ?_;refine Zs ?_
 rfl
theorem f150_z (m:Md Tryz.prog B) (h:Hp) (lim:Int):FnC m 150 #[.slice none 0 0,.int .i64 0,.int .i64 0,.int .i64 lim] h fun v h'=>h'=h:=by
 refine jaf Tryz.func150 rfl rfl (l:=(.slice none 0 0)::(.int .i64 0)::(.int .i64 0)::(.int .i64 lim)::jr9) rfl ?_
 intro cf cs K hK
 refine Z9 ?_
 refine jai (fun nn l h'=>nn=0∧(True)∧(∃U:Nat→Value,l=((.slice none 0 0)::(.int .i64 0)::(.int .i64 0)::(.int .i64 lim)::vw130 U 4 []))∧h=h') _ ⟨rfl,trivial,exU rfl,rfl⟩ ?_;rintro nn l h' ⟨rfl,htt,⟨U,rfl⟩,rfl⟩ hnext;refine Z12 ?_;refine jnI rfl zq zO ?_;refine Z7 ?_;refine jag (Post:=fun _=>True) rfl zq zK (fun H' hH=>CallF.mono (f181_z m H') fun v h' e=>⟨e,trivial⟩) ?_
 rintro v _;refine Z3 ?_;refine jad (h) rfl Tryz.func150 rfl jab ?_;refine Zs ?_
 rfl
theorem f99_z (m:Md Tryz.prog B) (h:Hp):FnC m 99 #[.slice none 0 0] h fun v h'=>h'=h:=by
 refine jaf Tryz.func99 rfl rfl (l:=(.slice none 0 0)::uu10) rfl ?_
 intro cf cs K hK
 refine Z10 ?_;refine jbg rfl zq zK (n':=0) zA ?_;refine jag (Post:=fun v=> ∃k:Int,v= .int .i64 k∧0≤k∧k≤1000) rfl zq zK (fun H' hH=>f151_c m H' 0 zO) ?_
 rintro v ⟨lim,rfl,_⟩;refine Zs ?_;refine jag (Post:=fun _=>True) rfl zq zK (fun H' hH=>CallF.mono (f150_z m H' lim) fun v h' e=>⟨e,trivial⟩) ?_
 rintro v _;refine Z2 ?_;refine jdm rfl ?_;refine jad (h) rfl Tryz.func99 rfl jab ?_;refine Zs ?_
 rfl
theorem f100_z (m:Md Tryz.prog B) (h:Hp):FnC m 100 #[.slice none 0 0] h fun v h'=>h'=h∧v= .slice none 0 0:=by
 refine jaf Tryz.func100 rfl rfl (l:=(.slice none 0 0)::uu60) rfl ?_
 intro cf cs K hK
 refine Z9 ?_;refine jp9 rfl zq zO ?_;refine Z8 ?_;refine jad (h) rfl Tryz.func100 rfl jab ?_;refine Zs ?_
 exact ⟨rfl,rfl⟩
theorem f28_c (m:Md Tryz.prog B) (h:Hp) {b:Tb} (ra:RawTb B h b ps ns ks pw nw cw pb nb cb):FnC m 28 #[tbV b ps ns ks pw nw cw pb nb cb] h fun v h'=>h'=h∧v= .tuple [.int .i64 (if tbS b=0 then ((jac b).length:Int) else 0),.int .i64 (tbS b)].toArray:=by
 refine jaf Tryz.func28 rfl rfl (l:=(tbV b ps ns ks pw nw cw pb nb cb)::uu13) rfl ?_
 intro cf cs K hK
 refine Z2 ?_
 refine jaX rfl zq (fun q1=>jau (jae ?_));refine Z7 ?_;refine D53 ?_
 rintro v rfl;refine Z6 ?_
 refine jbK rfl zq (fun hc=>?_) (fun hc=>?_);refine Z5 ?_
 rotate_left
 refine Z4 ?_
 have hz0:tbS b=0:=by omega
 have hk:=jaN.1 hz0
 have hbl:=jbC hk
 have h12:=jbH hk
 refine Z2 ?_;refine D18 ?_
 rintro v n9 ⟨q9,rfl,sh⟩;refine jaH (jae ?_);refine D34 ?_
 rintro v n8 o8;refine jaH (jae ?_);obtain ⟨p8,c8,rfl,_⟩:=jav (B:=B) o8
 refine Zs ?_
 all_goals
  refine Z4 ?_;refine jad (h) rfl Tryz.func28 rfl jab ?_;refine Zs ?_
 ·exact ⟨rfl,by rw [if_pos hz0,hz0]⟩
 ·exact ⟨rfl,by rw [if_neg zD]⟩
theorem f45_c (m:Md Tryz.prog B) (h:Hp) {b:Tb} (ra:RawTb B h b ps ns ks pw nw cw pb nb cb):FnC m 45 #[tbV b ps ns ks pw nw cw pb nb cb] h fun v h'=>h'=h∧ ∃w,v= .tuple [w,.int .i64 (tbS b)].toArray∧IsB (tbS b=0∧jbJ (cdT b)=true) w:=by
 refine jaf Tryz.func45 rfl rfl (l:=(tbV b ps ns ks pw nw cw pb nb cb)::uu12) rfl ?_
 intro cf cs K hK
 refine Z2 ?_
 refine jaX rfl zq (fun q1=>jau (jae ?_));refine Z7 ?_;refine D53 ?_
 rintro v rfl;refine Z6 ?_
 refine jbK rfl zq (fun hc=>?_) (fun hc=>?_);refine Z5 ?_
 rotate_left
 refine Z4 ?_
 have hz0:tbS b=0:=by omega
 have hk:=jaN.1 hz0
 have hbl:=jbC hk
 have h12:=jbH hk
 refine Z2 ?_;refine D18 ?_
 rintro v n9 ⟨q9,rfl,sh⟩;refine jaH (jae ?_);refine jag (Post:=fun v=>IsB (jg4 (cdT b) (jeq 0 (jaa b).length)≠[]) v) rfl zq zK (fun H' hH=>f104_c m H' (sh.keeps (List.Sublist.trans zW hH)) zO) ?_;rintro v hv9;refine Zs ?_
 all_goals
  refine Z4 ?_;refine jad (h) rfl Tryz.func45 rfl jab ?_;refine Zs ?_
 ·exact ⟨rfl,_,by rw [hz0],hv9.iff (by rw [pat_none];exact ⟨fun e=>⟨hz0,e⟩,fun e=>e.2⟩)⟩
 ·exact ⟨rfl,_,rfl,IsB.no fun e=>absurd e.1 zD⟩
theorem f108_c (m:Md Tryz.prog B) (h:Hp) (v0:Value):FnC m 108 #[v0] h fun v h'=>h'=h∧v= .int .i64 0:=by
 refine jaf Tryz.func108 rfl rfl (l:=[v0,undef,undef]) rfl ?_
 intro cf cs K hK
 refine Z9 ?_;refine jad (h) rfl Tryz.func108 rfl jab ?_;refine Zs ?_
 exact ⟨rfl,rfl⟩
theorem f161_c (m:Md Tryz.prog B) (h:Hp) (v0:Value):FnC m 161 #[v0] h fun v h'=>h'=h∧v= .int .i64 0:=by
 refine jaf Tryz.func161 rfl rfl (l:=[v0,undef,undef]) rfl ?_
 intro cf cs K hK
 refine Z9 ?_;refine jad (h) rfl Tryz.func161 rfl jab ?_;refine Zs ?_
 exact ⟨rfl,rfl⟩
theorem f97_c (m:Md Tryz.prog B) (h:Hp) (c:Ce):FnC m 97 #[cV c.butt c.line c.st] h fun v h'=> ∃nw,h'=h++nw∧ ∃q,nw=[⟨true,q,.cells (ceL c).toArray 37 (0,0)⟩]∧v= .func (.func 149) #[] [.pointer (some ⟨q,0,none⟩)].toArray:=by
 refine jaf Tryz.func97 rfl rfl (l:=[cV c.butt c.line c.st,undef,undef,undef]) rfl ?_
 intro cf cs K hK
 refine Z2 ?_
 refine jaX rfl zq (fun q1=>jau (jae ?_));refine Z4 ?_;refine jiB rfl zq ?_;refine Z3 ?_;refine jad (h++[⟨true,q1,.cells (ceL c).toArray 37 (0,0)⟩]) rfl Tryz.func97 rfl jab ?_;refine Zs ?_
 exact ⟨_,rfl,q1,rfl,rfl⟩
theorem f89_c (m:Md Tryz.prog B) (h:Hp) (x y:Int):FnC m 89 #[.int .i64 x,.int .i64 y] h fun v h'=> ∃nw,h'=h++nw∧ ∃q q',nw=[⟨true,q,.cells [.int .i64 x].toArray 3 (0,0)⟩,⟨true,q',.cells [.int .i64 y].toArray 3 (0,0)⟩]∧v= .func (.func 145) #[] [.pointer (some ⟨q,0,none⟩),.pointer (some ⟨q',0,none⟩)].toArray:=by
 refine jaf Tryz.func89 rfl rfl (l:=[.int .i64 x,.int .i64 y,undef,undef,undef,undef]) rfl ?_
 intro cf cs K hK
 refine Z2 ?_
 refine jaX rfl zq (fun q2=>jau (jae ?_));refine jaX rfl zq (fun q3=>jau (jae ?_));refine Z4 ?_;refine jiB rfl zq ?_;refine Z3 ?_;refine jad (h++[⟨true,q2,.cells [.int .i64 x].toArray 3 (0,0)⟩,⟨true,q3,.cells [.int .i64 y].toArray 3 (0,0)⟩]) rfl Tryz.func89 rfl jab ?_;refine Zs ?_
 exact ⟨_,rfl,q2,q3,rfl,rfl⟩
theorem f149_c (m:Md Tryz.prog B) (h:Hp) {b:Tb} (sh:Sheet B h b q tv) {c:Ce} (rq:RdN B h qc 0 (ceL c)):FnC m 149 #[.pointer (some ⟨q,0,none⟩),.pointer (some ⟨qc,0,none⟩)] h fun v h'=>h'=h∧v= .int .i64 (if c∈jaa b then 0 else 6):=by
 obtain ⟨mrw,qm,hm1,hm2⟩:=sh.map
 haveI hmh:Has h qm mrw (jhz (jaa b)):=⟨hm2⟩
 refine jaf Tryz.func149 rfl rfl (l:=(.pointer (some ⟨q,0,none⟩))::(.pointer (some ⟨qc,0,none⟩))::uu15) rfl ?_
 intro cf cs K hK
 refine Z6 ?_;refine jar [Zp 0,Zp 1,Zp 2,Zr 3,Zr 4,Zr 5,Zp 6,Zp 7,Zp 8,Zp 9,Zp 10] zK zK (List.Sublist.refl _) ?_;refine Z3 ?_;refine jaW rfl zq hm1 ?_;refine jc5 (vs:=ceL c) rfl zq rfl rq ?_
 refine jrx (c:=c) (cs:=jaa b) (k:=37) (e:=3) zK rfl zq (jae ?_);refine Z7 ?_
 by_cases hin:c∈jaa b
 rw [jjv hin];refine Z6 ?_
 rotate_left
 rw [jq5 hin];refine Z5 ?_
 all_goals
  refine Z5 ?_;refine jad (h) rfl Tryz.func149 rfl jab ?_;refine Zs ?_
  first|exact ⟨rfl,by rw [if_pos hin]⟩|exact ⟨rfl,by rw [if_neg hin]⟩
theorem f145_c (m:Md Tryz.prog B) (h:Hp) {b:Tb} (sh:Sheet B h b q (tbL b ps ns ks pw nw cw pb nb cb)) (hsl:b.sts.length=ns) (hn:ns≤1000) {qs qa:Nat} {x:Int} (r1:Rd B h ⟨qs,0,none⟩ (.int .i64 st)) (r2:Rd B h ⟨qa,0,none⟩ (.int .i64 x)):FnC m 145 #[.pointer (some ⟨q,0,none⟩),.pointer (some ⟨qs,0,none⟩),.pointer (some ⟨qa,0,none⟩)] h fun v h'=>h'=h∧v= .int .i64 (if¬(0≤st∧st≤(ns:Int)-1) then 6 else if¬(0≤x∧x≤959) then 1 else 0):=by
 have hst:Rd B h ⟨q,0+0+0+1,none⟩ (.slice ps ns ks):=sh.tb 1 zS
 refine jaf Tryz.func145 rfl rfl (l:=(.pointer (some ⟨q,0,none⟩))::(.pointer (some ⟨qs,0,none⟩))::(.pointer (some ⟨qa,0,none⟩))::uu18) rfl ?_
 intro cf cs K hK
 refine Z7 ?_;refine jar [Zp 1,Zp 2,Zp 3,Zp 4,Zp 5,Zr 0,Zr 6,Zp 7,Zp 8,Zk 9,Zp 10,Zp 11] zK zK (List.Sublist.refl _) ?_;refine Z5 ?_;refine jaW rfl zq (r1.keeps SubH.sub) ?_;refine jaW rfl zq (hst.keeps SubH.sub) ?_;refine Z2 ?_;refine D27 ?_
 rintro v (⟨hc,rfl⟩|⟨hc,rfl⟩)
 ·refine Z7 ?_;refine jaW rfl zq (r2.keeps SubH.sub) ?_;refine D27 ?_
  rintro v (⟨hc,rfl⟩|⟨hc,rfl⟩);refine Z7 ?_
  rotate_left
  refine Z5 ?_
  all_goals
   refine Z5 ?_;refine jad (h) rfl Tryz.func145 rfl jab ?_;refine Zs ?_
   exact E2
 ·refine Z10 ?_;refine jad (h) rfl Tryz.func145 rfl jab ?_;refine Zs ?_
  exact E2
theorem f88_c (m:Md Tryz.prog B) (h:Hp) {b:Tb} (ra:RawTb B h b ps ns ks pw nw cw pb nb cb) {fid:Nat} {gc gp:Array Value} {own:Int} (hcall:jcF Tryz.prog fid=true) (hown:TbOk b→ ∀(H':Hp) (q:Nat),h.Sublist H'→Sheet B H' b q (tbL b ps ns ks pw nw cw pb nb cb)→FnC m fid (gc++[Value.pointer (some ⟨q,0,none⟩)].toArray++gp) H' fun v h'=>h'=H'∧v= .int .i64 own):FnC m 88 #[tbV b ps ns ks pw nw cw pb nb cb,.func (.func fid) gc gp] h fun v h'=> ∃nz,h'=h++nz∧jic B b (tbL b ps ns ks pw nw cw pb nb cb) (jaJ b own) nz v:=by
 refine jaf Tryz.func88 rfl rfl (l:=(tbV b ps ns ks pw nw cw pb nb cb)::(.func (.func fid) gc gp)::uu34) rfl ?_
 intro cf cs K hK
 refine Z2 ?_
 refine jaX rfl zq (fun q2=>jau (jae ?_));refine jax rfl zq (fun q4=>jau (jae ?_));refine Z6 ?_;refine D53 ?_
 rintro v rfl;refine Z6 ?_
 refine jbK rfl zq (fun hc=>?_) (fun hc=>?_)
 ·refine Z4 ?_;refine D37 ?_;refine Zs ?_;refine jhx ?_;refine jad (h) rfl Tryz.func88 rfl jab ?_;refine Zs ?_
  exact ⟨[],by simp,by rw [openS_b zD];exact jhO zD⟩
 ·refine Z4 ?_
  have hz0:tbS b=0:=by omega
  have hk:=jaN.1 hz0
  have hbl:=jbC hk
  have h12:=jbH hk
  refine Z2 ?_;refine D18 ?_
  rintro v n9 ⟨q9,rfl,sh⟩;refine jaH (jae ?_);refine D37 ?_
  refine jax rfl zq (fun q7=>jau (jae ?_));refine D6 ?_;refine Z7 ?_;refine jgt (Post:=fun v=>v=_) rfl zq hcall (fun H' hH=>hown hk H' q9 (sq hH) (sh.keeps (List.Sublist.trans (List.Sublist.trans (List.sublist_append_right _ _) (List.sublist_append_left _ _)) hH))) ?_
  rintro v rfl;refine Z6 ?_
  refine jbK rfl zq (fun hc=>?_) (fun hc=>?_)
  ·refine Z4 ?_;refine D37 ?_;refine Zs ?_;refine jhx ?_;refine jad (h) rfl Tryz.func88 rfl jab ?_;refine Zs ?_
   exact ⟨[],by simp,by rw [openS_o hz0 zD];exact jhO zD⟩
  ·refine Z8 ?_;refine D34 ?_
   rintro v n8 o8;refine jaH (jae ?_);obtain ⟨p8,c8,rfl,hc8,r8⟩:=jav (B:=B) o8
   refine Zs ?_;refine D9 ?_;refine Z6 ?_
   refine jaS rfl zq (fun hc=>?_) (fun hc=>?_)
   ·refine Z4 ?_;refine D37 ?_;refine jhx ?_;refine jad (h) rfl Tryz.func88 rfl jab ?_;refine Zs ?_
    exact ⟨[],by simp,by rw [jlV hz0 zO (List.length_eq_zero_iff.1 zO)];exact jhO zA⟩
   ·refine Z6 ?_;refine jhx ?_;refine jad (h++n9++n8) rfl Tryz.func88 rfl jab ?_;refine Zs ?_
    have e:jaJ b own=0:=jej hz0 zO (fun e=>hc (by rw [e];rfl))
    exact ⟨n9++n8,by rw [List.append_assoc],_,_,_,_,by rw [e],fun _=>⟨q9,rfl,sh.keeps (List.sublist_append_left _ _),rfl,hc8,r8.keeps (List.sublist_append_right _ _)⟩⟩
end
section
variable [LaidO B]
def jdv (b:Tb) (c:Ce):Int:=if c∈jaa b then 0 else 6
def jk0 (L:List Bo) (k j:Nat):List Int:=(L.take j).filterMap fun x=>xA x k
theorem js9 (hj:j<L.length) (h:xA (L.getD j []) k=some v):jk0 L k (j+1)=jk0 L k j++[v]:=by
 rw [jk0,List.take_add_one,List.getElem?_eq_getElem hj,Option.toList_some,List.filterMap_append];rw [List.getD_eq_getElem?_getD,List.getElem?_eq_getElem hj] at h
 have h':xA L[j] k=some v:=h
 have e:[L[j]].filterMap (fun x=>xA x k)=[v]:=by simp only [List.filterMap_cons,h',List.filterMap_nil]
 rw [e];rfl
theorem jta (hj:j<L.length) (h:xA (L.getD j []) k=none):jk0 L k (j+1)=jk0 L k j:=by
 rw [jk0,List.take_add_one,List.getElem?_eq_getElem hj,Option.toList_some,List.filterMap_append];rw [List.getD_eq_getElem?_getD,List.getElem?_eq_getElem hj] at h
 have h':xA L[j] k=none:=h
 have e:[L[j]].filterMap (fun x=>xA x k)=[]:=by simp only [List.filterMap_cons,h',List.filterMap_nil]
 rw [e,List.append_nil];rfl
theorem outK_le (L:List Bo) (k j:Nat):(jk0 L k j).length≤j:=by
 have h1:=List.length_filterMap_le (fun x:Bo=>xA x k) (L.take j)
 have h2:=List.length_take_le j L
 rw [jk0];omega
theorem jp3:z∈jk0 L k L.length↔ ∃x∈L,xA x k=some z:=by
 rw [jk0,List.take_length,List.mem_filterMap]
theorem asc_meaS (s:Str):Asc (jbl s):=by
 rw [jbl];split
 ·rw [jdJ];unfold Asc
  rw [List.pairwise_map];exact ((List.pairwise_lt_range).filter _).imp fun h=>by omega
 ·exact List.Pairwise.nil
theorem jmu {b:Tb} (h:k<(jaa b).length):Asc (jck (cdT b) L k):=by
 unfold Asc jck
 rw [jaF b h];exact (asc_meaS _).filter _
theorem jp4 {b:Tb} (L:List Bo) (hL: ∀x∈L,okA (cdT b) x=true):z∈jck (cdT b) L k↔ ∃x∈L,xA x k=some z:=by
 rw [jck,List.mem_filter,List.any_eq_true];simp only [decide_eq_true_eq]
 exact ⟨fun h=>h.2,fun ⟨x,hx,h⟩=>⟨(jcv.1 (hL x hx)).2.1 k z h,x,hx,h⟩⟩
theorem jhr {b:Tb}: ∀x∈jac b,okA (cdT b) x=true:=fun x hx=>(jaL.1 hx).1
theorem jb2 {b:Tb} {x:Bo} (h:x∈jac b):x.length=(jaa b).length:=by rw [←jaq];exact jcd h
theorem bo_at {rw:Bool} {x:Bo} [hx:Has h q rw (.cells (boL x).toArray e f)] (i:Nat) (hi:i<12):Rd B h ⟨q,1+(i:Int).toNat*1,none⟩ (.int .i64 ((xA x i).getD 0)):=by
 have:=bt_at (B:=B) (h:=h) (q:=q) (e:=e) (rw:=rw) (f:=f) (s:=jcf x) (ms:=jpX x) (x:=hx) i (by rw [jch];exact hi)
 rw [jgI hi] at this
 exact this
theorem jir {x:Bo} (h:k<x.length):(jcf x).testBit k=(xA x k).isNone:=by
 rw [jdf];cases xA x k<;>simp [h]
def jer (L:List Bo) (k j:Nat):Nat:=(L.take j).countP fun x=>(xA x k).isNone
theorem jiX (hj:j<L.length):jer L k (j+1)=jer L k j+if (xA (L.getD j []) k).isNone then 1 else 0:=by
 rw [jer,List.take_add_one,List.getElem?_eq_getElem hj,Option.toList_some,List.countP_append,List.getD_eq_getElem?_getD,List.getElem?_eq_getElem hj,List.countP_singleton];rfl
theorem jmD (L:List Bo) (k j:Nat):jer L k j≤j:=by
 have h1:=List.countP_le_length (p:=fun x:Bo=>(xA x k).isNone) (l:=L.take j)
 have h2:=List.length_take_le j L
 rw [jer];omega
theorem jkF (L:List Bo) (k:Nat):jer L k L.length=jaU L k:=by rw [jer,List.take_length];rfl
def jeu (b:Tb) (c:Ce):List Int:=if jaJ b (jdv b c)=0 then jck (cdT b) (jac b) (plN b c) else []
theorem jmr:jcF Tryz.prog 149=true:=by kernel_rfl
theorem jlM {c:Ce} [x:Has h q true (.cells (ceL c).toArray 37 (0,0))]:RdN B h q 0 (ceL c):=fun j hj=>by
 rw [Nat.zero_add];refine Rd.held x.mem ?_
 rw [List.getElem?_toArray,List.getElem?_eq_getElem hj,List.getD_eq_getElem?_getD,List.getElem?_eq_getElem hj];rfl
theorem RdN.keepsN {b o:Nat} (r:RdN B h b o vs) (k:h.Sublist H):RdN B H b o vs:=fun j hj=>(r j hj).keeps k
theorem f30_c (m:Md Tryz.prog B) (h:Hp) {b:Tb} (ra:RawTb B h b ps ns ks pw nw cw pb nb cb) (c:Ce):FnC m 30 #[tbV b ps ns ks pw nw cw pb nb cb,cV c.butt c.line c.st] h fun v h'=>h'=h∧v= .tuple [.int .i64 (if jaJ b (jdv b c)=0 then jeH (jaU (jac b) (plN b c)) (jac b).length else 0),.int .i64 (jaJ b (jdv b c))].toArray:=by
 refine jaf Tryz.func30 rfl rfl (l:=(tbV b ps ns ks pw nw cw pb nb cb)::(cV c.butt c.line c.st)::uu47) rfl ?_
 intro cf cs K hK
 refine Z2 ?_
 refine jaX rfl zq (fun q2=>jau (jae ?_));refine jaX rfl zq (fun q3=>jau (jae ?_));refine Z4 ?_;refine jb3 [0,1,2,3,4,5,6,7,8,9] zK zK (List.Sublist.refl _) ?_
 refine DrawT.split 2 7 zA (DrawT.split 3 7 zA ?_ ?_) ?_
 refine D84 ?_;refine Z2 ?_;refine D7 ?_
 rintro v nz ⟨qs,rfl,rfl⟩;refine jaH (jae ?_);refine D5 ?_
 rintro v n8 ⟨qp,p8,m8,c8,rfl,hz⟩;refine jaH (jae ?_);refine Z3 ?_
 refine jax rfl zq (fun q6=>jau (jae ?_));rotate_left
 refine D85 ?_;refine Z2 ?_;refine D7 ?_
 rintro v nz ⟨qs,rfl,rfl⟩;refine jaH (jae ?_);refine jax rfl zq (fun q6=>jau (jae ?_));refine D5 ?_
 rintro v n8 ⟨qp,p8,m8,c8,rfl,hz⟩;refine jaH (jae ?_);refine Z3 ?_
 rotate_left
 refine D86 ?_;refine Z2 ?_
 refine jax rfl zq (fun q6=>jau (jae ?_));refine D7 ?_
 rintro v nz ⟨qs,rfl,rfl⟩;refine jaH (jae ?_);refine D5 ?_
 rintro v n8 ⟨qp,p8,m8,c8,rfl,hz⟩;refine jaH (jae ?_);refine Z3 ?_
 all_goals
  refine D6 ?_;refine Z6 ?_
  refine jbK rfl zq (fun hc=>?_) (fun hc=>?_)
  ·refine Z9 ?_;refine jad (h) rfl Tryz.func30 rfl jab ?_;refine Zs ?_
   exact ⟨rfl,by rw [if_neg zD]⟩
  ·refine Z4 ?_
   have hz0:jaJ b (jdv b c)=0:=by first|assumption|omega
   obtain ⟨q9,rfl,sh,rfl,hc8,rdB⟩:=hz hz0
   obtain ⟨hzb,hzo,hzn⟩:=jeL hz0
   have hk:=jaN.1 hzb
   have hbl:=jbC hk
   have h12:=jbH hk
   have hin:c∈jaa b:=Classical.byContradiction fun e=>by rw [jdv,if_neg e] at hzo;cases hzo
   have hpl:=jkY.2 hin
   obtain ⟨kk,hkk⟩: ∃kk,kk=plN b c:=⟨_,rfl⟩
   rw [←hkk] at hpl
   obtain ⟨mrw,qm,hm1,hm2⟩:=sh.map
   haveI hmh:Has n8 qm mrw (jhz (jaa b)):=⟨hm2⟩
   refine Z12 ?_;refine D30 ?_
   refine jai (fun nn l h'=> ∃(j:Nat),nn=(jac b).length-j∧(j≤(jac b).length)∧(∃U:Nat→Value,l=((tbV b ps ns ks pw nw cw pb nb cb)::(cV c.butt c.line c.st)::(U 2)::(.pointer (some ⟨q3,0,none⟩))::(U 4)::(U 5)::(.pointer (some ⟨q6,0,none⟩))::(U 7)::(.int .i64 (jer (jac b) kk j:Int))::vw13 U 9 ((.slice p8 (jac b).length c8)::(.int .i64 ((jac b).length:Int))::(.int .i64 (j:Int))::vw24 U 25 [])))∧h++[⟨true,q2,.cells (tbL b ps ns ks pw nw cw pb nb cb).toArray 25 (0,0)⟩,⟨true,q3,.cells (ceL c).toArray 37 (0,0)⟩]++[⟨true,qs,.cells (ceL c).toArray 37 (0,0)⟩]++n8++[⟨true,q6,.cells [.pointer (some ⟨q9,0,none⟩),.slice p8 (jac b).length c8].toArray 112 (0,0)⟩]=h') _ ⟨0,rfl,by omega,exU rfl,rfl⟩ ?_;rintro nn l h' ⟨j,rfl,hj,⟨U,rfl⟩,rfl⟩ hnext;have hwk:=jmD (jac b) kk j
   refine Z2 ?_
   refine jao rfl zq (fun hc=>?_) (fun hc=>?_)
   ·refine Z7 ?_
    obtain ⟨rb,ro,hrp⟩:=rdB.ptr zO
    have rdB':=rdB
    rw [hrp] at rdB'
    have hxm:(jac b).getD j []∈jac b:=by rw [List.getD_eq_getElem?_getD,List.getElem?_eq_getElem zO];exact E52
    have hxl:=jb2 hxm
    refine Zs ?_;refine D65 ?_;refine D83 ?_
    obtain ⟨x,hx⟩: ∃x,x=(jac b).getD j []:=⟨_,rfl⟩
    rw [←hx] at hxm hxl⊢
    have hxb:=jdr (x:=x) zO
    refine jax rfl zq (fun q10=>jau (jae ?_));refine jnB rfl zq (ja2 x) ?_;refine Z2 ?_;refine jar [Zp 0,Zp 2,Zr 1,Zr 3,Zp 4,Zp 5,Zr 6,Zr 7,Zr 8,Zk 9] zK zK (List.Sublist.refl _) ?_;refine Z6 ?_;refine jaW rfl zq (hm1.keeps SubH.sub) ?_;refine Zs ?_;refine jnH (c:=c) (cs:=jaa b) (k:=37) (e:=3) zK rfl zq ?_;refine jag (Post:=fun v=>IsB _ v) rfl zq zK (fun H' hH=>by
      rw [jjv hin,←hkk];exact f98_b m H' (jcf x) kk hxb zO) ?_
    rintro v (⟨hc,rfl⟩|⟨hc,rfl⟩);refine Z8 ?_
    rotate_left
    refine Z4 ?_
    all_goals
     refine Z5 ?_
    ·have hws:jer (jac b) kk (j+1)=jer (jac b) kk j:=by
      rw [jiX zO,←hx,←jir zO,if_neg hc];rfl
     rw [←hws];exact m.weak jab (hnext _ _ _ zO ⟨j+1,rfl,by omega,exU rfl,rfl⟩)
    ·have hws:jer (jac b) kk (j+1)=jer (jac b) kk j+1:=by
      rw [jiX zO,←hx,←jir zO,hc];rfl
     rw [show (jer (jac b) kk j:Int)+1=((jer (jac b) kk (j+1):Nat):Int) by rw [hws];rfl];exact m.weak jab (hnext _ _ _ zO ⟨j+1,rfl,by omega,exU rfl,rfl⟩)
   ·refine Z6 ?_
    have hjn:j=(jac b).length:=by omega
    rw [hjn,jkF];have hwa:=jmD (jac b) kk (jac b).length
    rw [jkF] at hwa
    refine Z6 ?_
    refine jaS rfl zq (fun hc=>?_) (fun hc=>?_)
    ·refine Z9 ?_;refine jad (h) rfl Tryz.func30 rfl jab ?_;refine Zs ?_
     refine ⟨rfl,?_⟩
     rw [if_pos hz0,hz0,←hkk];first
      |rw [jeH,if_pos zO]
      |rw [jeH,if_neg zO,if_pos zO]
      |rw [jeH,if_neg zO,if_neg zO]
    ·refine Z8 ?_
     refine jaS rfl zq (fun hc=>?_) (fun hc=>?_);refine Z3 ?_
     rotate_left
     refine Z5 ?_
     all_goals
      refine Z6 ?_;refine jad (h) rfl Tryz.func30 rfl jab ?_;refine Zs ?_
      refine ⟨rfl,?_⟩
      rw [if_pos hz0,hz0,←hkk];first
       |rw [jeH,if_pos zO]
       |rw [jeH,if_neg zO,if_pos zO]
       |rw [jeH,if_neg zO,if_neg zO]
end
end Go.Proofs
