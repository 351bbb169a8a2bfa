/- A part of the proof of a law. Condition of each theorem: as its statement says. -/
import Derived.Test.YtggpepeiedkbbaaGreatDoorVK6
set_option linter.all false
variable {B:Array Go.Obj} {ls lns L:List Go.Lo.Ln} {h H:Go.Lo.Hp} {p t s:Go.Lo.Str} {n ns ks nw cw nb cb q k i j:Nat} {ps pw pb pl wp:Option Go.Addr} {cs cl tv:List Go.Value} {v la:List Int} {a:UInt8} {bt:Bool} {li st:Int}
set_option maxHeartbeats 4000000
set_option maxRecDepth 100000
set_option synthInstance.maxHeartbeats 1000000
set_option synthInstance.maxSize 100000
namespace Go.Proofs
open Go.Lo
open Go.Conc (G)
section
variable [LaidO B]
def halvesL:List Value:=[str [119,97,116,101,114],.bool false,.func (.func 261) #[] #[],str [98,117,116,116],.bool true,.func (.func 262) #[] #[]]
def hwS (i:Nat):Str:=if i=0 then [119,97,116,101,114] else [98,117,116,116]
def hbS (i:Nat):Bool:=decide (i≠0)
def hL (b:Tb) (i:Nat):List Ln:=if i=0 then b.waters else b.butts
theorem half_get (i:Nat) (hi:i<2):(halvesL.drop ((i:Int).toNat*3)).take 3=[str (hwS i),.bool (hbS i),.func (.func (261+i)) #[] #[]]:=by
 rcases (by omega:i=0∨i=1) with rfl|rfl<;>rfl
theorem jiN (i:Nat) (hi:i<2):jcd Tryz.prog (261+i)=true:=by
 rcases (by omega:i=0∨i=1) with rfl|rfl<;>kernel_rfl
theorem jgc {α:Type} [Inhabited α] (f:α→Nat) (xs:List α) (k:Nat) (h:k<xs.length):((xs.take (k+1)).map f).sum=((xs.take k).map f).sum+f (xs.getD k default):=by
 rw [jaV xs k h,GC,Ve];simp
theorem jia {α:Type} (f:α→Nat) (c:Nat): ∀(xs:List α),(∀x∈xs,f x≤c)→(xs.map f).sum≤xs.length*c
 |[],_=>by simp
 |x::r,h=>by
  have h1:=h x zS
  have h2:=jia f c r fun y hy=>h y (by simp [hy])
  simp only [gx,vH,gV,Gf]
  omega
theorem jig (s:Str):jdM s≤3:=by
 have:=vB (p:=fun x:Int=>decide (x= -1)) (l:=jan s)
 rw [(ja9 s).len] at this
 exact this
theorem jku {l:Ln} (h:l.figs.length≤1000):jeU l≤3000:=by
 have:=jia jdM 3 l.figs fun s _=>jig s
 unfold jeU
 omega
theorem jqc (h:ls.length≤1000) (hf: ∀l∈ls,l.figs.length≤1000):jeN ls≤3000000:=by
 have:=jia jeU 3000 ls fun l hl=>jku (hf l hl)
 unfold jeN
 omega
theorem jbG {p:Option Addr} {c:Nat} (r:RdLn B h (.slice p n c) n ls):ls.length=n:=by
 obtain ⟨lps,hle,rl,_⟩:=r
 rw [←hle,gN,rl.elen zA]
def jjw (b:Tb) (i:Nat):Nat:=((List.range i).map fun j=>jeN (hL b j)).sum
theorem jrT (b:Tb) (i:Nat):jjw b (i+1)=jjw b i+jeN (hL b i):=by
 rw [jjw,GV,GC,Ve];simp [jjw]
theorem f261_c (m:Md Tryz.prog B) (h:Hp) (q:Nat):FnC m 261 #[.pointer (some ⟨q,0,none⟩)] h fun v h'=>h'=h∧v= .pointer (some ⟨q,2,none⟩):=by
 refine jae Tryz.func261 rfl rfl (l:=[.pointer (some ⟨q,0,none⟩),undef,undef,undef,undef,undef]) rfl ?_
 intro cf cs K hK
 refine Z12 ?_;refine jac (h) rfl Tryz.func261 rfl jab ?_;refine Zs ?_
 exact ⟨rfl,rfl⟩
theorem f262_c (m:Md Tryz.prog B) (h:Hp) (q:Nat):FnC m 262 #[.pointer (some ⟨q,0,none⟩)] h fun v h'=>h'=h∧v= .pointer (some ⟨q,3,none⟩):=by
 refine jae Tryz.func262 rfl rfl (l:=[.pointer (some ⟨q,0,none⟩),undef,undef,undef,undef,undef]) rfl ?_
 intro cf cs K hK
 refine Z12 ?_;refine jac (h) rfl Tryz.func262 rfl jab ?_;refine Zs ?_
 exact ⟨rfl,rfl⟩
theorem jrs (m:Md Tryz.prog B) (h:Hp) (q i:Nat) (hi:i<2):FnC m (261+i) #[.pointer (some ⟨q,0,none⟩)] h fun v h'=>h'=h∧v= .pointer (some ⟨q,2+i,none⟩):=by
 rcases (by omega:i=0∨i=1) with rfl|rfl
 ·exact f261_c m h q
 ·exact f262_c m h q
theorem jrq {b:Tb} (rdw:RdLn B h (.slice pw nw cw) nw b.waters) (hw:nw≤1000) (rdb:RdLn B h (.slice pb nb cb) nb b.butts) (hb:nb≤1000) (i:Nat) (hi:i<2):
  ∃pl nl cl,(tbL b ps ns ks pw nw cw pb nb cb)[2+i]?=some (.slice pl nl cl)∧RdLn B h (.slice pl nl cl) nl (hL b i)∧nl≤1000:=by
 rcases (by omega:i=0∨i=1) with rfl|rfl
 ·exact ⟨pw,nw,cw,rfl,rdw,hw⟩
 ·exact ⟨pb,nb,cb,rfl,rdb,hb⟩
theorem rd_nth {o:Nat} {rw:Bool} {t:TypeId} {f:Nat×Nat} {v:Value} [x:Has h q rw (.cells cs.toArray t f)] (e:cs[o]?=some v):Rd B h ⟨q,o,none⟩ v:=Rd.held x.mem (by simpa using e)
theorem f122_c (m:Md Tryz.prog B) (h:Hp) {b:Tb} (rds:RdS B h 1 (.slice ps ns ks) ns (jaC b.sts)) (hcs:ns≤ks) (hns:ns≤1000) (hsl: ∀s∈b.sts,s.length≤100000) (rdw:RdLn B h (.slice pw nw cw) nw b.waters) (hnw:nw≤1000) (rdb:RdLn B h (.slice pb nb cb) nb b.butts) (hnb:nb≤1000) (hsm:TbSm b):FnC m 122 #[tbV b ps ns ks pw nw cw pb nb cb] h fun v h'=>h'=h∧v= .int .i64 (ji7 b):=by
 have hml:=rds.elen zA
 have hsw:=jqc (ls:=b.waters) (by rw [jbG rdw];exact hnw) fun l hl=>(hsm.wat l hl).1
 have hsb:=jqc (ls:=b.butts) (by rw [jbG rdb];exact hnb) fun l hl=>(hsm.but l hl).1
 refine jae Tryz.func122 rfl rfl (l:=(tbV b ps ns ks pw nw cw pb nb cb)::uu56) rfl ?_
 intro cf cs K hK
 refine Z2 ?_
 refine jaA rfl zq (fun q1=>jao (jad ?_));refine Z9 ?_;refine jb4 (vs:=halvesL) rfl zq rfl jfX ?_;refine Z3 ?_
 refine jag (fun nn l h'=> ∃(i:Nat),nn=2-i∧(i≤2)∧(∀j,j<i→jaF b.sts.length (hL b j)=0)∧(∃U:Nat→Value,l=((tbV b ps ns ks pw nw cw pb nb cb)::(.pointer (some ⟨q1,0,none⟩))::(U 2)::(.int .i64 (jjw b i:Int))::vw10 U 4 ((.agg halvesL.toArray)::(.int .i64 (i:Int))::vw41 U 16 [])))∧h++[⟨true,q1,.cells (tbL b ps ns ks pw nw cw pb nb cb).toArray 127 (0,0)⟩]=h') _ ⟨0,rfl,by omega,fun j hj=>absurd hj zO,exU rfl,rfl⟩ ?_;rintro nn l h' ⟨i,rfl,hi,hz,⟨U,rfl⟩,rfl⟩ hnext1;have hcb:jjw b i≤i*3000000:=by
  rcases (by omega:i=0∨i=1∨i=2) with rfl|rfl|rfl<;>simp [jjw,GV,hL]<;>omega
 refine Z2 ?_
 refine jam rfl zq (fun hc=>?_) (fun hc=>?_)
 ·refine Z8 ?_;refine jok rfl zq zO zO (half_get i zO) ?_
  refine jay rfl zq (fun q5=>jao (jad ?_));refine D4 ?_;refine Z2 ?_
  obtain ⟨pl,nl,cl,hsl1,hln,hnl⟩:=jrq (B:=B) (b:=b) (ps:=ps) (ns:=ns) (ks:=ks) rdw hnw rdb hnb i zO
  have hsmi: ∀l∈hL b i,l.figs.length≤1000∧ ∀f∈l.figs,f.length≤100000:=by
   unfold hL
   split
   ·exact hsm.wat
   ·exact hsm.but
  refine Z4 ?_;refine D78 ?_
  rintro v rfl;refine Z2 ?_;refine jaN (v:= .slice pl nl cl) rfl zq (rd_nth hsl1) ?_;refine Z7 ?_;refine jaf (Post:=fun v=>v=_) rfl zq zK (fun H' hH=>f170_c m H' (rds.keeps (sq hH)) hcs hns hsl (hln.keeps (sq hH)) hnl hsmi) ?_
  rintro v rfl;refine Z6 ?_
  refine jaI rfl zq (fun hc=>?_) (fun hc=>?_)
  ·refine Z8 ?_;refine jac (h) rfl Tryz.func122 rfl jab ?_;refine Zs ?_
   refine ⟨rfl,congrArg (Value.int .i64) ?_⟩
   rcases (by omega:i=0∨i=1) with rfl|rfl
   ·rw [ji7,if_pos (show jaF b.sts.length b.waters≠0 by assumption)];rfl
   ·rw [ji7,if_neg (fun e=>e (hz 0 zO)),if_pos (show jaF b.sts.length b.butts≠0 by assumption)];rfl
  ·refine Z4 ?_
   obtain ⟨lps,hle,rl,hfig⟩:=hln
   have hll:=rl.elen zA
   have hln2:(hL b i).length=nl:=by rw [←hle,gN,hll]
   refine Z6 ?_
   rw [show (jjw b i:Int)=((jjw b i+((hL b i).take 0|>.map jeU).sum:Nat):Int) by simp];refine jag (fun nn l h'=> ∃(k:Nat),nn=nl-k∧(k≤nl)∧(∃U:Nat→Value,l=((tbV b ps ns ks pw nw cw pb nb cb)::(.pointer (some ⟨q1,0,none⟩))::(U 2)::(.int .i64 ((jjw b i+((hL b i).take k|>.map jeU).sum:Nat):Int))::vw10 U 4 ((.agg halvesL.toArray)::(.int .i64 (i:Int))::vw14 U 16 ((.slice pl nl cl)::(.int .i64 (nl:Int))::(.int .i64 (k:Int))::vw24 U 33 []))))∧h++[⟨true,q1,.cells (tbL b ps ns ks pw nw cw pb nb cb).toArray 127 (0,0)⟩,⟨true,q5,.cells [str (hwS i),.bool (hbS i),.func (.func (261+i)) #[] #[]].toArray 184 (0,0)⟩]=h') _ ⟨0,rfl,by omega,exU rfl,rfl⟩ ?_;rintro nn l h' ⟨k,rfl,hk,⟨U,rfl⟩,rfl⟩ hnext2;have hsk:((hL b i).take k|>.map jeU).sum≤k*3000:=GI (jia jeU 3000 _ fun l hl=>jku (hsmi l (xT hl)).1) (GW _ zN)
   refine Z2 ?_
   refine jam rfl zq (fun hc=>?_) (fun hc=>?_)
   ·refine Z7 ?_
    obtain ⟨rl_b,rl_o,rfl⟩:=rl.ptr zO
    refine Zs ?_;refine D8 ?_;refine D49 ?_
    obtain ⟨x,hx⟩: ∃x,x=lps.getD k default:=⟨_,rfl⟩
    rw [←hx];refine jay rfl zq (fun q9=>jao (jad ?_));refine D4 ?_;refine Z2 ?_
    have hxm:x∈lps:=hx▸jaj zO
    obtain ⟨hxc,rdf0⟩:=hfig x hxm
    have hxl:(hL b i).getD k default=x.ln:=by rw [←hle,ja5 _ _ zO,←hx]
    obtain ⟨hfl,hfs⟩:=hsmi x.ln (hxl▸jaj zO)
    have hkb:k*3000≤1000*3000:=GW _ zO
    refine Z7 ?_
    rw [show ((jjw b i+((hL b i).take k|>.map jeU).sum:Nat):Int)=((jjw b i+((hL b i).take k|>.map jeU).sum+((x.ln.figs.take 0).map jdM).sum:Nat):Int) by simp];refine jag (fun nn l h'=> ∃(j:Nat),nn=x.ln.figs.length-j∧(j≤x.ln.figs.length)∧(∃U:Nat→Value,l=((tbV b ps ns ks pw nw cw pb nb cb)::(.pointer (some ⟨q1,0,none⟩))::(U 2)::(.int .i64 ((jjw b i+((hL b i).take k|>.map jeU).sum+((x.ln.figs.take j).map jdM).sum:Nat):Int))::vw10 U 4 ((.agg halvesL.toArray)::(.int .i64 (i:Int))::vw14 U 16 ((.slice (some ⟨rl_b,rl_o,none⟩) nl cl)::(.int .i64 (nl:Int))::(.int .i64 (k:Int))::vw4 U 33 ((.slice x.p x.ln.figs.length x.c)::(.int .i64 (x.ln.figs.length:Int))::(.int .i64 (j:Int))::vw17 U 40 [])))))∧h++[⟨true,q1,.cells (tbL b ps ns ks pw nw cw pb nb cb).toArray 127 (0,0)⟩,⟨true,q5,.cells [str (hwS i),.bool (hbS i),.func (.func (261+i)) #[] #[]].toArray 184 (0,0)⟩,⟨true,q9,.cells [.int .i64 x.ln.lat,.slice x.p x.ln.figs.length x.c].toArray 121 (0,0)⟩]=h') _ ⟨0,rfl,by omega,exU rfl,rfl⟩ ?_;rintro nn l h' ⟨j,rfl,hj,⟨U,rfl⟩,rfl⟩ hnext3;have hsj:((x.ln.figs.take j).map jdM).sum≤j*3:=GI (jia jdM 3 _ fun s _=>jig s) (GW _ zN)
    refine Z2 ?_
    refine jam rfl zq (fun hc=>?_) (fun hc=>?_);refine Z7 ?_
    have rdf:=rdf0 zO
    obtain ⟨fb,fo,hfp⟩:=rdf.ptr zO
    have rdg:=rdf
    rw [hfp] at rdg
    have hsk2:(x.ln.figs.getD j []).length≤100000:=hfs _ (jaj (l:=x.ln.figs) zO)
    refine Zs ?_;refine D45 ?_;refine jaN rfl zq (rdg.sat j zO zO) ?_;refine Z5 ?_;refine jaf (Post:=fun v=>v=_) rfl zq zK (fun H' hH=>f119_c m H' _ hsk2) ?_
    rintro v rfl;refine Z4 ?_
    refine jay rfl zq (fun q12=>jao (jad ?_));refine D46 ?_;refine Z4 ?_;refine D32 ?_;refine jaf (Post:=fun v=>v= .int .i64 (jdM (x.ln.figs.getD j []):Int)) rfl zq zK (fun H' hH=>f171_c m H' (ja9 _).len) ?_
    rintro v rfl;refine Zs ?_
    have hfj:=jig (x.ln.figs.getD j [])
    refine Z4 ?_
    rotate_left
    refine Z5 ?_
    have hjn:j=x.ln.figs.length:=by omega
    all_goals
     refine Z4 ?_
    ·rw [hjn,gq (gM _),show jjw b i+((hL b i).take k|>.map jeU).sum+(x.ln.figs.map jdM).sum=jjw b i+((hL b i).take (k+1)|>.map jeU).sum by rw [jgc jeU _ _ zO,hxl,VJ];rfl];exact m.weak jab (hnext2 _ _ _ zO ⟨k+1,rfl,by omega,exU rfl,rfl⟩)
    ·rw [show ((jjw b i+((hL b i).take k|>.map jeU).sum+((x.ln.figs.take j).map jdM).sum:Nat):Int)+(jdM (x.ln.figs.getD j []):Int)=((jjw b i+((hL b i).take k|>.map jeU).sum+((x.ln.figs.take (j+1)).map jdM).sum:Nat):Int) by rw [jgc jdM _ _ zO];show _+((jdM (x.ln.figs.getD j default):Nat):Int)=_;omega];exact m.weak jab (hnext3 _ _ _ zO ⟨j+1,rfl,by omega,exU rfl,rfl⟩)
   ·refine Z5 ?_
    have hkn:k=nl:=by omega
    have hin2:i<2:=by omega
    refine Z4 ?_
    rw [hkn,gq zO,show jjw b i+((hL b i).map jeU).sum=jjw b (i+1) from (jrT b i).symm];exact m.weak jab (hnext1 _ _ _ zO ⟨i+1,rfl,by omega,fun j hj=>by
     by_cases e:j<i
     ·exact hz j e
     ·obtain rfl:j=i:=by omega
      omega,exU rfl,rfl⟩)
 ·refine Z6 ?_
  have hi2:i=2:=by omega
  subst hi2
  have hz0:=hz 0 zO
  have hz1:=hz 1 zO
  rw [show hL b 0=b.waters from rfl] at hz0
  rw [show hL b 1=b.butts from rfl] at hz1
  have hc2:jjw b 2=jeN b.waters+jeN b.butts:=by simp [jjw,GV,hL]
  refine Z2 ?_
  refine jaJ rfl zq (fun hc=>?_) (fun hc=>?_);refine Z2 ?_
  rotate_left
  refine Z3 ?_
  all_goals
   refine Z5 ?_;refine jac (h) rfl Tryz.func122 rfl jab ?_;refine Zs ?_
  ·exact ⟨rfl,by rw [ji7,if_neg (fun e=>e hz0),if_neg (fun e=>e hz1),if_neg zO]⟩
  ·exact ⟨rfl,by rw [ji7,if_neg (fun e=>e hz0),if_neg (fun e=>e hz1),if_pos zO]⟩
end
section
variable [LaidO B]
def chkT (b:Tb) (k:Nat):Int:=if k=0 then jeA b else ji7 b
theorem jmy {b:Tb} (hk:k<2) (h: ∀i,i<k→chkT b i=0) (hs:chkT b k≠0):tbS b=chkT b k:=by
 rcases (by omega:k=0∨k=1) with rfl|rfl
 ·rw [tbS,if_pos (show jeA b≠0 from hs)];rfl
 ·rw [tbS,if_neg (fun e=>e (show jeA b=0 from h 0 zO))];rfl
theorem jj9 {b:Tb} (h: ∀i,i<2→chkT b i=0):tbS b=0:=by
 rw [tbS,if_neg (fun e=>e (show jeA b=0 from h 0 zO))];exact h 1 zO
theorem chkT_get (v:Value) (k:Nat) (hk:k<2):([Value.func (.func 121) #[v] #[],.func (.func 122) #[v] #[]].toArray)[(k:Int).toNat*1]?=some (.func (.func (121+k)) #[v] #[]):=by
 rcases (by omega:k=0∨k=1) with rfl|rfl<;>rfl
theorem jrX (k:Nat) (hk:k<2):jcd Tryz.prog (121+k)=true:=by
 rcases (by omega:k=0∨k=1) with rfl|rfl<;>kernel_rfl
theorem chkT_c (m:Md Tryz.prog B) (h:Hp) {b:Tb} (rds:RdS B h 1 (.slice ps ns ks) ns (jaC b.sts)) (hcs:ns≤ks) (hns:ns≤1000) (hsl: ∀s∈b.sts,s.length≤100000) (rdw:RdLn B h (.slice pw nw cw) nw b.waters) (hnw:nw≤1000) (rdb:RdLn B h (.slice pb nb cb) nb b.butts) (hnb:nb≤1000) (hsm:TbSm b) (k:Nat) (hk:k<2):FnC m (121+k) #[tbV b ps ns ks pw nw cw pb nb cb] h fun v h'=>h'=h∧v= .int .i64 (chkT b k):=by
 rcases (by omega:k=0∨k=1) with rfl|rfl
 ·exact f121_c m h rds hcs hns hsl
 ·exact f122_c m h rds hcs hns hsl rdw hnw rdb hnb hsm
theorem f65_c (m:Md Tryz.prog B) (h:Hp) {b:Tb} (rds:RdS B h 1 (.slice ps ns ks) ns (jaC b.sts)) (hcs:ns≤ks) (hns:ns≤1000) (hsl: ∀s∈b.sts,s.length≤100000) (rdw:RdLn B h (.slice pw nw cw) nw b.waters) (hnw:nw≤1000) (rdb:RdLn B h (.slice pb nb cb) nb b.butts) (hnb:nb≤1000) (hsm:TbSm b):FnC m 65 #[tbV b ps ns ks pw nw cw pb nb cb] h fun v h'=>h'=h∧v= .int .i64 (tbS b):=by
 refine jae Tryz.func65 rfl rfl (l:=(tbV b ps ns ks pw nw cw pb nb cb)::uu24) rfl ?_
 intro cf cs K hK
 refine Z2 ?_
 refine jaA rfl zq (fun q1=>jao (jad ?_));refine Z5 ?_;refine D30 ?_
 refine jay rfl zq (fun q3=>jao (jad ?_));refine D4 ?_;refine Z5 ?_;refine jhJ rfl zq ?_;refine Zs ?_;refine jhJ rfl zq ?_
 refine jb7 kdq rfl zq zA zA rfl (fun q13=>jao (jad ?_));refine Z4 ?_
 refine jag (fun nn l h'=> ∃(k:Nat),nn=2-k∧(k≤2)∧(∀i,i<k→chkT b i=0)∧(∃U:Nat→Value,l=((tbV b ps ns ks pw nw cw pb nb cb)::vw12 U 1 ((.slice (some ⟨q13,0,none⟩) 2 2)::(.int .i64 (2:Int))::(.int .i64 (k:Int))::vw9 U 16 [])))∧h++[⟨true,q1,.cells (tbL b ps ns ks pw nw cw pb nb cb).toArray 25 (0,0)⟩,⟨true,q3,.cells (tbL b ps ns ks pw nw cw pb nb cb).toArray 127 (0,0)⟩,⟨true,q13,.cells [.func (.func 121) #[tbV b ps ns ks pw nw cw pb nb cb] #[],.func (.func 122) #[tbV b ps ns ks pw nw cw pb nb cb] #[]].toArray 158 (0,0)⟩]=h') _ ⟨0,rfl,by omega,fun i hi=>by omega,exU rfl,rfl⟩ ?_;rintro nn l h' ⟨k,rfl,hk3,he,⟨U,rfl⟩,rfl⟩ hnext;refine Z2 ?_
 refine jam rfl zq (fun hc=>?_) (fun hc=>?_)
 ·refine Z8 ?_;refine D8 ?_;refine jaN (v:= .func (.func (121+k)) #[tbV b ps ns ks pw nw cw pb nb cb] #[]) rfl zq (Rd.held (Has.mem (b:=q13)) (by simpa using chkT_get _ k zO)) ?_;refine Z5 ?_;refine jfF (Post:=fun v=>v=_) rfl zq (jrX k zO) (fun H' hH=>chkT_c m H' (rds.keeps (sq hH)) hcs hns hsl (rdw.keeps (sq hH)) hnw (rdb.keeps (sq hH)) hnb hsm k zO) ?_
  rintro v rfl;refine Z6 ?_
  refine jaI rfl zq (fun hc=>?_) (fun hc=>?_)
  ·refine Z8 ?_;refine jac (h) rfl Tryz.func65 rfl jab ?_;refine Zs ?_
   refine ⟨rfl,congrArg (Value.int .i64) ?_⟩
   first
    |exact (jmy zO he zD).symm
    |exact (jj9 (fun i hi=>he i zO)).symm
  ·refine Z8 ?_
   exact m.weak jab (hnext _ _ _ zO ⟨k+1,rfl,by omega,fun i hi=>by
    by_cases e:i<k
    ·exact he i e
    ·obtain rfl:i=k:=by omega
     first|assumption|omega,exU rfl,rfl⟩)
 ·refine Z9 ?_;refine jac (h) rfl Tryz.func65 rfl jab ?_;refine Zs ?_
  refine ⟨rfl,congrArg (Value.int .i64) ?_⟩
  first
   |exact (jmy zO he zD).symm
   |exact (jj9 (fun i hi=>he i zO)).symm
end
section
theorem jmg (h:i<s.length):s[((i:Nat):Int).toNat]?=some (s.getD i 0):=by
 rw [gm,gD h,gC,gD h];rfl
theorem jkU (h:0<s.length):s[(0:Int).toNat]?=some (s.getD 0 0):=jmg (i:=0) h
def jgK (s:Str):Nat:=s.countP fun c=>decide (c.toNat=63)
theorem ji3 {α:Type} [Inhabited α] (p:α→Bool) (xs:List α) (k:Nat) (h:k<xs.length):(xs.take (k+1)).countP p=(xs.take k).countP p+if p (xs.getD k default) then 1 else 0:=by
 rw [jaV xs k h,Vo];simp
def smuK (s:Str) (i:Nat):Nat:=jgK (s.take i)
theorem smuK_le (s:Str) (i:Nat):smuK s i≤i:=GI vB zN
theorem smuK_yes (h:i<s.length) (e:((s.getD i 0).toNat:Int)=63):(smuK s i:Int)+1=(smuK s (i+1):Int):=by
 have:=ji3 (fun c:UInt8=>decide (c.toNat=63)) s i h
 rw [show s.getD i default=s.getD i 0 from rfl,if_pos (decide_eq_true zO)] at this
 show ((_:Nat):Int)+1=((_:Nat):Int)
 unfold smuK jgK
 omega
theorem smuK_no (h:i<s.length) (e: ¬((s.getD i 0).toNat:Int)=63):(smuK s i:Int)=(smuK s (i+1):Int):=by
 have:=ji3 (fun c:UInt8=>decide (c.toNat=63)) s i h
 rw [show s.getD i default=s.getD i 0 from rfl,if_neg (fun e2=>e (by have:=of_decide_eq_true e2;omega))] at this
 unfold smuK jgK
 omega
theorem smuK_all (h:i=s.length):smuK s i=jgK s:=by rw [smuK,gq zO]
theorem f172_c (m:Md Tryz.prog B) (h:Hp) (c:UInt8):FnC m 172 #[.int .u8 (c.toNat:Int)] h fun v h'=>h'=h∧IsB (48≤c.toNat∧c.toNat≤57) v:=by
 refine jae Tryz.func172 rfl rfl (l:=(.int .u8 (c.toNat:Int))::uu8) rfl ?_
 intro cf cs K hK
 refine Z7 ?_
 refine jdH rfl zq (fun hc=>?_) (fun hc=>?_)
 ·refine Z2 ?_
  refine jcB rfl rfl (fun hc=>?_) (fun hc=>?_);all_goals
   refine Z4 ?_;refine jac (h) rfl Tryz.func172 rfl jab ?_;refine Zs ?_
   exact E0
 ·refine Z7 ?_;refine jac (h) rfl Tryz.func172 rfl jab ?_;refine Zs ?_
  exact E0
theorem f123_c (m:Md Tryz.prog B) (h:Hp) (s:Str) (hl:s.length≤100000):FnC m 123 #[str s] h fun v h'=>h'=h∧IsB (jhq s) v:=by
 refine jae Tryz.func123 rfl rfl (l:=(str s)::uu39) rfl ?_
 intro cf cs K hK
 refine Z6 ?_;refine rr13 ?_;refine Z2 ?_
 refine jam rfl zq (fun hc=>?_) (fun hc=>?_)
 ·refine Z17 ?_;refine D80 ?_;refine Zs ?_
  first
   |exact E15
   |exact E16
   |exact E17
   |exact E18
 ·refine Z2 ?_;refine jl6 rfl rfl jjC ?_
  refine jaJ rfl rfl (fun hc=>?_) (fun hc=>?_)
  ·refine Z13 ?_;refine D80 ?_;refine Zs ?_
   first
    |exact E15
    |exact E16
    |exact E17
    |exact E18
  ·refine Z3 ?_;refine jhv (c:=s.getD 0 0) rfl rfl jjC zO (jkU zO) ?_;refine jaf (Post:=fun v=>IsB _ v) rfl rfl zK (fun H' hH=>f172_c m H' _) ?_
   rintro v (⟨hc,rfl⟩|⟨hc,rfl⟩)
   ·refine Z9 ?_;refine D80 ?_;refine Zs ?_
    first
     |exact E15
     |exact E16
     |exact E17
     |exact E18
   ·refine Z11 ?_
    refine jag (fun nn l h'=> ∃(i:Nat),nn=s.length-i∧(i≤s.length)∧(∀j,j<i→ji6 j (s.getD j 0))∧(∃U:Nat→Value,l=((str s)::(U 1)::(U 2)::(.int .i64 (i:Int))::vw36 U 4 []))∧h=h') _ ⟨0,rfl,by omega,fun j hj=>absurd hj zO,exU rfl,rfl⟩ ?_;rintro nn l h' ⟨i,rfl,hi,hch,⟨U,rfl⟩,rfl⟩ hnext;refine Z6 ?_
    refine jam rfl zq (fun hc=>?_) (fun hc=>?_)
    ·refine Z6 ?_;refine rr17 ?_;refine Z2 ?_;refine jhv (c:=s.getD i 0) rfl zq jjC zO (jmg zO) ?_
     obtain ⟨ch,hcc⟩: ∃ch,ch=s.getD i 0:=⟨_,rfl⟩
     rw [←hcc];have hcb:=ch.toNat_lt
     refine D34 ?_
     rintro v (⟨hc,rfl⟩|⟨hc,rfl⟩)
     ·refine Z23 ?_
      exact m.weak jab (hnext _ _ _ zO ⟨i+1,rfl,by omega,by
       intro j hj
       by_cases e:j<i
       ·exact hch j e
       ·obtain rfl:j=i:=by omega
        rw [←hcc];have hct:=congrArg UInt8.toNat hcc
        rcases Vg j with rfl|hp<;>unfold ji6<;>omega,exU rfl,rfl⟩)
     ·refine Z5 ?_;refine D95 ?_
      rw [←hcc];refine jam rfl rfl (fun hc=>?_) (fun hc=>?_)
      ·refine Z14 ?_;refine D80 ?_;refine Zs ?_
       first
        |exact E15
        |exact E16
        |exact E17
        |exact E18
      ·refine Z3 ?_;refine D95 ?_
       rw [←hcc];refine jaJ rfl rfl (fun hc=>?_) (fun hc=>?_)
       ·refine Z9 ?_;refine D80 ?_;refine Zs ?_
        first
         |exact E15
         |exact E16
         |exact E17
         |exact E18
       ·refine Z11 ?_
        exact m.weak jab (hnext _ _ _ zO ⟨i+1,rfl,by omega,by
         intro j hj
         by_cases e:j<i
         ·exact hch j e
         ·obtain rfl:j=i:=by omega
          rw [←hcc];have hct:=congrArg UInt8.toNat hcc
          rcases Vg j with rfl|hp<;>unfold ji6<;>omega,exU rfl,rfl⟩)
    ·refine Z8 ?_;refine D80 ?_;refine Zs ?_
     first
      |exact E15
      |exact E16
      |exact E17
      |exact E18
theorem f126_c (m:Md Tryz.prog B) (h:Hp) (s:Str) (hl:s.length≤100000):FnC m 126 #[str s] h fun v h'=>h'=h∧v= .int .i64 (jgK s:Int):=by
 refine jae Tryz.func126 rfl rfl (l:=(str s)::uu17) rfl ?_
 intro cf cs K hK
 refine Z14 ?_
 refine jag (fun nn l h'=> ∃(i:Nat),nn=s.length-i∧(i≤s.length)∧(∃U:Nat→Value,l=((str s)::(U 1)::(U 2)::(.int .i64 (smuK s i:Int))::(.int .i64 (i:Int))::vw13 U 5 []))∧h=h') _ ⟨0,rfl,by omega,exU rfl,rfl⟩ ?_;rintro nn l h' ⟨i,rfl,hi,⟨U,rfl⟩,rfl⟩ hnext;have hcl:=smuK_le s i
 refine Z6 ?_
 refine jam rfl zq (fun hc=>?_) (fun hc=>?_)
 ·refine Z9 ?_;refine jhv (c:=s.getD i 0) rfl zq jjC zO (jmg zO) ?_
  refine jaE rfl zq (fun hc=>?_) (fun hc=>?_);refine Z7 ?_
  rotate_left
  refine Z3 ?_
  all_goals
   refine Z6 ?_
   first
    |rw [smuK_yes zO zD]
    |rw [smuK_no zO zD]
   exact m.weak jab (hnext _ _ _ zO ⟨i+1,rfl,by omega,exU rfl,rfl⟩)
 ·refine Z9 ?_;refine jac (h) rfl Tryz.func126 rfl jab ?_;refine Zs ?_
  exact ⟨rfl,by rw [smuK_all zO]⟩
theorem f124_c (m:Md Tryz.prog B) (h:Hp) {p:Option Addr} {c:Nat} {ss:List Str} (rd:RdS B h 1 (.slice p n c) n (jaC ss)) (hn:n≤100000) (s:Str):FnC m 124 #[.slice p n c,str s] h fun v h'=>h'=h∧ ∃x:Int,v= .int .i64 x∧jeg x∧(0≤x↔s∈ss):=by
 have hll0:=rd.elen zA
 refine jae Tryz.func124 rfl rfl (l:=(.slice p n c)::(str s)::uu17) rfl ?_
 intro cf cs K hK
 refine Z10 ?_
 refine jag (fun nn l h'=> ∃(i:Nat),nn=n-i∧(i≤n)∧(∀j,j<i→ss.getD j []≠s)∧(∃U:Nat→Value,l=((.slice p n c)::(str s)::(U 2)::(U 3)::(U 4)::(.int .i64 (i:Int))::vw13 U 6 []))∧h=h') _ ⟨0,rfl,by omega,fun j hj=>absurd hj zO,exU rfl,rfl⟩ ?_;rintro nn l h' ⟨i,rfl,hi,hno,⟨U,rfl⟩,rfl⟩ hnext;refine Z6 ?_
 refine jam rfl zq (fun hc=>?_) (fun hc=>?_)
 ·refine Z9 ?_
  obtain ⟨rd_b,rd_o,rfl⟩:=rd.ptr zO
  refine D6 ?_;refine jaN rfl zq (rd.sat i zO zO) ?_;refine Zs ?_
  by_cases hse:ss.getD i []=s
  ·refine jg3 rfl zq hse ?_;refine Z8 ?_;refine jac (h) rfl Tryz.func124 rfl jab ?_;refine Zs ?_;have hll:=rd.elen zA
   exact E9
  ·refine jg4 rfl zq hse ?_;refine Z9 ?_;exact m.weak jab (hnext _ _ _ zO ⟨i+1,rfl,by omega,by
    intro j hj
    by_cases e:j<i
    ·exact hno j e
    ·obtain rfl:j=i:=by omega
     exact hse,exU rfl,rfl⟩)
 ·refine Z8 ?_;refine jac (h) rfl Tryz.func124 rfl jab ?_;refine Zs ?_
  have hll:=rd.elen zA
  refine ⟨rfl,_,rfl,by unfold jeg;omega,⟨fun e=>by omega,fun e=>?_⟩⟩
  obtain ⟨j,hj,e2⟩:=GK.1 e
  refine absurd ?_ (hno j zO)
  rw [gC,gD hj];exact e2
end
section
def jcb (s:Str) (c:UInt8):Nat→List Str×Nat
 |0=>([],0)
 |i+1=>if i=s.length∨s.getD i 0=c then ((jcb s c i).1++[(s.take i).drop (jcb s c i).2],i+1) else jcb s c i
def jf2 (s:Str) (c:UInt8):List Str:=(jcb s c (s.length+1)).1
theorem jk2 {c:UInt8} (h:i=s.length∨s.getD i 0=c):jcb s c (i+1)=((jcb s c i).1++[(s.take i).drop (jcb s c i).2],i+1):=by rw [jcb,if_pos h]
theorem cut_no {c:UInt8} (h:i≠s.length) (h2:s.getD i 0≠c):jcb s c (i+1)=jcb s c i:=by rw [jcb,if_neg (by rintro (e|e);exact h e;exact h2 e)]
theorem joz (s:Str) (c:UInt8): ∀i,(jcb s c i).2≤i∧(jcb s c i).1.length≤i
 |0=>by simp [jcb]
 |i+1=>by
  have:=joz s c i
  unfold jcb
  split
  ·simp
   omega
  ·omega
theorem byte_eq {c:UInt8} (h:(a.toNat:Int)=c.toNat):a=c:=vV.1 zO
theorem byte_ne {c:UInt8} (h: ¬(a.toNat:Int)=c.toNat):a≠c:=fun e=>h (by rw [e])
theorem jj6 (ss:List Str) (s:Str):jaC (ss++[s])=jaC ss++[str s]:=by rw [jbs,jbs,GC];rfl
theorem f63_c (m:Md Tryz.prog B) (h:Hp) (s:Str) (hl:s.length≤100000) (c:UInt8):FnC m 63 #[str s,.int .u8 (c.toNat:Int)] h fun w h'=> ∃new,h'=h++new∧OwnS 9 1 w (jf2 s c).length (jaC (jf2 s c)) new:=by
 refine jae Tryz.func63 rfl rfl (l:=(str s)::(.int .u8 (c.toNat:Int))::uu33) rfl ?_
 intro cf cs K hK
 refine Z18 ?_
 refine jag (fun nn l h'=> ∃(i:Nat) (wp:Option Addr) (wc:Nat) (M:Hp) (f:Nat),nn=s.length+1-i∧(i≤s.length+1)∧(f=(jcb s c i).2)∧(OwnS 9 1 (.slice wp (jcb s c i).1.length wc) (jcb s c i).1.length (jaC (jcb s c i).1) M)∧(∃U:Nat→Value,l=((str s)::(.int .u8 (c.toNat:Int))::(U 2)::(U 3)::(U 4)::(.slice wp (jcb s c i).1.length wc)::(.int .i64 (f:Int))::(.int .i64 (i:Int))::vw27 U 8 []))∧h++M=h') _ ⟨0,none,0,[],0,rfl,by omega,rfl,OwnS.nil,exU rfl,zS⟩ ?_;rintro nn l h' ⟨i,wp,wc,M,f,rfl,hi,hf,how,⟨U,rfl⟩,rfl⟩ hnext;obtain ⟨hfl,hpl⟩:=joz s c i
 refine Z6 ?_
 refine jcB rfl zq (fun hc=>?_) (fun hc=>?_)
 ·refine Z6 ?_;refine jpG ?_;refine Z3 ?_
  refine jaE rfl zq (fun hc=>?_) (fun hc=>?_)
  ·refine Z15 ?_;refine jhU (j:=f) (k:=i) rfl zq jjC zO zO ?_
   refine jb7 kdq rfl zq zA zA rfl (fun q30=>jao (jad ?_));refine ja6 rfl zq rfl how kdq zO zO (fun w9 n9 o9=>jad ?_);obtain ⟨p9,c9,rfl,hc9,r9⟩:=jas (B:=B) o9
   refine Z13 ?_
   have hks:=jk2 (s:=s) (c:=c) (i:=i) (.inl zO)
   have hkl:(jcb s c (i+1)).1.length=(jcb s c i).1.length+1:=by rw [hks];simp
   have hk2:(jcb s c (i+1)).2=i+1:=by rw [hks]
   rw [←hkl];exact E19
  ·refine Z3 ?_;refine D95 ?_;refine Zs ?_
   refine jaE rfl rfl (fun hc=>?_) (fun hc=>?_);refine Z9 ?_;refine jhU (j:=f) (k:=i) rfl zq jjC zO zO ?_
   refine jb7 kdq rfl zq zA zA rfl (fun q30=>jao (jad ?_));refine ja6 rfl zq rfl how kdq zO zO (fun w9 n9 o9=>jad ?_);obtain ⟨p9,c9,rfl,hc9,r9⟩:=jas (B:=B) o9
   refine Z7 ?_
   rotate_left
   refine Z4 ?_
   all_goals
    refine Z6 ?_
   ·have hks:jcb s c (i+1)=jcb s c i:=cut_no zO (byte_ne zD)
    rw [←hks];exact m.weak jab (hnext _ _ _ zO ⟨i+1,wp,wc,M,f,rfl,by omega,by rw [hks];exact hf,by rw [hks];exact how,exU rfl,rfl⟩)
   ·have hks:=jk2 (s:=s) (c:=c) (i:=i) (.inr (byte_eq zD))
    have hkl:(jcb s c (i+1)).1.length=(jcb s c i).1.length+1:=by rw [hks];simp
    have hk2:(jcb s c (i+1)).2=i+1:=by rw [hks]
    rw [←hkl];exact E19
 ·refine Z9 ?_;refine jac (h++M) rfl Tryz.func63 rfl jab ?_;refine Zs ?_
  obtain rfl:i=s.length+1:=by omega
  exact ⟨M,rfl,how⟩
end
section
variable [LaidO B]
def jft (c:UInt8):Prop:=48≤c.toNat∧c.toNat≤57
instance (c:UInt8):Decidable (jft c):=by unfold jft;infer_instance
def negS (s:Str):Prop:=0<s.length∧s.getD 0 0=45
instance (s:Str):Decidable (negS s):=by unfold negS;infer_instance
def jaR (s:Str):Str:=if negS s then s.drop 1 else s
def jmI (s:Str):Int:=if negS s then-1 else 1
def jjl (t:Str) (i:Nat):Nat:=(t.take i).foldl (fun n c=>10*n+(c.toNat-48)) 0
def jeZ (s:Str):Prop:=(1≤(jaR s).length∧(jaR s).length≤9)∧ ¬((jaR s).getD 0 0=48∧s≠[48])∧ ∀i,i<(jaR s).length→jft ((jaR s).getD i 0)
instance (s:Str):Decidable (jeZ s):=by unfold jeZ;infer_instance
def jpH (s:Str):Int:=if jeZ s then jmI s*(jjl (jaR s) (jaR s).length:Int) else 0
theorem jnT (s:Str):(jaR s).length≤s.length:=by
 unfold jaR
 split
 ·simp
 ·exact gM _
theorem jeR (h:i<t.length):jjl t (i+1)=10*jjl t i+((t.getD i 0).toNat-48):=by
 rw [jjl,jaV t i h,vJ];rfl
theorem valK_lt (i:Nat) (hi:i≤t.length) (hd: ∀j,j<i→jft (t.getD j 0)):jjl t i<10^i:=by
 induction i with
 |zero=>simp [jjl]
 |succ i ih=>
  have h1:=ih zO fun j hj=>hd j zO
  have h2:=hd i zO
  unfold jft at h2
  rw [jeR zO,xQ];omega
theorem jnC (hi:i≤t.length) (h9:t.length≤9) (hd: ∀j,j<i→jft (t.getD j 0)):jjl t i<1000000000:=
 GZ (valK_lt i hi hd) (GI (GY zA (show i≤9 by omega)) zA)
theorem sgn_or (s:Str):jmI s= -1∨jmI s=1:=by
 unfold jmI
 split
 ·exact .inl rfl
 ·exact .inr rfl
theorem ja7 (hn:n<256):(a.toNat:Int)=n↔a=UInt8.ofNat n:=by
 constructor
 ·intro h
  refine vV.1 ?_
  rw [UInt8.toNat_ofNat'];omega
 ·rintro rfl;rw [UInt8.toNat_ofNat'];omega
abbrev numV (s:Str):Value:= .tuple [.int .i64 (jpH s),.bool (decide (jeZ s))].toArray
theorem ja4 (h: ¬jeZ s): .tuple [.int .i64 0,.bool false].toArray=numV s:=by rw [numV,jpH,if_neg h,decide_eq_false h]
theorem jcJ (h:jeZ s): .tuple [.int .i64 (jmI s*(jjl (jaR s) (jaR s).length:Int)),.bool true].toArray=numV s:=by rw [numV,jpH,if_pos h,decide_eq_true h]
theorem f166_c (m:Md Tryz.prog B) (h:Hp) (s:Str) (hl:s.length≤100000):FnC m 166 #[str s] h fun v h'=>h'=h∧v=numV s:=by
 obtain ⟨s',hs'⟩: ∃s',s'=s:=⟨_,rfl⟩
 obtain ⟨sg,hsg⟩: ∃x:Int,x=1:=⟨_,rfl⟩
 have hls:s'.length=s.length:=by rw [hs']
 refine jae Tryz.func166 rfl rfl (l:=(str s)::uu57) rfl ?_
 intro cf cs K hK
 refine Z8 ?_;refine k_asE (show str s=str s' by rw [hs']) rfl zq ?_;refine k_asE (show Value.int .i64 1= .int .i64 sg by rw [hsg]) rfl zq ?_;refine Z6 ?_
 refine jaJ rfl zq (fun hc=>?_) (fun hc=>?_)
 ·refine Z2 ?_;refine jhv (c:=s'.getD 0 0) rfl rfl jjC zO (jkU zO) ?_
  refine jaE rfl rfl (fun hc=>?_) (fun hc=>?_);refine Z5 ?_;refine k_ssfrom (j:=1) rfl zq jjC zO ?_
  have hng:negS s:=by rw [←hs'];exact ⟨by omega,(ja7 (n:=45) zA).1 zD⟩
  refine k_asE (show str (s'.drop 1)=str (jaR s) by rw [jaR,if_pos hng,hs']) rfl zq ?_;refine k_asE (show Value.int .i64 (-1)= .int .i64 (jmI s) by rw [jmI,if_pos hng]) rfl zq ?_;refine Zs ?_;rotate_left
  refine Z4 ?_
  all_goals
   refine Z2 ?_
   have hrl:=jnT s
   first
    |(have hng: ¬negS s:=by
       rw [←hs'];rintro ⟨e1,e2⟩;first|omega|exact absurd ((ja7 (n:=45) zA).2 e2) zD
      rw [show s'=jaR s by rw [jaR,if_neg hng,hs'],show sg=jmI s by rw [jmI,if_neg hng,hsg]])
    |skip
   refine rr17 ?_;refine Z2 ?_;refine jam rfl zq (fun hc=>?_) (fun hc=>?_)
   ·refine Z22 ?_;refine joE ?_
    refine ⟨rfl,?_⟩
    first
     |exact ja4 fun e=>by have:=e.1;omega
     |exact E20
     |exact E21
     |(obtain rfl:i=(jaR s).length:=by omega
       refine jcJ ⟨by omega,fun e=>?_,hdg⟩
       first
        |exact e.2 hz
        |exact E22)
   ·refine Z2 ?_;refine jl6 rfl rfl jjC ?_
    refine jaJ rfl rfl (fun hc=>?_) (fun hc=>?_)
    ·refine Z18 ?_;refine joE ?_
     refine ⟨rfl,?_⟩
     first
      |exact ja4 fun e=>by have:=e.1;omega
      |exact E20
      |exact E21
      |(obtain rfl:i=(jaR s).length:=by omega
        refine jcJ ⟨by omega,fun e=>?_,hdg⟩
        first
         |exact e.2 hz
         |exact E22)
    ·refine Z3 ?_;refine jhv (c:=(jaR s).getD 0 0) rfl rfl jjC zO (jkU zO) ?_
     refine jaE rfl rfl (fun hc=>?_) (fun hc=>?_)
     ·refine Z2 ?_
      by_cases hz:s=[48]
      ·refine jez rfl rfl hz ?_;refine Z15 ?_;refine jag (fun nn l h'=> ∃(i:Nat),nn=(jaR s).length-i∧(i≤(jaR s).length)∧(∀j,j<i→jft ((jaR s).getD j 0))∧(∃U:Nat→Value,l=((str s)::(U 1)::(U 2)::(U 3)::(str (jaR s))::(.int .i64 (jmI s))::(.int .i64 (jjl (jaR s) i:Int))::(.int .i64 (i:Int))::vw50 U 8 []))∧h=h') _ ⟨0,rfl,by omega,fun j hj=>absurd hj zO,exU rfl,rfl⟩ ?_;rintro nn l h' ⟨i,rfl,hi,hdg,⟨U,rfl⟩,rfl⟩ hnext;have hvb:=jnC hi zO hdg
       have hcb:=((jaR s).getD i 0).toNat_lt
       refine Z6 ?_
       refine jam rfl zq (fun hc=>?_) (fun hc=>?_);refine Z6 ?_
       rotate_left
       refine Z3 ?_
       all_goals
        refine Z4 ?_
       ·refine D59 ?_;refine Z4 ?_;refine joE ?_
        refine ⟨rfl,?_⟩
        first
         |exact ja4 fun e=>by have:=e.1;omega
         |exact E20
         |exact E21
         |(obtain rfl:i=(jaR s).length:=by omega
           refine jcJ ⟨by omega,fun e=>?_,hdg⟩
           first
            |exact e.2 hz
            |exact E22)
       ·refine D25 ?_;refine D34 ?_
        rintro v (⟨hc,rfl⟩|⟨hc,rfl⟩)
        ·refine Z7 ?_;refine D39 ?_;refine Z2 ?_;refine D25 ?_;refine D37 ?_;refine Z10 ?_
         have hdi:jft ((jaR s).getD i 0):=by assumption
         rw [show 10*(jjl (jaR s) i:Int)+(((jaR s).getD i 0).toNat:Int)-48=(jjl (jaR s) (i+1):Int) by rw [jeR zO];unfold jft at hdi;omega];exact m.weak jab (hnext _ _ _ zO ⟨i+1,rfl,by omega,fun j hj=>by
          by_cases e:j<i
          ·exact hdg j e
          ·obtain rfl:j=i:=by omega
           assumption,exU rfl,rfl⟩)
        ·refine Z10 ?_;refine joE ?_
         refine ⟨rfl,?_⟩
         first
          |exact ja4 fun e=>by have:=e.1;omega
          |exact E20
          |exact E21
          |(obtain rfl:i=(jaR s).length:=by omega
            refine jcJ ⟨by omega,fun e=>?_,hdg⟩
            first
             |exact e.2 hz
             |exact E22)
      ·refine jfY rfl rfl hz ?_;refine Z10 ?_;refine joE ?_;refine ⟨rfl,?_⟩
       first
        |exact ja4 fun e=>by have:=e.1;omega
        |exact E20
        |exact E21
        |(obtain rfl:i=(jaR s).length:=by omega
          refine jcJ ⟨by omega,fun e=>?_,hdg⟩
          first
           |exact e.2 hz
           |exact E22)
     ·refine Z18 ?_
      refine jag (fun nn l h'=> ∃(i:Nat),nn=(jaR s).length-i∧(i≤(jaR s).length)∧(∀j,j<i→jft ((jaR s).getD j 0))∧(∃U:Nat→Value,l=((str s)::(U 1)::(U 2)::(U 3)::(str (jaR s))::(.int .i64 (jmI s))::(.int .i64 (jjl (jaR s) i:Int))::(.int .i64 (i:Int))::vw50 U 8 []))∧h=h') _ ⟨0,rfl,by omega,fun j hj=>absurd hj zO,exU rfl,rfl⟩ ?_;rintro nn l h' ⟨i,rfl,hi,hdg,⟨U,rfl⟩,rfl⟩ hnext;have hvb:=jnC hi zO hdg
      have hcb:=((jaR s).getD i 0).toNat_lt
      refine Z6 ?_
      refine jam rfl zq (fun hc=>?_) (fun hc=>?_);refine Z6 ?_
      rotate_left
      refine Z3 ?_
      all_goals
       refine Z4 ?_
      ·refine D59 ?_;refine Z4 ?_;refine joE ?_
       refine ⟨rfl,?_⟩
       first
        |exact ja4 fun e=>by have:=e.1;omega
        |exact E20
        |exact E21
        |(obtain rfl:i=(jaR s).length:=by omega
          refine jcJ ⟨by omega,fun e=>?_,hdg⟩
          first
           |exact e.2 hz
           |exact E22)
      ·refine D25 ?_;refine D34 ?_
       rintro v (⟨hc,rfl⟩|⟨hc,rfl⟩)
       ·refine Z7 ?_;refine D39 ?_;refine Z2 ?_;refine D25 ?_;refine D37 ?_;refine Z10 ?_
        have hdi:jft ((jaR s).getD i 0):=by assumption
        rw [show 10*(jjl (jaR s) i:Int)+(((jaR s).getD i 0).toNat:Int)-48=(jjl (jaR s) (i+1):Int) by rw [jeR zO];unfold jft at hdi;omega];exact m.weak jab (hnext _ _ _ zO ⟨i+1,rfl,by omega,fun j hj=>by
         by_cases e:j<i
         ·exact hdg j e
         ·obtain rfl:j=i:=by omega
          assumption,exU rfl,rfl⟩)
       ·refine Z10 ?_;refine joE ?_
        refine ⟨rfl,?_⟩
        first
         |exact ja4 fun e=>by have:=e.1;omega
         |exact E20
         |exact E21
         |(obtain rfl:i=(jaR s).length:=by omega
           refine jcJ ⟨by omega,fun e=>?_,hdg⟩
           first
            |exact e.2 hz
            |exact E22)
 ·refine Z10 ?_
  have hrl:=jnT s
  first
   |(have hng: ¬negS s:=by
      rw [←hs'];rintro ⟨e1,e2⟩;first|omega|exact absurd ((ja7 (n:=45) zA).2 e2) zD
     rw [show s'=jaR s by rw [jaR,if_neg hng,hs'],show sg=jmI s by rw [jmI,if_neg hng,hsg]])
   |skip
  refine rr17 ?_;refine Z2 ?_;refine jam rfl zq (fun hc=>?_) (fun hc=>?_)
  ·refine Z22 ?_;refine joE ?_
   refine ⟨rfl,?_⟩
   first
    |exact ja4 fun e=>by have:=e.1;omega
    |exact E20
    |exact E21
    |(obtain rfl:i=(jaR s).length:=by omega
      refine jcJ ⟨by omega,fun e=>?_,hdg⟩
      first
       |exact e.2 hz
       |exact E22)
  ·refine Z2 ?_;refine jl6 rfl rfl jjC ?_
   refine jaJ rfl rfl (fun hc=>?_) (fun hc=>?_)
   ·refine Z18 ?_;refine joE ?_
    refine ⟨rfl,?_⟩
    first
     |exact ja4 fun e=>by have:=e.1;omega
     |exact E20
     |exact E21
     |(obtain rfl:i=(jaR s).length:=by omega
       refine jcJ ⟨by omega,fun e=>?_,hdg⟩
       first
        |exact e.2 hz
        |exact E22)
   ·refine Z3 ?_;refine jhv (c:=(jaR s).getD 0 0) rfl rfl jjC zO (jkU zO) ?_
    refine jaE rfl rfl (fun hc=>?_) (fun hc=>?_)
    ·refine Z2 ?_
     by_cases hz:s=[48]
     ·refine jez rfl rfl hz ?_;refine Z15 ?_;refine jag (fun nn l h'=> ∃(i:Nat),nn=(jaR s).length-i∧(i≤(jaR s).length)∧(∀j,j<i→jft ((jaR s).getD j 0))∧(∃U:Nat→Value,l=((str s)::(U 1)::(U 2)::(U 3)::(str (jaR s))::(.int .i64 (jmI s))::(.int .i64 (jjl (jaR s) i:Int))::(.int .i64 (i:Int))::vw50 U 8 []))∧h=h') _ ⟨0,rfl,by omega,fun j hj=>absurd hj zO,exU rfl,rfl⟩ ?_;rintro nn l h' ⟨i,rfl,hi,hdg,⟨U,rfl⟩,rfl⟩ hnext;have hvb:=jnC hi zO hdg
      have hcb:=((jaR s).getD i 0).toNat_lt
      refine Z6 ?_
      refine jam rfl zq (fun hc=>?_) (fun hc=>?_);refine Z6 ?_
      rotate_left
      refine Z3 ?_
      all_goals
       refine Z4 ?_
      ·refine D59 ?_;refine Z4 ?_;refine joE ?_
       refine ⟨rfl,?_⟩
       first
        |exact ja4 fun e=>by have:=e.1;omega
        |exact E20
        |exact E21
        |(obtain rfl:i=(jaR s).length:=by omega
          refine jcJ ⟨by omega,fun e=>?_,hdg⟩
          first
           |exact e.2 hz
           |exact E22)
      ·refine D25 ?_;refine D34 ?_
       rintro v (⟨hc,rfl⟩|⟨hc,rfl⟩)
       ·refine Z7 ?_;refine D39 ?_;refine Z2 ?_;refine D25 ?_;refine D37 ?_;refine Z10 ?_
        have hdi:jft ((jaR s).getD i 0):=by assumption
        rw [show 10*(jjl (jaR s) i:Int)+(((jaR s).getD i 0).toNat:Int)-48=(jjl (jaR s) (i+1):Int) by rw [jeR zO];unfold jft at hdi;omega];exact m.weak jab (hnext _ _ _ zO ⟨i+1,rfl,by omega,fun j hj=>by
         by_cases e:j<i
         ·exact hdg j e
         ·obtain rfl:j=i:=by omega
          assumption,exU rfl,rfl⟩)
       ·refine Z10 ?_;refine joE ?_
        refine ⟨rfl,?_⟩
        first
         |exact ja4 fun e=>by have:=e.1;omega
         |exact E20
         |exact E21
         |(obtain rfl:i=(jaR s).length:=by omega
           refine jcJ ⟨by omega,fun e=>?_,hdg⟩
           first
            |exact e.2 hz
            |exact E22)
     ·refine jfY rfl rfl hz ?_;refine Z10 ?_;refine joE ?_;refine ⟨rfl,?_⟩
      first
       |exact ja4 fun e=>by have:=e.1;omega
       |exact E20
       |exact E21
       |(obtain rfl:i=(jaR s).length:=by omega
         refine jcJ ⟨by omega,fun e=>?_,hdg⟩
         first
          |exact e.2 hz
          |exact E22)
    ·refine Z18 ?_
     refine jag (fun nn l h'=> ∃(i:Nat),nn=(jaR s).length-i∧(i≤(jaR s).length)∧(∀j,j<i→jft ((jaR s).getD j 0))∧(∃U:Nat→Value,l=((str s)::(U 1)::(U 2)::(U 3)::(str (jaR s))::(.int .i64 (jmI s))::(.int .i64 (jjl (jaR s) i:Int))::(.int .i64 (i:Int))::vw50 U 8 []))∧h=h') _ ⟨0,rfl,by omega,fun j hj=>absurd hj zO,exU rfl,rfl⟩ ?_;rintro nn l h' ⟨i,rfl,hi,hdg,⟨U,rfl⟩,rfl⟩ hnext;have hvb:=jnC hi zO hdg
     have hcb:=((jaR s).getD i 0).toNat_lt
     refine Z6 ?_
     refine jam rfl zq (fun hc=>?_) (fun hc=>?_);refine Z6 ?_
     rotate_left
     refine Z3 ?_
     all_goals
      refine Z4 ?_
     ·refine D59 ?_;refine Z4 ?_;refine joE ?_
      refine ⟨rfl,?_⟩
      first
       |exact ja4 fun e=>by have:=e.1;omega
       |exact E20
       |exact E21
       |(obtain rfl:i=(jaR s).length:=by omega
         refine jcJ ⟨by omega,fun e=>?_,hdg⟩
         first
          |exact e.2 hz
          |exact E22)
     ·refine D25 ?_;refine D34 ?_
      rintro v (⟨hc,rfl⟩|⟨hc,rfl⟩)
      ·refine Z7 ?_;refine D39 ?_;refine Z2 ?_;refine D25 ?_;refine D37 ?_;refine Z10 ?_
       have hdi:jft ((jaR s).getD i 0):=by assumption
       rw [show 10*(jjl (jaR s) i:Int)+(((jaR s).getD i 0).toNat:Int)-48=(jjl (jaR s) (i+1):Int) by rw [jeR zO];unfold jft at hdi;omega];exact m.weak jab (hnext _ _ _ zO ⟨i+1,rfl,by omega,fun j hj=>by
        by_cases e:j<i
        ·exact hdg j e
        ·obtain rfl:j=i:=by omega
         assumption,exU rfl,rfl⟩)
      ·refine Z10 ?_;refine joE ?_
       refine ⟨rfl,?_⟩
       first
        |exact ja4 fun e=>by have:=e.1;omega
        |exact E20
        |exact E21
        |(obtain rfl:i=(jaR s).length:=by omega
          refine jcJ ⟨by omega,fun e=>?_,hdg⟩
          first
           |exact e.2 hz
           |exact E22)
end
section
variable [LaidO B]
def jbx (s:Str):Int:=if s=[63] then-1 else jpH s
def jeK (s:Str) (k:Nat):Prop:=s=[63]∨(jeZ s∧(0≤jpH s∧jpH s≤mosts.getD k 0))
instance (s:Str) (k:Nat):Decidable (jeK s k):=by unfold jeK;infer_instance
def okR (s:Str):Prop:=(jf2 s 45).length=3∧ ∀k,k<3→jeK ((jf2 s 45).getD k []) k
def jlf (s:Str) (k:Nat):List Int:=((jf2 s 45).take k).map jbx
theorem ix3 (hk:k<3):([Value.int .i64 9,.int .i64 11,.int .i64 7]:List Value)[0+((k:Nat):Int).toNat*1]?=some (.int .i64 (mosts.getD k 0)):=by
 rcases (by omega:k=0∨k=1∨k=2) with rfl|rfl|rfl<;>rfl
theorem jnr (s:Str) (c:UInt8): ∀i,∀p∈(jcb s c i).1,p.length≤s.length
 |0,p,h=>by simp [jcb] at h
 |i+1,p,h=>by
  unfold jcb at h
  split at h
  ·rcases gQ.1 h with h|h
   ·exact jnr s c i p h
   ·obtain rfl:p=_:=by simpa using h
    simp
    omega
  ·exact jnr s c i p h
theorem f167_c (m:Md Tryz.prog B) (h:Hp) (k:Nat) (hk:k<3):FnC m 167 #[.int .i64 (k:Int)] h fun v h'=>h'=h∧v= .int .i64 (mosts.getD k 0):=by
 refine jae Tryz.func167 rfl rfl (l:=(.int .i64 (k:Int))::uu6) rfl ?_
 intro cf cs K hK
 refine Z6 ?_
 refine jb7 kdq rfl zq zA zA rfl (fun q3=>jao (jad ?_));refine Zs ?_;refine D8 ?_;refine jaN rfl zq (Rd.held (Has.mem (b:=q3)) (by simpa using ix3 hk)) ?_;refine Z3 ?_;refine jac (h) rfl Tryz.func167 rfl jab ?_;refine Zs ?_
 exact ⟨rfl,rfl⟩
theorem f116_c (m:Md Tryz.prog B) (h:Hp) (s:Str) (hl:s.length≤100000) (k:Nat) (hk:k<3):FnC m 116 #[str s,.int .i64 (k:Int)] h fun v h'=>h'=h∧ ∃b,IsB (jeK s k) b∧v= .tuple [.int .i64 (jbx s),b].toArray:=by
 refine jae Tryz.func116 rfl rfl (l:=(str s)::(.int .i64 (k:Int))::uu21) rfl ?_
 intro cf cs K hK
 refine Z9 ?_
 by_cases hq:s=[63]
 ·refine jg3 rfl zq hq ?_;refine Z8 ?_;refine jac (h) rfl Tryz.func116 rfl jab ?_;refine Zs ?_;first
   |exact E23
   |exact E24
   |exact E25
   |exact E26
 ·refine jg4 rfl zq hq ?_;refine Z6 ?_;refine jaf (Post:=fun v=>v=_) rfl zq zK (fun H' hH=>f166_c m H' s hl) ?_;rintro v rfl;refine Z8 ?_
  cases hno:decide (jeZ s)
  all_goals
   refine Z4 ?_
  ·refine Z9 ?_;refine jac (h) rfl Tryz.func116 rfl jab ?_;refine Zs ?_
   first
    |exact E23
    |exact E24
    |exact E25
    |exact E26
  ·refine Z2 ?_;refine jaf (Post:=fun v=>v=_) rfl rfl zK (fun H' hH=>f167_c m H' k hk) ?_
   rintro v rfl;refine Zs ?_;refine jaf (Post:=fun v=>IsB _ v) rfl rfl zK (fun H' hH=>f57_c m H' _ _ _) ?_
   rintro v (⟨hc,rfl⟩|⟨hc,rfl⟩);all_goals
    refine Z6 ?_;refine jac (h) rfl Tryz.func116 rfl jab ?_;refine Zs ?_
    first
     |exact E23
     |exact E24
     |exact E25
     |exact E26
end
section
variable [LaidO B]
theorem jpR (h:k<(jf2 s 45).length):jlf s (k+1)=jlf s k++[jbx ((jf2 s 45).getD k [])]:=by
 rw [jlf,jaV _ k h,GC];rfl
theorem valR_len (h:k≤(jf2 s 45).length):(jlf s k).length=k:=by simp [jlf];omega
instance (s:Str):Decidable (okR s):=by unfold okR;infer_instance
def jhG (s:Str):List Int:=if okR s then jlf s 3 else []
theorem f55_c (m:Md Tryz.prog B) (h:Hp) (s:Str) (hl:s.length≤100000):FnC m 55 #[str s] h fun v h'=> ∃new,h'=h++new∧ ∃w b,OwnS 3 1 w (jhG s).length (jav (jhG s)) new∧IsB (okR s) b∧v= .tuple [w,b].toArray:=by
 refine jae Tryz.func55 rfl rfl (l:=(str s)::uu33) rfl ?_
 intro cf cs K hK
 refine Z8 ?_;refine jax rfl zq zK (Post:=fun w new=>OwnS 9 1 w (jf2 s 45).length (jaC (jf2 s 45)) new) (fun H' hH=>f63_c m H' s hl 45) ?_
 rintro w n4 o4;refine jaz (jad ?_);obtain ⟨p4,c4,rfl,hc4,r4⟩:=jas (B:=B) o4
 have hcl:=(joz s 45 (s.length+1)).2
 have hle:=fun k=>show (((jf2 s 45).getD k []).length≤100000) from by
  rcases vG k (jf2 s 45).length with e|e
  ·exact GI (jnr s 45 _ _ (jaj (l:=jf2 s 45) e)) hl
  ·rw [gC,gh e];simp
 refine Z7 ?_
 refine jaI rfl zq (fun hc=>?_) (fun hc=>?_)
 ·refine Z8 ?_;refine jac (h) rfl Tryz.func55 rfl jab ?_;refine Zs ?_
  have hno: ¬okR s:=fun e=>by have:=e.1;omega
  exact ⟨[],by simp,_,_,by rw [jhG,if_neg hno];exact OwnS.nil,IsB.no hno,rfl⟩
 ·refine Z13 ?_
  refine jag (fun nn l h'=> ∃(k:Nat) (wp:Option Addr) (wc:Nat) (M:Hp),nn=3-k∧(k≤3)∧(OwnS 3 1 (.slice wp (jlf s k).length wc) (jlf s k).length (jav (jlf s k)) M)∧(∀j,j<k→jeK ((jf2 s 45).getD j []) j)∧(∃U:Nat→Value,l=((str s)::(U 1)::(U 2)::(U 3)::(.slice p4 (jf2 s 45).length c4)::(.slice wp (jlf s k).length wc)::(.int .i64 (k:Int))::vw27 U 7 []))∧h++n4++M=h') _ ⟨0,none,0,[],rfl,by omega,OwnS.nil,fun j hj=>absurd hj zO,exU rfl,zS⟩ ?_;rintro nn l h' ⟨k,wp,wc,M,rfl,hk,how,hpk,⟨U,rfl⟩,rfl⟩ hnext;have hvl:=valR_len (s:=s) (k:=k) zO
  refine Z4 ?_
  refine jam rfl zq (fun hc=>?_) (fun hc=>?_)
  ·refine Z6 ?_
   have hkn:k<(jf2 s 45).length:=by omega
   obtain ⟨b4,o4_,hp4⟩:=r4.ptr zO
   subst hp4
   refine jpG ?_;refine Z2 ?_;refine D8 ?_;refine jaN rfl zq (r4.sat k zO zO) ?_;refine Zs ?_;refine jaf (Post:=fun v=> ∃b,IsB (jeK ((jf2 s 45).getD k []) k) b∧v= .tuple [.int .i64 (jbx ((jf2 s 45).getD k [])),b].toArray) rfl zq zK (fun H' hH=>f116_c m H' _ (hle k) k zO) ?_;rintro v ⟨b8,hb8,rfl⟩;refine Z9 ?_
   rcases hb8 with ⟨hc8,rfl⟩|⟨hc8,rfl⟩
   ·refine Z9 ?_
    refine jb7 kdq rfl zq zA zA rfl (fun q31=>jao (jad ?_));refine ja6 rfl zq rfl how kdq zO zO (fun w9 n9 o9=>jad ?_);obtain ⟨p9,c9,rfl,hc9,r9⟩:=jas (B:=B) o9
    refine Z8 ?_
    have hks:=jpR (s:=s) (k:=k) zO
    have hkl:(jlf s (k+1)).length=(jlf s k).length+1:=by rw [hks];simp
    rw [←hkl];exact m.weak jab (hnext _ _ _ zO ⟨k+1,p9,c9,n9,rfl,by omega,by rw [hkl,hks,jbo];exact o9,fun j hj=>by
     by_cases e:j<k
     ·exact hpk j e
     ·obtain rfl:j=k:=by omega
      exact hc8,exU rfl,rfl⟩)
   ·refine Z11 ?_;refine jac (h) rfl Tryz.func55 rfl jab ?_;refine Zs ?_
    have hno: ¬okR s:=fun e=>hc8 (e.2 k zO)
    exact ⟨[],by simp,_,_,by rw [jhG,if_neg hno];exact OwnS.nil,IsB.no hno,rfl⟩
  ·refine Z10 ?_;refine jac (h++M) rfl Tryz.func55 rfl jab ?_;refine Zs ?_
   obtain rfl:k=3:=by omega
   have hok:okR s:=⟨by omega,hpk⟩
   have e:jhG s=jlf s 3:=by rw [jhG,if_pos hok]
   exact ⟨M,rfl,_,_,by rw [e];exact how,IsB.yes hok,rfl⟩
end
end Go.Proofs
namespace Go.Proofs
open Go.Lo
def spl (c:UInt8):Str→List Str
 |[]=>[[]]
 |x::r=>if x=c then []::spl c r else match spl c r with
  |[]=>[[x]]
  |p::q=>(x::p)::q
theorem jls (c:UInt8) (s:Str):spl c s≠[]:=by
 cases s with
 |nil=>simp [spl]
 |cons x r=>
  unfold spl
  split
  ·simp
  ·split<;>simp
theorem jkq (c y:UInt8): ∀(xs:Str) (A:List Str) (l:Str),spl c xs=A++[l]→spl c (xs++[y])=if y=c then A++[l]++[[]] else A++[l++[y]]
 |[],A,l,h=>by
  have h2:A=[]∧l=[]:=by
   cases A with
   |nil=>simpa [spl,eq_comm] using h
   |cons a A=>simp [spl] at h
  obtain ⟨rfl,rfl⟩:=h2
  by_cases e:y=c<;>simp [spl,e]
 |x::r,A,l,h=>by
  by_cases hx:x=c
  ·rw [spl,if_pos hx] at h
   cases A with
   |nil=>
    have:spl c r=[]:=by simpa using (List.cons.inj h).2
    exact absurd this (jls c r)
   |cons a A=>
    obtain ⟨rfl,h2⟩:=List.cons.inj h
    have:=jkq c y r A l h2
    rw [gr,spl,if_pos hx,this];split<;>simp
  ·obtain ⟨p,q,hpq⟩: ∃p q,spl c r=p::q:=by
    cases e:spl c r with
    |nil=>exact absurd e (jls c r)
    |cons p q=>exact ⟨p,q,rfl⟩
   rw [spl,if_neg hx,hpq] at h
   simp only at h
   have hr: ∃A' l',spl c r=A'++[l']∧((A'=[]∧A=[]∧l=x::l')∨(∃A2,A'=p::A2∧A=(x::p)::A2∧l=l')):=by
    cases A with
    |nil=>
     have h3:x::p=l∧q=[]:=by simpa using h
     exact ⟨[],p,by rw [hpq,h3.2];rfl,.inl ⟨rfl,rfl,h3.1.symm⟩⟩
    |cons a A=>
     obtain ⟨h3,h4⟩:=List.cons.inj h
     exact ⟨p::A,l,by rw [hpq,h4];rfl,.inr ⟨A,rfl,by rw [h3],rfl⟩⟩
   obtain ⟨A',l',he,hc⟩:=hr
   have ih:=jkq c y r A' l' he
   rw [gr,spl,if_neg hx,ih];rcases hc with ⟨rfl,rfl,rfl⟩|⟨A2,rfl,rfl,rfl⟩<;>by_cases e:y=c<;>simp [e]
theorem jrQ (s:Str) (c:UInt8): ∀i,i≤s.length→spl c (s.take i)=(jcb s c i).1++[(s.take i).drop (jcb s c i).2]
 |0,_=>by simp [spl,jcb]
 |i+1,h=>by
  have ih:=jrQ s c i zO
  have hle:=(joz s c i).1
  rw [jaV s i zO,jkq c (s.getD i default) _ _ _ ih];by_cases e:s.getD i 0=c
  ·rw [if_pos (show s.getD i default=c from e),jk2 (.inr e)];simp only
   congr 1
   rw [gP];simp
   omega
  ·rw [if_neg (show¬s.getD i default=c from e),cut_no zO e,List.drop_append_of_le_length zN]
theorem ji2 (s:Str) (c:UInt8):jf2 s c=spl c s:=by
 have:=jrQ s c s.length (gM _)
 rw [GE] at this
 rw [jf2,jk2 (.inl rfl),this,GE]
def jcO (x:Nat) (p:Str):Nat:=p.foldl (fun n c=>10*n+(c.toNat-48)) x
theorem jkX: ∀(p:Str) (x:Nat),1≤x→x+p.length≤jcO x p
 |[],x,_=>by simp [jcO]
 |c::r,x,h=>by
  have:=jkX r (10*x+(c.toNat-48)) zO
  show _≤jcO (10*x+(c.toNat-48)) r
  simp only [gV]
  omega
abbrev failV:List Int×Bool:=([0,0,0],false)
theorem set_set {x y:Int}:(v.set k x).set k y=v.set k y:=List.set_set ..
theorem jqt: ∀(p r:Str) (v:List Int) (k n x:Nat),v.length=3→k≤2→0<n→1≤x→v.getD k 0=(x:Int)→(x:Int)≤mosts.getD k 0→(∀c∈p,c≠45)→
  rdF mosts (p++r) v k n=if (∀c∈p,jft c)∧(jcO x p:Int)≤mosts.getD k 0 then rdF mosts r (v.set k (jcO x p:Int)) k (n+p.length) else failV
 |[],r,v,k,n,x,hv,hk,hn,hx,hvx,hm,_=>by
  have e:v.set k (x:Int)=v:=by
   rw [←hvx];rw [gC,gD zO];simp
  rw [if_pos ⟨fun c hc=>by simp at hc,by simpa [jcO] using hm⟩];simp [jcO,e]
 |c::p,r,v,k,n,x,hv,hk,hn,hx,hvx,hm,hd=>by
  have hc45:c.toNat≠45:=fun e=>hd c zS (vV.1 (by rw [e];rfl))
  rw [gr];by_cases hdg:jft c
  ·have hdg':=hdg
   unfold jft at hdg'
   have hset:(v.set k (10*v.getD k 0+((c.toNat:Int)-48))).getD k 0=10*v.getD k 0+((c.toNat:Int)-48):=jbE zO
   have hy:10*v.getD k 0+((c.toNat:Int)-48)=((10*x+(c.toNat-48):Nat):Int):=by rw [hvx];omega
   by_cases hb:(v.set k (10*v.getD k 0+((c.toNat:Int)-48))).getD k 0>mosts.getD k 0
   ·rw [jkC ⟨hdg',.inr zO⟩ hb,if_neg];rintro ⟨-,h2⟩;have:=jkX p (10*x+(c.toNat-48)) zO
    rw [hset,hy] at hb
    have h3:(jcO (10*x+(c.toNat-48)) p:Int)≤mosts.getD k 0:=h2
    omega
   ·have hb':(v.set k (10*v.getD k 0+((c.toNat:Int)-48))).getD k 0≤mosts.getD k 0:=by omega
    rw [jkB ⟨hdg',.inr zO⟩ hb',jqt p r _ k (n+1) (10*x+(c.toNat-48)) (by simpa using hv) hk zO zO (by rw [hset,hy]) (by rw [hset,hy] at hb';exact hb') (fun c hc=>hd c (by simp [hc]))];have e1:((∀c∈p,jft c)∧(jcO (10*x+(c.toNat-48)) p:Int)≤mosts.getD k 0)↔((∀c'∈c::p,jft c')∧(jcO x (c::p):Int)≤mosts.getD k 0):=by
     constructor
     ·rintro ⟨a,b⟩;exact ⟨fun c' hc'=>by rcases gU.1 hc' with rfl|h;exact hdg;exact a c' h,b⟩
     ·rintro ⟨a,b⟩;exact ⟨fun c' hc'=>a c' (by simp [hc']),b⟩
    by_cases h:(∀c∈p,jft c)∧(jcO (10*x+(c.toNat-48)) p:Int)≤mosts.getD k 0
    ·rw [if_pos h,if_pos (e1.1 h),set_set];show rdF mosts r (v.set k (jcO (10*x+(c.toNat-48)) p:Int)) k (n+1+p.length)=rdF mosts r (v.set k (jcO (10*x+(c.toNat-48)) p:Int)) k (n+(p.length+1))
     rw [show n+1+p.length=n+(p.length+1) by omega]
    ·rw [if_neg h,if_neg (fun e=>h (e1.2 e))]
  ·rw [jc2 zO zO (by rintro ⟨a,-⟩;exact hdg a),if_neg (fun e=>hdg (e.1 c zS))]
theorem jiT: ∀(p:Str) (x:Nat),1≤x→x+9*p.length≤jcO x p
 |[],x,_=>by simp [jcO]
 |c::r,x,h=>by
  have:=jiT r (10*x+(c.toNat-48)) zO
  show _≤jcO (10*x+(c.toNat-48)) r
  simp only [gV]
  omega
theorem neg_no (h: ∀c∈p,c≠45): ¬negS p:=fun ⟨e1,e2⟩=>h _ (jaj (l:=p) e1) e2
theorem jqw (h: ∀c∈p,c≠45):jaR p=p:=by rw [jaR,if_neg (neg_no h)]
theorem jkI (h: ∀c∈p,c≠45):jeZ p↔(1≤p.length∧p.length≤9)∧ ¬(p.getD 0 0=48∧p≠[48])∧ ∀c∈p,jft c:=by
 rw [jeZ,jqw h];refine and_congr_right fun _=>and_congr_right fun _=>⟨fun e c hc=>?_,fun e i hi=>e _ (jaj (l:=p) hi)⟩
 obtain ⟨i,hi,rfl⟩:=GK.1 hc
 have:=e i hi
 rwa [gC,gD hi] at this
theorem jiD (h: ∀c∈p,c≠45) (ok:jeZ p):jpH p=(jcO 0 p:Int):=by
 rw [jpH,if_pos ok,jqw h,jmI,if_neg (neg_no h),jjl,GE,Int.one_mul];rfl
theorem most_bd (h:k≤2):7≤mosts.getD k 0∧mosts.getD k 0≤11:=jdo zO
theorem jn1 (p r:Str) (v:List Int) (k:Nat) (hp:p≠[]) (hd: ∀c∈p,c≠45) (hv:v.length=3) (hk:k≤2) (h0:v.getD k 0=0):
  rdF mosts (p++r) v k 0=if jeK p k then rdF mosts r (v.set k (jbx p)) k p.length else failV:=by
 obtain ⟨c,q,rfl⟩:=List.exists_cons_of_ne_nil hp
 have hmb:=most_bd hk
 have hc45:c.toNat≠45:=fun e=>hd c zS (vV.1 (by rw [e];rfl))
 have hq: ∀c∈q,c≠45:=fun c hc=>hd c (by simp [hc])
 have hni:=jkI hd
 by_cases h63:c.toNat=63
 ·have hcc:c=63:=vV.1 (by rw [h63];rfl)
  subst hcc
  have hno: ¬jeZ (63::q):=fun e=>by have:=(hni.1 e).2.2 63 zS;unfold jft at this;revert this;decide
  have hs:(v.set k (-1)).getD k 0= -1:=jbE zO
  rw [gr,jqz ⟨rfl,rfl⟩ (by rw [hs];omega)];cases q with
  |nil=>
   rw [if_pos (.inl rfl)];show rdF mosts r (v.set k (-1)) k 1=rdF mosts r (v.set k (jbx [63])) k 1
   rw [jbx,if_pos rfl]
  |cons c2 q2=>
   have h2:c2.toNat≠45:=fun e=>hq c2 zS (vV.1 (by rw [e];rfl))
   rw [gr,jc2 zO zO (by rw [hs];omega),if_neg];rintro (e|e)
   ·simp at e
   ·exact hno e.1
 ·have hn63:c::q≠[63]:=fun e=>by
   obtain ⟨rfl,-⟩:=List.cons.inj e
   exact h63 rfl
  by_cases hdg:jft c
  ·have hdg':=hdg
   unfold jft at hdg'
   have hs:(v.set k (10*v.getD k 0+((c.toNat:Int)-48))).getD k 0=10*v.getD k 0+((c.toNat:Int)-48):=jbE zO
   have hx:10*v.getD k 0+((c.toNat:Int)-48)=((c.toNat-48:Nat):Int):=by rw [h0];omega
   have hf:jcO 0 (c::q)=jcO (c.toNat-48) q:=by
    show jcO (10*0+(c.toNat-48)) q=_
    rw [Nat.mul_zero,GG]
   by_cases hb:(v.set k (10*v.getD k 0+((c.toNat:Int)-48))).getD k 0>mosts.getD k 0
   ·rw [gr,jkC ⟨hdg',.inl rfl⟩ hb,if_neg];rintro (e|⟨e1,e2⟩)
    ·exact hn63 e
    ·rw [jiD hd e1,hf] at e2
     rw [hs,hx] at hb
     have:=jkX q (c.toNat-48) zO
     omega
   ·have hb':(v.set k (10*v.getD k 0+((c.toNat:Int)-48))).getD k 0≤mosts.getD k 0:=by omega
    rw [gr,jkB ⟨hdg',.inl rfl⟩ hb'];by_cases hz:c.toNat=48
    ·have hcc:c=48:=vV.1 (by rw [hz];rfl)
     subst hcc
     cases q with
     |nil=>
      have hok:jeZ [48]:=hni.2 ⟨by decide,fun e=>e.2 rfl,fun c hc=>by rw [gw.1 hc];decide⟩
      have hns:=jiD hd hok
      have hz0:(jcO 0 ([48]:Str):Int)=0:=rfl
      rw [if_pos (.inr ⟨hok,by omega,by omega⟩),jbx,if_neg hn63,hns,hz0,hx];rfl
     |cons c2 q2=>
      have h2:c2.toNat≠45:=fun e=>hq c2 zS (vV.1 (by rw [e];rfl))
      rw [gr,jc2 zO zO (by rw [hs,hx];rintro ⟨-,e⟩;rcases e with e|e;omega;simp at e),if_neg];rintro (e|e)
      ·exact hn63 e
      ·exact (hni.1 e.1).2.1 ⟨rfl,by simp⟩
    ·rw [jqt q r _ k (0+1) (c.toNat-48) (by simpa using hv) hk zO zO (by rw [hs,hx]) (by rw [hs,hx] at hb';exact hb') hq];by_cases hall:(∀c∈q,jft c)∧(jcO (c.toNat-48) q:Int)≤mosts.getD k 0
     ·have h9:=jiT q (c.toNat-48) zO
      have hok:jeZ (c::q):=hni.2 ⟨by simp only [gV];omega,fun e=>hz (by have:=e.1;rw [show c=48 from this];rfl),fun c' hc'=>by rcases gU.1 hc' with rfl|e;exact hdg;exact hall.1 c' e⟩
      have hns:=jiD hd hok
      rw [hf] at hns
      rw [if_pos hall,if_pos (.inr ⟨hok,by omega,by omega⟩),set_set,jbx,if_neg hn63,hns];simp only [gV]
      rw [GG,VE]
     ·rw [if_neg hall,if_neg];rintro (e|⟨e1,e2⟩)
      ·exact hn63 e
      ·rw [jiD hd e1,hf] at e2
       exact hall ⟨fun c' hc'=>(hni.1 e1).2.2 c' (by simp [hc']),e2.2⟩
  ·rw [gr,jc2 zO zO (by rintro ⟨a,-⟩;exact hdg a),if_neg];rintro (e|e)
   ·exact hn63 e
   ·exact hdg ((hni.1 e.1).2.2 c zS)
theorem jie: ∀s:Str,∃p r,s=p++r∧(∀c∈p,c≠45)∧((r=[]∧spl 45 s=[p])∨ ∃r',r=45::r'∧spl 45 s=p::spl 45 r')
 |[]=>⟨[],[],rfl,by simp,.inl ⟨rfl,rfl⟩⟩
 |x::t=>by
  by_cases hx:x=45
  ·subst hx
   exact ⟨[],45::t,rfl,by simp,.inr ⟨t,rfl,by rw [spl,if_pos rfl]⟩⟩
  ·obtain ⟨p,r,rfl,hp,h⟩:=jie t
   refine ⟨x::p,r,rfl,fun c hc=>by rcases gU.1 hc with rfl|e;exact hx;exact hp c e,?_⟩
   rcases h with ⟨e1,e2⟩|⟨r',e1,e2⟩
   ·exact .inl ⟨e1,by rw [spl,if_neg hx,e2]⟩
   ·exact .inr ⟨r',e1,by rw [spl,if_neg hx,e2]⟩
theorem jkF (k:Nat): ¬jeK [] k:=by
 rintro (e|e)
 ·simp at e
 ·have:=((jkI (p:=[]) zS).1 e.1).1.1
  simp at this
def okP (k:Nat) (ps:List Str):Prop:=ps.length=3-k∧ ∀j,j<3-k→jeK (ps.getD j []) (k+j)
theorem okP_cons {ps:List Str} (hk:k<2):okP k (p::ps)↔jeK p k∧okP (k+1) ps:=by
 unfold okP
 constructor
 ·rintro ⟨a,b⟩;refine ⟨b 0 zO,by simp only [gV] at a;omega,fun j hj=>?_⟩
  have:=b (j+1) zO
  rw [show k+(j+1)=k+1+j by omega] at this
  simpa using this
 ·rintro ⟨a,b,c⟩;refine ⟨by simp only [gV];omega,fun j hj=>?_⟩
  cases j with
  |zero=>exact a
  |succ j=>
   have:=c j zO
   rw [show k+(j+1)=k+1+j by omega];simpa using this
theorem jm6 (hk:k≤2):okP k [p]↔k=2∧jeK p k:=by
 unfold okP
 constructor
 ·rintro ⟨a,b⟩;simp only [gV,Gp] at a
  exact ⟨by omega,b 0 zO⟩
 ·rintro ⟨rfl,b⟩;refine ⟨rfl,fun j hj=>?_⟩
  obtain rfl:j=0:=by omega
  exact b
theorem jqA {r:Str} (h: ¬(0<n∧k<2)):rdF mosts (45::r) v k n=failV:=jc2 (fun e=>h e.2) (fun e=>absurd e.1 zA) (fun e=>absurd e.1 zA)
theorem fig_go: ∀(d k:Nat) (s:Str) (v:List Int),k+d=2→v.length=3→(∀j,k≤j→v.getD j 0=0)→
  ((rdF mosts s v k 0).2=true↔okP k (spl 45 s))∧(okP k (spl 45 s)→(rdF mosts s v k 0).1=v.take k++(spl 45 s).map jbx):=by
 intro d
 induction d with
 |zero=>
  intro k s v hk hv h0
  obtain rfl:k=2:=by omega
  obtain ⟨p,r,rfl,hp,h⟩:=jie s
  by_cases hpn:p=[]
  ·subst hpn
   rcases h with ⟨rfl,e⟩|⟨r',rfl,e⟩
   ·rw [e];have: ¬okP 2 [([]:Str)]:=fun x=>jkF 2 ((jm6 zO).1 x).2
    exact ⟨⟨fun x=>by simp [rdF] at x,fun x=>absurd x this⟩,fun x=>absurd x this⟩
   ·rw [e];have: ¬okP 2 (([]:Str)::spl 45 r'):=fun x=>jkF 2 (x.2 0 zO)
    rw [GJ,jqA zO];exact E27
  ·rw [jn1 p r v 2 hpn hp hv zO (h0 2 zO)];by_cases hpp:jeK p 2
   ·rw [if_pos hpp];rcases h with ⟨rfl,e⟩|⟨r',rfl,e⟩
    ·rw [e];have hl:0<p.length:=by cases p with|nil=>exact absurd rfl hpn|cons a b=>simp
     refine ⟨⟨fun _=>(jm6 zO).2 ⟨rfl,hpp⟩,fun _=>by simp [rdF,hl]⟩,fun _=>?_⟩
     obtain ⟨a,b,c,rfl⟩:=three hv
     rfl
    ·rw [e,jqA zO];have: ¬okP 2 (p::spl 45 r'):=fun x=>by
      have h1:=x.1
      have h2:0<(spl 45 r').length:=VI.2 (jls 45 r')
      simp only [gV] at h1
      omega
     exact E27
   ·rw [if_neg hpp];have: ¬okP 2 (spl 45 (p++r)):=by
     rcases h with ⟨-,e⟩|⟨r',-,e⟩<;>rw [e]<;>exact fun x=>hpp (x.2 0 zO)
    exact E27
 |succ d ih=>
  intro k s v hk hv h0
  obtain ⟨p,r,rfl,hp,h⟩:=jie s
  have hbad: ¬jeK p k→ ¬okP k (spl 45 (p++r)):=fun hpp=>by
   rcases h with ⟨-,e⟩|⟨r',-,e⟩<;>rw [e]<;>exact fun x=>hpp (x.2 0 zO)
  by_cases hpn:p=[]
  ·subst hpn
   have:=hbad (jkF k)
   rcases h with ⟨rfl,e⟩|⟨r',rfl,e⟩
   ·exact ⟨⟨fun x=>by simp [rdF] at x,fun x=>absurd x this⟩,fun x=>absurd x this⟩
   ·rw [show rdF mosts ([]++45::r') v k 0=failV from jqA zO];exact E27
  ·rw [jn1 p r v k hpn hp hv zO (h0 k zO)];by_cases hpp:jeK p k
   ·rw [if_pos hpp];rcases h with ⟨rfl,e⟩|⟨r',rfl,e⟩
    ·rw [e,jm6 zO];refine ⟨⟨fun x=>?_,fun x=>absurd x.1 zO⟩,fun x=>absurd x.1 zO⟩
     simp [rdF] at x
     omega
    ·have hl:0<p.length:=by cases p with|nil=>exact absurd rfl hpn|cons a b=>simp
     rw [e,jnX ⟨by decide,hl,by omega⟩,okP_cons zO];obtain ⟨i1,i2⟩:=ih (k+1) r' (v.set k (jbx p)) zO (by simpa using hv) (fun j hj=>by rw [set_other zO];exact h0 j zO)
     refine ⟨i1.trans ⟨fun x=>⟨hpp,x⟩,fun x=>x.2⟩,fun x=>?_⟩
     rw [i2 x.2,gx];have:(v.set k (jbx p)).take (k+1)=v.take k++[jbx p]:=by
      rw [jaV _ k zN,Vb zO];congr 2
      exact jbE zO
     rw [this,gI];rfl
   ·rw [if_neg hpp];have:=hbad hpp
    exact E27
theorem jfV (s:Str):okR s↔ja2 s=true:=by
 have:=(fig_go 2 0 s [0,0,0] rfl rfl fun j _=>jk9 j).1
 rw [ja2,this,okR,okP,ji2];refine and_congr_right fun _=>forall_congr' fun j=>?_
 rw [GG]
theorem jhS (s:Str):jhG s=if ja2 s then jan s else []:=by
 by_cases h:okR s
 ·rw [jhG,if_pos h,if_pos ((jfV s).1 h)];have:=(fig_go 2 0 s [0,0,0] rfl rfl fun j _=>jk9 j).2 (by
   have h2:=h
   rw [okR,ji2] at h2
   refine ⟨h2.1,fun j hj=>?_⟩
   rw [GG];exact h2.2 j hj)
  rw [jan,this,jlf,gq (by have:=h.1;omega),ji2];rfl
 ·rw [jhG,if_neg h,if_neg (fun e=>h ((jfV s).2 e))]
end Go.Proofs
namespace Go.Proofs
open Go.Lo
open Go.Conc (G)
section
variable [LaidO B]
def lisP (s:Str):List Int:=if ja2 s then jan s else []
theorem f55p_c (m:Md Tryz.prog B) (h:Hp) (s:Str) (hl:s.length≤100000):FnC m 55 #[str s] h fun v h'=> ∃new,h'=h++new∧ ∃w,OwnS 3 1 w (lisP s).length (jav (lisP s)) new∧v= .tuple [w,.bool (ja2 s)].toArray:=
 CallF.mono (f55_c m h s hl) fun v h' ⟨new,e,w,b,o,hb,ev⟩=>⟨new,e,w,by rw [lisP,←jhS];exact o,by
  rcases hb with ⟨h1,rfl⟩|⟨h1,rfl⟩
  ·rw [(jfV s).1 h1];exact ev
  ·rw [show ja2 s=false from gY.2 fun e=>h1 ((jfV s).2 e)];exact ev⟩
theorem jhW:jfZ v n=true↔ ∀j,j<3→(v.getD j 0<0∨v.getD j 0=(jdE n).getD j 0):=by
 rw [jfZ,gZ];exact ⟨fun e j hj=>by simpa using e j (gT.2 hj),fun e j hj=>by simpa using e j (gT.1 hj)⟩
theorem ixN (hi:i<3):([.int .i64 ((n:Int)/96),.int .i64 ((n:Int)/8%12),.int .i64 ((n:Int)%8)]:List Value)[0+((i:Nat):Int).toNat*1]?=some (.int .i64 ((jdE n).getD i 0)):=by
 rcases (by omega:i=0∨i=1∨i=2) with rfl|rfl|rfl<;>rfl
theorem jed (s:Str):jbu s=true↔ja2 s=true∨s=[45]:=by rw [jbu,GR,decide_eq_true_iff];rfl
theorem f173_c (m:Md Tryz.prog B) (h:Hp) (s:Str) (hl:s.length≤100000):FnC m 173 #[str s] h fun v h'=>h'=h∧IsB (jbu s=true) v:=by
 refine jae Tryz.func173 rfl rfl (l:=(str s)::uu14) rfl ?_
 intro cf cs K hK
 refine Z7 ?_;refine D56 ?_
 rintro v n1 ⟨w1,o1,rfl⟩;refine jaz (jad ?_);obtain ⟨p1,c1,rfl,hc1,r1⟩:=jas (B:=B) o1
 refine Z7 ?_
 cases hfo:ja2 s
 all_goals
  refine Z3 ?_
 ·refine Zs ?_
  by_cases hda:s=[45]
  refine jg3 rfl rfl hda ?_;rotate_left
  refine jg4 rfl rfl hda ?_;all_goals
   refine Z4 ?_;refine jac (h) rfl Tryz.func173 rfl jab ?_;refine Zs ?_
   first
    |exact ⟨rfl,IsB.yes ((jed s).2 (.inl hfo))⟩
    |exact ⟨rfl,IsB.yes ((jed s).2 (.inr hda))⟩
    |exact E28
 ·refine Z6 ?_;refine jac (h) rfl Tryz.func173 rfl jab ?_;refine Zs ?_
  first
   |exact ⟨rfl,IsB.yes ((jed s).2 (.inl hfo))⟩
   |exact ⟨rfl,IsB.yes ((jed s).2 (.inr hda))⟩
   |exact E28
theorem f101_c (m:Md Tryz.prog B) (h:Hp) {p:Option Addr} {c:Nat} (rd:RdS B h 1 (.slice p 3 c) 3 (jav v)) (n:Nat) (hn:n<960):FnC m 101 #[.slice p 3 c,.int .i64 (n:Int)] h fun w h'=>h'=h∧IsB (jfZ v n=true) w:=by
 refine jae Tryz.func101 rfl rfl (l:=(.slice p 3 c)::(.int .i64 (n:Int))::uu33) rfl ?_
 intro cf cs K hK
 refine Z7 ?_;refine k_quo n 96 rfl zq rfl rfl zO zO ?_;refine Zs ?_;refine k_quo n 8 rfl zq rfl rfl zO zO ?_;refine k_rem (a:=n/8) (b:=12) rfl zq zO ?_;refine Zs ?_;refine k_rem (a:=n) (b:=8) rfl zq zO ?_
 refine jb7 kdq rfl zq zA zA rfl (fun q14=>jao (jad ?_));refine Z8 ?_
 refine jag (fun nn l h'=> ∃(i:Nat),nn=3-i∧(i≤3)∧(∀j,j<i→(v.getD j 0<0∨v.getD j 0=(jdE n).getD j 0))∧(∃U:Nat→Value,l=((.slice p 3 c)::(.int .i64 (n:Int))::(U 2)::(U 3)::(U 4)::(.slice (some ⟨q14,0,none⟩) 3 3)::(.int .i64 (i:Int))::vw28 U 7 []))∧h++[⟨true,q14,.cells [.int .i64 ((n:Int)/96),.int .i64 ((n:Int)/8%12),.int .i64 ((n:Int)%8)].toArray 3 (0,0)⟩]=h') _ ⟨0,rfl,by omega,fun j hj=>absurd hj zO,exU rfl,rfl⟩ ?_;rintro nn l h' ⟨i,rfl,hi,hft,⟨U,rfl⟩,rfl⟩ hnext;refine Z4 ?_
 refine jam rfl zq (fun hc=>?_) (fun hc=>?_)
 ·refine Z6 ?_
  obtain ⟨b0,o0,rfl⟩:=rd.ptr zO
  refine jaq [Zp 0,Zp 1,Zp 2,Zr 3,Zp 4,Zp 5,Zp 6,Zp 7,Zp 8,Zp 10,Zp 11,Zp 12,Zr 9,Zr 13,Zp 14,Zp 15] zK zK (gE _) ?_;refine Z2 ?_;refine D8 ?_;refine jaN rfl zq (rd.iat i zO zO) ?_;refine jdH rfl zq (fun hc=>?_) (fun hc=>?_)
  ·refine Z3 ?_;refine D93 ?_;refine Z2 ?_;refine D93 ?_;refine jaN rfl rfl (rd.iat i zO zO) ?_;refine jaN (v:= .int .i64 ((jdE n).getD i 0)) rfl rfl (Rd.held (Has.mem (b:=q14)) (by have:=ixN (n:=n) (i:=i) zO;simpa using this)) ?_
   refine jaI rfl rfl (fun hc=>?_) (fun hc=>?_)
   ·refine Z8 ?_;refine jac (h) rfl Tryz.func101 rfl jab ?_;refine Zs ?_
    first
     |exact ⟨rfl,IsB.yes (jhW.2 fun j hj=>hft j zO)⟩
     |exact ⟨rfl,IsB.no fun e=>by have:=jhW.1 e i zO;omega⟩
   ·refine Z10 ?_
    exact m.weak jab (hnext _ _ _ zO ⟨i+1,rfl,by omega,fun j hj=>by
     by_cases e:j<i
     ·exact hft j e
     ·obtain rfl:j=i:=by omega
      omega,exU rfl,rfl⟩)
  ·refine Z20 ?_
   exact m.weak jab (hnext _ _ _ zO ⟨i+1,rfl,by omega,fun j hj=>by
    by_cases e:j<i
    ·exact hft j e
    ·obtain rfl:j=i:=by omega
     omega,exU rfl,rfl⟩)
 ·refine Z8 ?_;refine jac (h) rfl Tryz.func101 rfl jab ?_;refine Zs ?_
  first
   |exact ⟨rfl,IsB.yes (jhW.2 fun j hj=>hft j zO)⟩
   |exact ⟨rfl,IsB.no fun e=>by have:=jhW.1 e i zO;omega⟩
theorem f32_c (m:Md Tryz.prog B) (h:Hp) (s:Str) (hl:s.length≤100000):FnC m 32 #[str s] h fun w h'=> ∃new,h'=h++new∧OwnS 3 1 w (jdN s).length (jav (jdN s)) new:=by
 refine jae Tryz.func32 rfl rfl (l:=(str s)::uu26) rfl ?_
 intro cf cs K hK
 refine Z7 ?_;refine D56 ?_
 rintro v n1 ⟨w1,o1,rfl⟩;refine jaz (jad ?_);obtain ⟨p1,c1,rfl,hc1,r1⟩:=jas (B:=B) o1
 refine Z7 ?_
 cases hfo:ja2 s
 rotate_left
 have hls:lisP s=jan s:=by rw [lisP,if_pos hfo]
 have hll:(lisP s).length=3:=by rw [hls];exact (ja9 s).len
 rw [hls] at r1
 have h3:=(ja9 s).len
 all_goals
  refine Z9 ?_
 ·rw [hll];refine jag (fun nn l h'=> ∃(k:Nat) (wp:Option Addr) (wc:Nat) (M:Hp),nn=960-k∧(k≤960)∧(OwnS 3 1 (.slice wp (jhr (jan s) k).length wc) (jhr (jan s) k).length (jav (jhr (jan s) k)) M)∧(∃U:Nat→Value,l=((str s)::(U 1)::(U 2)::(.slice p1 3 c1)::(.bool true)::(.slice wp (jhr (jan s) k).length wc)::(.int .i64 (k:Int))::vw20 U 7 []))∧h++n1++M=h') _ ⟨0,none,0,[],rfl,by omega,OwnS.nil,exU rfl,zS⟩ ?_;rintro nn l h' ⟨k,wp,wc,M,rfl,hk,how,⟨U,rfl⟩,rfl⟩ hnext;have hml:=jne (jan s) k
  refine Z2 ?_
  skip
  ·refine Z2 ?_
   refine jcB rfl zq (fun hc=>?_) (fun hc=>?_)
   ·refine Z12 ?_;refine jaf (Post:=fun v=>IsB _ v) rfl zq zK (fun H' hH=>f101_c m H' (c:=c1) (p:=p1) ((h3▸r1).keeps (sq hH)) k zO) ?_
    rintro v (⟨hc,rfl⟩|⟨hc,rfl⟩);refine Z6 ?_
    refine jb7 kdq rfl zq zA zA rfl (fun q24=>jao (jad ?_));refine ja6 rfl zq rfl how kdq zO zO (fun w9 n9 o9=>jad ?_);obtain ⟨p9,c9,rfl,hc9,r9⟩:=jas (B:=B) o9
    refine Z2 ?_
    rotate_left
    refine Z4 ?_
    all_goals
     refine Z6 ?_
    ·have hks:jhr (jan s) (k+1)=jhr (jan s) k:=by rw [jgo,if_neg hc,ge]
     rw [←hks];exact E7
    ·have hks:jhr (jan s) (k+1)=jhr (jan s) k++[(k:Int)]:=by rw [jgo,if_pos hc]
     have hkl:(jhr (jan s) (k+1)).length=(jhr (jan s) k).length+1:=by rw [hks];simp
     rw [←hkl];exact E8
   ·refine Z12 ?_;refine jac (h++M) rfl Tryz.func32 rfl jab ?_;refine Zs ?_
    obtain rfl:k=960:=by omega
    exact ⟨M,rfl,by rw [jdN,hfo];exact how⟩
 ·refine jag (fun nn l h'=> ∃(k:Nat),nn=0-k∧(k≤0)∧(∃U:Nat→Value,l=((str s)::(U 1)::(U 2)::(U 3)::(.bool false)::(.slice none 0 0)::(.int .i64 (k:Int))::vw20 U 7 []))∧h++n1=h') _ ⟨0,rfl,by omega,exU rfl,rfl⟩ ?_;rintro nn l h' ⟨k,rfl,hk,⟨U,rfl⟩,rfl⟩ hnext;refine Z2 ?_
  skip
  ·refine Z2 ?_
   refine jcB rfl zq (fun hc=>?_) (fun hc=>?_);refine Z3 ?_
   rotate_left
   refine Z3 ?_
   all_goals
    refine Z9 ?_;refine jac (h) rfl Tryz.func32 rfl jab ?_;refine Zs ?_
    exact ⟨[],by simp,by rw [jdN,hfo];exact OwnS.nil⟩
end
section
variable [LaidO B]
theorem f125_c (m:Md Tryz.prog B) (h:Hp) {b:Tb} (rds:RdS B h 1 (.slice ps ns ks) ns (jaC b.sts)) (hcs:ns≤ks) (hns:ns≤1000) (hsl: ∀s∈b.sts,s.length≤100000) {nl cl:Nat} (hln:RdLn B h (.slice pl nl cl) nl lns) (hnl:nl≤1000) (hsm: ∀l∈lns,l.figs.length≤1000∧ ∀f∈l.figs,f.length≤100000):FnC m 125 #[tbV b ps ns ks pw nw cw pb nb cb,.slice pl nl cl] h fun v h'=>h'=h∧v= .int .i64 (jaF b.sts.length lns):=by
 have hml:=rds.elen zA
 obtain ⟨lps,rfl,rl,hfig⟩:=hln
 have hll:=rl.elen zA
 refine jae Tryz.func125 rfl rfl (l:=(tbV b ps ns ks pw nw cw pb nb cb)::(.slice pl nl cl)::uu67) rfl ?_
 intro cf cs K hK
 refine Z2 ?_
 refine jaA rfl zq (fun q2=>jao (jad ?_));refine Z7 ?_
 refine jaJ rfl zq (fun hc=>?_) (fun hc=>?_)
 ·refine Z7 ?_;refine D51 ?_;refine Zs ?_
  refine ⟨rfl,congrArg (Value.int .i64) ?_⟩
  first
   |(rw [jaF,if_pos zI];done)
   |(rw [jaF,if_neg zI,hlm];first
     |(rw [gP zI];rfl)
     |(rw [hdr];first
       |exact (jci zO).symm
       |exact E11
       |exact E12
       |exact E29))
 ·refine Z9 ?_
  refine jag (fun nn l h'=> ∃(i:Nat),nn=nl-i∧(i≤nl)∧(jce b.sts.length none (lps.map (·.ln))=jce b.sts.length (jm1 (lps.map (·.ln)) i) ((lps.map (·.ln)).drop i))∧(∃U:Nat→Value,l=((tbV b ps ns ks pw nw cw pb nb cb)::(.slice pl nl cl)::(.pointer (some ⟨q2,0,none⟩))::(U 3)::(U 4)::(.int .i64 (i:Int))::vw63 U 6 []))∧h++[⟨true,q2,.cells (tbL b ps ns ks pw nw cw pb nb cb).toArray 25 (0,0)⟩]=h') _ ⟨0,rfl,by omega,rfl,exU rfl,rfl⟩ ?_;rintro nn l h' ⟨i,rfl,hi,hlm,⟨U,rfl⟩,rfl⟩ hnext1;refine Z6 ?_
  refine jam rfl zq (fun hc=>?_) (fun hc=>?_)
  ·refine Z7 ?_
   obtain ⟨rl_b,rl_o,rfl⟩:=rl.ptr zO
   obtain ⟨x,hx⟩: ∃x,x=lps.getD i default:=⟨_,rfl⟩
   have hxm:x∈lps:=hx▸jaj zO
   obtain ⟨hxc,rdf0⟩:=hfig x hxm
   have hdr:(lps.map (·.ln)).drop i=x.ln::(lps.map (·.ln)).drop (i+1):=by rw [jk0 zI,ja5 _ _ zO,←hx]
   obtain ⟨hfl,hfs⟩:=hsm x.ln (gR.2 ⟨x,hxm,rfl⟩)
   refine Z3 ?_;refine D8 ?_;refine Zs ?_;refine jaN (v:= .int .i64 (lps.getD i default).ln.lat) rfl zq (rl.fat i 0 zO zO rfl) ?_
   rw [←hx];refine D52 ?_
   rintro v (⟨hc,rfl⟩|⟨hc,rfl⟩)
   ·refine Z7 ?_;refine jaq [Zp 0,Zp 1,Zp 2,Zp 3,Zp 4,Zp 5,Zp 6,Zp 8,Zp 9,Zp 10,Zp 11,Zp 12,Zr 7,Zr 13,Zp 14,Zp 15] zK zK (gE _) ?_;refine Zs ?_
    refine jaJ rfl zq (fun hc=>?_) (fun hc=>?_)
    ·refine Z3 ?_;refine D93 ?_;refine Z3 ?_;refine jq6 rfl rfl (by unfold jeg;omega) ?_;refine D93 ?_;refine Zs ?_;refine jaN (v:= .int .i64 (lps.getD i default).ln.lat) rfl rfl (rl.fat i 0 zO zO rfl) ?_
     rw [←hx];refine D94 ?_
     refine jcB rfl rfl (fun hc=>?_) (fun hc=>?_)
     ·refine Z8 ?_;refine D51 ?_;refine Zs ?_
      refine ⟨rfl,congrArg (Value.int .i64) ?_⟩
      first
       |(rw [jaF,if_pos zI];done)
       |(rw [jaF,if_neg zI,hlm];first
         |(rw [gP zI];rfl)
         |(rw [hdr];first
           |exact (jci zO).symm
           |exact E11
           |exact E12
           |exact E29))
     ·refine Z6 ?_
      have hnu: ¬jhF (jm1 (lps.map (·.ln)) i) x.ln.lat:=by
       rintro ⟨y,e1,e2⟩;first
        |(have hi0:i=0:=by omega
          subst hi0
          cases e1)
        |(rw [jaS zO,ja5 _ _ zO] at e1;have e3:=gF e1;omega)
      refine D54 ?_;refine Z2 ?_;refine D8 ?_;refine Z2 ?_;refine D11 ?_
      rw [←hx];refine Z3 ?_
      refine jaI rfl zq (fun hc=>?_) (fun hc=>?_)
      ·refine Z7 ?_;refine D51 ?_;refine Zs ?_
       refine ⟨rfl,congrArg (Value.int .i64) ?_⟩
       first
        |(rw [jaF,if_pos zI];done)
        |(rw [jaF,if_neg zI,hlm];first
          |(rw [gP zI];rfl)
          |(rw [hdr];first
            |exact (jci zO).symm
            |exact E11
            |exact E12
            |exact E29))
      ·refine Z8 ?_
       refine jag (fun nn l h'=> ∃(k:Nat),nn=x.ln.figs.length-k∧(k≤x.ln.figs.length)∧(∀j,j<k→jbu (x.ln.figs.getD j [])=true)∧(∃U:Nat→Value,l=((tbV b ps ns ks pw nw cw pb nb cb)::(.slice (some ⟨rl_b,rl_o,none⟩) nl cl)::(.pointer (some ⟨q2,0,none⟩))::(U 3)::(U 4)::(.int .i64 (i:Int))::(.int .i64 (k:Int))::vw62 U 7 []))∧h++[⟨true,q2,.cells (tbL b ps ns ks pw nw cw pb nb cb).toArray 25 (0,0)⟩]=h') _ ⟨0,rfl,by omega,fun j hj=>absurd hj zO,exU rfl,rfl⟩ ?_;rintro nn l h' ⟨k,rfl,hk,hfk,⟨U,rfl⟩,rfl⟩ hnext2;refine Z6 ?_;refine D8 ?_;refine Zs ?_;refine D11 ?_
       rw [←hx];refine Zs ?_
       refine jam rfl zq (fun hc=>?_) (fun hc=>?_)
       ·refine Z6 ?_
        have rdf:=rdf0 zO
        obtain ⟨fb,fo,hfp⟩:=rdf.ptr zO
        have rdg:=rdf
        rw [hfp] at rdg
        have hsk:(x.ln.figs.getD k []).length≤100000:=hfs _ (jaj (l:=x.ln.figs) zO)
        refine Z3 ?_;refine D8 ?_;refine Zs ?_;refine D11 ?_
        rw [←hx];refine Zs ?_;refine D45 ?_;refine D86 ?_;refine jaf (Post:=fun v=>IsB _ v) rfl zq zK (fun H' hH=>f173_c m H' _ hsk) ?_
        rintro v (⟨hc,rfl⟩|⟨hc,rfl⟩)
        ·refine Z6 ?_
         skip
         refine Z5 ?_
         exact m.weak jab (hnext2 _ _ _ zO ⟨k+1,rfl,by omega,fun j hj=>by
          by_cases e:j<k
          ·exact hfk j e
          ·obtain rfl:j=k:=by omega
           assumption,exU rfl,rfl⟩)
        ·refine Z9 ?_;refine D51 ?_;refine Zs ?_
         refine ⟨rfl,congrArg (Value.int .i64) ?_⟩
         first
          |(rw [jaF,if_pos zI];done)
          |(rw [jaF,if_neg zI,hlm];first
            |(rw [gP zI];rfl)
            |(rw [hdr];first
              |exact (jci zO).symm
              |exact E11
              |exact E12
              |exact E29))
       ·refine Z4 ?_
        have hall: ∀f∈x.ln.figs,jbu f=true:=fun f hf=>by
         obtain ⟨j,hj,e⟩:=GK.1 hf
         have:=hfk j zO
         rw [gC,gD hj] at this
         exact e▸this
        refine Z5 ?_
        exact E14
    ·refine Z19 ?_
     have hnu: ¬jhF (jm1 (lps.map (·.ln)) i) x.ln.lat:=by
      rintro ⟨y,e1,e2⟩;first
       |(have hi0:i=0:=by omega
         subst hi0
         cases e1)
       |(rw [jaS zO,ja5 _ _ zO] at e1;have e3:=gF e1;omega)
     refine D54 ?_;refine Z2 ?_;refine D8 ?_;refine Z2 ?_;refine D11 ?_
     rw [←hx];refine Z3 ?_
     refine jaI rfl zq (fun hc=>?_) (fun hc=>?_)
     ·refine Z7 ?_;refine D51 ?_;refine Zs ?_
      refine ⟨rfl,congrArg (Value.int .i64) ?_⟩
      first
       |(rw [jaF,if_pos zI];done)
       |(rw [jaF,if_neg zI,hlm];first
         |(rw [gP zI];rfl)
         |(rw [hdr];first
           |exact (jci zO).symm
           |exact E11
           |exact E12
           |exact E29))
     ·refine Z8 ?_
      refine jag (fun nn l h'=> ∃(k:Nat),nn=x.ln.figs.length-k∧(k≤x.ln.figs.length)∧(∀j,j<k→jbu (x.ln.figs.getD j [])=true)∧(∃U:Nat→Value,l=((tbV b ps ns ks pw nw cw pb nb cb)::(.slice (some ⟨rl_b,rl_o,none⟩) nl cl)::(.pointer (some ⟨q2,0,none⟩))::(U 3)::(U 4)::(.int .i64 (i:Int))::(.int .i64 (k:Int))::vw62 U 7 []))∧h++[⟨true,q2,.cells (tbL b ps ns ks pw nw cw pb nb cb).toArray 25 (0,0)⟩]=h') _ ⟨0,rfl,by omega,fun j hj=>absurd hj zO,exU rfl,rfl⟩ ?_;rintro nn l h' ⟨k,rfl,hk,hfk,⟨U,rfl⟩,rfl⟩ hnext2;refine Z6 ?_;refine D8 ?_;refine Zs ?_;refine D11 ?_
      rw [←hx];refine Zs ?_
      refine jam rfl zq (fun hc=>?_) (fun hc=>?_)
      ·refine Z6 ?_
       have rdf:=rdf0 zO
       obtain ⟨fb,fo,hfp⟩:=rdf.ptr zO
       have rdg:=rdf
       rw [hfp] at rdg
       have hsk:(x.ln.figs.getD k []).length≤100000:=hfs _ (jaj (l:=x.ln.figs) zO)
       refine Z3 ?_;refine D8 ?_;refine Zs ?_;refine D11 ?_
       rw [←hx];refine Zs ?_;refine D45 ?_;refine D86 ?_;refine jaf (Post:=fun v=>IsB _ v) rfl zq zK (fun H' hH=>f173_c m H' _ hsk) ?_
       rintro v (⟨hc,rfl⟩|⟨hc,rfl⟩)
       ·refine Z6 ?_
        skip
        refine Z5 ?_
        exact m.weak jab (hnext2 _ _ _ zO ⟨k+1,rfl,by omega,fun j hj=>by
         by_cases e:j<k
         ·exact hfk j e
         ·obtain rfl:j=k:=by omega
          assumption,exU rfl,rfl⟩)
       ·refine Z9 ?_;refine D51 ?_;refine Zs ?_
        refine ⟨rfl,congrArg (Value.int .i64) ?_⟩
        first
         |(rw [jaF,if_pos zI];done)
         |(rw [jaF,if_neg zI,hlm];first
           |(rw [gP zI];rfl)
           |(rw [hdr];first
             |exact (jci zO).symm
             |exact E11
             |exact E12
             |exact E29))
      ·refine Z4 ?_
       have hall: ∀f∈x.ln.figs,jbu f=true:=fun f hf=>by
        obtain ⟨j,hj,e⟩:=GK.1 hf
        have:=hfk j zO
        rw [gC,gD hj] at this
        exact e▸this
       refine Z5 ?_
       exact E14
   ·refine Z9 ?_;refine D51 ?_;refine Zs ?_
    refine ⟨rfl,congrArg (Value.int .i64) ?_⟩
    first
     |(rw [jaF,if_pos zI];done)
     |(rw [jaF,if_neg zI,hlm];first
       |(rw [gP zI];rfl)
       |(rw [hdr];first
         |exact (jci zO).symm
         |exact E11
         |exact E12
         |exact E29))
  ·refine Z8 ?_;refine D51 ?_;refine Zs ?_
   refine ⟨rfl,congrArg (Value.int .i64) ?_⟩
   first
    |(rw [jaF,if_pos zI];done)
    |(rw [jaF,if_neg zI,hlm];first
      |(rw [gP zI];rfl)
      |(rw [hdr];first
        |exact (jci zO).symm
        |exact E11
        |exact E12
        |exact E29))
end
end Go.Proofs
namespace Go.Proofs
open Go.Lo
theorem jih (x:UInt8) (r:Str):jgK (x::r)=jgK r+if x.toNat=63 then 1 else 0:=by
 rw [jgK,VG];simp [jgK]
theorem jlt: ∀s:Str,jgK s=((spl 45 s).map jgK).sum
 |[]=>rfl
 |x::r=>by
  have ih:=jlt r
  by_cases hx:x=45
  ·subst hx
   rw [spl,if_pos rfl,jih,ih];simp [jgK]
  ·obtain ⟨p,q,hpq⟩: ∃p q,spl 45 r=p::q:=by
    cases e:spl 45 r with
    |nil=>exact absurd e (jls 45 r)
    |cons p q=>exact ⟨p,q,rfl⟩
   rw [spl,if_neg hx,hpq,jih,ih,hpq];simp only [gx,vH,jih]
   omega
theorem jgf: ∀(s:Str),∀p∈spl 45 s,∀c∈p,c≠45
 |[],p,h,c,hc=>by
  simp [spl] at h
  subst h
  simp at hc
 |x::r,p,h,c,hc=>by
  by_cases hx:x=45
  ·rw [spl,if_pos hx] at h
   rcases gU.1 h with rfl|h
   ·simp at hc
   ·exact jgf r p h c hc
  ·obtain ⟨p',q,hpq⟩: ∃p q,spl 45 r=p::q:=by
    cases e:spl 45 r with
    |nil=>exact absurd e (jls 45 r)
    |cons p q=>exact ⟨p,q,rfl⟩
   rw [spl,if_neg hx,hpq] at h
   simp only at h
   rcases gU.1 h with rfl|h
   ·rcases gU.1 hc with rfl|hc
    ·exact hx
    ·exact jgf r p' (by rw [hpq];simp) c hc
   ·exact jgf r p (by rw [hpq];simp [h]) c hc
theorem part_smu (h:jeK p k) (hd: ∀c∈p,c≠45):jgK p=if jbx p= -1 then 1 else 0:=by
 by_cases hq:p=[63]
 ·subst hq
  rw [jbx,if_pos rfl];rfl
 ·rcases h with e|⟨e1,e2,e3⟩
  ·exact absurd e hq
  ·rw [jbx,if_neg hq,if_neg zO,jgK,xX];intro c hc e
   have h1:=((jkI hd).1 e1).2.2 c hc
   have h2:=of_decide_eq_true e
   unfold jft at h1
   omega
theorem jlv: ∀(l:List Str),(∀p∈l,(∃k,jeK p k)∧ ∀c∈p,c≠45)→(l.map jbx).countP (fun x=>decide (x= -1))=(l.map jgK).sum
 |[],_=>rfl
 |p::l,h=>by
  have ih:=jlv l fun q hq=>h q (by simp [hq])
  obtain ⟨⟨k,hp⟩,hd⟩:=h p zS
  rw [gx,VG,ih,gx,vH,part_smu hp hd,VE];simp
theorem jp9 (h:jbu s=true):jgK s=jdM s:=by
 rw [jbu,GR] at h
 rcases h with h|h
 ·have hok:=(jfV s).2 h
  have hv:jan s=(spl 45 s).map jbx:=by
   have:=jhS s
   rw [jhG,if_pos hok,if_pos h,jlf,gq (by have:=hok.1;omega),ji2] at this
   exact this.symm
  have hok2:=hok
  rw [okR,ji2] at hok2
  rw [jdM,hv,jlv,jlt];intro p hp
  refine ⟨?_,jgf s p hp⟩
  obtain ⟨j,hj,e⟩:=GK.1 hp
  have:=hok2.2 j zO
  rw [gC,gD hj] at this
  exact ⟨j,e▸this⟩
 ·obtain rfl:s=jdZ:=of_decide_eq_true h
  decide
theorem jl2 {n:Nat}: ∀(ls:List Ln) (p:Option Int),jce n p ls=0→ ∀l∈ls,l.figs.length=n∧ ∀f∈l.figs,jbu f=true
 |[],_,_,l,hl=>by simp at hl
 |x::r,p,h,l,hl=>by
  unfold jce at h
  split at h
  ·omega
  ·split at h
   ·omega
   ·split at h
    ·omega
    ·split at h
     ·omega
     ·rename_i h3 h4
      rcases gU.1 hl with rfl|hl
      ·exact ⟨Decidable.not_not.1 h3,Decidable.not_not.1 h4⟩
      ·exact jl2 r _ h l hl
theorem jgp (h:jaF n ls=0):ls.length≤2∧ ∀l∈ls,l.figs.length=n∧ ∀f∈l.figs,jbu f=true:=by
 unfold jaF at h
 split at h
 ·omega
 ·exact ⟨by omega,jl2 ls _ h⟩
def jkw (l:Ln):Nat:=(l.figs.map jgK).sum
theorem jkv {l:Ln} (h: ∀f∈l.figs,jbu f=true):jkw l=jeU l:=by
 rw [jkw,jeU,GP fun f hf=>jp9 (h f hf)]
theorem jnL (h:jaF n ls=0):(ls.map jkw).sum=jeN ls:=by
 rw [jeN,GP fun l hl=>jkv ((jgp h).2 l hl).2]
end Go.Proofs
namespace Go.Proofs
open Go.Lo
open Go.Conc (G)
section
variable [LaidO B]
theorem jaU {b:Tb} {v:Int} (h:jeA b=v) (h0:v≠0):tbS b=v:=by rw [tbS,h,if_pos h0]
theorem jfK {b:Tb} (h:jeA b=0) (h0:jaF b.sts.length b.waters≠0):tbS b=jaF b.sts.length b.waters:=by rw [tbS,if_neg (fun e=>e h),ji7,if_pos h0]
theorem jfL {b:Tb} (h:jeA b=0) (h0:jaF b.sts.length b.waters=0) (h1:jaF b.sts.length b.butts≠0):tbS b=jaF b.sts.length b.butts:=by rw [tbS,if_neg (fun e=>e h),ji7,if_neg (fun e=>e h0),if_pos h1]
theorem jbW {b:Tb} (h:jeA b=0) (h0:jaF b.sts.length b.waters=0) (h1:jaF b.sts.length b.butts=0):tbS b=if jeN b.waters+jeN b.butts>2 then 2 else 0:=by rw [tbS,if_neg (fun e=>e h),ji7,if_neg (fun e=>e h0),if_neg (fun e=>e h1)]
def jpy (L:List Ln) (k:Nat):Nat:=((L.take k).map jkw).sum
theorem jrU (h:k<L.length):jpy L (k+1)=jpy L k+jkw (L.getD k default):=jgc jkw L k h
theorem jbX {b:Tb} (h0:jaF n b.waters=0) (h1:jaF n b.butts=0) (hk:b.waters.length+b.butts.length≤k):jpy (b.waters++b.butts) k=jeN b.waters+jeN b.butts:=by
 rw [jpy,gq (by simpa using hk),GC,Ve,jnL h0,jnL h1]
theorem f66_c (m:Md Tryz.prog B) (h:Hp) {b:Tb} (rds:RdS B h 1 (.slice ps ns ks) ns (jaC b.sts)) (hcs:ns≤ks) (hns:ns≤1000) (hsl: ∀s∈b.sts,s.length≤100000) (rdw:RdLn B h (.slice pw nw cw) nw b.waters) (hnw:nw≤1000) (rdb:RdLn B h (.slice pb nb cb) nb b.butts) (hnb:nb≤1000) (hsm:TbSm b):FnC m 66 #[tbV b ps ns ks pw nw cw pb nb cb] h fun v h'=>h'=h∧v= .int .i64 (tbS b):=by
 have hml:=rds.elen zA
 refine jae Tryz.func66 rfl rfl (l:=(tbV b ps ns ks pw nw cw pb nb cb)::uu93) rfl ?_
 intro cf cs K hK
 refine Z2 ?_
 refine jaA rfl zq (fun q1=>jao (jad ?_));refine Z7 ?_;refine D52 ?_
 rintro v (⟨hc,rfl⟩|⟨hc,rfl⟩)
 ·refine Z11 ?_;refine D52 ?_
  rintro v (⟨hc,rfl⟩|⟨hc,rfl⟩)
  ·refine Z11 ?_
   refine jag (fun nn l h'=> ∃(i:Nat),nn=ns-i∧(i≤ns)∧(jdF [] b.sts=jdF (b.sts.take i) (b.sts.drop i))∧(∃U:Nat→Value,l=((tbV b ps ns ks pw nw cw pb nb cb)::(.pointer (some ⟨q1,0,none⟩))::(U 2)::(.int .i64 (i:Int))::vw90 U 4 []))∧h++[⟨true,q1,.cells (tbL b ps ns ks pw nw cw pb nb cb).toArray 25 (0,0)⟩]=h') _ ⟨0,rfl,by omega,by simp,exU rfl,rfl⟩ ?_;rintro nn l h' ⟨i,rfl,hi,hnm,⟨U,rfl⟩,rfl⟩ hnext1;refine Z7 ?_
   refine jam rfl zq (fun hc=>?_) (fun hc=>?_)
   ·refine Z7 ?_
    have hdr:b.sts.drop i=b.sts.getD i []::b.sts.drop (i+1):=jk0 zO
    have hsi:(b.sts.getD i []).length≤100000:=hsl _ (jaj (l:=b.sts) zO)
    have rdt:=rds.pre (m:=i) zO
    rw [Gw,←jj5] at rdt
    obtain ⟨s_b,s_o,hps⟩:=rds.ptr zO
    have rdsg:=rds
    rw [hps] at rdsg
    refine Z4 ?_;refine jaL rfl zq hps zO zO ?_;refine jaN rfl zq (rdsg.sat i zO zO) ?_;refine jaf (Post:=fun v=>IsB _ v) rfl zq zK (fun H' hH=>f123_c m H' _ hsi) ?_
    rintro v (⟨hc,rfl⟩|⟨hc,rfl⟩)
    ·refine Z6 ?_;refine jaq [Zp 0,Zp 2,Zp 4,Zp 6,Zr 1,Zp 3,Zr 5,Zp 7,Zr 8,Zk 9,Zp 10] zK zK (gE _) ?_;refine Z5 ?_;refine joh (b:=i) rfl zq rds.okp rfl zO ?_;refine Zs ?_;refine jaL rfl zq hps zO zO ?_;refine jaN rfl zq (rdsg.sat i zO zO) ?_;refine jaf (Post:=fun v=> ∃x:Int,v= .int .i64 x∧jeg x∧(0≤x↔b.sts.getD i []∈b.sts.take i)) rfl zq zK (fun H' hH=>f124_c m H' (rdt.keeps (sq hH)) zO _) ?_
     rintro v ⟨fx,rfl,hx64,hxi⟩;refine Zs ?_
     refine jdH rfl zq (fun hc=>?_) (fun hc=>?_)
     ·refine Z7 ?_;refine D67 ?_;refine Zs ?_
      refine ⟨rfl,congrArg (Value.int .i64) ?_⟩
      first
       |exact E30
       |exact E31
       |(refine (jaU (v:=4) ?_ zA).symm;rw [jbj zO zO,hnm,hdr];exact jdc zD)
       |(refine (jaU (v:=5) ?_ zA).symm;rw [jbj zO zO,hnm,hdr];exact jdb zD (hxi.1 zO))
       |exact (jfK hh0 zD).symm
       |exact E32
       |(rw [jbW hh0 hw0 hb0,←jbX hw0 hb0 (k:=k) zO,if_pos zO];done)
       |(rw [jbW hh0 hw0 hb0,←jbX hw0 hb0 (k:=k) zO,if_neg zO];done)
     ·refine Z9 ?_
      exact m.weak jab (hnext1 _ _ _ zO ⟨i+1,rfl,by omega,by rw [hnm,hdr,joa zD (fun e=>by have:=hxi.2 e;omega),←jjF b.sts i zO],exU rfl,rfl⟩)
    ·refine Z9 ?_;refine D67 ?_;refine Zs ?_
     refine ⟨rfl,congrArg (Value.int .i64) ?_⟩
     first
      |exact E30
      |exact E31
      |(refine (jaU (v:=4) ?_ zA).symm;rw [jbj zO zO,hnm,hdr];exact jdc zD)
      |(refine (jaU (v:=5) ?_ zA).symm;rw [jbj zO zO,hnm,hdr];exact jdb zD (hxi.1 zO))
      |exact (jfK hh0 zD).symm
      |exact E32
      |(rw [jbW hh0 hw0 hb0,←jbX hw0 hb0 (k:=k) zO,if_pos zO];done)
      |(rw [jbW hh0 hw0 hb0,←jbX hw0 hb0 (k:=k) zO,if_neg zO];done)
   ·refine Z5 ?_
    have hh0:jeA b=0:=by
     rw [jbj zO zO,hnm,gP zO];rfl
    refine Z4 ?_;refine jaf (Post:=fun v=>v= .int .i64 (jaF b.sts.length b.waters)) rfl zq zK (fun H' hH=>f125_c m H' (rds.keeps (sq hH)) hcs hns hsl (rdw.keeps (sq hH)) hnw hsm.wat) ?_
    rintro v rfl;refine Z6 ?_
    refine jaI rfl zq (fun hc=>?_) (fun hc=>?_)
    ·refine Z8 ?_;refine D67 ?_;refine Zs ?_
     refine ⟨rfl,congrArg (Value.int .i64) ?_⟩
     first
      |exact E30
      |exact E31
      |(refine (jaU (v:=4) ?_ zA).symm;rw [jbj zO zO,hnm,hdr];exact jdc zD)
      |(refine (jaU (v:=5) ?_ zA).symm;rw [jbj zO zO,hnm,hdr];exact jdb zD (hxi.1 zO))
      |exact (jfK hh0 zD).symm
      |exact E32
      |(rw [jbW hh0 hw0 hb0,←jbX hw0 hb0 (k:=k) zO,if_pos zO];done)
      |(rw [jbW hh0 hw0 hb0,←jbX hw0 hb0 (k:=k) zO,if_neg zO];done)
    ·refine Z9 ?_;refine jaf (Post:=fun v=>v= .int .i64 (jaF b.sts.length b.butts)) rfl zq zK (fun H' hH=>f125_c m H' (rds.keeps (sq hH)) hcs hns hsl (rdb.keeps (sq hH)) hnb hsm.but) ?_
     rintro v rfl;refine Z6 ?_
     refine jaI rfl zq (fun hc=>?_) (fun hc=>?_)
     ·refine Z8 ?_;refine D67 ?_;refine Zs ?_
      refine ⟨rfl,congrArg (Value.int .i64) ?_⟩
      first
       |exact E30
       |exact E31
       |(refine (jaU (v:=4) ?_ zA).symm;rw [jbj zO zO,hnm,hdr];exact jdc zD)
       |(refine (jaU (v:=5) ?_ zA).symm;rw [jbj zO zO,hnm,hdr];exact jdb zD (hxi.1 zO))
       |exact (jfK hh0 zD).symm
       |exact E32
       |(rw [jbW hh0 hw0 hb0,←jbX hw0 hb0 (k:=k) zO,if_pos zO];done)
       |(rw [jbW hh0 hw0 hb0,←jbX hw0 hb0 (k:=k) zO,if_neg zO];done)
     ·refine Z8 ?_
      have hw0:jaF b.sts.length b.waters=0:=by omega
      have hb0:jaF b.sts.length b.butts=0:=by omega
      obtain ⟨lw,hlw,rw_,hfw⟩:=rdw
      obtain ⟨lb,hlb,rb_,hfb⟩:=rdb
      have hlwl:=rw_.elen zA
      have hlbl:=rb_.elen zA
      have hbw:b.waters.length=nw:=by rw [←hlw,gN,hlwl]
      have hbb:b.butts.length=nb:=by rw [←hlb,gN,hlbl]
      refine jaq [Zp 1,Zp 4,Zr 2,Zr 5,Zk 0,Zk 3,Zk 6,Zp 7] zK zK (gE _) ?_;refine Z4 ?_;refine jcQ kdq rfl zq (fun q58=>jao (jad ?_));refine jbz rfl zq (OwnS.zero (q:=q58)) rw_.up (jdr _) kdq zO zO (fun w61 n61 o61=>jad ?_);refine jbz rfl zq o61 rb_.up (jdr _) kdq zO zO (fun w64 n64 o64=>jad ?_);replace o64:OwnS 121 2 w64 (nw+nb) (jaC (lw++lb)) n64:=by rw [ja0];simpa using o64
      obtain ⟨p64,c64,rfl,hc64,r64⟩:=jas (B:=B) o64
      refine Z4 ?_
      have hall: ∀l∈b.waters++b.butts,jkw l≤3000:=fun l hl=>by
       rcases gQ.1 hl with hl|hl
       ·rw [jkv ((jgp hw0).2 l hl).2];exact jku (hsm.wat l hl).1
       ·rw [jkv ((jgp hb0).2 l hl).2];exact jku (hsm.but l hl).1
      have hlen:(lw++lb).length=nw+nb:=by rw [gH,hlwl,hlbl]
      have hln:(lw++lb).map (·.ln)=b.waters++b.butts:=by rw [GC,hlw,hlb]
      refine Z4 ?_
      refine jag (fun nn l h'=> ∃(k:Nat),nn=nw+nb-k∧(k≤nw+nb)∧(∃U:Nat→Value,l=((tbV b ps ns ks pw nw cw pb nb cb)::vw5 U 1 ((.int .i64 (jpy (b.waters++b.butts) k:Int))::(.slice p64 (nw+nb) c64)::(.int .i64 (k:Int))::vw85 U 9 [])))∧h++[⟨true,q1,.cells (tbL b ps ns ks pw nw cw pb nb cb).toArray 25 (0,0)⟩]++n64=h') _ ⟨0,rfl,by omega,exU rfl,rfl⟩ ?_;rintro nn l h' ⟨k,rfl,hk,⟨U,rfl⟩,rfl⟩ hnext2;have hck:jpy (b.waters++b.butts) k≤k*3000:=GI (jia jkw 3000 _ fun l hl=>hall l (xT hl)) (GW _ zN)
      refine Z6 ?_
      refine jam rfl zq (fun hc=>?_) (fun hc=>?_)
      ·refine Z6 ?_
       have hxm0:(lw++lb).getD k default∈lw++lb:=jaj zO
       obtain ⟨x,hx⟩: ∃x,x=(lw++lb).getD k default:=⟨_,rfl⟩
       rw [←hx] at hxm0
       have hxl:(b.waters++b.butts).getD k default=x.ln:=by rw [←hln,ja5 _ _ zO,←hx]
       have rdf0:0<x.ln.figs.length→RdS B h 1 (.slice x.p x.ln.figs.length x.c) x.ln.figs.length (jaC x.ln.figs):=by
        rcases gQ.1 hxm0 with e|e
        ·exact (hfw x e).2
        ·exact (hfb x e).2
       have hxb:x.ln∈b.waters++b.butts:=hxl▸jaj zN
       have hxs: ∀f∈x.ln.figs,jgK f≤3∧f.length≤100000:=fun f hf=>by
        rcases gQ.1 hxb with e|e
        ·exact ⟨by rw [jp9 (((jgp hw0).2 _ e).2 f hf)];exact jig f,(hsm.wat _ e).2 f hf⟩
        ·exact ⟨by rw [jp9 (((jgp hb0).2 _ e).2 f hf)];exact jig f,(hsm.but _ e).2 f hf⟩
       have hxf:x.ln.figs.length≤1000:=by
        rcases gQ.1 hxb with e|e
        ·exact (hsm.wat _ e).1
        ·exact (hsm.but _ e).1
       obtain ⟨b64,o64_,rfl⟩:=r64.ptr zO
       refine Z4 ?_
       rw [show jpy (b.waters++b.butts) k=jpy (b.waters++b.butts) k+((x.ln.figs.take 0).map jgK).sum by simp];refine jag (fun nn l h'=> ∃(j:Nat),nn=x.ln.figs.length-j∧(j≤x.ln.figs.length)∧(∃U:Nat→Value,l=((tbV b ps ns ks pw nw cw pb nb cb)::vw5 U 1 ((.int .i64 ((jpy (b.waters++b.butts) k+((x.ln.figs.take j).map jgK).sum:Nat):Int))::(.slice (some ⟨b64,o64_,none⟩) (nw+nb) c64)::(.int .i64 (k:Int))::(.int .i64 (j:Int))::vw84 U 10 [])))∧h++[⟨true,q1,.cells (tbL b ps ns ks pw nw cw pb nb cb).toArray 25 (0,0)⟩]++n64=h') _ ⟨0,rfl,by omega,exU rfl,rfl⟩ ?_;rintro nn l h' ⟨j,rfl,hj,⟨U,rfl⟩,rfl⟩ hnext3;have hcj:((x.ln.figs.take j).map jgK).sum≤j*3:=GI (jia jgK 3 _ fun f hf=>(hxs f (xT hf)).1) (GW _ zN)
       refine Z6 ?_;refine D8 ?_;refine Zs ?_;refine D61 ?_
       rw [←hx];refine Zs ?_
       refine jam rfl zq (fun hc=>?_) (fun hc=>?_);refine Z5 ?_
       have rdf:=rdf0 zO
       obtain ⟨fb,fo,hfp⟩:=rdf.ptr zO
       have rdg:=rdf
       rw [hfp] at rdg
       have hsk2:=hxs (x.ln.figs.getD j []) (jaj (l:=x.ln.figs) zO)
       have hk3:k*3000≤2000*3000:=GW _ zO
       refine D48 ?_;refine Z3 ?_;refine D8 ?_;refine Zs ?_;refine D61 ?_
       rw [←hx];refine Zs ?_;refine D45 ?_;refine jaN rfl zq (rdg.sat j zO zO) ?_;refine jaf (Post:=fun v=>v=_) rfl zq zK (fun H' hH=>f126_c m H' _ hsk2.2) ?_
       rintro v rfl;refine Z4 ?_
       rotate_left
       refine Z3 ?_
       all_goals
        refine Z6 ?_
       ·rw [show (jpy (b.waters++b.butts) k+((x.ln.figs.take j).map jgK).sum:Nat)=jpy (b.waters++b.butts) (k+1) by rw [jrU zN,hxl,jkw,gq zO]];exact m.weak jab (hnext2 _ _ _ zO ⟨k+1,rfl,by omega,exU rfl,rfl⟩)
       ·rw [show ((jpy (b.waters++b.butts) k+((x.ln.figs.take j).map jgK).sum:Nat):Int)+(jgK (x.ln.figs.getD j []):Int)=((jpy (b.waters++b.butts) k+((x.ln.figs.take (j+1)).map jgK).sum:Nat):Int) by rw [jgc jgK _ _ zO];show _+((jgK (x.ln.figs.getD j default):Nat):Int)=_;omega];exact m.weak jab (hnext3 _ _ _ zO ⟨j+1,rfl,by omega,exU rfl,rfl⟩)
      ·refine Z7 ?_
       refine jaJ rfl zq (fun hc=>?_) (fun hc=>?_);refine Z2 ?_
       rotate_left
       refine Z3 ?_
       all_goals
        refine Z5 ?_;refine D67 ?_;refine Zs ?_
        refine ⟨rfl,congrArg (Value.int .i64) ?_⟩
        first
         |exact E30
         |exact E31
         |(refine (jaU (v:=4) ?_ zA).symm;rw [jbj zO zO,hnm,hdr];exact jdc zD)
         |(refine (jaU (v:=5) ?_ zA).symm;rw [jbj zO zO,hnm,hdr];exact jdb zD (hxi.1 zO))
         |exact (jfK hh0 zD).symm
         |exact E32
         |(rw [jbW hh0 hw0 hb0,←jbX hw0 hb0 (k:=k) zO,if_pos zO];done)
         |(rw [jbW hh0 hw0 hb0,←jbX hw0 hb0 (k:=k) zO,if_neg zO];done)
  ·refine Z9 ?_;refine D67 ?_;refine Zs ?_
   refine ⟨rfl,congrArg (Value.int .i64) ?_⟩
   first
    |exact E30
    |exact E31
    |(refine (jaU (v:=4) ?_ zA).symm;rw [jbj zO zO,hnm,hdr];exact jdc zD)
    |(refine (jaU (v:=5) ?_ zA).symm;rw [jbj zO zO,hnm,hdr];exact jdb zD (hxi.1 zO))
    |exact (jfK hh0 zD).symm
    |exact E32
    |(rw [jbW hh0 hw0 hb0,←jbX hw0 hb0 (k:=k) zO,if_pos zO];done)
    |(rw [jbW hh0 hw0 hb0,←jbX hw0 hb0 (k:=k) zO,if_neg zO];done)
 ·refine Z9 ?_;refine D67 ?_;refine Zs ?_
  refine ⟨rfl,congrArg (Value.int .i64) ?_⟩
  first
   |exact E30
   |exact E31
   |(refine (jaU (v:=4) ?_ zA).symm;rw [jbj zO zO,hnm,hdr];exact jdc zD)
   |(refine (jaU (v:=5) ?_ zA).symm;rw [jbj zO zO,hnm,hdr];exact jdb zD (hxi.1 zO))
   |exact (jfK hh0 zD).symm
   |exact E32
   |(rw [jbW hh0 hw0 hb0,←jbX hw0 hb0 (k:=k) zO,if_pos zO];done)
   |(rw [jbW hh0 hw0 hb0,←jbX hw0 hb0 (k:=k) zO,if_neg zO];done)
end
section
variable [LaidO B]
structure RdTb (B:Array Obj) (h:Hp) (b:Tb) (ps:Option Addr) (ns ks:Nat) (pw:Option Addr) (nw cw:Nat) (pb:Option Addr) (nb cb:Nat):Prop where
 s:RdS B h 1 (.slice ps ns ks) ns (jaC b.sts)
 sc:ns≤ks
 w:RdLn B h (.slice pw nw cw) nw b.waters
 u:RdLn B h (.slice pb nb cb) nb b.butts
 sm:TbSm b
 n1:1≤ns
 n3:ns≤3
 w2:nw≤2
 b2:nb≤2
 wf: ∀l∈b.waters,l.figs.length=ns∧ ∀f∈l.figs,jbu f=true
 bf: ∀l∈b.butts,l.figs.length=ns∧ ∀f∈l.figs,jbu f=true
section
variable {b:Tb}
theorem RdTb.keeps (r:RdTb B h b ps ns ks pw nw cw pb nb cb) (s:h.Sublist H):RdTb B H b ps ns ks pw nw cw pb nb cb:=
 ⟨r.s.keeps s,r.sc,r.w.keeps s,r.u.keeps s,r.sm,r.n1,r.n3,r.w2,r.b2,r.wf,r.bf⟩
theorem RdTb.sl (r:RdTb B h b ps ns ks pw nw cw pb nb cb):b.sts.length=ns:=r.s.elen zA
theorem RdTb.wl (r:RdTb B h b ps ns ks pw nw cw pb nb cb):b.waters.length=nw:=jbG r.w
theorem RdTb.bl (r:RdTb B h b ps ns ks pw nw cw pb nb cb):b.butts.length=nb:=jbG r.u
end
abbrev cV (bt:Bool) (li st:Int):Value:= .agg [.bool bt,.int .i64 li,.int .i64 st].toArray
theorem f94_c (m:Md Tryz.prog B) (hs:h.Sublist H) {b:Tb} (rd:RdTb B h b ps ns ks pw nw cw pb nb cb) (h0:0≤li) (h1:li<(jaO b bt).length):FnC m 94 #[tbV b ps ns ks pw nw cw pb nb cb,cV bt li st] H fun v h'=>h'=H∧ ∃x:Lp,v=lpV x∧x.ln=jbg b ⟨bt,li,st⟩∧x.ln.figs.length≤x.c∧(0<x.ln.figs.length→RdS B h 1 (.slice x.p x.ln.figs.length x.c) x.ln.figs.length (jaC x.ln.figs)):=by
 refine jae Tryz.func94 rfl rfl (l:=(tbV b ps ns ks pw nw cw pb nb cb)::(cV bt li st)::uu17) rfl ?_
 intro cf cs K hK
 refine Z2 ?_
 refine jaA rfl zq (fun q2=>jao (jad ?_));refine jaA rfl zq (fun q3=>jao (jad ?_));refine jay rfl zq (fun q4=>jao (jad ?_));refine Z7 ?_
 refine jcl (fun hc=>?_) (fun hc=>?_);first|replace hc:=of_decide_eq_true hc|replace hc:=of_decide_eq_false hc|skip
 refine Zs ?_
 subst hc
 have hlt:li<b.butts.length:=h1
 obtain ⟨lps,hle,rl,hfig⟩:=rd.u
 have hll:=rl.elen zA
 have hln:b.butts.length=lps.length:=by rw [←hle,gN]
 rotate_left
 first|replace hc:=of_decide_eq_true hc|replace hc:=of_decide_eq_false hc|skip
 refine Z2 ?_
 subst hc
 have hlt:li<b.waters.length:=h1
 obtain ⟨lps,hle,rl,hfig⟩:=rd.w
 have hll:=rl.elen zA
 have hln:b.waters.length=lps.length:=by rw [←hle,gN]
 all_goals
  obtain ⟨z_b,z_o,hzp⟩:=rl.ptr zO
  have rlg:=rl.keeps hs
  rw [hzp] at rlg
  refine Z5 ?_;refine D68 ?_;refine jb4 (vs:=[.int .i64 (lps.getD li.toNat default).ln.lat,.slice (lps.getD li.toNat default).p (lps.getD li.toNat default).ln.figs.length (lps.getD li.toNat default).c]) rfl zq rfl (rlg.eat li.toNat zO zO) ?_;refine D4 ?_;refine Z2 ?_;refine jac (H) rfl Tryz.func94 rfl jab ?_;refine Zs ?_
  refine ⟨rfl,lps.getD li.toNat default,rfl,?_,hfig _ (jaj zO)⟩
  rw [jbg,jaO]
 ·show _=List.getD b.waters li.toNat default
  rw [←hle,ja5 _ _ zO]
 ·show _=List.getD b.butts li.toNat default
  rw [←hle,ja5 _ _ zO]
theorem jgw {b:Tb}:jcn b ⟨bt,li,st⟩=true↔(0≤li∧li≤(jaO b bt).length-1)∧(0≤st∧st≤(b.sts.length:Int)-1):=by
 unfold jcn
 simp only [gL,decide_eq_true_iff]
 omega
theorem figs_len {b:Tb} (rd:RdTb B h b ps ns ks pw nw cw pb nb cb) {c:Ce} (h0:jcn b c=true):jbg b c∈jaO b c.butt∧(jbg b c).figs.length=ns:=by
 have hm:jbg b c∈jaO b c.butt:=by
  unfold jcn at h0
  simp only [gL,decide_eq_true_iff] at h0
  exact jaj (l:=jaO b c.butt) zO
 refine ⟨hm,?_⟩
 unfold jaO at hm
 split at hm
 ·exact (rd.bf _ hm).1
 ·exact (rd.wf _ hm).1
theorem f27_c (m:Md Tryz.prog B) (h:Hp) {b:Tb} (rd:RdTb B h b ps ns ks pw nw cw pb nb cb):FnC m 27 #[tbV b ps ns ks pw nw cw pb nb cb,cV bt li st] h fun v h'=>h'=h∧v= .tuple [str (if jcn b ⟨bt,li,st⟩ then jbU b ⟨bt,li,st⟩ else []),.bool (jcn b ⟨bt,li,st⟩)].toArray:=by
 have hsl:=rd.sl
 have hwl:=rd.wl
 have hbl:=rd.bl
 have rds:=rd.s
 have hn1:=rd.n1
 have hn3:=rd.n3
 have hw2:=rd.w2
 have hb2:=rd.b2
 refine jae Tryz.func27 rfl rfl (l:=(tbV b ps ns ks pw nw cw pb nb cb)::(cV bt li st)::uu37) rfl ?_
 intro cf cs K hK
 refine Z2 ?_
 refine jaA rfl zq (fun q2=>jao (jad ?_));refine jaA rfl zq (fun q3=>jao (jad ?_));refine Z16 ?_
 refine jcl (fun hc=>?_) (fun hc=>?_);first|replace hc:=of_decide_eq_true hc|replace hc:=of_decide_eq_false hc|skip
 refine Z6 ?_
 rotate_left
 first|replace hc:=of_decide_eq_true hc|replace hc:=of_decide_eq_false hc|skip
 refine Zs ?_
 all_goals
  refine Z2 ?_
  have hbt:=hc
  first
   |(have hnl:(jaO b bt).length=nb:=by rw [hbt];exact hbl)
   |(have hnl:(jaO b bt).length=nw:=by rw [hbt];exact hwl)
  refine D33 ?_;refine Z4 ?_;refine D52 ?_
  rintro v (⟨hc,rfl⟩|⟨hc,rfl⟩)
  ·refine Z7 ?_;refine jkO rfl rfl ?_;refine jq6 rfl rfl (by unfold jeg;omega) ?_;refine jaf (Post:=fun v=>IsB _ v) rfl rfl zK (fun H' hH=>f57_c m H' _ _ _) ?_
   rintro v (⟨hc,rfl⟩|⟨hc,rfl⟩);refine D115 ?_;refine Z5 ?_
   have hyes:jcn b ⟨bt,li,st⟩=true:=jgw.2 ⟨by omega,by omega⟩
   refine jaq [Zp 4,Zr 0,Zr 1,Zr 5,Zk 2,Zp 3,Zp 6,Zk 7,Zp 8,Zp 9] zK zK (gE _) ?_;refine Z4 ?_;refine jaf (Post:=fun v=> ∃x:Lp,v=lpV x∧x.ln=jbg b ⟨bt,li,st⟩∧x.ln.figs.length≤x.c∧(0<x.ln.figs.length→RdS B h 1 (.slice x.p x.ln.figs.length x.c) x.ln.figs.length (jaC x.ln.figs))) rfl zq zK (fun H' hH=>f94_c m (sq hH) rd zO zO) ?_;rintro v ⟨x,rfl,hxl,hxc,rdf0⟩;refine Zs ?_
   have hfl:x.ln.figs.length=ns:=by rw [hxl];exact (figs_len rd hyes).2
   have rdf:=rdf0 (by have:=rd.n1;omega)
   obtain ⟨f_b,f_o,hfp⟩:=rdf.ptr zO
   have rdg:=rdf
   rw [hfp] at rdg
   refine jhK rfl zq ?_;refine D45 ?_;refine jaN (v:=str (x.ln.figs.getD st.toNat [])) rfl zq (rdg.sat st.toNat zO zO) ?_;rotate_left
   refine Zs ?_;refine jhw rfl rfl ?_;refine Z5 ?_
   all_goals
    refine Z4 ?_;refine jac (h) rfl Tryz.func27 rfl jab ?_;refine Zs ?_
    first
     |(have hno:jcn b ⟨bt,li,st⟩=false:=gY.2 fun e=>by
        have:=jgw.1 e
        omega
       rw [hno];exact ⟨rfl,rfl⟩)
     |(rw [hyes];exact ⟨rfl,by rw [hxl];rfl⟩)
  ·refine Z20 ?_;refine jac (h) rfl Tryz.func27 rfl jab ?_;refine Zs ?_
   first
    |(have hno:jcn b ⟨bt,li,st⟩=false:=gY.2 fun e=>by
       have:=jgw.1 e
       omega
      rw [hno];exact ⟨rfl,rfl⟩)
    |(rw [hyes];exact ⟨rfl,by rw [hxl];rfl⟩)
end
section
variable [LaidO B]
def je4 (b:Tb) (c:Ce):Bool:=jcn b c&&decide (jbU b c≠jdZ)
def jjL (b:Tb) (bt:Bool) (j k:Nat):List Ce:=((List.range k).map fun (s:Nat)=>(⟨bt,(j:Int),(s:Int)⟩:Ce)).filter (je4 b)
def jpJ (b:Tb) (bt:Bool) (j:Nat):List Ce:=(List.range j).flatMap fun j'=>jjL b bt j' b.sts.length
def accI (b:Tb) (i:Nat):List Ce:=(List.range i).flatMap fun i'=>jpJ b (decide (i'=1)) 2
def jbw (b:Tb) (i j k:Nat):List Ce:=accI b i++jpJ b (decide (i=1)) j++jjL b (decide (i=1)) j k
theorem rowK_yes {b:Tb} (h:je4 b ⟨bt,(j:Int),(k:Int)⟩=true):jjL b bt j (k+1)=jjL b bt j k++[⟨bt,(j:Int),(k:Int)⟩]:=by
 rw [jjL,GV,GC,GA];simp [h,jjL]
theorem rowK_no {b:Tb} (h:je4 b ⟨bt,(j:Int),(k:Int)⟩=false):jjL b bt j (k+1)=jjL b bt j k:=by
 rw [jjL,GV,GC,GA];simp [h,jjL]
theorem joB {b:Tb} (h:je4 b ⟨decide (i=1),(j:Int),(k:Int)⟩=true):jbw b i j (k+1)=jbw b i j k++[⟨decide (i=1),(j:Int),(k:Int)⟩]:=by
 rw [jbw,rowK_yes h,jbw];simp only [gI]
theorem jnx {b:Tb} (h:je4 b ⟨decide (i=1),(j:Int),(k:Int)⟩=false):jbw b i j (k+1)=jbw b i j k:=by
 rw [jbw,rowK_no h,jbw]
theorem jgI (b:Tb) (i j:Nat):jbw b i j b.sts.length=jbw b i (j+1) 0:=by
 rw [jbw,jbw,jpJ,jpJ,GV,GQ];simp [jjL]
theorem jjf (b:Tb) (i:Nat):jbw b i 2 0=jbw b (i+1) 0 0:=by
 rw [jbw,jbw,accI,accI,GV,GQ];simp [jjL,jpJ]
theorem jh0 (b:Tb):jbw b 2 0 0=jaa b:=by
 have e (bt:Bool) (j:Nat):rowT b bt j=jjL b bt j b.sts.length:=rfl
 have z (bt:Bool) (j:Nat):jjL b bt j 0=[]:=rfl
 rw [jaa,e,e,e,e];simp [jbw,accI,jpJ,z,GV]
theorem jip (b:Tb) (bt:Bool) (j k:Nat):(jjL b bt j k).length≤k:=by
 have:=GX (je4 b) ((List.range k).map fun (s:Nat)=>(⟨bt,(j:Int),(s:Int)⟩:Ce))
 simpa [jjL] using this
theorem jhg (b:Tb) (bt:Bool) (hj:j≤2):(jpJ b bt j).length≤j*b.sts.length:=by
 rcases (by omega:j=0∨j=1∨j=2) with rfl|rfl|rfl
 ·simp [jpJ]
 ·have:=jip b bt 0 b.sts.length
  simp [jpJ,GV]
  omega
 ·have:=jip b bt 0 b.sts.length
  have:=jip b bt 1 b.sts.length
  simp [jpJ,GV]
  omega
theorem jr6 (b:Tb) (hi:i≤2) (hj:j≤2) (h3:b.sts.length≤3) (hk:k≤3):(jbw b i j k).length≤21:=by
 have h1:=jhg b (decide (i=1)) hj
 have h2:=jip b (decide (i=1)) j k
 have h4:(accI b i).length≤12:=by
  have a0:=jhg b (decide (0=1)) (gM 2)
  have a1:=jhg b (decide (1=1)) (gM 2)
  rcases (by omega:i=0∨i=1∨i=2) with rfl|rfl|rfl<;>simp [accI,GV] at* <;>omega
 have h5:j*b.sts.length≤2*3:=vo hj h3
 rw [jbw,gH,gH];omega
theorem f26_c (m:Md Tryz.prog B) (h:Hp) {b:Tb} (rd:RdTb B h b ps ns ks pw nw cw pb nb cb):FnC m 26 #[tbV b ps ns ks pw nw cw pb nb cb] h fun v h'=> ∃new,h'=h++new∧OwnS 37 3 v (jaa b).length (jaC (jaa b)) new:=by
 have hsl:=rd.sl
 have rds:=rd.s
 have hn1:=rd.n1
 have hn3:=rd.n3
 refine jae Tryz.func26 rfl rfl (l:=(tbV b ps ns ks pw nw cw pb nb cb)::uu45) rfl ?_
 intro cf cs K hK
 refine Z2 ?_
 refine jaA rfl zq (fun q1=>jao (jad ?_));refine Z12 ?_
 refine jag (fun nn l h'=> ∃(i:Nat) (wpi:Option Addr) (wci:Nat) (Mi:Hp),nn=2-i∧(i≤2)∧(OwnS 37 3 (.slice wpi (jbw b i 0 0).length wci) (jbw b i 0 0).length (jaC (jbw b i 0 0)) Mi)∧(∃U:Nat→Value,l=((tbV b ps ns ks pw nw cw pb nb cb)::(.pointer (some ⟨q1,0,none⟩))::(U 2)::(.slice wpi (jbw b i 0 0).length wci)::(.int .i64 (i:Int))::vw41 U 5 []))∧h++[⟨true,q1,.cells (tbL b ps ns ks pw nw cw pb nb cb).toArray 25 (0,0)⟩]++Mi=h') _ ⟨0,none,0,[],rfl,by omega,OwnS.nil,exU rfl,zS⟩ ?_;rintro nn l h' ⟨i,wpi,wci,Mi,rfl,hi,howi,⟨U,rfl⟩,rfl⟩ hnext1;refine Z4 ?_
 refine jam rfl zq (fun hc=>?_) (fun hc=>?_)
 ·refine Z10 ?_
  refine jag (fun nn l h'=> ∃(j:Nat) (wpj:Option Addr) (wcj:Nat) (Mj:Hp),nn=2-j∧(j≤2)∧(OwnS 37 3 (.slice wpj (jbw b i j 0).length wcj) (jbw b i j 0).length (jaC (jbw b i j 0)) Mj)∧(∃U:Nat→Value,l=((tbV b ps ns ks pw nw cw pb nb cb)::(.pointer (some ⟨q1,0,none⟩))::(U 2)::(.slice wpj (jbw b i j 0).length wcj)::(.int .i64 (i:Int))::(.int .i64 (j:Int))::vw40 U 6 []))∧h++[⟨true,q1,.cells (tbL b ps ns ks pw nw cw pb nb cb).toArray 25 (0,0)⟩]++Mj=h') _ ⟨0,wpi,wci,Mi,rfl,by omega,howi,exU rfl,rfl⟩ ?_;rintro nn l h' ⟨j,wpj,wcj,Mj,rfl,hj,howj,⟨U,rfl⟩,rfl⟩ hnext2;refine Z4 ?_
  refine jam rfl zq (fun hc=>?_) (fun hc=>?_)
  ·refine Z10 ?_
   refine jag (fun nn l h'=> ∃(k:Nat) (wpk:Option Addr) (wck:Nat) (Mk:Hp),nn=ns-k∧(k≤ns)∧(OwnS 37 3 (.slice wpk (jbw b i j k).length wck) (jbw b i j k).length (jaC (jbw b i j k)) Mk)∧(∃U:Nat→Value,l=((tbV b ps ns ks pw nw cw pb nb cb)::(.pointer (some ⟨q1,0,none⟩))::(U 2)::(.slice wpk (jbw b i j k).length wck)::(.int .i64 (i:Int))::(.int .i64 (j:Int))::(.int .i64 (k:Int))::vw39 U 7 []))∧h++[⟨true,q1,.cells (tbL b ps ns ks pw nw cw pb nb cb).toArray 25 (0,0)⟩]++Mk=h') _ ⟨0,wpj,wcj,Mj,rfl,by omega,howj,exU rfl,rfl⟩ ?_;rintro nn l h' ⟨k,wpk,wck,Mk,rfl,hk,howk,⟨U,rfl⟩,rfl⟩ hnext3;have hal:=jr6 b (i:=i) (j:=j) (k:=k) zO zO zO zO
   refine Z7 ?_
   refine jam rfl zq (fun hc=>?_) (fun hc=>?_)
   ·refine Z8 ?_;refine k_eqlV (decide (i=1)) rfl zq (decide_eq_decide.2 zO) ?_;refine Z2 ?_;refine D30 ?_
    refine jay rfl zq (fun q7=>jao (jad ?_));refine D4 ?_;refine Z5 ?_;refine jaf (Post:=fun v=>v= .tuple [str (if jcn b ⟨decide (i=1),(j:Int),(k:Int)⟩ then jbU b ⟨decide (i=1),(j:Int),(k:Int)⟩ else []),.bool (jcn b ⟨decide (i=1),(j:Int),(k:Int)⟩)].toArray) rfl zq zK (fun H' hH=>f27_c m H' (rd.keeps (sq hH))) ?_
    rintro v rfl;refine Z8 ?_
    cases hht:jcn b ⟨decide (i=1),(j:Int),(k:Int)⟩
    have hkc:je4 b ⟨decide (i=1),(j:Int),(k:Int)⟩=false:=by rw [je4,hht];rfl
    rotate_left
    rw [if_pos rfl];all_goals
     refine Z3 ?_
    ·refine Zs ?_
     by_cases hda:jbU b ⟨decide (i=1),(j:Int),(k:Int)⟩=[45]
     refine jez rfl rfl hda ?_;have hkc:je4 b ⟨decide (i=1),(j:Int),(k:Int)⟩=false:=by rw [je4,hht,decide_eq_false (fun e=>e hda)];rfl
     refine Z4 ?_
     rotate_left
     refine jfY rfl rfl hda ?_;have hkc:je4 b ⟨decide (i=1),(j:Int),(k:Int)⟩=true:=by rw [je4,hht,decide_eq_true (show jbU b ⟨decide (i=1),(j:Int),(k:Int)⟩≠jdZ from hda)];rfl
     refine Z6 ?_
     refine jb7 kdq rfl zq zA zA rfl (fun q43=>jao (jad ?_));refine ja6 rfl zq rfl howk kdq zO zO (fun w9 n9 o9=>jad ?_);obtain ⟨p9,c9,rfl,hc9,r9⟩:=jas (B:=B) o9
     refine Z2 ?_
     all_goals
      refine Z6 ?_
     ·have hks:=joB hkc
      have hkl:(jbw b i j (k+1)).length=(jbw b i j k).length+1:=by rw [hks];simp
      rw [←hkl];exact m.weak jab (hnext3 _ _ _ zO ⟨k+1,p9,c9,n9,rfl,by omega,by rw [hkl,hks,ja0];exact o9,exU rfl,rfl⟩)
     ·have hks:=jnx hkc
      rw [←hks];exact E33
    ·refine Z12 ?_
     have hks:=jnx hkc
     rw [←hks];exact E33
   ·refine Z9 ?_
    have hk2:k=b.sts.length:=by omega
    rw [show jbw b i j k=jbw b i (j+1) 0 by rw [hk2];exact jgI b i j];exact m.weak jab (hnext2 _ _ _ zO ⟨j+1,wpk,wck,Mk,rfl,by omega,by rw [←jgI,←hk2];exact howk,exU rfl,rfl⟩)
  ·refine Z9 ?_
   have hj2:j=2:=by omega
   rw [show jbw b i j 0=jbw b (i+1) 0 0 by rw [hj2];exact jjf b i];exact m.weak jab (hnext1 _ _ _ zO ⟨i+1,wpj,wcj,Mj,rfl,by omega,by rw [←jjf,←hj2];exact howj,exU rfl,rfl⟩)
 ·refine Z9 ?_;refine jac (h++Mi) rfl Tryz.func26 rfl jab ?_;refine Zs ?_
  obtain rfl:i=2:=by omega
  rw [jh0] at howi⊢
  exact ⟨Mi,rfl,howi⟩
end
section
variable [LaidO B]
instance:KeyCT Tryz.prog 37:=⟨by kernel_rfl⟩
end
section
variable [LaidO B]
theorem jiM (i:Nat) (hi:i<2):(halvesL.drop ((i:Int).toNat*3)).take 3=[str (hwS i),.bool (decide (i=1)),.func (.func (261+i)) #[] #[]]:=by
 rcases (by omega:i=0∨i=1) with rfl|rfl<;>rfl
theorem jkR (b:Tb) (hi:i<2):hL b i=jaO b (decide (i=1)):=by
 rcases (by omega:i=0∨i=1) with rfl|rfl<;>rfl
theorem jro {b:Tb} (hi:i<2):jcn b ⟨decide (i=1),(k:Int),(j:Int)⟩=true↔k<(hL b i).length∧j<b.sts.length:=by
 rw [jcR,jkR b hi];simp only
 omega
theorem figT_at {b:Tb} (hi:i<2):jbU b ⟨decide (i=1),(k:Int),(j:Int)⟩=((hL b i).getD k default).figs.getD j []:=by
 rw [jbU,jbg,jkR b hi];simp only [gm]
theorem jlK {b:Tb} (hi:i<2) (hk:(hL b i).length≤k):jjL b (decide (i=1)) k n=[]:=by
 rw [jjL,VN];intro c hc
 obtain ⟨s,_,rfl⟩:=gR.1 hc
 rw [je4];cases hh:jcn b ⟨decide (i=1),(k:Int),(s:Int)⟩ with
 |false=>simp
 |true=>have:=(jro hi).1 hh;omega
theorem jpE (b:Tb) (hi:i<2) (hk:k≤2) (hl:(hL b i).length≤k):jbw b i k 0=jbw b (i+1) 0 0:=by
 rw [←jjf];have one: ∀k,(hL b i).length≤k→jbw b i k 0=jbw b i (k+1) 0:=fun k hk=>by
  rw [←jgI,jbw,jbw,jlK hi hk,jlK hi hk]
 rcases (by omega:k=0∨k=1∨k=2) with rfl|rfl|rfl
 ·rw [one 0 hl,one 1 zO]
 ·rw [one 1 hl]
 ·rfl
theorem jkJ {b:Tb} {c:Ce} (h:c∈jjL b bt j k):c.butt=bt∧c.line=j∧0≤c.st∧c.st<k:=by
 rw [jjL,ga,gR] at h
 obtain ⟨⟨s,hs,rfl⟩,_⟩:=h
 rw [gT] at hs
 exact ⟨rfl,rfl,by simp only;omega,by simp only;omega⟩
theorem accC_new {b:Tb} (hi:i<2):(⟨decide (i=1),(k:Int),(j:Int)⟩:Ce)∉jbw b i k j:=by
 intro h
 rw [jbw,gQ,gQ] at h
 rcases h with (h|h)|h
 ·simp only [accI,jpJ,vn,gT] at h
  obtain ⟨i',hi',j',_,h⟩:=h
  have:=(jkJ h).1
  simp only at this
  rw [decide_eq_decide] at this
  omega
 ·simp only [jpJ,vn,gT] at h
  obtain ⟨j',hj',h⟩:=h
  have:=(jkJ h).2.1
  simp only at this
  omega
 ·have:=(jkJ h).2.2.2
  simp only at this
  omega
theorem joC (b:Tb) (hi:i≤2) (hk:k≤2) (h3:b.sts.length≤3):(jbw b i k j).length≤(i*2+k)*3+j:=by
 have h1:=jhg b (decide (i=1)) hk
 have h2:=jip b (decide (i=1)) k j
 have h4:(accI b i).length≤i*6:=by
  have a0:=jhg b (decide (0=1)) (gM 2)
  have a1:=jhg b (decide (1=1)) (gM 2)
  rcases (by omega:i=0∨i=1∨i=2) with rfl|rfl|rfl<;>simp [accI,GV] at* <;>omega
 have h5:k*b.sts.length≤k*3:=xa k h3
 rw [jbw,gH,gH];omega
def shC (tb:List Value) (cv mv:Value) (la:List Int) (cl:List Value):List Value:=tb++[cv,mv]++(jav la++cl)
section
variable {a0 a1 a2 a3 cv mv:Value}
instance:At (shC [a0,a1,a2,a3] cv mv la cl) 4 cv:=⟨rfl⟩
instance:At (shC [a0,a1,a2,a3] cv mv la cl) 5 mv:=⟨rfl⟩
instance {u:Value}:SetSeg (shC [a0,a1,a2,a3] cv mv la cl) 4 [u] (shC [a0,a1,a2,a3] u mv la cl):=⟨by simp [shC],by simp [shC]⟩
theorem jdv {l l':List Value} {v:Value} (h:i<l.length) (e:l'=l.set i v):SetSeg l i [v] l':=⟨by
 rw [e,Gj,if_pos h];simp,by simp;omega⟩
theorem shC_lat (h:k<la.length) (z:Int):SetSeg (shC [a0,a1,a2,a3] cv mv la cl) (6+(k:Int).toNat*1) [.int .i64 z] (shC [a0,a1,a2,a3] cv mv (la.set k z) cl):=by
 rw [gm,Gw];have hk:k<(jav la).length:=by simpa using h
 refine jdv (by simp [shC];omega) ?_
 rw [shC,shC,vZ _ _ zS,show 6+k-([a0,a1,a2,a3]++[cv,mv]).length=k by simp,vg _ _ hk,jav,jav,vf]
theorem shC_can (hl:la.length=12) (h:k<cl.length) (u:Value):SetSeg (shC [a0,a1,a2,a3] cv mv la cl) (18+(k:Int).toNat*1) [u] (shC [a0,a1,a2,a3] cv mv la (cl.set k u)):=by
 rw [gm,Gw];refine jdv (by simp [shC,hl];omega) ?_
 rw [shC,shC,vZ _ _ zN,vZ _ _ (by simp [hl];omega),show 18+k-([a0,a1,a2,a3]++[cv,mv]).length-(jav la).length=k by simp [hl];omega]
theorem jqh (h:k<la.length):(shC [a0,a1,a2,a3] cv mv la cl)[6+k]?=some (.int .i64 (la.getD k 0)):=by
 have e:shC [a0,a1,a2,a3] cv mv la cl=[a0,a1,a2,a3,cv,mv]++(jav la++cl):=rfl
 rw [e,gf zS,show 6+k-[a0,a1,a2,a3,cv,mv].length=k by simp,gb (by simpa using h),gX,gD h,gC,gD h];rfl
theorem jqi (h:la.length=12):(shC [a0,a1,a2,a3] cv mv la cl)[18+k]?=cl[k]?:=by
 have e:shC [a0,a1,a2,a3] cv mv la cl=([a0,a1,a2,a3,cv,mv]++jav la)++cl:=by simp [shC]
 rw [e,gf (by simp [h]),show 18+k-([a0,a1,a2,a3,cv,mv]++jav la).length=k by simp [h]]
end
def LatOk (b:Tb) (cs:List Ce) (la:List Int):Prop:=la.length=12∧ ∀x,x<cs.length→la.getD x 0=(jbg b (cs.getD x default)).lat
def CanOk (B:Array Obj) (M:Hp) (b:Tb) (cs:List Ce) (cl:List Value):Prop:=cl.length=12∧ ∀x,x<cs.length→ ∃p c,cl[x]?=some (.slice p (jdN (jbU b (cs.getD x default))).length c)∧(jdN (jbU b (cs.getD x default))).length≤c∧RdS B M 1 (.slice p (jdN (jbU b (cs.getD x default))).length c) (jdN (jbU b (cs.getD x default))).length (jav (jdN (jbU b (cs.getD x default))))
theorem jgx {α:Type} {d:α} {l:List α} {a:α} (x:Nat):(l++[a]).getD x d=if x<l.length then l.getD x d else if x=l.length then a else d:=by
 rw [gC,Gs];split
 ·rw [gC]
 ·rename_i h
  split
  ·rename_i e
   subst e
   simp
  ·rw [gh zN];rfl
theorem LatOk.snoc {b:Tb} {cs:List Ce} {la:List Int} (h:LatOk b cs la) {c:Ce} {z:Int} (hl:cs.length<12) (hz:z=(jbg b c).lat):LatOk b (cs++[c]) (la.set cs.length z):=by
 refine ⟨by simpa using h.1,fun x hx=>?_⟩
 rw [gH,GU] at hx
 rw [jgx,gC,vT];by_cases e:x<cs.length
 ·rw [if_pos e,if_neg zO,←gC,h.2 x e]
 ·obtain rfl:x=cs.length:=by omega
  rw [if_neg e,if_pos rfl,if_pos rfl,if_pos (by rw [h.1];exact hl),hz];rfl
theorem CanOk.snoc {B:Array Obj} {M:Hp} {b:Tb} {cs:List Ce} {cl:List Value} (h:CanOk B M b cs cl) {c:Ce} (hl:cs.length<12) {nw:Hp} {u:Value} {f:Str} (hf:f=jbU b c) (o:OwnS 3 1 u (jdN f).length (jav (jdN f)) nw):CanOk B (M++nw) b (cs++[c]) (cl.set cs.length u):=by
 subst hf
 refine ⟨by simpa using h.1,fun x hx=>?_⟩
 rw [gH,GU] at hx
 rw [jgx,vT];by_cases e:x<cs.length
 ·rw [if_pos e,if_neg zO];obtain ⟨p,c',e1,e2,e3⟩:=h.2 x e
  exact ⟨p,c',e1,e2,e3.keeps (gG _ _)⟩
 ·obtain rfl:x=cs.length:=by omega
  rw [if_neg e,if_pos rfl,if_pos rfl,if_pos (by rw [h.1];exact hl)];obtain ⟨p,c',rfl,hc,rd⟩:=jas (B:=B) o
  exact ⟨p,c',rfl,hc,rd.keeps (gK _ _)⟩
theorem LatOk.nil (b:Tb):LatOk b [] (List.replicate 12 0):=⟨rfl,fun x hx=>by simp at hx⟩
theorem CanOk.nil (B:Array Obj) (b:Tb):CanOk B [] b [] (List.replicate 12 (.slice none 0 0)):=⟨rfl,fun x hx=>by simp at hx⟩
structure Sheet (B:Array Obj) (H:Hp) (b:Tb) (q:Nat) (tv:List Value):Prop where
 twelve:(jaa b).length≤12
 tb:RdN B H q 0 tv
 cells: ∃p c,Rd B H ⟨q,4,none⟩ (.slice p (jaa b).length c)∧(jaa b).length≤c∧RdS B H 3 (.slice p (jaa b).length c) (jaa b).length (jaC (jaa b))
 map: ∃rw qm,Rd B H ⟨q,5,none⟩ (.map (some qm))∧(⟨rw,qm,jgL (jaa b)⟩:Chunk)∈H
 lat: ∀i,i<(jaa b).length→Rd B H ⟨q,6+i,none⟩ (.int .i64 (dA (cdT b) i).lat)
 can: ∀i,i<(jaa b).length→ ∃p c,Rd B H ⟨q,18+i,none⟩ (.slice p (dA (cdT b) i).can.length c)∧(dA (cdT b) i).can.length≤c∧RdS B H 1 (.slice p (dA (cdT b) i).can.length c) (dA (cdT b) i).can.length (jav (dA (cdT b) i).can)
theorem Sheet.keeps {H':Hp} {b:Tb} (s:Sheet B H b q tv) (k:H.Sublist H'):Sheet B H' b q tv:=by
 obtain ⟨h0,h1,⟨p,c,h2,h3,h4⟩,⟨rw,qm,h5,h6⟩,h7,h8⟩:=s
 refine ⟨h0,fun j hj=>(h1 j hj).keeps k,⟨p,c,h2.keeps k,h3,h4.keeps k⟩,⟨rw,qm,h5.keeps k,k.subset h6⟩,fun i hi=>(h7 i hi).keeps k,fun i hi=>?_⟩
 obtain ⟨p,c,a1,a2,a3⟩:=h8 i hi
 exact ⟨p,c,a1.keeps k,a2,a3.keeps k⟩
theorem sheet_of {W M:Hp} {b:Tb} {qm:Nat} {a0 a1 a2 a3:Value} {wc:Nat} (hn:(jaa b).length≤12)
  (o:OwnS 37 3 (.slice wp (jaa b).length wc) (jaa b).length (jaC (jaa b)) W) (hla:LatOk b (jaa b) la) (hcl:CanOk B M b (jaa b) cl):
  Sheet B ([⟨true,qm,jgL (jaa b)⟩,⟨true,q,.cells (shC [a0,a1,a2,a3] (.slice wp (jaa b).length wc) (.map (some qm)) la cl).toArray 132 (0,0)⟩]++W++M) b q [a0,a1,a2,a3]:=by
 have hin:(⟨true,q,.cells (shC [a0,a1,a2,a3] (.slice wp (jaa b).length wc) (.map (some qm)) la cl).toArray 132 (0,0)⟩:Chunk)∈[⟨true,qm,jgL (jaa b)⟩,⟨true,q,.cells (shC [a0,a1,a2,a3] (.slice wp (jaa b).length wc) (.map (some qm)) la cl).toArray 132 (0,0)⟩]++W++M:=by simp
 have rd: ∀o v,(shC [a0,a1,a2,a3] (.slice wp (jaa b).length wc) (.map (some qm)) la cl)[o]?=some v→Rd B ([⟨true,qm,jgL (jaa b)⟩,⟨true,q,.cells (shC [a0,a1,a2,a3] (.slice wp (jaa b).length wc) (.map (some qm)) la cl).toArray 132 (0,0)⟩]++W++M) ⟨q,o,none⟩ v:=fun o v e=>Rd.held hin (by simpa using e)
 obtain ⟨p',c',e,hc,r⟩:=jas (B:=B) o
 cases e
 refine ⟨hn,fun j hj=>?_,⟨wp,wc,rd _ _ rfl,hc,r.keeps (Gb (gK _ _) (gG _ _))⟩,⟨true,qm,rd _ _ rfl,by simp⟩,fun i hi=>?_,fun i hi=>?_⟩
 ·rw [GG];refine rd _ _ ?_
  simp only [gV,Gp] at hj
  rcases (by omega:j=0∨j=1∨j=2∨j=3) with rfl|rfl|rfl|rfl<;>rfl
 ·rw [jaB b hi];refine rd _ _ ?_
  rw [jqh (by rw [hla.1];omega),hla.2 i hi];rfl
 ·rw [jaB b hi];obtain ⟨p,c,e1,e2,e3⟩:=hcl.2 i hi
  exact ⟨p,c,rd _ _ (by rw [jqi hla.1];exact e1),e2,e3.keeps (gK _ _)⟩
theorem jeO {h' F1 F2 F3 X Y Z:Hp} [a:Off h' Z F1] [b:Off F1 Y F2] [c:Off F2 X F3] [s:SubH H F3]:Weak B h' (H++X++(Y++Z)):=by
 rw [←gI];exact (Weak.perm a.perm).trans (((Weak.perm b.perm).trans (((Weak.perm c.perm).trans ((Weak.sub s.sub).apps X)).apps Y)).apps Z)
theorem f95_c (m:Md Tryz.prog B) (h:Hp) {b:Tb} (rd:RdTb B h b ps ns ks pw nw cw pb nb cb):FnC m 95 #[tbV b ps ns ks pw nw cw pb nb cb] h fun v h'=> ∃new q,h'=h++new∧v= .pointer (some ⟨q,0,none⟩)∧Sheet B new b q (tbL b ps ns ks pw nw cw pb nb cb):=by
 have hsl:=rd.sl
 have hn1:=rd.n1
 have hn3:=rd.n3
 have hw2:=rd.w2
 have hb2:=rd.b2
 refine jae Tryz.func95 rfl rfl (l:=(tbV b ps ns ks pw nw cw pb nb cb)::uu94) rfl ?_
 intro cf cs K hK
 refine Z2 ?_
 refine jaA rfl zq (fun q1=>jao (jad ?_));refine Z5 ?_;refine D30 ?_
 refine k_mkmapC rfl zq (fun qm=>jao (jad ?_));refine D30 ?_
 refine jaA rfl zq (fun q18=>jao (jad ?_));refine Z5 ?_;refine jb4 (vs:=halvesL) rfl zq rfl jfX ?_;refine Z3 ?_
 refine jag (fun nn l h'=> ∃(i:Nat) (wp1:Option Addr) (wc1:Nat) (W1 M1:Hp) (la1:List Int) (cl1:List Value),nn=2-i∧(i≤2)∧(OwnS 37 3 (.slice wp1 (jbw b i 0 0).length wc1) (jbw b i 0 0).length (jaC (jbw b i 0 0)) W1)∧(LatOk b (jbw b i 0 0) la1)∧(CanOk B M1 b (jbw b i 0 0) cl1)∧(∃U:Nat→Value,l=((tbV b ps ns ks pw nw cw pb nb cb)::(.pointer (some ⟨q1,0,none⟩))::(U 2)::(.pointer (some ⟨q18,0,none⟩))::vw15 U 4 ((.agg halvesL.toArray)::(.int .i64 (i:Int))::vw74 U 21 [])))∧h++[⟨true,q1,.cells (tbL b ps ns ks pw nw cw pb nb cb).toArray 25 (0,0)⟩,⟨true,qm,jgL (jbw b i 0 0)⟩,⟨true,q18,.cells (shC (tbL b ps ns ks pw nw cw pb nb cb) (.slice wp1 (jbw b i 0 0).length wc1) (.map (some qm)) la1 cl1).toArray 132 (0,0)⟩]++W1++M1=h') _ ⟨0,none,0,[],[],List.replicate 12 0,List.replicate 12 (.slice none 0 0),rfl,by omega,OwnS.nil,LatOk.nil b,CanOk.nil B b,exU rfl,(by rw [ge,ge];rfl)⟩ ?_;rintro nn l h' ⟨i,wp1,wc1,W1,M1,la1,cl1,rfl,hi,how1,hla1,hcl1,⟨U,rfl⟩,rfl⟩ hnext1;refine Z2 ?_
 refine jam rfl zq (fun hc=>?_) (fun hc=>?_)
 ·refine Z8 ?_;refine jok rfl zq zO zO (jiM i zO) ?_
  refine jay rfl zq (fun q5=>jao (jad ?_));refine D4 ?_;refine Z2 ?_
  have hin:i<2:=by omega
  obtain ⟨pl,nl,cl0,hsl1,hln,hnl⟩:=jrq (B:=B) (b:=b) (ps:=ps) (ns:=ns) (ks:=ks) rd.w (show nw≤1000 by omega) rd.u (show nb≤1000 by omega) i hin
  have hsmi: ∀l∈hL b i,l.figs.length=ns∧ ∀f∈l.figs,f.length≤100000∧jbu f=true:=by
   unfold hL
   split
   ·exact fun l hl=>⟨(rd.wf l hl).1,fun f hf=>⟨(rd.sm.wat l hl).2 f hf,(rd.wf l hl).2 f hf⟩⟩
   ·exact fun l hl=>⟨(rd.bf l hl).1,fun f hf=>⟨(rd.sm.but l hl).2 f hf,(rd.bf l hl).2 f hf⟩⟩
  have hnl2:nl≤2:=by
   have h1:=jbG hln
   unfold hL at h1
   have h2:=rd.wl
   have h3:=rd.bl
   split at h1<;>omega
  refine Z3 ?_;refine D78 ?_
  rintro v rfl;refine Z2 ?_;refine jaN (v:= .slice pl nl cl0) rfl zq (rd_nth hsl1) ?_;refine Z4 ?_
  obtain ⟨lps,hle,rl,hfig⟩:=hln
  have hll:=rl.elen zA
  have hln2:(hL b i).length=nl:=by rw [←hle,gN,hll]
  refine m.weak (h':=h++[⟨true,q1,.cells (tbL b ps ns ks pw nw cw pb nb cb).toArray 25 (0,0)⟩,⟨true,qm,jgL (jbw b i 0 0)⟩,⟨true,q18,.cells (shC (tbL b ps ns ks pw nw cw pb nb cb) (.slice wp1 (jbw b i 0 0).length wc1) (.map (some qm)) la1 cl1).toArray 132 (0,0)⟩]++[⟨true,q5,.cells [str (hwS i),.bool (decide (i=1)),.func (.func (261+i)) #[] #[]].toArray 184 (0,0)⟩]++W1++M1) jfh ?_
  refine jag (fun nn l h'=> ∃(k:Nat) (wp2:Option Addr) (wc2:Nat) (W2 M2:Hp) (la2:List Int) (cl2:List Value),nn=nl-k∧(k≤nl)∧(OwnS 37 3 (.slice wp2 (jbw b i k 0).length wc2) (jbw b i k 0).length (jaC (jbw b i k 0)) W2)∧(LatOk b (jbw b i k 0) la2)∧(CanOk B M2 b (jbw b i k 0) cl2)∧(∃U:Nat→Value,l=((tbV b ps ns ks pw nw cw pb nb cb)::(.pointer (some ⟨q1,0,none⟩))::(U 2)::(.pointer (some ⟨q18,0,none⟩))::(U 4)::(.pointer (some ⟨q5,0,none⟩))::vw13 U 6 ((.agg halvesL.toArray)::(.int .i64 (i:Int))::vw6 U 21 ((.slice pl nl cl0)::(.int .i64 (nl:Int))::(.int .i64 (k:Int))::vw65 U 30 []))))∧h++[⟨true,q1,.cells (tbL b ps ns ks pw nw cw pb nb cb).toArray 25 (0,0)⟩,⟨true,qm,jgL (jbw b i k 0)⟩,⟨true,q18,.cells (shC (tbL b ps ns ks pw nw cw pb nb cb) (.slice wp2 (jbw b i k 0).length wc2) (.map (some qm)) la2 cl2).toArray 132 (0,0)⟩]++[⟨true,q5,.cells [str (hwS i),.bool (decide (i=1)),.func (.func (261+i)) #[] #[]].toArray 184 (0,0)⟩]++W2++M2=h') _ ⟨0,wp1,wc1,W1,M1,la1,cl1,rfl,by omega,how1,hla1,hcl1,exU rfl,rfl⟩ ?_;rintro nn l h' ⟨k,wp2,wc2,W2,M2,la2,cl2,rfl,hk,how2,hla2,hcl2,⟨U,rfl⟩,rfl⟩ hnext2;refine Z2 ?_
  refine jam rfl zq (fun hc=>?_) (fun hc=>?_)
  ·refine Z7 ?_
   obtain ⟨rl_b,rl_o,rfl⟩:=rl.ptr zO
   refine Z2 ?_;refine D8 ?_;refine D49 ?_
   obtain ⟨x,hx⟩: ∃x,x=lps.getD k default:=⟨_,rfl⟩
   rw [←hx];refine jay rfl zq (fun q7=>jao (jad ?_));refine Zs ?_;refine D4 ?_;refine Zs ?_;refine jqp ?_;refine Zs ?_;refine jqr ?_;refine Zs ?_
   have hxm:x∈lps:=hx▸jaj zO
   obtain ⟨hxc,rdf0⟩:=hfig x hxm
   have hxl:(hL b i).getD k default=x.ln:=by rw [←hle,ja5 _ _ zO,←hx]
   obtain ⟨hfl,hfs⟩:=hsmi x.ln (hxl▸jaj zO)
   refine Z7 ?_;refine m.weak (h':=h++[⟨true,q1,.cells (tbL b ps ns ks pw nw cw pb nb cb).toArray 25 (0,0)⟩,⟨true,qm,jgL (jbw b i k 0)⟩,⟨true,q18,.cells (shC (tbL b ps ns ks pw nw cw pb nb cb) (.slice wp2 (jbw b i k 0).length wc2) (.map (some qm)) la2 cl2).toArray 132 (0,0)⟩]++[⟨true,q5,.cells [str (hwS i),.bool (decide (i=1)),.func (.func (261+i)) #[] #[]].toArray 184 (0,0)⟩]++[⟨true,q7,.cells [.int .i64 x.ln.lat,.slice x.p x.ln.figs.length x.c].toArray 121 (0,0)⟩]++W2++M2) jfh ?_
   refine jag (fun nn l h'=> ∃(j:Nat) (wp3:Option Addr) (wc3:Nat) (W3 M3:Hp) (la3:List Int) (cl3:List Value),nn=x.ln.figs.length-j∧(j≤x.ln.figs.length)∧(OwnS 37 3 (.slice wp3 (jbw b i k j).length wc3) (jbw b i k j).length (jaC (jbw b i k j)) W3)∧(LatOk b (jbw b i k j) la3)∧(CanOk B M3 b (jbw b i k j) cl3)∧(∃U:Nat→Value,l=((tbV b ps ns ks pw nw cw pb nb cb)::(.pointer (some ⟨q1,0,none⟩))::(U 2)::(.pointer (some ⟨q18,0,none⟩))::(U 4)::(.pointer (some ⟨q5,0,none⟩))::(.int .i64 (k:Int))::(.pointer (some ⟨q7,0,none⟩))::vw11 U 8 ((.agg halvesL.toArray)::(.int .i64 (i:Int))::vw6 U 21 ((.slice (some ⟨rl_b,rl_o,none⟩) nl cl0)::(.int .i64 (nl:Int))::(.int .i64 (k:Int))::vw5 U 30 ((.slice x.p x.ln.figs.length x.c)::(.int .i64 (x.ln.figs.length:Int))::(.int .i64 (j:Int))::vw57 U 38 [])))))∧h++[⟨true,q1,.cells (tbL b ps ns ks pw nw cw pb nb cb).toArray 25 (0,0)⟩,⟨true,qm,jgL (jbw b i k j)⟩,⟨true,q18,.cells (shC (tbL b ps ns ks pw nw cw pb nb cb) (.slice wp3 (jbw b i k j).length wc3) (.map (some qm)) la3 cl3).toArray 132 (0,0)⟩]++[⟨true,q5,.cells [str (hwS i),.bool (decide (i=1)),.func (.func (261+i)) #[] #[]].toArray 184 (0,0)⟩]++[⟨true,q7,.cells [.int .i64 x.ln.lat,.slice x.p x.ln.figs.length x.c].toArray 121 (0,0)⟩]++W3++M3=h') _ ⟨0,wp2,wc2,W2,M2,la2,cl2,rfl,by omega,how2,hla2,hcl2,exU rfl,rfl⟩ ?_;rintro nn l h' ⟨j,wp3,wc3,W3,M3,la3,cl3,rfl,hj,how3,hla3,hcl3,⟨U,rfl⟩,rfl⟩ hnext3;refine Z2 ?_
   refine jam rfl zq (fun hc=>?_) (fun hc=>?_)
   ·refine Z7 ?_
    have rdf:=rdf0 zO
    obtain ⟨fb,fo,hfp⟩:=rdf.ptr zO
    have rdg:=rdf
    rw [hfp] at rdg
    obtain ⟨hsk2,hsk3⟩:=hfs _ (jaj (l:=x.ln.figs) (show j<x.ln.figs.length by omega))
    replace hsk2:(x.ln.figs.getD j []).length≤100000:=hsk2
    replace hsk3:jbu (x.ln.figs.getD j [])=true:=hsk3
    have hht:jcn b (⟨decide (i=1),(k:Int),(j:Int)⟩:Ce)=true:=(jro hin).2 ⟨by omega,by omega⟩
    have hft:jbU b (⟨decide (i=1),(k:Int),(j:Int)⟩:Ce)=x.ln.figs.getD j []:=by rw [figT_at hin,hxl]
    have hn12:(jbw b i k j).length<12:=by
     have:=joC b (i:=i) (k:=k) (j:=j) zO zO zO
     omega
    refine Z2 ?_;refine D45 ?_;refine jaN rfl zq (rdg.sat j zO zO) ?_;refine Z7 ?_
    by_cases hda:x.ln.figs.getD j []=[45]
    ·refine jg3 rfl zq hda ?_;have hkc:je4 b (⟨decide (i=1),(k:Int),(j:Int)⟩:Ce)=false:=by rw [je4,hht,hft,decide_eq_false (fun e=>e hda)];rfl
     refine Z7 ?_
     have hks:=jnx hkc
     rw [←hks];refine m.weak (h':=h++[⟨true,q1,.cells (tbL b ps ns ks pw nw cw pb nb cb).toArray 25 (0,0)⟩,⟨true,qm,jgL (jbw b i k (j+1))⟩,⟨true,q18,.cells (shC (tbL b ps ns ks pw nw cw pb nb cb) (.slice wp3 (jbw b i k (j+1)).length wc3) (.map (some qm)) la3 cl3).toArray 132 (0,0)⟩]++[⟨true,q5,.cells [str (hwS i),.bool (decide (i=1)),.func (.func (261+i)) #[] #[]].toArray 184 (0,0)⟩]++[⟨true,q7,.cells [.int .i64 x.ln.lat,.slice x.p x.ln.figs.length x.c].toArray 121 (0,0)⟩]++W3++M3) jfh ?_
     exact hnext3 _ _ _ zO ⟨j+1,wp3,wc3,W3,M3,la3,cl3,rfl,by omega,by rw [hks];exact how3,by rw [hks];exact hla3,by rw [hks];exact hcl3,exU rfl,rfl⟩
    ·refine jg4 rfl zq hda ?_;have hkc:je4 b (⟨decide (i=1),(k:Int),(j:Int)⟩:Ce)=true:=by rw [je4,hht,hft,decide_eq_true (show x.ln.figs.getD j []≠jdZ from hda)];rfl
     have hfo:ja2 (x.ln.figs.getD j [])=true:=by
      rw [jbu,GR] at hsk3
      exact hsk3.resolve_right fun e=>hda (of_decide_eq_true e)
     have hms:jdN (x.ln.figs.getD j [])=jjV (jan (x.ln.figs.getD j [])):=by rw [jdN,if_pos hfo]
     have hnew:=accC_new (b:=b) (i:=i) (k:=k) (j:=j) hin
     have hlat:x.ln.lat=(jbg b (⟨decide (i=1),(k:Int),(j:Int)⟩:Ce)).lat:=by rw [jbg,←jkR b hin];simp only [gm];rw [hxl]
     refine Z4 ?_;refine jaq [Zp 0,Zp 1,Zp 2,Zp 5,Zp 7,Zp 8,Zr 3,Zp 4,Zr 6,Zp 9,Za 10,Zp 11,Zf 12] zK zK (gE _) ?_;refine Z9 ?_;refine D30 ?_
     refine jay rfl zq (fun q11=>jao (jad ?_));refine Zs ?_;refine D4 ?_;refine Z4 ?_;refine jaf (Post:=fun v=>v=_) rfl zq zK (fun H' hH=>f119_c m H' _ hsk2) ?_
     rintro v rfl;refine Z4 ?_
     refine jay rfl zq (fun q12=>jao (jad ?_));refine D46 ?_;refine Z2 ?_;refine jbi (S:=h++[⟨true,q1,.cells (tbL b ps ns ks pw nw cw pb nb cb).toArray 25 (0,0)⟩]++[⟨true,q5,.cells [str (hwS i),.bool (decide (i=1)),.func (.func (261+i)) #[] #[]].toArray 184 (0,0)⟩]++[⟨true,q7,.cells [.int .i64 x.ln.lat,.slice x.p x.ln.figs.length x.c].toArray 121 (0,0)⟩]++[⟨true,q11,.cells [.bool (decide (i=1)),.int .i64 (k:Int),.int .i64 (j:Int)].toArray 37 (0,0)⟩,⟨true,q12,.cells (jav (jan (x.ln.figs.getD j []))).toArray 145 (0,0)⟩]) [0,1,2,3,4,5,6,7,8,9,10,11,12,13,14,15,16,17,18,19,20,21,22,23,24,25,26,27,28,29,30,31,32,33,34,35] zK zK SubH.sub ?_
     refine DrawT.split 4 13 zA (DrawT.split 4 15 zA (DrawT.split 13 15 zA ?_ ?_) ?_) (DrawT.split 4 15 zA ?_ (DrawT.split 4 16 zA (DrawT.split 13 15 zA ?_ ?_) (DrawT.split 4 21 zA (DrawT.split 13 15 zA ?_ ?_) (DrawT.split 13 15 zA ?_ ?_))))
     refine DrawT.leaf [Zp 0,Zp 1,Zp 2,Zp 3,Zp 6,Zp 7,Zp 8,Zp 9,Zp 10,Zp 11,Zp 12,Zp 17,Zp 18,Zp 28,Zp 29,Zp 32,Zp 33,Zr 5,Zr 14,Zr 19,Zr 20,Zk 4,Zk 13,Zk 15,Zk 16,Zk 21,Zp 22,Zp 23,Zk 24,Zk 25,Zp 26,Zk 27,Zp 30,Zk 31,Zp 34,Zk 35] zK ?_;refine Z20 ?_;refine D32 ?_;refine Z2 ?_
     refine jb7 kdq rfl zq zA zA rfl (fun q74=>jao (jad ?_));refine ja6 rfl zq rfl how3 zL zO zO (fun w9 n9 o9=>jad ?_);obtain ⟨p9,c9,rfl,hc9,r9⟩:=jas (B:=B) o9
     refine D1 ?_
     rintro w80 n80 o80;refine jaz (jad ?_);rw [←hms] at o80
     obtain ⟨p80,c80,rfl,_⟩:=jas (B:=B) o80
     have hfig80:=hft.symm
     rotate_left
     refine DrawT.leaf [Zp 0,Zp 1,Zp 2,Zp 3,Zp 6,Zp 7,Zp 8,Zp 9,Zp 10,Zp 11,Zp 12,Zp 17,Zp 18,Zp 28,Zp 29,Zp 32,Zp 33,Zr 5,Zr 14,Zr 19,Zr 20,Zk 4,Zk 15,Zk 13,Zk 16,Zk 21,Zp 22,Zp 23,Zk 24,Zk 25,Zp 26,Zk 27,Zp 30,Zk 31,Zp 34,Zk 35] zK ?_;refine Z20 ?_;refine D32 ?_;refine Zs ?_
     refine jb7 kdq rfl zq zA zA rfl (fun q74=>jao (jad ?_));refine Zs ?_
     refine ja6 rfl zq rfl how3 zL zO zO (fun w9 n9 o9=>jad ?_);obtain ⟨p9,c9,rfl,hc9,r9⟩:=jas (B:=B) o9
     refine D1 ?_
     rintro w80 n80 o80;refine jaz (jad ?_);rw [←hms] at o80
     obtain ⟨p80,c80,rfl,_⟩:=jas (B:=B) o80
     have hfig80:=hft.symm
     rotate_left
     refine DrawT.leaf [Zp 0,Zp 1,Zp 2,Zp 3,Zp 6,Zp 7,Zp 8,Zp 9,Zp 10,Zp 11,Zp 12,Zp 17,Zp 18,Zp 28,Zp 29,Zp 32,Zp 33,Zr 5,Zr 14,Zr 19,Zr 20,Zk 15,Zk 4,Zk 13,Zk 16,Zk 21,Zp 22,Zp 23,Zk 24,Zk 25,Zp 26,Zk 27,Zp 30,Zk 31,Zp 34,Zk 35] zK ?_;refine Z20 ?_;refine D32 ?_
     refine jb7 kdq rfl zq zA zA rfl (fun q74=>jao (jad ?_));refine Z2 ?_
     refine ja6 rfl zq rfl how3 zL zO zO (fun w9 n9 o9=>jad ?_);obtain ⟨p9,c9,rfl,hc9,r9⟩:=jas (B:=B) o9
     refine D1 ?_
     rintro w80 n80 o80;refine jaz (jad ?_);rw [←hms] at o80
     obtain ⟨p80,c80,rfl,_⟩:=jas (B:=B) o80
     have hfig80:=hft.symm
     rotate_left
     refine DrawT.leaf [Zp 0,Zp 1,Zp 2,Zp 3,Zp 6,Zp 7,Zp 8,Zp 9,Zp 10,Zp 11,Zp 12,Zp 17,Zp 18,Zp 28,Zp 29,Zp 32,Zp 33,Zr 5,Zr 14,Zr 19,Zr 20,Zk 13,Zk 4,Zk 15,Zk 16,Zk 21,Zp 22,Zp 23,Zk 24,Zk 25,Zp 26,Zk 27,Zp 30,Zk 31,Zp 34,Zk 35] zK ?_;refine Z20 ?_;refine D32 ?_;refine Z2 ?_
     refine jb7 kdq rfl zq zA zA rfl (fun q74=>jao (jad ?_));refine ja6 rfl zq rfl how3 zL zO zO (fun w9 n9 o9=>jad ?_);obtain ⟨p9,c9,rfl,hc9,r9⟩:=jas (B:=B) o9
     refine D1 ?_
     rintro w80 n80 o80;refine jaz (jad ?_);rw [←hms] at o80
     obtain ⟨p80,c80,rfl,_⟩:=jas (B:=B) o80
     have hfig80:=hft.symm
     rotate_left
     refine DrawT.leaf [Zp 0,Zp 1,Zp 2,Zp 3,Zp 6,Zp 7,Zp 8,Zp 9,Zp 10,Zp 11,Zp 12,Zp 17,Zp 18,Zp 28,Zp 29,Zp 32,Zp 33,Zr 5,Zr 14,Zr 19,Zr 20,Zk 13,Zk 15,Zk 4,Zk 16,Zk 21,Zp 22,Zp 23,Zk 24,Zk 25,Zp 26,Zk 27,Zp 30,Zk 31,Zp 34,Zk 35] zK ?_;refine Z20 ?_;refine D32 ?_;refine Zs ?_
     refine jb7 kdq rfl zq zA zA rfl (fun q74=>jao (jad ?_));refine Zs ?_
     refine ja6 rfl zq rfl how3 zL zO zO (fun w9 n9 o9=>jad ?_);obtain ⟨p9,c9,rfl,hc9,r9⟩:=jas (B:=B) o9
     refine D1 ?_
     rintro w80 n80 o80;refine jaz (jad ?_);rw [←hms] at o80
     obtain ⟨p80,c80,rfl,_⟩:=jas (B:=B) o80
     have hfig80:=hft.symm
     rotate_left
     refine DrawT.leaf [Zp 0,Zp 1,Zp 2,Zp 3,Zp 6,Zp 7,Zp 8,Zp 9,Zp 10,Zp 11,Zp 12,Zp 17,Zp 18,Zp 28,Zp 29,Zp 32,Zp 33,Zr 5,Zr 14,Zr 19,Zr 20,Zk 15,Zk 13,Zk 4,Zk 16,Zk 21,Zp 22,Zp 23,Zk 24,Zk 25,Zp 26,Zk 27,Zp 30,Zk 31,Zp 34,Zk 35] zK ?_;refine Z20 ?_;refine D32 ?_
     refine jb7 kdq rfl zq zA zA rfl (fun q74=>jao (jad ?_));refine Z2 ?_
     refine ja6 rfl zq rfl how3 zL zO zO (fun w9 n9 o9=>jad ?_);obtain ⟨p9,c9,rfl,hc9,r9⟩:=jas (B:=B) o9
     refine D1 ?_
     rintro w80 n80 o80;refine jaz (jad ?_);rw [←hms] at o80
     obtain ⟨p80,c80,rfl,_⟩:=jas (B:=B) o80
     have hfig80:=hft.symm
     rotate_left
     refine DrawT.leaf [Zp 0,Zp 1,Zp 2,Zp 3,Zp 6,Zp 7,Zp 8,Zp 9,Zp 10,Zp 11,Zp 12,Zp 17,Zp 18,Zp 28,Zp 29,Zp 32,Zp 33,Zr 5,Zr 14,Zr 19,Zr 20,Zk 13,Zk 15,Zk 16,Zk 4,Zk 21,Zp 22,Zp 23,Zk 24,Zk 25,Zp 26,Zk 27,Zp 30,Zk 31,Zp 34,Zk 35] zK ?_;refine Z20 ?_;refine D32 ?_;refine Zs ?_
     refine jb7 kdq rfl zq zA zA rfl (fun q74=>jao (jad ?_));refine ja6 rfl zq rfl how3 zL zO zO (fun w9 n9 o9=>jad ?_);obtain ⟨p9,c9,rfl,hc9,r9⟩:=jas (B:=B) o9
     refine Zs ?_;refine D1 ?_
     rintro w80 n80 o80;refine jaz (jad ?_);rw [←hms] at o80
     obtain ⟨p80,c80,rfl,_⟩:=jas (B:=B) o80
     have hfig80:=hft.symm
     rotate_left
     refine DrawT.leaf [Zp 0,Zp 1,Zp 2,Zp 3,Zp 6,Zp 7,Zp 8,Zp 9,Zp 10,Zp 11,Zp 12,Zp 17,Zp 18,Zp 28,Zp 29,Zp 32,Zp 33,Zr 5,Zr 14,Zr 19,Zr 20,Zk 15,Zk 13,Zk 16,Zk 4,Zk 21,Zp 22,Zp 23,Zk 24,Zk 25,Zp 26,Zk 27,Zp 30,Zk 31,Zp 34,Zk 35] zK ?_;refine Z20 ?_;refine D32 ?_
     refine jb7 kdq rfl zq zA zA rfl (fun q74=>jao (jad ?_));refine Zs ?_
     refine ja6 rfl zq rfl how3 zL zO zO (fun w9 n9 o9=>jad ?_);obtain ⟨p9,c9,rfl,hc9,r9⟩:=jas (B:=B) o9
     refine Zs ?_;refine D1 ?_
     rintro w80 n80 o80;refine jaz (jad ?_);rw [←hms] at o80
     obtain ⟨p80,c80,rfl,_⟩:=jas (B:=B) o80
     have hfig80:=hft.symm
     rotate_left
     refine DrawT.leaf [Zp 0,Zp 1,Zp 2,Zp 3,Zp 6,Zp 7,Zp 8,Zp 9,Zp 10,Zp 11,Zp 12,Zp 17,Zp 18,Zp 28,Zp 29,Zp 32,Zp 33,Zr 5,Zr 14,Zr 19,Zr 20,Zk 13,Zk 15,Zk 16,Zk 21,Zk 4,Zp 22,Zp 23,Zk 24,Zk 25,Zp 26,Zk 27,Zp 30,Zk 31,Zp 34,Zk 35] zK ?_;refine Z20 ?_;refine D32 ?_;refine Zs ?_
     refine jb7 kdq rfl zq zA zA rfl (fun q74=>jao (jad ?_));refine ja6 rfl zq rfl how3 zL zO zO (fun w9 n9 o9=>jad ?_);obtain ⟨p9,c9,rfl,hc9,r9⟩:=jas (B:=B) o9
     refine D1 ?_
     rintro w80 n80 o80;refine jaz (jad ?_);rw [←hms] at o80
     obtain ⟨p80,c80,rfl,_⟩:=jas (B:=B) o80
     have hfig80:=hft.symm
     refine Zs ?_
     rotate_left
     refine DrawT.leaf [Zp 0,Zp 1,Zp 2,Zp 3,Zp 6,Zp 7,Zp 8,Zp 9,Zp 10,Zp 11,Zp 12,Zp 17,Zp 18,Zp 28,Zp 29,Zp 32,Zp 33,Zr 5,Zr 14,Zr 19,Zr 20,Zk 15,Zk 13,Zk 16,Zk 21,Zk 4,Zp 22,Zp 23,Zk 24,Zk 25,Zp 26,Zk 27,Zp 30,Zk 31,Zp 34,Zk 35] zK ?_;refine Z20 ?_;refine D32 ?_
     refine jb7 kdq rfl zq zA zA rfl (fun q74=>jao (jad ?_));refine Zs ?_
     refine ja6 rfl zq rfl how3 zL zO zO (fun w9 n9 o9=>jad ?_);obtain ⟨p9,c9,rfl,hc9,r9⟩:=jas (B:=B) o9
     refine D1 ?_
     rintro w80 n80 o80;refine jaz (jad ?_);rw [←hms] at o80
     obtain ⟨p80,c80,rfl,_⟩:=jas (B:=B) o80
     have hfig80:=hft.symm
     refine Zs ?_
     all_goals
      refine Z2 ?_;refine D19 ?_
      refine jnf (c:=(⟨decide (i=1),(k:Int),(j:Int)⟩:Ce)) (cs:=(jbw b i k j)) (k:=37) (e:=3) zK rfl zq hnew (jad ?_);refine Zs ?_;refine jkP (c:=(⟨decide (i=1),(k:Int),(j:Int)⟩:Ce)) (cs:=(jbw b i k j)) rfl zq rfl ?_;refine Zs ?_
      haveI hss1:=shC_lat (a0:= .int .i64 b.wrong) (a1:= .slice ps ns ks) (a2:= .slice pw nw cw) (a3:= .slice pb nb cb) (cv:= .slice p9 ((jbw b i k j).length+1) c9) (mv:= .map (some qm)) (la:=la3) (cl:=cl3) (k:=(jbw b i k j).length) (by rw [hla3.1];exact hn12) x.ln.lat
      refine D19 ?_;refine Zs ?_
      haveI hss2:=shC_can (a0:= .int .i64 b.wrong) (a1:= .slice ps ns ks) (a2:= .slice pw nw cw) (a3:= .slice pb nb cb) (cv:= .slice p9 ((jbw b i k j).length+1) c9) (mv:= .map (some qm)) (la:=la3.set (jbw b i k j).length x.ln.lat) (cl:=cl3) (k:=(jbw b i k j).length) (by simpa using hla3.1) (by rw [hcl3.1];exact hn12) (.slice p80 (jdN (x.ln.figs.getD j [])).length c80)
      refine D19 ?_;refine Z6 ?_
      have hks:=joB hkc
      have hkl:(jbw b i k (j+1)).length=(jbw b i k j).length+1:=by rw [hks];simp
      rw [←hkl,←hks];refine m.weak (h':=h++[⟨true,q1,.cells (tbL b ps ns ks pw nw cw pb nb cb).toArray 25 (0,0)⟩,⟨true,qm,jgL (jbw b i k (j+1))⟩,⟨true,q18,.cells (shC (tbL b ps ns ks pw nw cw pb nb cb) (.slice p9 (jbw b i k (j+1)).length c9) (.map (some qm)) (la3.set (jbw b i k j).length x.ln.lat) (cl3.set (jbw b i k j).length (.slice p80 (jdN (x.ln.figs.getD j [])).length c80))).toArray 132 (0,0)⟩]++[⟨true,q5,.cells [str (hwS i),.bool (decide (i=1)),.func (.func (261+i)) #[] #[]].toArray 184 (0,0)⟩]++[⟨true,q7,.cells [.int .i64 x.ln.lat,.slice x.p x.ln.figs.length x.c].toArray 121 (0,0)⟩]++n9++(M3++n80)) jeO ?_
      exact hnext3 _ _ _ zO ⟨j+1,p9,c9,n9,M3++n80,_,_,rfl,by omega,by rw [hkl,hks,ja0];exact o9,by rw [hks];exact hla3.snoc hn12 hlat,by rw [hks];exact hcl3.snoc hn12 hfig80 o80,exU rfl,rfl⟩
   ·refine Z4 ?_;refine jmW ?_;refine Z5 ?_
    have hac:jbw b i k j=jbw b i (k+1) 0:=by rw [show j=b.sts.length by omega];exact jgI b i k
    rw [hac];refine m.weak (h':=h++[⟨true,q1,.cells (tbL b ps ns ks pw nw cw pb nb cb).toArray 25 (0,0)⟩,⟨true,qm,jgL (jbw b i (k+1) 0)⟩,⟨true,q18,.cells (shC (tbL b ps ns ks pw nw cw pb nb cb) (.slice wp3 (jbw b i (k+1) 0).length wc3) (.map (some qm)) la3 cl3).toArray 132 (0,0)⟩]++[⟨true,q5,.cells [str (hwS i),.bool (decide (i=1)),.func (.func (261+i)) #[] #[]].toArray 184 (0,0)⟩]++W3++M3) jfh ?_
    exact hnext2 _ _ _ zO ⟨k+1,wp3,wc3,W3,M3,la3,cl3,rfl,by omega,by rw [←hac];exact how3,by rw [←hac];exact hla3,by rw [←hac];exact hcl3,exU rfl,rfl⟩
  ·refine Z9 ?_
   have hac:=jpE b hin (show k≤2 by omega) zO
   rw [hac];refine m.weak (h':=h++[⟨true,q1,.cells (tbL b ps ns ks pw nw cw pb nb cb).toArray 25 (0,0)⟩,⟨true,qm,jgL (jbw b (i+1) 0 0)⟩,⟨true,q18,.cells (shC (tbL b ps ns ks pw nw cw pb nb cb) (.slice wp2 (jbw b (i+1) 0 0).length wc2) (.map (some qm)) la2 cl2).toArray 132 (0,0)⟩]++W2++M2) jfh ?_
   exact hnext1 _ _ _ zO ⟨i+1,wp2,wc2,W2,M2,la2,cl2,rfl,by omega,by rw [←hac];exact how2,by rw [←hac];exact hla2,by rw [←hac];exact hcl2,exU rfl,rfl⟩
 ·refine Z5 ?_
  obtain rfl:i=2:=by omega
  rw [jh0] at how1 hla1 hcl1⊢
  have hc12:(jaa b).length≤12:=by
   rw [←jh0];have:=joC b (i:=2) (k:=0) (j:=0) zO zO zO
   omega
  refine Z5 ?_;refine jac (h++[⟨true,qm,jgL (jaa b)⟩,⟨true,q18,.cells (shC (tbL b ps ns ks pw nw cw pb nb cb) (.slice wp1 (jaa b).length wc1) (.map (some qm)) la1 cl1).toArray 132 (0,0)⟩]++W1++M1) rfl Tryz.func95 rfl jab ?_;refine Zs ?_
  exact ⟨[⟨true,qm,jgL (jaa b)⟩,⟨true,q18,.cells (shC (tbL b ps ns ks pw nw cw pb nb cb) (.slice wp1 (jaa b).length wc1) (.map (some qm)) la1 cl1).toArray 132 (0,0)⟩]++W1++M1,q18,by rw [←gI,←gI],rfl,sheet_of hc12 how1 hla1 hcl1⟩
end
end Go.Proofs
