/- A part of the proof of a law. Condition of each theorem: as its statement says. -/
import Derived.Test.YtkaokkedapnfhaaGreatDoorVB9
import Derived.SevenTiedAt
import Derived.LaidOnce
import Derived.LaidSub
import Derived.Test.YtkaokkedapnfhaaGreatDoorCards
import Derived.Test.YtkaokkedapnfhaaGreatDoorTie
set_option linter.all false
variable {B:Array Go.Obj} {b:Go.Lo.Tb} {ps pw pb p p2 ap:Option Go.Addr} {ns ks nw cw nb cb i n s q qx q5 q6 ch N:Nat} {C:List Go.Value→Go.Lo.Hp→Prop} {h S h' H hb:Go.Lo.Hp} {r:List (Nat×Go.Lo.Kd)} {got:List Nat} {l l' vs tv:List Go.Value} {ds:List Go.Deferred} {k todo:List Go.Item} {cs:List Go.Frame} {d:Option Go.Tmp} {v gv:Go.Value} {xs ys:List Int} {g:Option (Nat×Bool)} {P:Go.Program} {ops:Array Go.Oper} {kd:Go.Lo.Kd} {ty t u:Go.TypeId} {pos:String} {af:Array Go.Edge} {y:Go.Operand} {a:Int} {hit:Nat→Bool} {K:Go.Goroutine→Go.Lo.Hp→Prop} {ls lns:List Go.Lo.Ln} {lw lb:List Go.Lo.Lp} {W:Go.World}
set_option maxHeartbeats 4000000
set_option maxRecDepth 100000
set_option synthInstance.maxHeartbeats 1000000
set_option synthInstance.maxSize 100000
namespace Go.Proofs
open Go.Lo
open Go.Conc (G)
section
variable [LaidO B]
theorem jez (b:Tb) (c:Ce) (f:Str):PtOk (jpL b c f):=by unfold jpL;split;exact ja7 _;exact PtOk.zero
theorem jeK (b:Tb) (c:Ce) (f:Str):PtOk (jqP b c f):=by unfold jqP;split;exact ja7 _;exact PtOk.zero
theorem f80_c (m:Md Tryz.prog B) (h:Hp) (ra:RawTb B h b ps ns ks pw nw cw pb nb cb):FnC m 80 #[tbV b ps ns ks pw nw cw pb nb cb] h fun v h'=>h'=h∧ ∃x0 y1 z1 w1 y2 z2 w2 y3 z3 w3,v= .tuple [.agg [Value.int .i64 x0,.slice y1 z1 w1,.slice y2 z2 w2,.slice y3 z3 w3].toArray,.int .i64 (jaO b 0)].toArray∧(jaO b 0≠0→[Value.int .i64 x0,.slice y1 z1 w1,.slice y2 z2 w2,.slice y3 z3 w3]=zeroL)∧(jaO b 0=0→[Value.int .i64 x0,.slice y1 z1 w1,.slice y2 z2 w2,.slice y3 z3 w3]=(tbL b ps ns ks pw nw cw pb nb cb)):=by
 refine jae Tryz.func80 rfl rfl (l:=(tbV b ps ns ks pw nw cw pb nb cb)::uu15) rfl ?_
 intro cf cs K hK
 refine Z2 ?_
 refine jaF rfl zq (fun q1=>jap (jad ?_));refine jaB rfl zq (fun q2=>jap (jad ?_));refine Z6 ?_;refine jaJ rfl zq zK (Post:=fun v nz=>jg6 B b (tbL b ps ns ks pw nw cw pb nb cb) (jaO b 0) nz v) (fun H' hH=>f50_c m H' (ra.keeps (sq hH)) callB112 (fun hk K q hKs hs=>by simpa using f112_c m K _)) ?_
 rintro v n8 ⟨qp,p8,m8,c8,rfl,hz⟩;refine jaG (jad ?_);refine Z3 ?_
 refine jaB rfl zq (fun q4=>jap (jad ?_));refine D7 ?_;refine Z5 ?_
 refine jaP rfl zq (fun hc=>?_) (fun hc=>?_);refine Z4 ?_;refine D39 ?_;refine Zs ?_
 rotate_left
 refine Z6 ?_
 all_goals
  refine jjr ?_;refine jac (h) rfl Tryz.func80 rfl jaa ?_;refine Zs ?_
 ·have hz0:jaO b 0=0:=by omega
  exact ⟨rfl,_,_,_,_,_,_,_,_,_,_,by rw [hz0],fun e=>absurd hz0 e,fun _=>rfl⟩
 ·exact ⟨rfl,_,_,_,_,_,_,_,_,_,_,rfl,fun _=>rfl,fun e=>absurd e zD⟩
theorem f29_c (m:Md Tryz.prog B) (h:Hp) (ra:RawTb B h b ps ns ks pw nw cw pb nb cb) (c:Ce) (f:Str) (hf:f.length≤100000):FnC m 29 #[tbV b ps ns ks pw nw cw pb nb cb,cV c.butt c.line c.st,str f] h fun v h'=> ∃new,h'=h++new∧TabO B (putS b c f) (jdR b c f) new v:=by
 refine jae Tryz.func29 rfl rfl (l:=(tbV b ps ns ks pw nw cw pb nb cb)::(cV c.butt c.line c.st)::(str f)::uu27) rfl ?_
 intro cf cs K hK
 refine Z2 ?_
 refine jaF rfl zq (fun q3=>jap (jad ?_));refine jaF rfl zq (fun q4=>jap (jad ?_));refine jaB rfl zq (fun q6=>jap (jad ?_));refine Z4 ?_;refine rr13 ?_;refine Z3 ?_;refine D55 ?_
 rintro v rfl;refine Z4 ?_;refine jlT rfl zq ?_
 refine jaB rfl zq (fun q8=>jap (jad ?_));refine jaB rfl zq (fun q9=>jap (jad ?_));refine D147 ?_;refine Z5 ?_
 refine jaP rfl zq (fun hc=>?_) (fun hc=>?_)
 ·refine Z4 ?_;refine D39 ?_;refine Zs ?_;refine jjr ?_;refine jac (h) rfl Tryz.func29 rfl jaa ?_;refine Zs ?_
  have e1:putS b c f=jja b c f:=by rw [putS,if_pos hc]
  exact ⟨[],by simp,by rw [e1];exact jmC hc⟩
 ·refine Z4 ?_
  have ef:jja b c f=0:=by omega
  obtain ⟨hz0,hin,hfo⟩:=jl8 ef
  have hk:=jbH.1 hz0
  have hht:=(jeT hin).1
  have rd:=ra.rd hk
  have e0:putS b c f=jaO (jdR b c f) 0:=by rw [putS,if_neg (fun e=>e ef)]
  refine Z4 ?_;refine jaJ rfl zq zK (Post:=fun v nz=> ∃ps' ks' pw' cw' pb' cb',v=tbV (jdR b c f) ps' ns ks' pw' nw cw' pb' nb cb'∧RawTb B nz (jdR b c f) ps' ns ks' pw' nw cw' pb' nb cb') (fun H' hH=>CallF.mono (f81_c m H' (rd.keeps (sq hH)) hht f hf) fun v h' ⟨nz,p1,k1,p2,k2,p3,k3,e1,e2,e3⟩=>⟨nz,e1,p1,k1,p2,k2,p3,k3,e2,e3⟩) ?_
  rintro v n37 ⟨p1,k1,p2,k2,p3,k3,rfl,ra2⟩;refine jaG (jad ?_);refine jag (Post:=fun v=> ∃x0 y1 z1 w1 y2 z2 w2 y3 z3 w3,v= .tuple [.agg [Value.int .i64 x0,.slice y1 z1 w1,.slice y2 z2 w2,.slice y3 z3 w3].toArray,.int .i64 (jaO (jdR b c f) 0)].toArray∧(jaO (jdR b c f) 0≠0→[Value.int .i64 x0,.slice y1 z1 w1,.slice y2 z2 w2,.slice y3 z3 w3]=zeroL)∧(jaO (jdR b c f) 0=0→[Value.int .i64 x0,.slice y1 z1 w1,.slice y2 z2 w2,.slice y3 z3 w3]=tbL (jdR b c f) p1 ns k1 p2 nw k2 p3 nb k3)) rfl zq zK (fun H' hH=>f80_c m H' (ra2.keeps (Gj (gM _ _) hH))) ?_;rintro v ⟨x0,y1,z1,w1,y2,z2,w2,y3,z3,w3,rfl,ha1,ha2⟩;refine Z3 ?_;refine jjr ?_;refine jac (h++n37) rfl Tryz.func29 rfl jaa ?_;refine Zs ?_
  exact E66
theorem f28_c (m:Md Tryz.prog B) (h:Hp) (ra:RawTb B h b ps ns ks pw nw cw pb nb cb) (c:Ce) (f:Str) (hf:f.length≤100000):FnC m 28 #[tbV b ps ns ks pw nw cw pb nb cb,cV c.butt c.line c.st,str f] h fun v h'=> ∃new,h'=h++new∧TabO B (jkw b c f) (jdR b c (jeD (jfH b c f))) new v:=by
 refine jae Tryz.func28 rfl rfl (l:=(tbV b ps ns ks pw nw cw pb nb cb)::(cV c.butt c.line c.st)::(str f)::uu38) rfl ?_
 intro cf cs K hK
 refine Z2 ?_
 refine jaF rfl zq (fun q3=>jap (jad ?_));refine jaF rfl zq (fun q4=>jap (jad ?_));refine jaB rfl zq (fun q6=>jap (jad ?_));refine Z3 ?_;refine rr13 ?_;refine Z3 ?_;refine D55 ?_
 rintro v rfl;refine Z4 ?_;refine jlT rfl zq ?_
 refine jaB rfl zq (fun q8=>jap (jad ?_));refine jaB rfl zq (fun q9=>jap (jad ?_));refine D147 ?_;refine Z6 ?_
 refine jaP rfl zq (fun hc=>?_) (fun hc=>?_)
 ·refine Z4 ?_;refine D39 ?_;refine Zs ?_;refine jjr ?_;refine jac (h) rfl Tryz.func28 rfl jaa ?_;refine Zs ?_
  have e1:jkw b c f=jja b c f:=by rw [jkw,if_pos hc]
  exact ⟨[],by simp,by rw [e1];exact jmC hc⟩
 ·refine Z4 ?_
  have ef:jja b c f=0:=by omega
  obtain ⟨hz0,hin,hfo⟩:=jl8 ef
  have hk:=jbH.1 hz0
  have hht:=(jeT hin).1
  have rd:=ra.rd hk
  have hbo:PtOk (jfH b c f):=jnk (jez b c f) (jeK b c f)
  refine Zs ?_;refine jdc rfl zq (jez b c f).len ?_;refine jdc rfl zq (jeK b c f).len ?_;refine jag (Post:=fun v=>v= .agg (jaq (jfH b c f)).toArray) rfl zq zK (fun H' hH=>f79_c m H' (jez b c f).len (jeK b c f).len) ?_
  rintro v rfl;refine Zs ?_
  refine jaB rfl zq (fun q11=>jap (jad ?_));refine jer rfl zq hbo.len (by rw [hbo.len];rfl) ?_;refine Z3 ?_;refine D108 ?_;refine jdc rfl zq (jeK b c f).len ?_;refine jdc rfl zq (jez b c f).len ?_;refine jdc rfl zq hbo.len ?_;refine jag (Post:=fun v=>v= .agg (jaq (jex (jqP b c f) (jpL b c f))).toArray) rfl zq zK (fun H' hH=>f79_c m H' (jeK b c f).len (jez b c f).len) ?_;rintro v rfl;refine Zs ?_
  refine k_neqA3 rfl zq zK zK (jnk (jeK b c f) (jez b c f)).len hbo.len (fun hne=>?_) (fun hne=>?_)
  ·refine Z4 ?_;refine D39 ?_;refine jjr ?_;refine jac (h) rfl Tryz.func28 rfl jaa ?_;refine Zs ?_
   have e1:jkw b c f=9:=by rw [jkw,if_neg (fun e=>e ef),if_pos hne]
   exact ⟨[],by simp,by rw [e1];exact jmC zA⟩
  ·refine Z4 ?_
   have e0:jkw b c f=jaO (jdR b c (jeD (jfH b c f))) 0:=by rw [jkw,if_neg (fun e=>e ef),if_neg (fun e=>e hne)]
   refine jan [Zr 0,Zr 1,Zr 2,Zk 3,Zk 4,Zk 5,Zp 6,Zp 7,Zf 8,Zp 9] zK zK (gE _) ?_;refine Z2 ?_;refine jdc rfl zq hbo.len ?_;refine jag (Post:=fun v=>v=str (jeD (jfH b c f))) rfl zq zK (fun H' hH=>f70_c m H' hbo) ?_;rintro v rfl;refine Zs ?_;refine jaJ rfl zq zK (Post:=fun v nz=> ∃ps' ks' pw' cw' pb' cb',v=tbV (jdR b c (jeD (jfH b c f))) ps' ns ks' pw' nw cw' pb' nb cb'∧RawTb B nz (jdR b c (jeD (jfH b c f))) ps' ns ks' pw' nw cw' pb' nb cb') (fun H' hH=>CallF.mono (f81_c m H' (rd.keeps (sq hH)) hht (jeD (jfH b c f)) (GJ (textS_le hbo.len) zO)) fun v h' ⟨nz,p1,k1,p2,k2,p3,k3,e1,e2,e3⟩=>⟨nz,e1,p1,k1,p2,k2,p3,k3,e2,e3⟩) ?_
   rintro v n37 ⟨p1,k1,p2,k2,p3,k3,rfl,ra2⟩;refine jaG (jad ?_);refine jag (Post:=fun v=> ∃x0 y1 z1 w1 y2 z2 w2 y3 z3 w3,v= .tuple [.agg [Value.int .i64 x0,.slice y1 z1 w1,.slice y2 z2 w2,.slice y3 z3 w3].toArray,.int .i64 (jaO (jdR b c (jeD (jfH b c f))) 0)].toArray∧(jaO (jdR b c (jeD (jfH b c f))) 0≠0→[Value.int .i64 x0,.slice y1 z1 w1,.slice y2 z2 w2,.slice y3 z3 w3]=zeroL)∧(jaO (jdR b c (jeD (jfH b c f))) 0=0→[Value.int .i64 x0,.slice y1 z1 w1,.slice y2 z2 w2,.slice y3 z3 w3]=tbL (jdR b c (jeD (jfH b c f))) p1 ns k1 p2 nw k2 p3 nb k3)) rfl zq zK (fun H' hH=>f80_c m H' (ra2.keeps (Gj (gM _ _) hH))) ?_;rintro v ⟨x0,y1,z1,w1,y2,z2,w2,y3,z3,w3,rfl,ha1,ha2⟩;refine Z3 ?_;refine jjr ?_;refine jac (h++n37) rfl Tryz.func28 rfl jaa ?_;refine Zs ?_
   exact E66
end
end Go.Proofs
namespace Go.Proofs
open Go.Lo
open Go.Conc (G dcall)
section
variable {C:Crew} {Y:SyC Tryz.prog B C.pro} {kn r:Nat} {z:Bool}
theorem k_putQ {D:Nat} {b:Frame} [p:PutV l d v l'] (n:(Im.quit Tryz.prog D).R (Gr b l' ds k cs)):(Im.quit Tryz.prog D).R (Gr b (put l d v) ds k cs):=by rw [p.eq];exact n
theorem addW_c (hM:C.n≤4100) (hz:C.hit kn=true→z=true) {c:Frame} (hq:(Im.quit Tryz.prog 0).R (G (c.finish (.tuple #[])) cs)):
  ((SyC.kid Tryz.prog B C.pro i).im 0 (.w kn .on z) h).R (G (Frame.enter Tryz.prog 98 [.pointer (some ⟨C.wg,0,none⟩),.int .i64 (-1)].toArray .normal) (c::cs)):=by
 refine jeO Tryz.func98 rfl rfl (l:=(.pointer (some ⟨C.wg,0,none⟩))::(.int .i64 (-1))::uu115) rfl ?_;refine Z6 ?_;refine jcq (v:= .bool true) rfl zq zA (jnS zA) ?_;refine Z4 ?_;refine D121 ?_;refine y_bye hz extMerge rfl zq ?_;refine Z3 ?_;refine jhQ jgY rfl zq ?_;refine Z2 ?_;refine jmY (args:=[]) rfl zq rfl zA ?_;refine Z8 ?_;refine i_ext jl9 rfl zq rfl ?_;refine Z9 ?_;refine jeP (n':=18446744073709551615) rfl zq zK zA ?_;refine jgS (v:= .int .u64 18446744069414584320) rfl zq (.inl rfl) (op_shl zA zA) ?_;refine D109 ?_;refine jeO Tryz.func143 rfl rfl (l:=(.pointer (some ⟨C.wg,0,none⟩))::(.int .u64 18446744069414584320)::uu8) rfl ?_;refine Z10 ?_;refine y_wgSub zO hM hz joi rfl zq (fun v wt hv70 hwt hvw=>?_) (jdZ ?_)
 ·show (Im.quit Tryz.prog 1).R _
  refine k_putQ ?_;refine Z3 ?_;refine jcT rfl Tryz.func143 (jbL rfl) ?_;refine jgT rfl ?_;refine Z6 ?_;refine jcq (v:= .int .u64 0) rfl zq zA (jfh ((jc1 v wt hv70 hwt).flag)) ?_;refine D25 ?_;refine Z10 ?_;refine jgS (v:= .int .u64 (v:Int)) rfl zq (.inr rfl) (jnR zA (jc1 v wt hv70 hwt).hi) ?_;refine jeP rfl zq zK (jc1 v wt hv70 hwt).hi32 ?_;refine Z5 ?_;refine jcq (v:= .int .u64 (wt:Int)) rfl zq zA (jfh ((jc1 v wt hv70 hwt).lo)) ?_;refine jeP rfl zq zK (jc1 v wt hv70 hwt).lo32 ?_;refine Z6 ?_;refine jpA rfl rfl ?_;refine D95 ?_;refine D92 ?_;refine Z13 ?_;refine D106 ?_;refine Z5 ?_;rcases (by omega:wt=0∨(wt=1∧0<v)) with rfl|⟨rfl,hv0⟩
  ·refine Z2 ?_;refine D25 ?_;refine Z17 ?_;refine jcq (v:= .bool (decide ((v:Int)>0))) rfl zq zA (jlK rfl) ?_
   by_cases hv0:0<v
   ·rw [decide_eq_true (show (v:Int)>0 by omega)];refine Z3 ?_;refine D92 ?_;refine Z3 ?_;refine jcR rfl jcZ ?_;refine D87 ?_
    exact hq
   ·rw [decide_eq_false (show¬(v:Int)>0 by omega)];refine Zs ?_;refine jpA rfl rfl ?_;refine jcq (v:= .bool true) rfl rfl zA (jhd zA) ?_;refine Z4 ?_;refine jcR rfl jcZ ?_;refine D87 ?_
    exact hq
  ·refine Z2 ?_;refine D119 ?_;refine Zs ?_;refine jpA rfl rfl ?_;refine D95 ?_;refine D92 ?_;refine Z13 ?_;refine D107 ?_;refine Z3 ?_;refine D92 ?_;refine Z3 ?_;refine jcR rfl jcZ ?_;refine D87 ?_
   exact hq
 ·refine Z3 ?_;refine jcT rfl Tryz.func143 (jbL rfl) ?_;refine jgT rfl ?_;refine Z6 ?_;refine jcq (v:= .int .u64 0) rfl zq zA (jfh ((jc1 0 1 zO zO).flag)) ?_;refine D25 ?_;refine Z10 ?_;refine jgS (v:= .int .u64 0) rfl zq (.inr rfl) (jnR zA (jc1 0 1 zO zO).hi) ?_;refine jeP rfl zq zK (jc1 0 1 zO zO).hi32 ?_;refine Z5 ?_;refine jcq (v:= .int .u64 1) rfl zq zA (jfh ((jc1 0 1 zO zO).lo)) ?_;refine jeP rfl zq zK (jc1 0 1 zO zO).lo32 ?_;refine Z6 ?_;refine jpA rfl rfl ?_;refine D95 ?_;refine D92 ?_;refine Z13 ?_;refine jcq (v:= .bool false) rfl zq zA (jnS zA) ?_;refine Z7 ?_;refine D119 ?_;refine Zs ?_;refine jpA rfl rfl ?_;refine D95 ?_;refine D92 ?_;refine Z13 ?_;refine jcq (v:= .bool false) rfl zq zA (jlK zA) ?_;refine Zs ?_;refine jpA rfl rfl ?_;refine jcq (v:= .bool false) rfl rfl zA (jhd zA) ?_;refine Z10 ?_;refine D109 ?_;refine D104 ?_;refine Z9 ?_
  refine jk7 zO hz jiO rfl zq (jdZ ?_)
  refine Z3 ?_;refine D118 ?_;refine jgT rfl ?_;refine Zs ?_;refine D25 ?_;refine Z8 ?_;refine D109 ?_;refine jeO Tryz.func146 rfl rfl (l:=(.pointer (some ⟨C.wg,0,none⟩))::(.int .u64 0)::uu7) rfl ?_;refine Z5 ?_
  refine jkb zO hz jpl rfl zq (jdZ ?_)
  refine Zs ?_;refine jpd rfl ?_;refine jcT rfl Tryz.func146 (jcQ rfl) ?_;refine jgT rfl ?_;refine Z8 ?_;refine jkO ?_;refine i_loop ?_;refine Z4 ?_;refine D119 ?_;refine Z4 ?_;refine jkO ?_;refine Z4 ?_;refine jk6 extSemG rfl zq ?_
  show (Im.quit Tryz.prog 1).R _
  refine k_putQ ?_;refine Zs ?_;refine jlX ?_;refine Z2 ?_;refine jcq (v:= .int .u32 0) rfl zq zA (op_sub zA) ?_;refine Z2 ?_;refine joc ?_;refine Z4 ?_;refine D25 ?_;refine Z2 ?_;refine i_exit rfl ?_;refine jpd rfl ?_;refine jcR rfl jcZ ?_;refine D87 ?_;exact hq
theorem jrO (hM:C.n≤4100) (hz:C.hit kn=true→z=true) {b:Frame} {fn:Func} {kf:Frame} (hk:b.kind= .deferred) (hf: Tryz.prog.funcs[b.fn]?=some fn) (hres:fn.results= #[]) (hkf:kf={(default:Frame) with fn:= Tryz.prog.funcs.size,defers:=[],mode:= .panicking [goexitEntry]}) (hcat:kf.catches Tryz.prog=false):
  ((SyC.kid Tryz.prog B C.pro i).im 0 (.w kn .on z) h).R (jeV b l [dcall 100 [.pointer (some ⟨C.wg,0,none⟩)].toArray] todo [kf]):=by
 refine i_unwind Tryz.func100 zK rfl rfl (l1:=[.pointer (some ⟨C.wg,0,none⟩),undef,undef,undef]) rfl ?_;refine Z2 ?_;refine i_cal rfl zq zK (addW_c hM hz ?_);refine jgT rfl ?_;refine Zs ?_;refine jpd rfl ?_;refine i_leaveD rfl Tryz.func100 rfl rfl ?_;exact jnJ hk hf hres hkf hcat
theorem addZ_c (h0:Y.i=0) (hM:C.n≤4100) {c:Frame} (hitc:(Y.im 0 (.m r .adds got false) h).R (G (c.finish (.tuple #[])) cs)):
  (Y.im 0 (.m r .idle got false) h).R (G (Frame.enter Tryz.prog 98 [.pointer (some ⟨C.wg,0,none⟩),.int .i64 1].toArray .normal) (c::cs)):=by
 refine jeO Tryz.func98 rfl rfl (l:=(.pointer (some ⟨C.wg,0,none⟩))::(.int .i64 1)::uu115) rfl ?_;refine Z6 ?_;refine jcq (v:= .bool false) rfl zq zA (jnS zA) ?_;refine Z5 ?_;refine jhQ jgY rfl zq ?_;refine Z2 ?_;refine jmY (args:=[]) rfl zq rfl zA ?_;refine Z8 ?_;refine i_ext jl9 rfl zq rfl ?_;refine Z9 ?_;refine jeP (n':=1) rfl zq zK zA ?_;refine jgS (v:= .int .u64 4294967296) rfl zq (.inl rfl) (op_shl zA zA) ?_;refine D109 ?_;refine jeO Tryz.func143 rfl rfl (l:=(.pointer (some ⟨C.wg,0,none⟩))::(.int .u64 4294967296)::uu8) rfl ?_;refine Z10 ?_;refine y_wgAdd h0 hM joi rfl zq (fun v hv0 hv70=>jdZ ?_)
 refine Z3 ?_;refine jcT rfl Tryz.func143 (jbL rfl) ?_;refine jgT rfl ?_;refine Z6 ?_;refine jcq (v:= .int .u64 0) rfl zq zA (jfh ((jc1 v 0 hv70 zO).flag)) ?_;refine D25 ?_;refine Z10 ?_;refine D143 ?_;refine Z5 ?_;refine D146 ?_;refine Z6 ?_;refine jpA rfl rfl ?_;refine jcq (v:= .bool true) rfl rfl zA (jlK zA) ?_;refine D92 ?_;refine Zs ?_;refine jpA rfl rfl ?_;refine jpA rfl rfl ?_;refine jeP (n':=1) rfl rfl zK zA ?_;refine jcq (v:= .bool (decide ((v:Int)=1))) rfl rfl zA (jhd rfl) ?_
 by_cases hv1:v=1
 ·rw [decide_eq_true (show (v:Int)=1 by omega)];refine D92 ?_;refine Z6 ?_;refine jpG rfl zq ⟨rfl,.inr rfl⟩ joA.1 joA.2.1 joA.2.2 ?_
  refine y_said (.inl rfl) h0 extRead rfl zq (jdZ ?_)
  refine Z5 ?_;refine D106 ?_;refine Z7 ?_;refine D25 ?_;refine Z17 ?_;refine D107 ?_;refine Z3 ?_;refine D92 ?_;refine Z3 ?_;refine jfc rfl jcZ ?_;refine D87 ?_
  exact hitc
 ·rw [decide_eq_false (show¬(v:Int)=1 by omega)];refine D92 ?_;refine Z7 ?_;refine D106 ?_;refine Z7 ?_;refine D25 ?_;refine Z17 ?_;refine D107 ?_;refine Z3 ?_;refine D92 ?_;refine Z3 ?_;refine jfc rfl jcZ ?_;refine D87 ?_
  exact hitc
theorem waitC_c (hM:C.n≤4100) {kk:Nat} {c:Frame} (hitc:(Y.im 0 (.c .done) h).R (G (c.finish (.tuple #[])) cs)):
  (Y.im 0 (.c (.look kk)) h).R (G (Frame.enter Tryz.prog 103 [.pointer (some ⟨C.wg,0,none⟩)].toArray .normal) (c::cs)):=by
 refine jeO Tryz.func103 rfl rfl (l:=(.pointer (some ⟨C.wg,0,none⟩))::uu83) rfl ?_;refine Z3 ?_;refine jhQ jgY rfl zq ?_;refine Zs ?_;refine jkO ?_;refine jpH (fun nn D' s' h' l'=> ∃kk:Nat,D'=1∧s'= .c (.look kk)∧h=h'∧nn=kk*1∧ ∃U:Nat→Value,l'=((.pointer (some ⟨C.wg,0,none⟩))::vw83 U 1 [])) _ ⟨kk,rfl,rfl,rfl,rfl,exU rfl⟩ ?_;rintro nn _ _ _ _ ⟨kk,rfl,rfl,rfl,rfl,U,rfl⟩ hnext;refine jkO ?_;refine Z5 ?_;refine D109 ?_;refine D104 ?_;refine Z9 ?_;refine y_wgLoad hM jiO rfl zq (jdZ ?_) (fun v hv0 hv70=>jdZ ?_)
 ·refine Z3 ?_;refine D118 ?_;refine jgT rfl ?_;refine Z5 ?_;refine jgS (v:= .int .u64 0) rfl zq (.inr rfl) (jnR zA (jc1 0 0 zO zO).hi) ?_;refine jeP rfl zq zK (jc1 0 0 zO zO).hi32 ?_;refine Z5 ?_;refine jcq (v:= .int .u64 0) rfl zq zA (jfh ((jc1 0 0 zO zO).lo)) ?_;refine jeP rfl zq zK (jc1 0 0 zO zO).lo32 ?_;refine Z6 ?_;refine jcq (v:= .bool true) rfl zq zA (jhd zA) ?_;refine Z6 ?_;refine jni jcZ rfl zq ?_;refine Z3 ?_;refine D121 ?_;refine y_join jjX rfl zq ?_;refine Z5 ?_;refine jcq (v:= .bool true) rfl zq zA (jhd zA) ?_;refine Zs ?_;refine jpA rfl rfl ?_;refine jcq (v:= .int .u64 0) rfl rfl zA (jfh ((jc1 0 0 zO zO).flag)) ?_;refine jcq (v:= .bool false) rfl rfl zA (jqH zA) ?_;refine D92 ?_;refine Z8 ?_;refine jcT rfl Tryz.func103 (jcQ rfl) ?_
  exact hitc
 ·refine Z3 ?_;refine D118 ?_;refine jgT rfl ?_;refine Z5 ?_;refine D143 ?_;refine Z5 ?_;refine D146 ?_;refine Z6 ?_;refine jcq (v:= .bool false) rfl zq zA (jhd (decide_eq_false zO)) ?_;refine Z10 ?_;refine jcq (v:= .int .u64 (wgN v 1)) rfl zq zA (op_add ((jc1 v 0 hv70 zO).wait)) ?_;refine D109 ?_;refine jeO Tryz.func151 rfl rfl (l:=(.pointer (some ⟨C.wg,0,none⟩))::(.int .u64 (wgN v 0))::(.int .u64 (wgN v 1))::uu10) rfl ?_;refine Z11 ?_
  refine y_wgCas extCas64 rfl zq (jdZ ?_) (fun hk=>jdZ ?_)
  ·refine Z3 ?_;refine jcT rfl Tryz.func151 (jbL rfl) ?_;refine jgT rfl ?_;refine Z6 ?_;refine jpA rfl rfl ?_;refine jcq (v:= .bool true) rfl rfl zA (jhd zA) ?_;refine D92 ?_;refine Z6 ?_;refine jpG rfl zq ⟨rfl,.inr rfl⟩ joA.1 joA.2.1 joA.2.2 ?_
   refine y_saidC (.inr rfl) extWrite rfl zq (jdZ ?_)
   refine Z9 ?_;refine jcq (v:= .int .u64 0) rfl zq zA (jfh ((jc1 v 0 hv70 zO).flag)) ?_;refine D25 ?_;refine Z12 ?_
   refine y_wgPark extSemW rfl zq (jdZ ?_)
   refine Z6 ?_;refine D109 ?_;refine D104 ?_;refine Z9 ?_
   refine y_wgEnd jiO rfl zq (jdZ ?_)
   refine Z3 ?_;refine D118 ?_;refine jgT rfl ?_;refine D25 ?_;refine Z6 ?_;refine jni jcZ rfl zq ?_;refine Z3 ?_;refine D121 ?_;refine y_join jjX rfl zq ?_;refine Z9 ?_;refine jcT rfl Tryz.func103 (jcQ rfl) ?_
   exact hitc
  ·refine Z3 ?_;refine jcT rfl Tryz.func151 (jbL rfl) ?_;refine jgT rfl ?_;refine Z3 ?_;refine jlX ?_
   exact hnext _ _ _ _ _ zO ⟨kk-1,rfl,rfl,rfl,rfl,exU rfl⟩
end
end Go.Proofs
namespace Go.Proofs
open Go.Lo
open Go.Conc (G)
section
variable [LaidO B]
theorem jch: ∀{xs ys:List Int},xs.length=ys.length→(jrV xs ys<0↔jbi xs ys=true)
 |[],[],_=>by simp [jrV,jbi]
 |[],_::_,h=>by simp at h
 |_::_,[],h=>by simp at h
 |a::r,c::s,h=>by
  have ih:=jch (xs:=r) (ys:=s) (by simpa using h)
  unfold jrV jbi
  by_cases e:a=c
  ·subst e
   rw [if_neg zO,if_neg zO,if_pos rfl];exact ih
  ·rw [if_neg e,decide_eq_true_iff];by_cases e1:a<c
   ·rw [if_pos e1];exact ⟨fun _=>e1,fun _=>by decide⟩
   ·rw [if_neg e1,if_pos zO];exact ⟨fun h=>by omega,fun h=>absurd h e1⟩
def ltW (xs ys:List Int):Bool:=decide (xs.length<ys.length)||(decide (xs.length=ys.length)&&jbi xs ys)
theorem jiu:ltW xs ys=true↔jdf xs ys:=by simp [ltW,jdf]
def jg2 (a:List Int) (ll:List (List Int)):List Int:=ll.foldl (fun o x=>if ltW x o then x else o) a
theorem jj9 (a:List Int) (ll:List (List Int)) (k:Nat) (h:k<ll.length):jg2 a (ll.take (k+1))=if ltW (ll.getD k []) (jg2 a (ll.take k)) then ll.getD k [] else jg2 a (ll.take k):=by
 rw [jg2,Gg,gD h,Gu,vU,gC,gD h];rfl
theorem ji3: ∀(ll:List (List Int)) (a:List Int),jg2 a ll∈a::ll∧ ∀x∈a::ll,¬jdf x (jg2 a ll)
 |[],a=>⟨by simp [jg2],fun x hx=>by rw [gr.1 hx];exact jhm _⟩
 |y::r,a=>by
  have e:jg2 a (y::r)=jg2 (if ltW y a then y else a) r:=rfl
  obtain ⟨h1,h2⟩:=ji3 r (if ltW y a then y else a)
  rw [e];by_cases hy:ltW y a=true
  ·rw [if_pos hy] at h1 h2⊢
   refine ⟨gN _ h1,fun x hx=>?_⟩
   rcases gO.1 hx with rfl|hx
   ·exact fun hf=>h2 y zS (jfE (jiu.1 hy) hf)
   ·exact h2 x hx
  ·rw [if_neg hy] at h1 h2⊢
   refine ⟨?_,fun x hx=>?_⟩
   ·rcases gO.1 h1 with h1|h1
    ·rw [h1];simp
    ·simp [h1]
   ·rcases gO.1 hx with rfl|hx
    ·exact h2 _ zS
    ·rcases gO.1 hx with rfl|hx
     ·intro hf
      have e1: ¬jdf x a:=fun hh=>hy (jiu.2 hh)
      rcases joh x a with rfl|e2|e2
      ·exact h2 x zS hf
      ·exact e1 e2
      ·exact h2 a zS (jfE e2 hf)
     ·exact h2 x (by simp [hx])
def jd5 (p:List Int→Prop) (n:Nat) (g:List Int):Prop:=Asc g∧(∀x∈g,0≤x∧x<n)∧p g∧ ∀xs,Asc xs→(∀x∈xs,0≤x∧x<n)→p xs→ ¬jdf xs g
theorem jgN {p:List Int→Prop} {g g2:List Int} (h:jd5 p n g) (h2:jd5 p n g2):g=g2:=by
 rcases joh g g2 with e|e|e
 ·exact e
 ·exact absurd e (h2.2.2.2 g h.1 h.2.1 h.2.2.1)
 ·exact absurd e (h.2.2.2 g2 h2.1 h2.2.1 h2.2.2.1)
theorem clr_all (hn:n≤12) (hs:s<2^n):bClr .u64 ((2^n-1:Nat):Int) (s:Int)=((2^n-1-s:Nat):Int):=by
 have h:((List.range 13).all fun n=>(List.range (2^n)).all fun s=>bClr .u64 ((2^n-1:Nat):Int) (s:Int)==((2^n-1-s:Nat):Int))=true:=by kernel_rfl
 have h1:=gX.1 h n (gT.2 zO)
 simpa using gX.1 h1 s (gT.2 hs)
theorem jnO (hs:s<2^n):jdl (2^n-1-s) n=(jdl s n).map (!·):=by
 rw [jdl,jdl,Vh];refine GY fun i hi=>?_
 rw [gT] at hi
 have:=Nat.testBit_two_pow_sub_succ hs i
 rw [show 2^n-(s+1)=2^n-1-s by omega] at this
 rw [this];simp [hi]
theorem jmj (hs:s<2^(jab b).length):jfg (cdT b) (jdl (2^(jab b).length-1-s) (jab b).length)≠[]↔jbP (jbm (jdl s (jab b).length) (cdT b))=true:=by
 rw [jnO hs];exact jgG (by rw [jbT,jat])
theorem callB105:jbM Tryz.prog 105=true:=by kernel_rfl
section
variable {m:Md P B}
omit [LaidO B] in
theorem jrk {x:Operand} {b:Int} {k:IntKind} (v:Int) (ho:ops[i]?=some ⟨d,.binOp .andNot t x y u,ty,pos,af,g⟩) (hw:Wt ops l g) [KHeap kd S h H] [ex:OpV l x (.int k a)] [ey:OpV l y (.int k b)] (hv:bClr k a b=v) [PutV l d (.int k v) l'] (n:RegK m S ops r l' h C):RegK m S ops ((i,kd)::r) l h C:=
 RegK.rd (v:= .int k v) ho hw (jaY ex.eq ey.eq zS (op_clr hv)) n
def RdK (B:Array Obj) (h:Hp) (w:Value) (xs:List Int):Prop:= ∃p c,w= .slice p xs.length c∧RdS B h 1 (.slice p xs.length c) xs.length (jaq xs)∧xs.length≤c
theorem RdK.rdI {w:Value} (r:RdK B h w xs):RdI B h w xs:=by
 obtain ⟨p,c,e,r,_⟩:=r
 exact ⟨p,c,e,r⟩
theorem RdK.nil:RdK B h (.slice none 0 0) []:=⟨none,0,rfl,⟨none,0,rfl,rfl,.inl ⟨rfl,rfl⟩⟩,gL _⟩
end
theorem f105_c (m:Md Tryz.prog B) (h:Hp) {c:Nat} (rd:RdS B h 1 (.slice p n c) n (jaq xs)) (hn:n≤1000000) {n2 c2:Nat} (rd2:RdS B h 1 (.slice p2 n2 c2) n2 (jaq ys)) (hn2:n2≤1000000):FnC m 105 #[.slice p n c,.slice p2 n2 c2] h fun v h'=>h'=h∧IsB (jdf xs ys) v:=by
 have hl:=rd.ilen
 have hl2:=rd2.ilen
 refine jae Tryz.func105 rfl rfl (l:=(.slice p n c)::(.slice p2 n2 c2)::uu21) rfl ?_
 intro cf cs K hK
 refine Z5 ?_;refine jbC [Zf 0,Zf 1,Zf 2,Zf 3,Zf 4,Zf 5,Zf 6,Zf 7,Zf 8,Zf 9,Zf 10,Zf 11,Zf 12,Zf 13,Zf 14,Zf 15,Zf 16,Zf 17,Zf 18] zK zK ?_;refine Z4 ?_
 refine jak rfl zq (fun hc=>?_) (fun hc=>?_)
 ·refine Z16 ?_;refine jac (h) rfl Tryz.func105 rfl jaa ?_;refine Zs ?_
  refine ⟨rfl,?_⟩
  unfold jdf
  first
   |exact IsB.yes (.inl zO)
   |exact E67
   |exact E68
   |exact E69
 ·refine Z2 ?_;refine jhw rfl rfl ?_;refine Zs ?_;refine jhw rfl rfl ?_
  refine jaA rfl rfl (fun hc=>?_) (fun hc=>?_)
  ·refine Z3 ?_;refine jag (Post:=fun v=>v= .int .i64 (jrV xs ys)) rfl rfl zK (fun H' hH=>f154_c m H' (rd.keeps (sq hH)) hn (rd2.keeps (sq hH))) ?_
   rintro v rfl;refine Zs ?_
   refine jak rfl rfl (fun hc=>?_) (fun hc=>?_);all_goals
    refine Z5 ?_;refine jac (h) rfl Tryz.func105 rfl jaa ?_;refine Zs ?_
    refine ⟨rfl,?_⟩
    unfold jdf
    first
     |exact IsB.yes (.inl zO)
     |exact E67
     |exact E68
     |exact E69
  ·refine Z10 ?_;refine jac (h) rfl Tryz.func105 rfl jaa ?_;refine Zs ?_
   refine ⟨rfl,?_⟩
   unfold jdf
   first
    |exact IsB.yes (.inl zO)
    |exact E67
    |exact E68
    |exact E69
theorem f104_k (m:Md Tryz.prog B) (h:Hp) {c:Nat} {ll:List (List Int)} (rdv:RdS B h 1 (.slice p ll.length c) ll.length vs) (rde:RdE B h vs ll) (hn:ll.length≤10000) (hl: ∀l∈ll,l.length≤1000) {ac:Nat} {a:List Int} (ra:RdS B h 1 (.slice ap a.length ac) a.length (jaq a)) (hal:a.length≤1000) (hac:a.length≤ac):
  FnC m 104 #[.func (.func 105) #[] #[],.slice ap a.length ac,.slice p ll.length c] h fun v h'=>h'=h∧RdK B h v (jg2 a ll):=by
 refine jae Tryz.func104 rfl rfl (l:=(.func (.func 105) #[] #[])::(.slice ap a.length ac)::(.slice p ll.length c)::uu19) rfl ?_
 intro cf cs K hK
 refine Z12 ?_
 refine jaf (fun nn l h'=> ∃(k:Nat) (gp:Option Addr) (gc:Nat) (w:List Int),nn=ll.length-k∧(k≤ll.length)∧(w=jg2 a (ll.take k))∧(RdS B h 1 (.slice gp w.length gc) w.length (jaq w))∧(w.length≤1000)∧(w.length≤gc)∧(∃U:Nat→Value,l=((.func (.func 105) #[] #[])::(.slice gp w.length gc)::(.slice p ll.length c)::vw6 U 3 ((.slice p ll.length c)::(.int .i64 (ll.length:Int))::(.int .i64 (k:Int))::jpx U 12 [])))∧h=h') _ ⟨0,ap,ac,a,rfl,by omega,by rw [xT];rfl,ra,hal,hac,exU rfl,rfl⟩ ?_;rintro nn l h' ⟨k,gp,gc,w,rfl,hk,hw,hwr,hwl,hwc,⟨U,rfl⟩,rfl⟩ hnext;refine Z2 ?_
 refine jak rfl zq (fun hc=>?_) (fun hc=>?_)
 ·refine Z7 ?_
  obtain ⟨rb,ro,hrp⟩:=rdv.ptr zO
  have rdv':=rdv
  rw [hrp] at rdv'
  obtain ⟨ep,ec,ee,er⟩:=rde.2 k zO
  have hck:=rde.cap (i:=k) zO ee
  have hlk:(ll.getD k []).length≤1000:=hl _ (jqX.2 ⟨k,by omega,rfl⟩)
  refine Zs ?_;refine D69 ?_;refine jaI (v:= .slice ep (ll.getD k []).length ec) rfl zq (by rw [←ee];exact rdv'.vat k zO zO) ?_;refine Z7 ?_
  refine jfi (Post:=fun v=>IsB (jdf (ll.getD k []) w) v) rfl zq callB105 (fun H' hH=>by
   have h1:=f105_c m H' (er.keeps (sq hH)) zO (hwr.keeps (sq hH)) zO
   simpa using h1) ?_
  rintro v (⟨hc,rfl⟩|⟨hc,rfl⟩);refine Z7 ?_
  rotate_left
  refine Z4 ?_
  all_goals
   refine Z5 ?_
  ·exact m.weak jaa (hnext _ _ _ zO ⟨k+1,gp,gc,w,rfl,by omega,by rw [jj9 _ _ _ zO,←hw,if_neg (fun e=>hc (jiu.1 e))],hwr,hwl,hwc,exU rfl,rfl⟩)
  ·exact m.weak jaa (hnext _ _ _ zO ⟨k+1,ep,ec,ll.getD k [],rfl,by omega,by rw [jj9 _ _ _ zO,←hw,if_pos (jiu.2 hc)],er,hlk,hck,exU rfl,rfl⟩)
 ·refine Z10 ?_;refine jac (h) rfl Tryz.func104 rfl jaa ?_;refine Zs ?_
  obtain rfl:k=ll.length:=by omega
  rw [gh zO] at hw
  rw [←hw];exact ⟨rfl,gp,gc,rfl,hwr,hwc⟩
theorem f71_c (m:Md Tryz.prog B) (h:Hp) (sh:Sheet B h b q tv) (rx:Rd B h ⟨qx,0,none⟩ (.pointer (some ⟨q,0,none⟩))) (hs:s<2^(jab b).length):FnC m 71 #[.int .u64 (s:Int),.pointer (some ⟨qx,0,none⟩)] h fun v h'=>h'=h∧IsB (¬jbP (jbm (jdl s (jab b).length) (cdT b))=true) v:=by
 have h12:=sh.twelve
 obtain ⟨pc,cc,hcv,hcc,hcr⟩:=sh.cells
 have hs2:2^(jab b).length-1-s<4096:=by
  have:=GV (show 0<2 by omega) h12
  omega
 refine jae Tryz.func71 rfl rfl (l:=(.int .u64 (s:Int))::(.pointer (some ⟨qx,0,none⟩))::uu13) rfl ?_
 intro cf cs K hK
 refine Z5 ?_;refine jan [Zp 7,Zr 0,Zr 1,Zp 2,Zp 3,Zr 4,Zp 5,Zk 6,Zp 8,Zk 9,Zp 10,Zp 11] zK zK (gE _) ?_;refine Zs ?_;refine D125 ?_;refine D125 ?_;refine Z2 ?_;refine D70 ?_;refine Zs ?_;refine jag (Post:=fun v=>v= .int .u64 ((2^(jab b).length-1:Nat):Int)) rfl zq zK (fun H' hH=>f72_c m H' _ h12) ?_
 rintro v rfl;refine Zs ?_;refine jrk ((2^(jab b).length-1-s:Nat):Int) rfl zq (clr_all h12 hs) ?_;refine jag (Post:=fun v=>IsB _ v) rfl zq zK (fun H' hH=>f59_c m H' (sh.keeps (sq hH)) hs2) ?_
 rintro v (⟨hc,rfl⟩|⟨hc,rfl⟩);refine Z2 ?_
 rotate_left
 refine Z2 ?_
 all_goals
  refine Z3 ?_;refine jac (h) rfl Tryz.func71 rfl jaa ?_;refine Zs ?_
  first|exact ⟨rfl,IsB.no fun e=>e ((jmj hs).1 hc)⟩|exact ⟨rfl,IsB.yes fun e=>hc ((jmj hs).2 e)⟩
end
section
variable [LaidO B]
def jk0 (N:Nat) (hit:Nat→Bool) (q6 ch:Nat):Crew:=⟨N,hit,fun k v hp=>OwnS 3 1 v (jbR k 12).length (jaq (jbR k 12)) hp,q6,164,ch⟩
theorem callB99:jbM Tryz.prog 99=true:=by kernel_rfl
theorem callB102:jbM Tryz.prog 102=true:=by kernel_rfl
theorem jeM:(kidF Tryz.prog).catches Tryz.prog=false:=by kernel_rfl
def Asks (B:Array Obj) (gv:Value) (hb:Hp) (N:Nat) (hit:Nat→Bool):Prop:= ∀(m:Md Tryz.prog B) (k:Nat) (H':Hp),k<N→hb.Sublist H'→CallV m gv [.int .u64 (k:Int)] H' fun v h'=>h'=H'∧IsB (hit k=true) v
theorem kid154 {q3 q7 kn:Nat} (hN:N≤4096) (hk:kn<N) (hg:Asks B gv hb N hit):
  ((SyC.kid Tryz.prog B (jk0 N hit q6 ch).pro i).im 0 (.w kn .on false) (hb++[⟨false,q3,.cells [gv].toArray 107 (0,0)⟩,⟨false,q5,.cells [.chan (some ch)].toArray 154 (0,0)⟩,⟨true,q7,.cells [.int .u64 (kn:Int)].toArray 65 (0,0)⟩])).R (kid0 Tryz.prog {target:= .fn (.func 99) [.pointer (some ⟨q6,0,none⟩),.pointer (some ⟨q3,0,none⟩),.pointer (some ⟨q7,0,none⟩),.pointer (some ⟨q5,0,none⟩)].toArray,args:= #[]++ #[]}):=by
 have hM:(jk0 N hit q6 ch).n≤4100:=show N≤4100 by omega
 refine jjQ (hg:=fun e=>e) (al:=[.pointer (some ⟨q6,0,none⟩),.pointer (some ⟨q3,0,none⟩),.pointer (some ⟨q7,0,none⟩),.pointer (some ⟨q5,0,none⟩)]) (l:=(.pointer (some ⟨q6,0,none⟩))::(.pointer (some ⟨q3,0,none⟩))::(.pointer (some ⟨q7,0,none⟩))::(.pointer (some ⟨q5,0,none⟩))::uu6) callB99 Tryz.func99 rfl rfl rfl rfl ?_;refine Md.kidC.to (hg:=fun e=>e) ?_;refine Zs ?_;refine Md.kidC.of ?_;refine Zs ?_;refine jmY rfl zq rfl zA ?_;refine Zs ?_;refine Md.kidC.to (hg:=fun e=>e) ?_;refine Z4 ?_;refine jgP rfl zq (hg _ kn _ hk SubH.sub) ?_
 rintro _ _ ⟨rfl,⟨hc,rfl⟩|⟨hc,rfl⟩⟩
 ·refine Z3 ?_;refine jqk 3 [Zr 0,Zr 1,Zc 2] [0,1,2,3] zK zK zK (gE _) ?_;refine Z2 ?_;refine jaJ rfl zq zK (fun H' hH=>f101_c _ H' kn zO) ?_
  rintro v new ov;refine Z2 ?_;refine Md.kidC.of ?_;refine SyC.weaken (h':=[]++new) (by rw [GI];exact jaa) ?_;refine y_send (hr:=[]) (hp:=new) rfl hc ov ?_;refine Zs ?_;refine jpd rfl ?_
  exact jrO hM (fun _=>rfl) rfl Tryz.func99 rfl rfl jeM
 ·refine Z4 ?_;refine Md.kidC.of ?_;refine jpd rfl ?_
  exact jrO hM (fun e=>absurd e hc) rfl Tryz.func99 rfl rfl jeM
theorem kid157 (hN:N≤4096):
  ((SyC.kid Tryz.prog B (jk0 N hit q6 ch).pro i).im 0 (.c (.look N)) (hb++[⟨false,q5,.cells [.chan (some ch)].toArray 154 (0,0)⟩])).R (kid0 Tryz.prog {target:= .fn (.func 102) [.pointer (some ⟨q6,0,none⟩),.pointer (some ⟨q5,0,none⟩)].toArray,args:= #[]++ #[]}):=by
 have hM:(jk0 N hit q6 ch).n≤4100:=show N≤4100 by omega
 refine jjQ (hg:=fun e=>e) (al:=[.pointer (some ⟨q6,0,none⟩),.pointer (some ⟨q5,0,none⟩)]) (l:=[.pointer (some ⟨q6,0,none⟩),.pointer (some ⟨q5,0,none⟩),undef,undef]) callB102 Tryz.func102 rfl rfl rfl rfl ?_;refine Md.kidC.to (hg:=fun e=>e) ?_;refine Zs ?_;refine Md.kidC.of ?_;refine Zs ?_
 refine i_cal rfl zq zK (waitC_c hM ?_);refine jgT rfl ?_;refine Zs ?_;refine Md.kidC.to (hg:=fun e=>e) ?_;refine D124 ?_;refine Z2 ?_;refine Md.kidC.of ?_;refine SyC.weaken (h':=[]) (Weak.sub (Ge _)) ?_;refine y_close zA rfl ?_;show (Im.quit Tryz.prog 0).R _
 refine Zs ?_;refine jpd rfl ?_
 exact jnJ rfl Tryz.func102 rfl rfl jeM
end
section
variable [LaidO B]
theorem jfs {mm k:Nat} (h:mm<2^k):jbe (jbR mm k)=mm:=by
 refine xF fun i=>?_
 rw [jbn fun z hz=>by obtain ⟨j,_,rfl,_⟩:=jdv.1 hz;omega];by_cases hi:i<k
 ·by_cases hb:mm.testBit i=true
  ·rw [hb,decide_eq_true_iff];exact jdv.2 ⟨i,hi,rfl,(jc0 mm i).2 hb⟩
  ·rw [Bool.not_eq_true] at hb
   rw [hb,decide_eq_false_iff_not];intro hz
   obtain ⟨j,_,e,h2⟩:=jdv.1 hz
   obtain rfl:i=j:=by omega
   rw [(jc0 mm i).1 h2] at hb
   cases hb
 ·have h1:mm.testBit i=false:=VG (GW h (GV zO zO))
  rw [h1,decide_eq_false_iff_not];intro hz
  obtain ⟨j,hj,e,_⟩:=jdv.1 hz
  omega
theorem keptI_in {mm k:Nat} (h:mm<2^n): ∀x∈jbR mm k,0≤x∧x<(n:Int):=fun x hx=>by
 obtain ⟨j,_,rfl,h2⟩:=jdv.1 hx
 refine ⟨by omega,?_⟩
 rcases Gf j n with hj|hj
 ·omega
 ·have:=VG (GW h (GV (show 0<2 by omega) hj))
  rw [(jc0 mm j).1 h2] at this
  cases this
def llW (got:List Nat):List (List Int):=got.map fun k=>jbR k 12
theorem jnX (got:List Nat) (k:Nat):llW (got++[k])=llW got++[jbR k 12]:=by simp [llW]
theorem llW_len (got:List Nat):(llW got).length=got.length:=gU _
theorem got_le (h: ∀k∈got,k<n) (hd:got.Nodup):got.length≤n:=by
 have:=Ga (l₂:=List.range n) hd fun z hz=>gT.2 (h z hz)
 rwa [List.length_range] at this
theorem jpj (hn:n≤12) (hall: ∀k,k∈got↔k<2^n∧hit k=true) (h1:hit (2^n-1)=true):jd5 (fun l=>hit (jbe l)=true) n (jg2 (jbR (2^n-1) 12) (llW got)):=by
 obtain ⟨hm,hb⟩:=ji3 (llW got) (jbR (2^n-1) 12)
 have hp:0<2^n:=Nat.two_pow_pos n
 have h12:2^n≤2^12:=GV zO hn
 obtain ⟨k,hk,hh,e⟩: ∃k,k<2^n∧hit k=true∧jg2 (jbR (2^n-1) 12) (llW got)=jbR k 12:=by
  rcases gO.1 hm with hm|hm
  ·exact ⟨2^n-1,by omega,h1,hm⟩
  ·obtain ⟨k,hk,e⟩:=gP.1 hm
   obtain ⟨h2,h3⟩:=(hall k).1 hk
   exact ⟨k,h2,h3,e.symm⟩
 rw [e] at hb⊢
 refine ⟨jmq _ _,keptI_in hk,by show hit (jbe _)=true;rw [jfs zO];exact hh,fun xs ha hx hxs=>?_⟩
 obtain ⟨mm,hmm,rfl⟩:=jq3 ha (n:=12) fun x hx'=>by have:=hx x hx';omega
 have hlt:mm<2^n:=by
  refine gw fun hge=>?_
  obtain ⟨i,hi,hbit⟩:=Nat.exists_ge_and_testBit_of_ge_two_pow (show 2^n≤mm by omega)
  have hi12:i<12:=by
   refine gw fun h=>?_
   have:=VG (GW hmm (GV (show 0<2 by omega) (show 12≤i by omega)))
   rw [hbit] at this
   cases this
  have:=hx _ (jdv.2 ⟨i,hi12,rfl,(jc0 mm i).2 hbit⟩)
  omega
 have hxs':hit (jbe (jbR mm 12))=true:=hxs
 rw [jfs hmm] at hxs'
 exact hb _ (gN _ (gP.2 ⟨mm,(hall mm).2 ⟨hlt,hxs'⟩,rfl⟩))
theorem run_midC {C:Crew} {g:Goroutine} (n:((SyC.zero P B C.pro K).im 0 (.m C.n .idle [] false) h').R g):(Md.starC P B).R K g (h'++[C.wgC 0 0 0]++[⟨true,C.ch,.chan 0 #[] false 0 0 false⟩]):=joy n
theorem run_putm {m:Md P B} {b:Frame} [p:PutV l d v l'] (n:m.R K (Gr b l' ds k cs) h):m.R K (Gr b (put l d v) ds k cs) h:=by rw [p.eq];exact n
theorem jnl {F1 F2 F3 X Y Z:Hp} [a:Off h' Z F1] [b:Off F1 Y F2] [c:Off F2 X F3] [s:SubH H F3]:Weak B h' (H++X++Y++Z):=
 Weak.trans (Weak.perm a.perm) (Weak.apps (Weak.trans (Weak.perm b.perm) (Weak.apps (Weak.trans (Weak.perm c.perm) (Weak.apps (Weak.sub s.sub) X)) Y)) Z)
theorem apAll {F:Hp} (hF: ∀c∈F,c.rw=false) (hH: ∀c∈H,c.rw=false):ApH F H:=fun c hc d hd hr=>by rw [hF c hc,hH d hd] at hr;simp at hr
section
variable {m:Md P B}
omit [LaidO B] in
theorem k_addW {k:IntKind} {x:Operand} {b:Int} (z:Int) (ho:ops[i]?=some ⟨d,.binOp .add t x y u,ty,pos,af,g⟩) (hw:Wt ops l g) [KHeap kd S h H] [ex:OpV l x (.int k a)] [ey:OpV l y (.int k b)] (hr:k.wrap (a+b)=z) [PutV l d (.int k z) l']
  (n:RegK m S ops r l' h C):RegK m S ops ((i,kd)::r) l h C:=
 RegK.rd (v:= .int k z) ho hw (jaY ex.eq ey.eq zS (by simp [binOp,Op.intArith,hr];rfl)) n
end
theorem jnj (h:n<5000):IntKind.wrap .u64 ((n:Nat):Int)=(n:Int):=by
 simp [IntKind.wrap,IntKind.bits,IntKind.signed]
 omega
theorem jm1 {q3:Nat} {c3 c5:Array Value}:Weak B (h++[⟨true,q3,.cells c3 107 (0,0)⟩]++[⟨true,ch,.chan 0 #[] false 0 0 false⟩,⟨true,q5,.cells c5 154 (0,0)⟩,⟨true,q6,.cells ([.int .u64 0,.int .u32 0]:List Value).toArray 164 (0,0)⟩]) ((ro h++[⟨false,q3,.cells c3 107 (0,0)⟩,⟨false,q5,.cells c5 154 (0,0)⟩])++[(jk0 N hit q6 ch).wgC 0 0 0]++[⟨true,ch,.chan 0 #[] false 0 0 false⟩]):=by
 have h0:Weak B (h++[⟨true,q3,.cells c3 107 (0,0)⟩]++[⟨true,ch,.chan 0 #[] false 0 0 false⟩,⟨true,q5,.cells c5 154 (0,0)⟩,⟨true,q6,.cells ([.int .u64 0,.int .u32 0]:List Value).toArray 164 (0,0)⟩]) ((h++[⟨true,q3,.cells c3 107 (0,0)⟩,⟨true,q5,.cells c5 154 (0,0)⟩])++[⟨true,q6,.cells ([.int .u64 0,.int .u32 0]:List Value).toArray 164 (0,0)⟩,⟨true,ch,.chan 0 #[] false 0 0 false⟩]):=by
  refine Weak.perm ?_
  simp only [gG,gt,GI]
  refine Gz _ (.cons _ ?_)
  exact vI (l₁:=[_]) (l₂:=[_,_])
 refine h0.trans ?_
 have h1:=jpJ (B:=B) (h++[⟨true,q3,.cells c3 107 (0,0)⟩,⟨true,q5,.cells c5 154 (0,0)⟩]) [⟨true,q6,.cells ([.int .u64 0,.int .u32 0]:List Value).toArray 164 (0,0)⟩,⟨true,ch,.chan 0 #[] false 0 0 false⟩]
 refine Weak.trans h1 ?_;refine Weak.perm ?_
 simp only [ro,GA,gu,vh,gG,gt,GI]
 exact .refl _
theorem f61_k (h:Hp) (sh:Sheet B h b q tv) [cgv:CellsV gv [gv]] (hg:Asks B gv (ro h) (2^(jab b).length) hit) (hh1:hit (2^(jab b).length-1)=true):FnC (Md.starC Tryz.prog B) 61 #[.pointer (some ⟨q,0,none⟩),gv] h fun v h'=> ∃nw,h'=ro h++nw∧ ∃g,RdK B h' v g∧jd5 (fun l=>hit (jbe l)=true) (jab b).length g:=by
 have h12:=sh.twelve
 obtain ⟨pc,cc,hcv,hcc,hcr⟩:=sh.cells
 have hp0:0<2^(jab b).length:=Nat.two_pow_pos _
 have hp12:2^(jab b).length≤2^12:=GV zO h12
 obtain ⟨N,hN⟩: ∃N:Nat,N=2^(jab b).length:=⟨_,rfl⟩
 rw [←hN] at hg
 have hM: ∀q6 ch,(jk0 N hit q6 ch).n≤4100:=fun _ _=>show N≤4100 by omega
 refine jae Tryz.func61 rfl rfl (l:=(.pointer (some ⟨q,0,none⟩))::gv::uu40) rfl ?_
 intro cf cs K hK
 refine Z2 ?_
 refine jaF rfl zq (fun q3=>jap (jad ?_));refine Z4 ?_
 refine k_mkchan (.inl rfl) rfl zq zK (fun ch=>jad ?_);refine jaB rfl zq (fun q5=>jap (jad ?_));refine D9 ?_;refine Z3 ?_
 refine jaB rfl zq (fun q6=>jap (jad ?_));refine Z7 ?_;refine D70 ?_;refine Zs ?_;refine D96 ?_
 rintro v rfl;refine Zs ?_;refine k_addW (N:Int) rfl zq (by rw [show ((2^(jab b).length-1:Nat):Int)+1=((N:Nat):Int) by omega];exact jnj zO) ?_;refine Z3 ?_;refine (Md.starC Tryz.prog B).weak (h':=(ro h++[⟨false,q3,.cells [gv].toArray 107 (0,0)⟩,⟨false,q5,.cells [.chan (some ch)].toArray 154 (0,0)⟩])++[(jk0 N hit q6 ch).wgC 0 0 0]++[⟨true,ch,.chan 0 #[] false 0 0 false⟩]) jm1 ?_;refine run_midC (C:=(jk0 N hit q6 ch)) ?_;refine jpH (fun nn D' s' h' l'=> ∃(t:Nat),D'=0∧s'= .m (N-t) .idle [] false∧ro h++[⟨false,q3,.cells [gv].toArray 107 (0,0)⟩,⟨false,q5,.cells [.chan (some ch)].toArray 154 (0,0)⟩]=h'∧nn=N-t∧t≤N∧ ∃U:Nat→Value,l'=((.pointer (some ⟨q,0,none⟩))::gv::(U 2)::(.pointer (some ⟨q3,0,none⟩))::(.slice none 0 0)::(.pointer (some ⟨q5,0,none⟩))::(.pointer (some ⟨q6,0,none⟩))::jpx U 7 ((.int .u64 (N:Int))::(.int .u64 (t:Int))::vw23 U 19 []))) _ ⟨0,rfl,rfl,rfl,rfl,by omega,exU rfl⟩ ?_
 rintro nn _ _ _ _ ⟨t,rfl,rfl,rfl,rfl,ht,U,rfl⟩ hnext1;refine Md.midC.to ?_
 try dsimp only
 refine Z2 ?_
 refine jak rfl zq (fun hc=>?_) (fun hc=>?_)
 ·refine Z9 ?_
  refine jaB rfl zq (fun q7=>jap (jad ?_));refine D9 ?_;refine Z2 ?_
  obtain ⟨r,hr⟩: ∃r,N-t=r+1:=⟨N-t-1,by omega⟩
  rw [hr];refine Md.midC.of ?_;refine Zs ?_
  refine i_cal rfl zq zK (addZ_c rfl (hM q6 ch) ?_);refine jgT rfl ?_;refine Zs ?_;refine Md.midC.to ?_;refine D124 ?_;refine jhy rfl zq ?_;refine Zs ?_;refine Md.midC.of ?_;refine jox (h':=ro h++[⟨false,q3,.cells [gv].toArray 107 (0,0)⟩,⟨false,q5,.cells [.chan (some ch)].toArray 154 (0,0)⟩]) (hc:=ro h++[⟨false,q3,.cells [gv].toArray 107 (0,0)⟩,⟨false,q5,.cells [.chan (some ch)].toArray 154 (0,0)⟩,⟨true,q7,.cells [.int .u64 (t:Int)].toArray 65 (0,0)⟩]) rfl (show r+1≤N by omega) jaa jaa (fun w sw=>?_) (fun j hj=>by
   rw [show (jk0 N hit q6 ch).n-(r+1)=t from (by omega:N-(r+1)=t)];exact kid154 zO zO hg) ?_
  ·refine ap_last (F:=ro h++[⟨false,q3,.cells [gv].toArray 107 (0,0)⟩,⟨false,q5,.cells [.chan (some ch)].toArray 154 (0,0)⟩]) (q:=q7) (o:= .cells [.int .u64 (t:Int)].toArray 65 (0,0)) (by simpa using sw) (fun c hc=>?_) (fun d hd hr=>?_)
   ·rcases gQ.1 hc with hc|hc
    ·exact (jif hc).1
    ·simp only [gO,vP,or_false] at hc
     rcases hc with rfl|rfl<;>rfl
   ·rcases gQ.1 hd with hd|hd
    ·rw [(jif hd).1] at hr
     cases hr
    ·simp only [gO,vP,or_false] at hd
     rcases hd with rfl|rfl|rfl
     ·cases hr
     ·cases hr
     ·rfl
  refine Md.midC.to ?_;refine jbv ?_;refine Z2 ?_;refine k_addW ((t+1:Nat):Int) rfl zq (by rw [show (t:Int)+1=((t+1:Nat):Int) by omega];exact jnj zO) ?_;refine Z2 ?_;refine Md.midC.of ?_;refine SyC.weaken (h':=ro h++[⟨false,q3,.cells [gv].toArray 107 (0,0)⟩,⟨false,q5,.cells [.chan (some ch)].toArray 154 (0,0)⟩]) jaa ?_
  exact hnext1 _ _ _ _ _ zO ⟨t+1,rfl,by rw [show r=N-(t+1) by omega],rfl,rfl,by omega,exU rfl⟩
 ·refine Z5 ?_
  obtain rfl:N=t:=by omega
  rw [VM];refine D124 ?_;refine jhy rfl zq ?_;refine Zs ?_;refine Md.midC.of ?_
  refine jmw (h':=ro h++[⟨false,q3,.cells [gv].toArray 107 (0,0)⟩,⟨false,q5,.cells [.chan (some ch)].toArray 154 (0,0)⟩]) (hc:=ro h++[⟨false,q5,.cells [.chan (some ch)].toArray 154 (0,0)⟩]) rfl jaa jaa (fun w sw=>?_) (fun j hj=>kid157 zO) ?_
  ·refine apAll (fun c hc=>?_) (fun c hc=>?_)
   ·rcases gQ.1 hc with hc|hc
    ·exact (jif hc).1
    ·simp only [gO,vP,or_false] at hc
     rcases hc with rfl|rfl<;>rfl
   ·rcases gQ.1 hc with hc|hc
    ·exact (jif hc).1
    ·simp only [gO,vP,or_false] at hc
     rcases hc with rfl
     rfl
  refine Md.midC.to ?_;refine jbv ?_;refine Z10 ?_;refine Md.midC.of ?_;refine jpH (fun nn D' s' h' l'=> ∃(got:List Nat) (sp:Option Addr) (sc:Nat) (ws:List Value) (X W:Hp),D'=0∧s'= .m 0 .idle got true∧ro h++[⟨false,q3,.cells [gv].toArray 107 (0,0)⟩,⟨false,q5,.cells [.chan (some ch)].toArray 154 (0,0)⟩]++X++W=h'∧nn=N-got.length∧(got.Nodup∧ ∀k∈got,k<N)∧OwnS 26 1 (.slice sp (llW got).length sc) (llW got).length ws W∧RdE B X ws (llW got)∧ ∃U:Nat→Value,l'=((.pointer (some ⟨q,0,none⟩))::gv::(U 2)::(.pointer (some ⟨q3,0,none⟩))::(.slice none 0 0)::(.pointer (some ⟨q5,0,none⟩))::(.pointer (some ⟨q6,0,none⟩))::(U 7)::(.slice sp (llW got).length sc)::vw8 U 9 ((.int .u64 (N:Int))::vw7 U 18 ((.chan (some ch))::vw16 U 26 [])))) _ ⟨[],none,0,[],[],[],rfl,rfl,by simp,rfl,⟨List.nodup_nil,fun k hk=>by cases hk⟩,OwnS.nil,RdE.nil,exU rfl⟩ ?_
  rintro nn _ _ _ _ ⟨got,sp,sc,ws,X,W,rfl,rfl,rfl,rfl,⟨hnd,hlt⟩,oW,eX,U,rfl⟩ hnext2;refine Md.midC.to ?_
  try dsimp only
  have hgl:=got_le hlt hnd
  have hll:(llW got).length=got.length:=llW_len got
  refine Zs ?_;refine jid [] [0,1] zK zK ?_;refine Zs ?_;refine Md.midC.of ?_
  refine jpF (dir:=0) (z:= .slice none 0 0) rfl rfl Mute.zero (fun kn v hp hh hkn hnin hP=>?_) (fun hnd2 hall=>?_)
  ·have hnd2:(got++[kn]).Nodup:=by
    rw [List.nodup_append];exact ⟨hnd,by simp,fun a ha c hc=>by rw [gr] at hc;subst hc;exact fun e=>hnin (e▸ha)⟩
   have hlt2: ∀k∈got++[kn],k<N:=fun k hk=>by
    rcases gQ.1 hk with hk|hk
    ·exact hlt k hk
    ·rw [gr] at hk
     subst hk
     exact hkn
   have hgl2:=got_le hlt2 hnd2
   rw [gJ,GX] at hgl2
   have hP':OwnS 3 1 v (jbR kn 12).length (jaq (jbR kn 12)) hp:=hP
   obtain ⟨vp,vc,rfl,hvc,rV⟩:=jas (B:=B) hP'
   refine jdZ ?_;refine Md.midC.to ?_;refine jlz [Zf 1] zK rfl ?_;refine Z2 ?_;skip
   refine Z12 ?_
   refine jcb kdq rfl zq zA zA rfl (fun q31=>jap (jad ?_));refine ja2 rfl zq rfl oW kdq zO zO (fun w32 n32 o32=>jad ?_);have e1:(llW (got++[kn])).length=(llW got).length+1:=by rw [jnX,gJ];rfl
   obtain ⟨p32,c32,rfl,_⟩:=o32.len
   refine Z3 ?_;refine Md.midC.of ?_;refine SyC.weaken (h':=ro h++[⟨false,q3,.cells [gv].toArray 107 (0,0)⟩,⟨false,q5,.cells [.chan (some ch)].toArray 154 (0,0)⟩]++X++hp++n32) jnl ?_
   exact hnext2 _ _ _ _ _ (by rw [gJ];show N-(got.length+1)<_;omega) ⟨got++[kn],p32,c32,_,X++hp,n32,rfl,rfl,by simp only [gG],rfl,⟨hnd2,hlt2⟩,by rw [e1];exact o32,by rw [jnX];exact (eX.keeps (gI _ _)).snoc rfl (rV.keeps (gM _ _)) hvc,by rw [e1];exact exU rfl⟩
  ·show (Md.starC Tryz.prog B).R K _ _
   refine run_putm ?_;refine jlz [Zf 1] zK rfl ?_;refine Z2 ?_;skip
   refine Z8 ?_;refine jaI rfl zq (hcv.ro.keeps SubH.sub) ?_;refine Zs ?_;refine D96 ?_
   rintro v rfl;refine Zs ?_;refine jaJ rfl zq zK (fun H' hH=>f101_c _ H' (2^(jab b).length-1) zO) ?_
   rintro v nA oA;refine Zs ?_
   obtain ⟨ap,ac,rfl,hac,rA⟩:=jas (B:=B) oA
   refine Zs ?_;refine jbt rfl zq zK (f104_k _ _ ((oW.rd (gE _)).keeps SubH.sub) (eX.keeps SubH.sub) zO (fun l hl=>by obtain ⟨k,_,rfl⟩:=gP.1 hl;have:=jkL k 12;omega) (rA.keeps SubH.sub) (by have:=jkL (2^(jab b).length-1) 12;omega) hac) ?_
   rintro v h' ⟨rfl,rv⟩;refine Z4 ?_;refine jac (ro h++[⟨false,q3,.cells [gv].toArray 107 (0,0)⟩,⟨false,q5,.cells [.chan (some ch)].toArray 154 (0,0)⟩]++X++W++nA) rfl Tryz.func61 rfl jaa ?_;refine Zs ?_
   refine ⟨[⟨false,q3,.cells [gv].toArray 107 (0,0)⟩,⟨false,q5,.cells [.chan (some ch)].toArray 154 (0,0)⟩]++X++W++nA,by simp only [gG],_,rv,jpj h12 (fun k=>?_) hh1⟩
   rw [←hN];exact hall k
end
section
variable [LaidO B]
theorem callB59:jbM Tryz.prog 59=true:=by kernel_rfl
theorem callB71:jbM Tryz.prog 71=true:=by kernel_rfl
def jm2 (b:Tb) (k:Nat):Bool:=!(jfg (cdT b) (jdl k (jab b).length)).isEmpty
def jiV (b:Tb) (k:Nat):Bool:=!jbP (jbm (jdl k (jab b).length) (cdT b))
theorem jgl {k:Nat}:jm2 b k=true↔jfg (cdT b) (jdl k (jab b).length)≠[]:=by
 unfold jm2
 cases jfg (cdT b) (jdl k (jab b).length)<;>simp
theorem jgZ {k:Nat}:jiV b k=true↔ ¬jbP (jbm (jdl k (jab b).length) (cdT b))=true:=by simp [jiV]
theorem jin {α:Type}: ∀(D:List α) (p:List Bool),(∀x∈p,x=true)→p.length=D.length→jbm p D=D
 |[],[],_,_=>rfl
 |[],_::_,_,h=>by simp at h
 |_::_,[],_,h=>by simp at h
 |d::D,x::p,h,hl=>by
  obtain rfl:=h x zS
  show d::jbm p D=d::D
  rw [jin D p (fun y hy=>h y (by simp [hy])) (by simpa using hl)]
theorem jio (n:Nat): ∀x∈jdl (2^n-1) n,x=true:=fun x hx=>by
 rw [jdl,gP] at hx
 obtain ⟨i,hi,rfl⟩:=hx
 rw [gT] at hi
 rw [Nat.testBit_two_pow_sub_one];simpa using hi
theorem jqz (n:Nat):jdl 0 n=(jdl (2^n-1) n).map (!·):=by
 rw [←jnO (by have:=Nat.two_pow_pos n;omega),VM]
theorem jnP: ∀(D:List Cd) (p:List Bool),(∀x∈p,x=true)→p.length=D.length→jfg D p≠[]
 |[],_,_,_=>by simp [jfg]
 |_::_,[],_,h=>by simp at h
 |d::D,x::p,h,hl=>by
  obtain rfl:=h x zS
  show (jfg D p).map _≠[]
  have:=jnP D p (fun y hy=>h y (by simp [hy])) (by simpa using hl)
  simpa using this
theorem jrE (b:Tb):jm2 b (2^(jab b).length-1)=true:=jgl.2 (jnP _ _ (jio _) (by rw [jbT,jat]))
theorem jh4 (b:Tb):jfg (cdT b) (jdl 0 (jab b).length)≠[]↔jbP (cdT b)=true:=by
 rw [jqz,jgG (by rw [jbT,jat]),jin _ _ (jio _) (by rw [jbT,jat])]
theorem jm9 (h: ¬jbP (cdT b)=true):jiV b (2^(jab b).length-1)=true:=jgZ.2 (by rw [jin _ _ (jio _) (by rw [jbT,jat])];exact h)
theorem Sheet.ro (s:Sheet B H b q tv):Sheet B (Lo.ro H) b q tv:=by
 obtain ⟨h0,h1,⟨p,c,h2,h3,h4⟩,⟨rw,qm,h5,h6⟩,h7,h8⟩:=s
 refine ⟨h0,fun j hj=>(h1 j hj).ro,⟨p,c,h2.ro,h3,h4.ro⟩,⟨false,qm,h5.ro,gP.2 ⟨_,h6,rfl⟩⟩,fun i hi=>(h7 i hi).ro,fun i hi=>?_⟩
 obtain ⟨p,c,a1,a2,a3⟩:=h8 i hi
 exact ⟨p,c,a1.ro,a2,a3.ro⟩
theorem asks104 (sh:Sheet B hb b q tv):Asks B (.func (.func 59) #[.pointer (some ⟨q,0,none⟩)] #[]) hb (2^(jab b).length) (jm2 b):=fun m k H' hk hs=>by
 have h12:2^(jab b).length≤2^12:=GV zO sh.twelve
 refine CallV.mono (CallV.fn' (vs:= #[.pointer (some ⟨q,0,none⟩),.int .u64 (k:Int)]) callB59 zS (f59_c m H' (sh.keeps hs) zO)) fun v h' ⟨e,p⟩=>⟨e,?_⟩
 rcases p with ⟨c,e⟩|⟨c,e⟩
 ·exact .inl ⟨jgl.2 c,e⟩
 ·exact .inr ⟨fun x=>c (jgl.1 x),e⟩
theorem asks105 (sh:Sheet B hb b q tv) (rx:Rd B hb ⟨qx,0,none⟩ (.pointer (some ⟨q,0,none⟩))):Asks B (.func (.func 71) #[] #[.pointer (some ⟨qx,0,none⟩)]) hb (2^(jab b).length) (jiV b):=fun m k H' hk hs=>by
 refine CallV.mono (CallV.fn' (vs:= #[.int .u64 (k:Int),.pointer (some ⟨qx,0,none⟩)]) callB71 zS (f71_c m H' (sh.keeps hs) (rx.keeps hs) hk)) fun v h' ⟨e,p⟩=>⟨e,?_⟩
 rcases p with ⟨c,e⟩|⟨c,e⟩
 ·exact .inl ⟨jgZ.2 c,e⟩
 ·exact .inr ⟨fun x=>c (jgZ.1 x),e⟩
theorem jg9 (a c:Hp):ro (a++c)=ro a++ro c:=GA
theorem f17_c (h:Hp) (ra:RawTb B h b ps ns ks pw nw cw pb nb cb):FnC (Md.starC Tryz.prog B) 17 #[tbV b ps ns ks pw nw cw pb nb cb] h fun v h'=> ∃nw w g,h'=ro h++nw∧v= .tuple [w,.int .i64 (tbS b)].toArray∧RdI B h' w g∧(tbS b≠0→g=[])∧(tbS b=0→jd5 (fun l=>jm2 b (jbe l)=true) (jab b).length g):=by
 refine jae Tryz.func17 rfl rfl (l:=(tbV b ps ns ks pw nw cw pb nb cb)::uu16) rfl ?_
 intro cf cs K hK
 refine Z2 ?_
 refine jaF rfl zq (fun q1=>jap (jad ?_));refine Z7 ?_;refine jag (Post:=fun v=>v=_) rfl zq zK (fun H' hH=>f31_r _ H' (ra.keeps (sq hH))) ?_
 rintro v rfl;refine Z6 ?_
 refine jaP rfl zq (fun hc=>?_) (fun hc=>?_)
 ·refine Z9 ?_;refine jac (h) rfl Tryz.func17 rfl jaa ?_;refine D110 ?_;refine Zs ?_
  have hne:tbS b≠0:=by omega
  exact ⟨[],_,[],by simp,rfl,RdI.nil,fun _=>rfl,fun e=>absurd e hne⟩
 ·refine Z4 ?_
  have hz0:tbS b=0:=by omega
  have hk:=jbH.1 hz0
  have h12:=jba hk
  refine Z2 ?_;refine D59 ?_
  rintro v n12 ⟨q,rfl,sh⟩;refine Z7 ?_;refine jhy rfl zq ?_;refine jbt rfl zq zK (f61_k _ (sh.keeps SubH.sub) (asks104 (sh.keeps SubH.sub).ro) (jrE b)) ?_
  rintro v h' ⟨nz,rfl,g,rg,hl⟩;obtain ⟨gp,gc,rfl,rg,hgc⟩:=rg
  refine Z5 ?_;refine jac (ro (h++[⟨true,q1,.cells (tbL b ps ns ks pw nw cw pb nb cb).toArray 25 (0,0)⟩]++n12)++nz) rfl Tryz.func17 rfl jaa ?_;refine Zs ?_
  exact ⟨ro [⟨true,q1,.cells (tbL b ps ns ks pw nw cw pb nb cb).toArray 25 (0,0)⟩]++ro n12++nz,_,g,by simp only [jg9,gG],by rw [hz0],⟨gp,gc,rfl,rg⟩,fun e=>absurd hz0 e,fun _=>hl⟩
theorem f24_k (h:Hp) (ra:RawTb B h b ps ns ks pw nw cw pb nb cb):FnC (Md.starC Tryz.prog B) 24 #[tbV b ps ns ks pw nw cw pb nb cb] h fun v h'=> ∃nw w g,h'=ro h++nw∧v= .tuple [w,.int .i64 (tbS b)].toArray∧RdK B h' w g∧(tbS b≠0→g=[])∧(tbS b=0→jbP (cdT b)=true→g=[])∧(tbS b=0→ ¬jbP (cdT b)=true→jd5 (fun l=>jiV b (jbe l)=true) (jab b).length g):=by
 refine jae Tryz.func24 rfl rfl (l:=(tbV b ps ns ks pw nw cw pb nb cb)::uu17) rfl ?_
 intro cf cs K hK
 refine Z2 ?_
 refine jaF rfl zq (fun q1=>jap (jad ?_));refine Z7 ?_;refine jag (Post:=fun v=>v=_) rfl zq zK (fun H' hH=>f31_r _ H' (ra.keeps (sq hH))) ?_
 rintro v rfl;refine Z6 ?_
 refine jaP rfl zq (fun hc=>?_) (fun hc=>?_)
 ·refine Z9 ?_;refine jac (h) rfl Tryz.func24 rfl jaa ?_;refine D110 ?_;refine Zs ?_
  have hne:tbS b≠0:=by omega
  exact ⟨[],_,[],by simp,rfl,RdK.nil,fun _=>rfl,fun _ _=>rfl,fun e=>absurd e hne⟩
 ·refine Z4 ?_
  have hz0:tbS b=0:=by omega
  have hk:=jbH.1 hz0
  have h12:=jba hk
  refine Z2 ?_;refine D59 ?_
  rintro v n12 ⟨q,rfl,sh⟩;refine Zs ?_
  refine jaB rfl zq (fun q5=>jap (jad ?_));refine D9 ?_;refine Z5 ?_;refine jag (Post:=fun v=>IsB _ v) rfl zq zK (fun H' hH=>f59_c _ H' (sh.keeps (sq hH)) (s:=0) zO) ?_
  rintro v (⟨hc,rfl⟩|⟨hc,rfl⟩)
  ·refine Zs ?_
   have hsd:=(jh4 b).1 hc
   refine Z8 ?_;refine jac (h) rfl Tryz.func24 rfl jaa ?_;refine D110 ?_;refine Zs ?_
   exact ⟨[],_,[],by simp,by rw [hz0],RdK.nil,fun _=>rfl,fun _ _=>rfl,fun _ e=>absurd hsd e⟩
  ·refine Zs ?_
   have hcl:=fun e=>hc ((jh4 b).2 e)
   refine Z6 ?_;refine jhy rfl zq ?_;refine jbt rfl zq zK (f61_k _ (sh.keeps SubH.sub) (asks105 (sh.keeps SubH.sub).ro (qx:=q5) (Rd.ro (Rd.held (show (⟨true,q5,.cells [.pointer (some ⟨q,0,none⟩)].toArray 62 (0,0)⟩:Chunk)∈_ by simp) rfl))) (jm9 hcl)) ?_
   rintro v h' ⟨nz,rfl,g,rg,hl⟩;obtain ⟨gp,gc,rfl,rg,hgc⟩:=rg
   refine Z5 ?_;refine jac (ro (h++[⟨true,q1,.cells (tbL b ps ns ks pw nw cw pb nb cb).toArray 25 (0,0)⟩]++n12++[⟨true,q5,.cells [.pointer (some ⟨q,0,none⟩)].toArray 62 (0,0)⟩])++nz) rfl Tryz.func24 rfl jaa ?_;refine Zs ?_
   exact ⟨ro [⟨true,q1,.cells (tbL b ps ns ks pw nw cw pb nb cb).toArray 25 (0,0)⟩]++ro n12++ro [⟨true,q5,.cells [.pointer (some ⟨q,0,none⟩)].toArray 62 (0,0)⟩]++nz,_,g,by simp only [jg9,gG],by rw [hz0],⟨gp,gc,rfl,rg,hgc⟩,fun e=>absurd hz0 e,fun _ e=>absurd e hcl,fun _ _=>hl⟩
theorem f24_c (h:Hp) (ra:RawTb B h b ps ns ks pw nw cw pb nb cb):FnC (Md.starC Tryz.prog B) 24 #[tbV b ps ns ks pw nw cw pb nb cb] h fun v h'=> ∃nw w g,h'=ro h++nw∧v= .tuple [w,.int .i64 (tbS b)].toArray∧RdI B h' w g∧(tbS b≠0→g=[])∧(tbS b=0→jbP (cdT b)=true→g=[])∧(tbS b=0→ ¬jbP (cdT b)=true→jd5 (fun l=>jiV b (jbe l)=true) (jab b).length g):=
 CallF.mono (f24_k h ra) fun v h' ⟨nw,w,g,e1,e2,e3,e4⟩=>⟨nw,w,g,e1,e2,e3.rdI,e4⟩
end
section
variable [LaidO B]
def badL (l:Ln):Prop:=20<l.figs.length∨ ∃k,k<l.figs.length∧100<(l.figs.getD k []).length
def grL (ls:List Ln):Prop:= ∃i,i<ls.length∧badL (ls.getD i default)
def jr5 (b:Tb):Prop:=20<b.sts.length∨20<b.waters.length∨20<b.butts.length∨(∃j,j<b.sts.length∧100<(b.sts.getD j []).length)∨grL b.waters∨grL b.butts
theorem jnw (h: ¬grL ls): ∀l∈ls,l.figs.length≤1000∧ ∀f∈l.figs,f.length≤100000:=fun l hl=>by
 obtain ⟨i,hi,e⟩:=GE.1 hl
 have hg:ls.getD i default=l:=by rw [gC,gD hi,GB,e]
 have hb: ¬badL l:=fun x=>h ⟨i,hi,by rw [hg];exact x⟩
 refine ⟨vZ fun x=>hb (.inl zO),fun f hf=>vZ fun x=>?_⟩
 obtain ⟨k,hk,e⟩:=GE.1 hf
 exact hb (.inr ⟨k,hk,by rw [gC,gD hk,GB,e];omega⟩)
theorem small_tb (h: ¬jr5 b):TbSm b:=by
 refine ⟨fun s hs=>vZ fun x=>?_,jnw fun e=>h (.inr (.inr (.inr (.inr (.inl e))))),jnw fun e=>h (.inr (.inr (.inr (.inr (.inr e)))))⟩
 obtain ⟨k,hk,e⟩:=GE.1 hs
 exact h (.inr (.inr (.inr (.inl ⟨k,hk,by rw [gC,gD hk,GB,e];omega⟩))))
theorem f19_c (m:Md Tryz.prog B) (h:Hp) {c:Nat} (hln:RdLn B h (.slice p n c) n ls) (hn:n≤20):FnC m 19 #[.slice p n c] h fun v h'=>h'=h∧IsB (grL ls) v:=by
 obtain ⟨lps,rfl,rl,hfig⟩:=hln
 have hll:=rl.elen zA
 refine jae Tryz.func19 rfl rfl (l:=(.slice p n c)::uu37) rfl ?_
 intro cf cs K hK
 refine Z10 ?_
 refine jaf (fun nn l h'=> ∃(i:Nat),nn=n-i∧(i≤n)∧(∀j,j<i→ ¬badL (lps.getD j default).ln)∧(∃U:Nat→Value,l=((.slice p n c)::(U 1)::(U 2)::(.int .i64 (i:Int))::vw34 U 4 []))∧h=h') _ ⟨0,rfl,by omega,fun j hj=>absurd hj zO,exU rfl,rfl⟩ ?_;rintro nn l h' ⟨i,rfl,hi,hgo,⟨U,rfl⟩,rfl⟩ hnext1;refine Z6 ?_
 refine jak rfl zq (fun hc=>?_) (fun hc=>?_)
 ·refine Z7 ?_
  obtain ⟨rlb,rlo,hrp⟩:=rl.ptr zO
  have rl2:=rl
  rw [hrp] at rl2
  obtain ⟨hxc,rdf0⟩:=hfig _ (jal (l:=lps) (i:=i) zO)
  refine Z3 ?_;refine D69 ?_;refine Zs ?_;refine D49 ?_;refine Zs ?_
  refine jaz rfl zq (fun hc=>?_) (fun hc=>?_)
  ·refine Z7 ?_;refine jac (h) rfl Tryz.func19 rfl jaa ?_;refine Zs ?_
   exact ⟨rfl,IsB.yes ⟨i,by rw [gU];omega,by rw [ja9 _ _ zO];exact .inl zO⟩⟩
  ·refine Z8 ?_
   refine jaf (fun nn l h'=> ∃(k:Nat),nn=(lps.getD i default).ln.figs.length-k∧(k≤(lps.getD i default).ln.figs.length)∧(∀j,j<k→ ¬100<((lps.getD i default).ln.figs.getD j []).length)∧(∃U:Nat→Value,l=((.slice p n c)::(U 1)::(U 2)::(.int .i64 (i:Int))::(.int .i64 (k:Int))::vw33 U 5 []))∧h=h') _ ⟨0,rfl,by omega,fun j hj=>absurd hj zO,exU rfl,rfl⟩ ?_;rintro nn l h' ⟨k,rfl,hk,hfk,⟨U,rfl⟩,rfl⟩ hnext2;refine Z6 ?_;refine D69 ?_;refine Zs ?_;refine D49 ?_;refine Zs ?_
   refine jak rfl zq (fun hc=>?_) (fun hc=>?_)
   ·refine Z6 ?_
    have rdf:=rdf0 zO
    obtain ⟨fb,fo,hfp⟩:=rdf.ptr zO
    have rdg:=rdf
    rw [hfp] at rdg
    refine Z3 ?_;refine D69 ?_;refine Zs ?_;refine D49 ?_;refine Zs ?_;refine D57 ?_;refine D105 ?_;refine Zs ?_
    refine jaz rfl zq (fun hc=>?_) (fun hc=>?_)
    ·refine Z7 ?_;refine jac (h) rfl Tryz.func19 rfl jaa ?_;refine Zs ?_
     exact ⟨rfl,IsB.yes ⟨i,by rw [gU];omega,by rw [ja9 _ _ zO];exact .inr ⟨k,by omega,by omega⟩⟩⟩
    ·refine Z9 ?_
     exact m.weak jaa (hnext2 _ _ _ zO ⟨k+1,rfl,by omega,fun j hj=>by
      by_cases e:j<k
      ·exact hfk j e
      ·obtain rfl:j=k:=by omega
       omega,exU rfl,rfl⟩)
   ·refine Z9 ?_
    exact m.weak jaa (hnext1 _ _ _ zO ⟨i+1,rfl,by omega,fun j hj=>by
     by_cases e:j<i
     ·exact hgo j e
     ·obtain rfl:j=i:=by omega
      rintro (e|⟨k2,hk2,e⟩)
      ·omega
      ·exact hfk k2 zO e,exU rfl,rfl⟩)
 ·refine Z8 ?_;refine jac (h) rfl Tryz.func19 rfl jaa ?_;refine Zs ?_
  refine ⟨rfl,IsB.no ?_⟩
  rintro ⟨j,hj,e⟩;rw [gU] at hj
  rw [ja9 _ _ zO] at e
  exact hgo j zO e
theorem f4_c (m:Md Tryz.prog B) (h:Hp) (rds:RdS B h 1 (.slice ps ns ks) ns (jay b.sts)) (hcs:ns≤ks) (rdw:RdLn B h (.slice pw nw cw) nw b.waters) (rdb:RdLn B h (.slice pb nb cb) nb b.butts):FnC m 4 #[tbV b ps ns ks pw nw cw pb nb cb] h fun v h'=>h'=h∧IsB (jr5 b) v:=by
 have hml:=rds.elen zA
 have hwl:=jcv rdw
 have hbl:=jcv rdb
 refine jae Tryz.func4 rfl rfl (l:=(tbV b ps ns ks pw nw cw pb nb cb)::uu41) rfl ?_
 intro cf cs K hK
 refine Z2 ?_
 refine jaF rfl zq (fun q1=>jap (jad ?_));refine Z4 ?_;refine D44 ?_;refine Z3 ?_
 refine jaz rfl zq (fun hc=>?_) (fun hc=>?_)
 ·refine Z19 ?_;refine D101 ?_;refine Zs ?_
  first
   |exact E70
   |exact E71
   |exact E72
   |exact E73
   |exact E74
   |exact E75
   |exact ⟨rfl,IsB.no fun e=>by
     rcases e with e|e|e|⟨i,hi,e⟩|e|e
     ·omega
     ·omega
     ·omega
     ·exact hgo i zO e
     ·exact hgw e
     ·exact hgb e⟩
 ·refine Z2 ?_;refine jkM rfl rfl ?_;refine jhw rfl rfl ?_
  refine jaz rfl rfl (fun hc=>?_) (fun hc=>?_)
  ·refine Z14 ?_;refine D101 ?_;refine Zs ?_
   first
    |exact E70
    |exact E71
    |exact E72
    |exact E73
    |exact E74
    |exact E75
    |exact ⟨rfl,IsB.no fun e=>by
      rcases e with e|e|e|⟨i,hi,e⟩|e|e
      ·omega
      ·omega
      ·omega
      ·exact hgo i zO e
      ·exact hgw e
      ·exact hgb e⟩
  ·refine Z3 ?_;refine jkM rfl rfl ?_;refine jhw rfl rfl ?_
   refine jaz rfl rfl (fun hc=>?_) (fun hc=>?_)
   ·refine Z8 ?_;refine D101 ?_;refine Zs ?_
    first
     |exact E70
     |exact E71
     |exact E72
     |exact E73
     |exact E74
     |exact E75
     |exact ⟨rfl,IsB.no fun e=>by
       rcases e with e|e|e|⟨i,hi,e⟩|e|e
       ·omega
       ·omega
       ·omega
       ·exact hgo i zO e
       ·exact hgw e
       ·exact hgb e⟩
   ·refine Z10 ?_
    refine jaf (fun nn l h'=> ∃(j:Nat),nn=ns-j∧(j≤ns)∧(∀i,i<j→ ¬100<(b.sts.getD i []).length)∧(∃U:Nat→Value,l=((tbV b ps ns ks pw nw cw pb nb cb)::(.pointer (some ⟨q1,0,none⟩))::(U 2)::(.int .i64 (j:Int))::vw38 U 4 []))∧h++[⟨true,q1,.cells (tbL b ps ns ks pw nw cw pb nb cb).toArray 25 (0,0)⟩]=h') _ ⟨0,rfl,by omega,fun i hi=>absurd hi zO,exU rfl,rfl⟩ ?_;rintro nn l h' ⟨j,rfl,hj,hgo,⟨U,rfl⟩,rfl⟩ hnext;refine Z7 ?_
    refine jak rfl zq (fun hc=>?_) (fun hc=>?_)
    ·refine Z6 ?_
     obtain ⟨sb,so,hsp⟩:=rds.ptr zO
     have rds2:=rds
     rw [hsp] at rds2
     refine Z4 ?_;refine ja1 rfl zq hsp zO zO ?_;refine jaI rfl zq ((rds2.sat j zO zO).keeps (gI _ _)) ?_;refine Zs ?_
     refine jaz rfl zq (fun hc=>?_) (fun hc=>?_)
     ·refine Z7 ?_;refine D101 ?_;refine Zs ?_
      first
       |exact E70
       |exact E71
       |exact E72
       |exact E73
       |exact E74
       |exact E75
       |exact ⟨rfl,IsB.no fun e=>by
         rcases e with e|e|e|⟨i,hi,e⟩|e|e
         ·omega
         ·omega
         ·omega
         ·exact hgo i zO e
         ·exact hgw e
         ·exact hgb e⟩
     ·refine Z9 ?_
      exact m.weak jaa (hnext _ _ _ zO ⟨j+1,rfl,by omega,fun i hi=>by
       by_cases e:i<j
       ·exact hgo i e
       ·obtain rfl:i=j:=by omega
        omega,exU rfl,rfl⟩)
    ·refine Z7 ?_;refine jag (Post:=fun v=>IsB _ v) rfl zq zK (fun H' hH=>f19_c m H' (rdw.keeps (sq hH)) zO) ?_
     rintro v (⟨hc,rfl⟩|⟨hc,rfl⟩)
     ·refine Zs ?_
      have hgw:=hc
      refine Z8 ?_;refine D101 ?_;refine Zs ?_
      first
       |exact E70
       |exact E71
       |exact E72
       |exact E73
       |exact E74
       |exact E75
       |exact ⟨rfl,IsB.no fun e=>by
         rcases e with e|e|e|⟨i,hi,e⟩|e|e
         ·omega
         ·omega
         ·omega
         ·exact hgo i zO e
         ·exact hgw e
         ·exact hgb e⟩
     ·refine Zs ?_
      have hgw:=hc
      refine Z2 ?_;refine jkM rfl rfl ?_;refine jag (Post:=fun v=>IsB _ v) rfl rfl zK (fun H' hH=>f19_c m H' (rdb.keeps (sq hH)) zO) ?_
      rintro v (⟨hc,rfl⟩|⟨hc,rfl⟩);all_goals
       refine Zs ?_
       have hgb:=hc
       refine Z4 ?_;refine D101 ?_;refine Zs ?_
       first
        |exact E70
        |exact E71
        |exact E72
        |exact E73
        |exact E74
        |exact E75
        |exact ⟨rfl,IsB.no fun e=>by
          rcases e with e|e|e|⟨i,hi,e⟩|e|e
          ·omega
          ·omega
          ·omega
          ·exact hgo i zO e
          ·exact hgw e
          ·exact hgb e⟩
theorem f30_c (m:Md Tryz.prog B) (h:Hp) {c n2 c2:Nat} (rd:RdS B h 1 (.slice p n c) n (jaq xs)) (hn:n≤1000000) (rd2:RdS B h 1 (.slice p2 n2 c2) n2 (jaq ys)):FnC m 30 #[.slice p n c,.slice p2 n2 c2] h fun v h'=>h'=h∧IsB (xs=ys) v:=by
 refine jae Tryz.func30 rfl rfl (l:=(.slice p n c)::(.slice p2 n2 c2)::uu6) rfl ?_
 intro cf cs K hK
 refine Z8 ?_;refine jag (Post:=fun v=>IsB _ v) rfl zq zK (fun H' hH=>f12_c m H' (rd.keeps (sq hH)) hn (rd2.keeps (sq hH))) ?_
 rintro v (⟨hc,rfl⟩|⟨hc,rfl⟩);all_goals
  refine Z4 ?_;refine jac (h) rfl Tryz.func30 rfl jaa ?_;refine Zs ?_
 ·exact ⟨rfl,IsB.yes hc⟩
 ·exact ⟨rfl,IsB.no hc⟩
end
section
variable [LaidO B]
def exT:Tb:=⟨1,[[97],[98]],[⟨64,[[49,45,50,45,51],[49,45,63,45,48]]⟩,⟨128,[[49,45,54,45,48],[49,45,52,45,52]]⟩],[⟨96,[[48,45,53,45,48],[48,45,57,45,48]]⟩]⟩
theorem f20_c (m:Md Tryz.prog B) (h:Hp):FnC m 20 #[] h fun v h'=> ∃nw,h'=h++nw∧ ∃ps pw pb,v=tbV exT ps 2 2 pw 2 2 pb 1 1∧RawTb B nw exT ps 2 2 pw 2 2 pb 1 1:=by
 refine jae Tryz.func20 rfl rfl (l:=uu11) rfl ?_
 intro cf cs K hK
 refine Z2 ?_
 refine jaB rfl zq (fun q0=>jap (jad ?_));refine Z2 ?_;refine jpz ?_
 refine jcb kdq rfl zq zA zA rfl (fun q1=>jap (jad ?_));refine jcb kdq rfl zq zA zA rfl (fun q2=>jap (jad ?_));refine D39 ?_
 refine jcb kdq rfl zq zA zA rfl (fun q4=>jap (jad ?_));refine D39 ?_
 refine jcb kdq rfl zq zA zA rfl (fun q6=>jap (jad ?_));refine jcb kdq rfl zq zA zA rfl (fun q7=>jap (jad ?_));refine D39 ?_
 refine jcb kdq rfl zq zA zA rfl (fun q9=>jap (jad ?_));refine D39 ?_;refine D7 ?_;refine Z2 ?_;refine jac (h++[⟨true,q1,.cells ([str [97],str [98]]:List Value).toArray 9 (0,0)⟩,⟨true,q2,.cells ([str [49,45,50,45,51],str [49,45,63,45,48]]:List Value).toArray 9 (0,0)⟩,⟨true,q4,.cells ([str [49,45,54,45,48],str [49,45,52,45,52]]:List Value).toArray 9 (0,0)⟩,⟨true,q6,.cells ([.int .i64 64,.slice (some ⟨q2,0,none⟩) 2 2,.int .i64 128,.slice (some ⟨q4,0,none⟩) 2 2]:List Value).toArray 114 (0,0)⟩,⟨true,q7,.cells ([str [48,45,53,45,48],str [48,45,57,45,48]]:List Value).toArray 9 (0,0)⟩,⟨true,q9,.cells ([.int .i64 96,.slice (some ⟨q7,0,none⟩) 2 2]:List Value).toArray 114 (0,0)⟩]) rfl Tryz.func20 rfl jaa ?_;refine Zs ?_
 refine ⟨_,rfl,_,_,_,rfl,⟨jeH (ys:=jay exT.sts) (x:=⟨gk⟩) rfl,by decide,by decide,⟨[⟨⟨64,[[49,45,50,45,51],[49,45,63,45,48]]⟩,some ⟨q2,0,none⟩,2⟩,⟨⟨128,[[49,45,54,45,48],[49,45,52,45,52]]⟩,some ⟨q4,0,none⟩,2⟩],rfl,jeH (ys:=jay ([⟨⟨64,[[49,45,50,45,51],[49,45,63,45,48]]⟩,some ⟨q2,0,none⟩,2⟩,⟨⟨128,[[49,45,54,45,48],[49,45,52,45,52]]⟩,some ⟨q4,0,none⟩,2⟩]:List Lp)) (x:=⟨by right;right;right;left⟩) rfl,fun x hx=>?_⟩,by decide,⟨[⟨⟨96,[[48,45,53,45,48],[48,45,57,45,48]]⟩,some ⟨q7,0,none⟩,2⟩],rfl,jeH (ys:=jay ([⟨⟨96,[[48,45,53,45,48],[48,45,57,45,48]]⟩,some ⟨q7,0,none⟩,2⟩]:List Lp)) (x:=⟨by right;right;right;right;right;left⟩) rfl,fun x hx=>?_⟩,by decide,⟨by decide,by decide,by decide⟩⟩⟩
 ·rcases gO.1 hx with rfl|hx
  ·exact ⟨gL _,fun _=>jeH (ys:=jay ([[49,45,50,45,51],[49,45,63,45,48]]:List Str)) (x:=⟨by right;left⟩) rfl⟩
  ·obtain rfl:=gr.1 hx
   exact ⟨gL _,fun _=>jeH (ys:=jay ([[49,45,54,45,48],[49,45,52,45,52]]:List Str)) (x:=⟨by right;right;left⟩) rfl⟩
 ·obtain rfl:=gr.1 hx
  exact ⟨gL _,fun _=>jeH (ys:=jay ([[48,45,53,45,48],[48,45,57,45,48]]:List Str)) (x:=⟨by right;right;right;right;left⟩) rfl⟩
end
section
variable [LaidO B]
theorem hhrd {c:Nat} {M:Hp} (o:HalfO (.slice p n c) n lns M) (s:M.Sublist H):RdLn B H (.slice p n c) n lns:=by
 obtain ⟨p',c',e,r⟩:=o.rd (B:=B)
 cases e
 exact r.keeps s
theorem f66_l (m:Md Tryz.prog B) (hs:h.Sublist H) (rlw:RdS B h 2 (.slice pw nw cw) nw (jay lw)) (rlb:RdS B h 2 (.slice pb nb cb) nb (jay lb)) {bt:Bool} {li st:Int} (h0:0≤li) (h1:li<(if bt then lb else lw).length):FnC m 66 #[tbV b ps ns ks pw nw cw pb nb cb,cV bt li st] H fun v h'=>h'=H∧v=lpV ((if bt then lb else lw).getD li.toNat default):=by
 refine jae Tryz.func66 rfl rfl (l:=(tbV b ps ns ks pw nw cw pb nb cb)::(cV bt li st)::uu17) rfl ?_
 intro cf cs K hK
 refine Z2 ?_
 refine jaF rfl zq (fun q2=>jap (jad ?_));refine jaF rfl zq (fun q3=>jap (jad ?_));refine jaB rfl zq (fun q4=>jap (jad ?_));refine Z7 ?_
 refine jb7 (fun hc=>?_) (fun hc=>?_);first|replace hc:=of_decide_eq_true hc|replace hc:=of_decide_eq_false hc|skip
 refine Zs ?_
 subst hc
 have hlt:li<lb.length:=h1
 have hll:=rlb.elen zA
 obtain ⟨z_b,z_o,hzp⟩:=rlb.ptr zO
 have rlg:=rlb.keeps hs
 rw [hzp] at rlg
 refine Z5 ?_;refine D83 ?_;refine jca (vs:=lpL (lb.getD li.toNat default)) rfl zq rfl (rlg.eat li.toNat zO zO) ?_
 rotate_left
 first|replace hc:=of_decide_eq_true hc|replace hc:=of_decide_eq_false hc|skip
 refine Z2 ?_
 subst hc
 have hlt:li<lw.length:=h1
 have hll:=rlw.elen zA
 obtain ⟨z_b,z_o,hzp⟩:=rlw.ptr zO
 have rlg:=rlw.keeps hs
 rw [hzp] at rlg
 refine Z5 ?_;refine D83 ?_;refine jca (vs:=lpL (lw.getD li.toNat default)) rfl zq rfl (rlg.eat li.toNat zO zO) ?_
 all_goals
  refine D7 ?_;refine Z2 ?_;refine jac (H) rfl Tryz.func66 rfl jaa ?_;refine Zs ?_
  exact ⟨rfl,rfl⟩
theorem f21_c (m:Md Tryz.prog B) (h:Hp) (rlw:RdS B h 2 (.slice pw nw cw) nw (jay lw)) (rlb:RdS B h 2 (.slice pb nb cb) nb (jay lb)) (hnw:nw≤1000) (hnb:nb≤1000) (hfw: ∀x∈lw,x.ln.figs.length≤x.c∧RdS B h 1 (.slice x.p x.ln.figs.length x.c) x.ln.figs.length (jay x.ln.figs)) (hfb: ∀x∈lb,x.ln.figs.length≤x.c∧RdS B h 1 (.slice x.p x.ln.figs.length x.c) x.ln.figs.length (jay x.ln.figs)) (hsmw: ∀l∈lw.map (·.ln),l.figs.length≤1000) (hsmb: ∀l∈lb.map (·.ln),l.figs.length≤1000) (bt:Bool) (li st:Int) (f:Str) (hli0:0≤li) (hli1:li<((if bt then lb else lw).length:Int)) (hst0:0≤st) (hst1:st<(((if bt then lb else lw).getD li.toNat default).ln.figs.length:Int)):FnC m 21 #[tbV b ps ns ks pw nw cw pb nb cb,cV bt li st,str f] h fun v h'=> ∃nz pw' cw' pb' cb',h'=h++nz∧v=tbV b ps ns ks pw' nw cw' pb' nb cb'∧RdLn B nz (.slice pw' nw cw') nw (if bt then lw.map (·.ln) else jpQ (lw.map (·.ln)) li.toNat st.toNat f)∧RdLn B nz (.slice pb' nb cb') nb (if bt then jpQ (lb.map (·.ln)) li.toNat st.toNat f else lb.map (·.ln)):=by
 have hlw:=rlw.elen zA
 have hlb:=rlb.elen zA
 refine jae Tryz.func21 rfl rfl (l:=(tbV b ps ns ks pw nw cw pb nb cb)::(cV bt li st)::(str f)::uu73) rfl ?_
 intro cf cs K hK
 refine Z2 ?_
 refine jaF rfl zq (fun q3=>jap (jad ?_));refine jaF rfl zq (fun q4=>jap (jad ?_));refine jaB rfl zq (fun q6=>jap (jad ?_));refine Z4 ?_
 refine jaB rfl zq (fun q7=>jap (jad ?_));refine D7 ?_;refine Z4 ?_;refine D9 ?_;refine Zs ?_;refine D9 ?_;refine Z7 ?_
 refine jaf (fun nn l h'=> ∃(i:Nat) (p1:Option Addr) (c1:Nat) (xw:List Lp) (W0 FM0:Hp),nn=nw-i∧(i≤nw)∧(xw.map (·.ln)=(lw.map (·.ln)).take i)∧(OwnS 114 2 (.slice p1 i c1) i (jay xw) W0)∧(OwnF xw FM0)∧(∃U:Nat→Value,l=((tbV b ps ns ks pw nw cw pb nb cb)::(cV bt li st)::(str f)::(.pointer (some ⟨q3,0,none⟩))::(.pointer (some ⟨q4,0,none⟩))::(U 5)::(.pointer (some ⟨q6,0,none⟩))::(.pointer (some ⟨q7,0,none⟩))::(.int .i64 (i:Int))::vw67 U 9 []))∧h++[⟨true,q3,.cells (tbL b ps ns ks pw nw cw pb nb cb).toArray 25 (0,0)⟩,⟨true,q4,.cells [.bool bt,.int .i64 li,.int .i64 st].toArray 28 (0,0)⟩,⟨true,q6,.cells [.int .i64 0,.slice none 0 0,.slice none 0 0,.slice none 0 0].toArray 25 (0,0)⟩,⟨true,q7,.cells [.int .i64 b.wrong,.slice ps ns ks,.slice p1 i c1,.slice none 0 0].toArray 25 (0,0)⟩]++W0++FM0=h') _ ⟨0,none,0,[],[],[],rfl,by omega,rfl,OwnS.nil,OwnF.nil,exU rfl,zS⟩ ?_;rintro nn l h' ⟨i,p1,c1,xw,W0,FM0,rfl,hi,hmap0,how0,hof0,⟨U,rfl⟩,rfl⟩ hnext1;refine Z7 ?_
 refine jak rfl zq (fun hc=>?_) (fun hc=>?_)
 ·refine Z5 ?_
  obtain ⟨z_b,z_o,hzp⟩:=rlw.ptr zO
  have rl2:=rlw
  rw [hzp] at rl2
  obtain ⟨hxc,rdf⟩:=hfw _ (jal (l:=lw) (i:=i) zO)
  obtain ⟨x,hx⟩: ∃x,x=lw.getD i default:=⟨_,rfl⟩
  rw [←hx] at hxc rdf
  have hxm:x∈lw:=hx▸jal zO
  have hxl:x.ln.figs.length≤1000:=by
   have:=hsmw x.ln (gP.2 ⟨x,hxm,rfl⟩)
   exact this
  refine jbr (S:=h++[⟨true,q3,.cells (tbL b ps ns ks pw nw cw pb nb cb).toArray 25 (0,0)⟩,⟨true,q4,.cells [.bool bt,.int .i64 li,.int .i64 st].toArray 28 (0,0)⟩,⟨true,q6,.cells [.int .i64 0,.slice none 0 0,.slice none 0 0,.slice none 0 0].toArray 25 (0,0)⟩,⟨true,q7,.cells [.int .i64 b.wrong,.slice ps ns ks,.slice p1 i c1,.slice none 0 0].toArray 25 (0,0)⟩]) [0,1,2,3,4,5,6,7,8,9,10,11,12,13,14,15,16,17,18,19,20] zK zK SubH.sub ?_;refine D37 ?_;refine Z7 ?_;refine D83 ?_;refine Zs ?_;refine jaI (v:= .int .i64 x.ln.lat) rfl zq (hx▸rl2.fat i 0 zO zO rfl) ?_;refine Zs ?_;refine D83 ?_;refine Zs ?_;refine jaI (v:= .slice x.p x.ln.figs.length x.c) rfl zq (hx▸rl2.fat i 1 zO zO rfl) ?_;refine jfa kdq rfl zq (fun q28=>jap (jad ?_));refine jcX rfl zq (OwnS.zero (q:=q28)) rdf.up (fun u hu=>jdJ _ u hu) kdq zO zO (fun w35 n35 o35=>jad ?_);replace o35:OwnS 9 1 w35 x.ln.figs.length (jay x.ln.figs) n35:=by simpa using o35
  obtain ⟨p35,c35,rfl,hc35,r35⟩:=jas (B:=B) o35
  refine D39 ?_
  refine jcb kdq rfl zq zA zA rfl (fun q37=>jap (jad ?_));refine ja2 rfl zq rfl how0 kdq zO zO (fun w38 n38 o38=>jad ?_);replace o38:OwnS 114 2 w38 (i+1) (jay (xw++[⟨x.ln,p35,c35⟩])) n38:=by rw [jaX];exact o38
  obtain ⟨p38,c38,rfl,_⟩:=o38.len
  refine Zs ?_;refine D9 ?_;refine Z7 ?_;refine m.weak (h':=h++[⟨true,q3,.cells (tbL b ps ns ks pw nw cw pb nb cb).toArray 25 (0,0)⟩,⟨true,q4,.cells [.bool bt,.int .i64 li,.int .i64 st].toArray 28 (0,0)⟩,⟨true,q6,.cells [.int .i64 0,.slice none 0 0,.slice none 0 0,.slice none 0 0].toArray 25 (0,0)⟩,⟨true,q7,.cells [.int .i64 b.wrong,.slice ps ns ks,.slice p38 (i+1) c38,.slice none 0 0].toArray 25 (0,0)⟩]++n38++(FM0++n35)) jey ?_
  exact hnext1 _ _ _ zO ⟨i+1,_,_,xw++[⟨x.ln,p35,c35⟩],n38,FM0++n35,rfl,by omega,by rw [GA,hmap0,Gg,gD zI];simp only [vw,Gu,gu,vh];rw [hx,gC,gD zO];rfl,o38,.snoc hof0 o35,exU rfl,rfl⟩
 ·refine Z5 ?_
  obtain rfl:nw=i:=by omega
  refine Z4 ?_
  refine jaf (fun nn l h'=> ∃(i:Nat) (p2:Option Addr) (c2:Nat) (xs:List Lp) (W FM:Hp),nn=nb-i∧(i≤nb)∧(xs.map (·.ln)=(lb.map (·.ln)).take i)∧(OwnS 114 2 (.slice p2 i c2) i (jay xs) W)∧(OwnF xs FM)∧(∃U:Nat→Value,l=((tbV b ps ns ks pw nw cw pb nb cb)::(cV bt li st)::(str f)::(.pointer (some ⟨q3,0,none⟩))::(.pointer (some ⟨q4,0,none⟩))::(U 5)::(.pointer (some ⟨q6,0,none⟩))::(.pointer (some ⟨q7,0,none⟩))::(U 8)::(.int .i64 (i:Int))::vw66 U 10 []))∧h++[⟨true,q3,.cells (tbL b ps ns ks pw nw cw pb nb cb).toArray 25 (0,0)⟩,⟨true,q4,.cells [.bool bt,.int .i64 li,.int .i64 st].toArray 28 (0,0)⟩,⟨true,q6,.cells [.int .i64 0,.slice none 0 0,.slice none 0 0,.slice none 0 0].toArray 25 (0,0)⟩,⟨true,q7,.cells [.int .i64 b.wrong,.slice ps ns ks,.slice p1 nw c1,.slice p2 i c2].toArray 25 (0,0)⟩]++W0++FM0++W++FM=h') _ ⟨0,none,0,[],[],[],rfl,by omega,rfl,OwnS.nil,OwnF.nil,exU rfl,zS⟩ ?_;rintro nn l h' ⟨i,p2,c2,xs,W,FM,rfl,hi2,hmap,how,hof,⟨U,rfl⟩,rfl⟩ hnext2;refine Z7 ?_
  refine jak rfl zq (fun hc=>?_) (fun hc=>?_)
  ·refine Z5 ?_
   obtain ⟨z_b,z_o,hzp⟩:=rlb.ptr zO
   have rl2:=rlb
   rw [hzp] at rl2
   obtain ⟨hxc,rdf⟩:=hfb _ (jal (l:=lb) (i:=i) zO)
   obtain ⟨x,hx⟩: ∃x,x=lb.getD i default:=⟨_,rfl⟩
   rw [←hx] at hxc rdf
   have hxm:x∈lb:=hx▸jal zO
   have hxl:x.ln.figs.length≤1000:=by
    have:=hsmb x.ln (gP.2 ⟨x,hxm,rfl⟩)
    exact this
   refine jbr (S:=h++[⟨true,q3,.cells (tbL b ps ns ks pw nw cw pb nb cb).toArray 25 (0,0)⟩,⟨true,q4,.cells [.bool bt,.int .i64 li,.int .i64 st].toArray 28 (0,0)⟩,⟨true,q6,.cells [.int .i64 0,.slice none 0 0,.slice none 0 0,.slice none 0 0].toArray 25 (0,0)⟩,⟨true,q7,.cells [.int .i64 b.wrong,.slice ps ns ks,.slice p1 nw c1,.slice p2 i c2].toArray 25 (0,0)⟩]) [0,1,2,3,4,5,6,7,8,9,10,11,12,13,14,15,16,17,18,19,20] zK zK SubH.sub ?_;refine D37 ?_;refine Z7 ?_;refine D83 ?_;refine Zs ?_;refine jaI (v:= .int .i64 x.ln.lat) rfl zq (hx▸rl2.fat i 0 zO zO rfl) ?_;refine Zs ?_;refine D83 ?_;refine Zs ?_;refine jaI (v:= .slice x.p x.ln.figs.length x.c) rfl zq (hx▸rl2.fat i 1 zO zO rfl) ?_;refine jfa kdq rfl zq (fun q55=>jap (jad ?_));refine jcX rfl zq (OwnS.zero (q:=q55)) rdf.up (fun u hu=>jdJ _ u hu) kdq zO zO (fun w35 n35 o35=>jad ?_);replace o35:OwnS 9 1 w35 x.ln.figs.length (jay x.ln.figs) n35:=by simpa using o35
   obtain ⟨p35,c35,rfl,hc35,r35⟩:=jas (B:=B) o35
   refine D39 ?_
   refine jcb kdq rfl zq zA zA rfl (fun q64=>jap (jad ?_));refine ja2 rfl zq rfl how kdq zO zO (fun w38 n38 o38=>jad ?_);replace o38:OwnS 114 2 w38 (i+1) (jay (xs++[⟨x.ln,p35,c35⟩])) n38:=by rw [jaX];exact o38
   obtain ⟨p38,c38,rfl,_⟩:=o38.len
   refine Zs ?_;refine D9 ?_;refine Z7 ?_;refine m.weak (h':=h++[⟨true,q3,.cells (tbL b ps ns ks pw nw cw pb nb cb).toArray 25 (0,0)⟩,⟨true,q4,.cells [.bool bt,.int .i64 li,.int .i64 st].toArray 28 (0,0)⟩,⟨true,q6,.cells [.int .i64 0,.slice none 0 0,.slice none 0 0,.slice none 0 0].toArray 25 (0,0)⟩,⟨true,q7,.cells [.int .i64 b.wrong,.slice ps ns ks,.slice p1 nw c1,.slice p38 (i+1) c38].toArray 25 (0,0)⟩]++W0++FM0++n38++(FM++n35)) jey ?_
   exact hnext2 _ _ _ zO ⟨i+1,_,_,xs++[⟨x.ln,p35,c35⟩],n38,FM++n35,rfl,by omega,by rw [GA,hmap,Gg,gD zI];simp only [vw,Gu,gu,vh];rw [hx,gC,gD zO];rfl,o38,.snoc hof o35,exU rfl,rfl⟩
  ·refine Z4 ?_
   obtain rfl:nb=i:=by omega
   rw [gh zI] at hmap hmap0
   have hxwl:xw.length=nw:=by have:=congrArg List.length hmap0;simp only [gU] at this;omega
   have hxsl:xs.length=nb:=by have:=congrArg List.length hmap;simp only [gU] at this;omega
   cases bt
   replace hli1:li<(lw.length:Int):=by simpa using hli1
   replace hst1:st<((lw.getD li.toNat default).ln.figs.length:Int):=by simpa using hst1
   obtain ⟨sj,hsj⟩:=Gs hst0
   obtain ⟨M1f,Fb,M2f,rfl,hofb,hset⟩:=hof0.at (show li.toNat<xw.length by omega)
   obtain ⟨y,hy⟩: ∃y,y=xw.getD li.toNat default:=⟨_,rfl⟩
   rw [←hy] at hofb
   have hyf:st<y.ln.figs.length:=by
    have h1:=hst1
    have h2:(lw.map (·.ln)).getD li.toNat default=y.ln:=by rw [←hmap0,ja9 _ _ zO,←hy]
    rw [←h2,ja9 _ _ zO];exact h1
   rotate_left
   replace hli1:li<(lb.length:Int):=by simpa using hli1
   replace hst1:st<((lb.getD li.toNat default).ln.figs.length:Int):=by simpa using hst1
   obtain ⟨sj,hsj⟩:=Gs hst0
   obtain ⟨M1f,Fb,M2f,rfl,hofb,hset⟩:=hof.at (show li.toNat<xs.length by omega)
   obtain ⟨y,hy⟩: ∃y,y=xs.getD li.toNat default:=⟨_,rfl⟩
   rw [←hy] at hofb
   have hyf:st<y.ln.figs.length:=by
    have h1:=hst1
    have h2:(lb.map (·.ln)).getD li.toNat default=y.ln:=by rw [←hmap,ja9 _ _ zO,←hy]
    rw [←h2,ja9 _ _ zO];exact h1
   all_goals
    obtain ⟨bf,fc,junkf,hfv,rfl,hfl,hfc,hfn⟩:=jcK hofb zO
    injection hfv with hyp _ hyc
    haveI hsf:=jgA (ss:=y.ln.figs) (junk:=junkf) (j:=st) (i:=sj) hsj zO f
    have hrw:=how0.rd (B:=B) (gE _)
    have hrb:=how.rd (B:=B) (gE _)
    refine jan [Zp 4,Zp 6,Zr 0,Zr 1,Zr 5,Zk 2,Zp 3,Zp 7,Zf 8] zK zK (gE _) ?_;refine Z5 ?_
   ·refine jag (Post:=fun v=>v=lpV y) rfl zq zK (fun H' hH=>by
     have h1:=f66_l m (h:=h++[⟨true,q3,.cells (tbL b ps ns ks pw nw cw pb nb cb).toArray 25 (0,0)⟩,⟨true,q4,.cells [.bool true,.int .i64 li,.int .i64 st].toArray 28 (0,0)⟩,⟨true,q6,.cells [.int .i64 0,.slice none 0 0,.slice none 0 0,.slice none 0 0].toArray 25 (0,0)⟩,⟨true,q7,.cells [.int .i64 b.wrong,.slice ps ns ks,.slice p1 nw c1,.slice p2 nb c2].toArray 25 (0,0)⟩]++W0++FM0++W++(M1f++[⟨true,bf,.cells (jay y.ln.figs++junkf).toArray 9 (0,0)⟩]++M2f)) (H:=H') (by exact hH) (b:=b) (ps:=ps) (ns:=ns) (ks:=ks) (rlw:=hrw.up) (rlb:=hrb.up) (bt:=true) (li:=li) (st:=st) hli0 (by show li<(xs.length:Int);omega)
     rw [hy];exact h1) ?_
    rintro v rfl;refine Zs ?_;refine jmW rfl zq ?_;refine D129 ?_;refine D9 ?_;refine Z2 ?_
    have hy2:OwnS 9 1 (.slice y.p (y.ln.figs.set sj f).length y.c) (y.ln.figs.set sj f).length (jay (y.ln.figs.set sj f)) [⟨true,bf,.cells (jay (y.ln.figs.set sj f)++junkf).toArray 9 (0,0)⟩]:=by
     rw [hyp,hyc];exact E63
    have hnew:=hset ⟨⟨y.ln.lat,y.ln.figs.set sj f⟩,y.p,y.c⟩ _ hy2
    have hH1:HalfO (.slice p2 nb c2) nb (jpQ (lb.map (·.ln)) li.toNat st.toNat f) (W++(M1f++[⟨true,bf,.cells (jay (y.ln.figs.set sj f)++junkf).toArray 9 (0,0)⟩]++M2f)):=by
     refine ⟨_,_,_,_,_,rfl,?_,?_,hnew,rfl⟩
     ·have:=jhG hmap (show li.toNat<xs.length by omega) (k:=sj) f y.p y.c
      rw [←hy] at this
      rw [show st.toNat=sj by omega];exact this
     ·rw [jdh zO (by rw [←hy];simp [lpL])];exact how
    have hH2:HalfO (.slice p1 nw c1) nw (lw.map (·.ln)) (W0++FM0):=⟨xw,_,_,_,_,rfl,hmap0,how0,hof0,rfl⟩
    refine Z2 ?_;refine D7 ?_;refine Z2 ?_;refine jac (h++W0++FM0++W++(M1f++[⟨true,bf,.cells (jay (y.ln.figs.set sj f)++junkf).toArray 9 (0,0)⟩]++M2f)) rfl Tryz.func21 rfl jaa ?_;refine Zs ?_
    exact ⟨W0++FM0++W++(M1f++[⟨true,bf,.cells (jay (y.ln.figs.set sj f)++junkf).toArray 9 (0,0)⟩]++M2f),p1,c1,p2,c2,by simp only [gG],rfl,hhrd hH2 (by exact (gI _ _).trans (gI _ _)),hhrd hH1 (by rw [gG (W0++_)];exact gM _ _)⟩
   ·refine jag (Post:=fun v=>v=lpV y) rfl zq zK (fun H' hH=>by
     have h1:=f66_l m (h:=h++[⟨true,q3,.cells (tbL b ps ns ks pw nw cw pb nb cb).toArray 25 (0,0)⟩,⟨true,q4,.cells [.bool false,.int .i64 li,.int .i64 st].toArray 28 (0,0)⟩,⟨true,q6,.cells [.int .i64 0,.slice none 0 0,.slice none 0 0,.slice none 0 0].toArray 25 (0,0)⟩,⟨true,q7,.cells [.int .i64 b.wrong,.slice ps ns ks,.slice p1 nw c1,.slice p2 nb c2].toArray 25 (0,0)⟩]++W0++(M1f++[⟨true,bf,.cells (jay y.ln.figs++junkf).toArray 9 (0,0)⟩]++M2f)++W++FM) (H:=H') (by exact hH) (b:=b) (ps:=ps) (ns:=ns) (ks:=ks) (rlw:=hrw.up) (rlb:=hrb.up) (bt:=false) (li:=li) (st:=st) hli0 (by show li<(xw.length:Int);omega)
     rw [hy];exact h1) ?_
    rintro v rfl;refine Zs ?_;refine jmW rfl zq ?_;refine D129 ?_;refine D9 ?_;refine Z2 ?_
    have hy2:OwnS 9 1 (.slice y.p (y.ln.figs.set sj f).length y.c) (y.ln.figs.set sj f).length (jay (y.ln.figs.set sj f)) [⟨true,bf,.cells (jay (y.ln.figs.set sj f)++junkf).toArray 9 (0,0)⟩]:=by
     rw [hyp,hyc];exact E63
    have hnew:=hset ⟨⟨y.ln.lat,y.ln.figs.set sj f⟩,y.p,y.c⟩ _ hy2
    have hH1:HalfO (.slice p1 nw c1) nw (jpQ (lw.map (·.ln)) li.toNat st.toNat f) (W0++(M1f++[⟨true,bf,.cells (jay (y.ln.figs.set sj f)++junkf).toArray 9 (0,0)⟩]++M2f)):=by
     refine ⟨_,_,_,_,_,rfl,?_,?_,hnew,rfl⟩
     ·have:=jhG hmap0 (show li.toNat<xw.length by omega) (k:=sj) f y.p y.c
      rw [←hy] at this
      rw [show st.toNat=sj by omega];exact this
     ·rw [jdh zO (by rw [←hy];simp [lpL])];exact how0
    have hH2:HalfO (.slice p2 nb c2) nb (lb.map (·.ln)) (W++FM):=⟨xs,_,_,_,_,rfl,hmap,how,hof,rfl⟩
    refine Z2 ?_;refine D7 ?_;refine Z2 ?_;refine jac (h++W0++(M1f++[⟨true,bf,.cells (jay (y.ln.figs.set sj f)++junkf).toArray 9 (0,0)⟩]++M2f)++W++FM) rfl Tryz.func21 rfl jaa ?_;refine Zs ?_
    exact ⟨W0++(M1f++[⟨true,bf,.cells (jay (y.ln.figs.set sj f)++junkf).toArray 9 (0,0)⟩]++M2f)++W++FM,p1,c1,p2,c2,by simp only [gG],rfl,hhrd hH1 (by exact (gI _ _).trans (gI _ _)),hhrd hH2 (by rw [gG (W0++_)];exact gM _ _)⟩
end
theorem jn0 {p:Nat→Bool} {g:List Int} (ha:Asc g) (hx: ∀x∈g,0≤x∧x<(n:Int)) (h1:p (jbe g)=true) (h2:((List.range (2^n)).all fun mm=>!p mm||!ltW (jbR mm n) g)=true):jd5 (fun l=>p (jbe l)=true) n g:=by
 refine ⟨ha,hx,h1,fun xs ha' hx' hp hf=>?_⟩
 obtain ⟨mm,hmm,rfl⟩:=jq3 ha' hx'
 have h3:=gX.1 h2 mm (gT.2 hmm)
 have hp':p (jbe (jbR mm n))=true:=hp
 rw [jfs hmm] at hp'
 rw [hp',jiu.2 hf] at h3
 cases h3
def exN:Tb:={exT with wrong:=0}
def exC:Tb:=jdR exN ⟨false,0,1⟩ [49,45,50,45,48]
theorem ex_ok:tbS exT=0:=by kernel_rfl
theorem exN_ok:tbS exN=0:=by kernel_rfl
theorem jjY:tbS exC=0:=by kernel_rfl
theorem joj:(jah exT).length=11:=by kernel_rfl
theorem jmc:(jah exN).length=1:=by kernel_rfl
theorem jrK:(jah exC).length=0:=by kernel_rfl
theorem ex_sound:jbP (cdT exT)=true:=by kernel_rfl
theorem jrI:jbP (cdT exC)=false:=by kernel_rfl
theorem exC_few:jd5 (fun l=>jm2 exC (jbe l)=true) 6 [1]:=jn0 (by simp [Asc]) zA zK zK
theorem jrJ:jd5 (fun l=>jiV exC (jbe l)=true) 6 [1,5]:=jn0 (by simp [Asc]) zA zK zK
def fiC:Ce:=⟨false,0,1⟩
def buC:Ce:=⟨true,0,1⟩
theorem jel:jaO exT 0=0∧jaO exN 0=0∧jaO exT (jdN exT fiC)=0∧jaO exN (jdN exN fiC)=0∧jaO exT (jdN exT buC)=0∧jaO exN (jdN exN buC)=0:=by
 refine ⟨?_,?_,?_,?_,?_,?_⟩<;>kernel_rfl
theorem exT_can:jj4 exT fiC=[96,104,112,120,128]:=by kernel_rfl
theorem exN_can:jj4 exN fiC=[96]:=by kernel_rfl
theorem jrF:jfo (jew (jah exT) (plN exT buC)) (jah exT).length=0:=by kernel_rfl
theorem jrG:jfo (jew (jah exN) (plN exN buC)) (jah exN).length=2:=by kernel_rfl
theorem ex_fig:figN 115=[49,45,50,45,51]:=by kernel_rfl
theorem jiP:jbc [49,45,63,45,48]=true∧firstM (jdw [49,45,63,45,48])=96∧lastM (jdw [49,45,63,45,48])=184∧(jdw [49,45,63,45,48]).length=12:=by
 refine ⟨?_,?_,?_,?_⟩<;>kernel_rfl
theorem jm4:jfe exN false 1 96=(96,132):=by kernel_rfl
theorem jpm:jfe exN true 1 100=(72,128):=by kernel_rfl
theorem jrH:jaO exN (ownP exN 1 96)=0∧jaO exN (ownP exN 1 100)=0:=by
 refine ⟨?_,?_⟩<;>kernel_rfl
theorem jm3:(askR exT).2=6∧(askR exT).1.isSome=true∧cOfA exT (askR exT).1=fiC:=by
 refine ⟨?_,?_,?_⟩<;>kernel_rfl
def exR:Tb:=jdR exT fiC (jeD (jfH exT fiC [49,45,48,45,63]))
def exP:Tb:=jdR exT buC [48,45,56,45,48]
theorem jma:jkw exT fiC [49,45,48,45,63]=0∧tbS exR=0∧(jah exR).length=7:=by
 refine ⟨?_,?_,?_⟩<;>kernel_rfl
theorem jmb:putS exT buC [48,45,56,45,48]=0∧tbS exP=0∧(jah exP).length=38:=by
 refine ⟨?_,?_,?_⟩<;>kernel_rfl
section
variable [LaidO B]
theorem RdLn.ro (r:RdLn B h v n lns):RdLn B (Lo.ro h) v n lns:=by
 obtain ⟨lps,e,r1,r2⟩:=r
 exact ⟨lps,e,r1.ro,fun x hx=>⟨(r2 x hx).1,fun hp=>((r2 x hx).2 hp).ro⟩⟩
theorem RawTb.ro (r:RawTb B h b ps ns ks pw nw cw pb nb cb):RawTb B (Lo.ro h) b ps ns ks pw nw cw pb nb cb:=
 ⟨r.s.ro,r.sc,r.sn,RdLn.ro r.w,r.wn,RdLn.ro r.u,r.un,r.sm⟩
theorem joQ (a:Hp):ro (ro a)=ro a:=by simp [ro]
theorem jgC (w:Bool) (q:Nat) (o:Obj) (a:Hp):ro (⟨w,q,o⟩::a)=⟨false,q,o⟩::ro a:=rfl
theorem jjI:ro []=[]:=rfl
theorem exN_raw (r:RawTb B h exT ps 2 2 pw 2 2 pb 1 1):RawTb B h exN ps 2 2 pw 2 2 pb 1 1:=⟨r.s,r.sc,r.sn,r.w,r.wn,r.u,r.un,⟨r.sm.sts,r.sm.wat,r.sm.but⟩⟩
section
variable {m:Md P B}
omit [LaidO B] in
theorem jri {x:Operand} {b a' b':Int} (ho:ops[i]?=some ⟨d,.binOp .eql t x y u,ty,pos,af,g⟩) (hw:Wt ops l g) [kh:KHeap kd S h H] [ex:OpV l x (.agg [.int .i64 a,.int .i64 b].toArray)] [ey:OpV l y (.agg [.int .i64 a',.int .i64 b'].toArray)] [KeyT P t]
  (hg:P.eqGuardType P.depth t=false) (e:a=a'∧b=b') [pf:PutV l d (.bool true) l'] (q:RegK m S ops r l' h C):RegK m S ops ((i,kd)::r) l h C:=by
 have he:=jqs (P:=P) (B:=B) (h:=H) 9998 (t:=t) a b a' b'
 have e2:(a==a'&&b==b')=true:=by simp [e]
 rw [e2] at he
 exact jjR ho hw hg he q
omit [LaidO B] in
theorem k_eqlCT {x:Operand} {b a' b':Int} {c c':Bool} (ho:ops[i]?=some ⟨d,.binOp .eql t x y u,ty,pos,af,g⟩) (hw:Wt ops l g) [kh:KHeap kd S h H] [ex:OpV l x (.agg [.bool c,.int .i64 a,.int .i64 b].toArray)] [ey:OpV l y (.agg [.bool c',.int .i64 a',.int .i64 b'].toArray)] [KeyCT P t]
  (hg:P.eqGuardType P.depth t=false) (e:c=c'∧a=a'∧b=b') [pf:PutV l d (.bool true) l'] (q:RegK m S ops r l' h C):RegK m S ops ((i,kd)::r) l h C:=by
 have he:=jii (P:=P) (B:=B) (h:=H) 9997 (t:=t) c c' a b a' b'
 have e2:(c==c'&&(a==a'&&b==b'))=true:=by simp [e]
 rw [e2] at he
 exact jjR ho hw hg he q
end
instance:KeyT Tryz.prog 53:=⟨by kernel_rfl⟩
theorem exC_sm:TbSm exC:=⟨by decide,by decide,by decide⟩
theorem f21_x (m:Md Tryz.prog B) (h:Hp) (r:RawTb B h exN ps 2 2 pw 2 2 pb 1 1):FnC m 21 #[tbV exN ps 2 2 pw 2 2 pb 1 1,cV false 0 1,str [49,45,50,45,48]] h fun v h'=> ∃nz,h'=h++nz∧ ∃pw' cw' pb' cb',v=tbV exN ps 2 2 pw' 2 cw' pb' 1 cb'∧RdLn B nz (.slice pw' 2 cw') 2 exC.waters∧RdLn B nz (.slice pb' 1 cb') 1 exC.butts:=by
 obtain ⟨lw,hlw,rlw,hfw⟩:=r.w
 obtain ⟨lb,hlb,rlb,hfb⟩:=r.u
 have hl:lw.length=2:=rlw.elen zA
 have h2:(lw.map (·.ln)).getD 0 default=(lw.getD 0 default).ln:=ja9 _ _ zO
 have h3:(lw.getD 0 default).ln.figs.length=2:=by rw [←h2,hlw];rfl
 have hfw':=fun x hx=>(⟨(hfw x hx).1,(hfw x hx).2 ((by decide: ∀l∈exN.waters,0<l.figs.length) x.ln (hlw▸gP.2 ⟨x,hx,rfl⟩))⟩:x.ln.figs.length≤x.c∧RdS B h 1 (.slice x.p x.ln.figs.length x.c) x.ln.figs.length (jay x.ln.figs))
 have hfb':=fun x hx=>(⟨(hfb x hx).1,(hfb x hx).2 ((by decide: ∀l∈exN.butts,0<l.figs.length) x.ln (hlb▸gP.2 ⟨x,hx,rfl⟩))⟩:x.ln.figs.length≤x.c∧RdS B h 1 (.slice x.p x.ln.figs.length x.c) x.ln.figs.length (jay x.ln.figs))
 refine CallF.mono (f21_c m h (b:=exN) rlw rlb zO zO hfw' hfb' (by rw [hlw];decide) (by rw [hlb];decide) false 0 1 [49,45,50,45,48] zO zN zO (by simp;simp at h3;omega)) ?_
 rintro v h' ⟨nz,pw',cw',pb',cb',e1,e2,e3,e4⟩;refine ⟨nz,e1,pw',cw',pb',cb',e2,?_,?_⟩
 ·rw [hlw] at e3
  exact e3
 ·rw [hlb] at e4
  exact e4
theorem f5_c (h:Hp):FnC (Md.starC Tryz.prog B) 5 #[] h fun v h'=> ∃nw,h'=ro h++nw∧v= .bool true:=by
 refine jae Tryz.func5 rfl rfl (l:=uu320) rfl ?_
 intro cf cs K hK
 refine Z6 ?_;refine D76 ?_
 rintro v nA ⟨pA1,pA2,pA3,rfl,raA⟩;refine jaG (jad ?_);refine D76 ?_
 rintro v nB ⟨pB1,pB2,pB3,rfl,raB⟩;refine jaG (jad ?_);have raN:=exN_raw raB
 refine jaB rfl zq (fun q1=>jap (jad ?_));refine jaB rfl zq (fun q2=>jap (jad ?_));refine D7 ?_;refine D7 ?_;refine Z4 ?_;refine D9 ?_;refine Z3 ?_;refine D39 ?_;refine D39 ?_
 refine jaB rfl zq (fun q3=>jap (jad ?_));refine jaB rfl zq (fun q4=>jap (jad ?_));refine D7 ?_;refine D7 ?_;refine Z5 ?_;refine jaJ rfl zq zK (Post:=fun v nw=> ∃pw' cw' pb' cb',v=tbV exN pB1 2 2 pw' 2 cw' pb' 1 cb'∧RdLn B nw (.slice pw' 2 cw') 2 exC.waters∧RdLn B nw (.slice pb' 1 cb') 1 exC.butts) (fun H' hH=>f21_x _ H' (raN.keeps (sq hH))) ?_
 rintro v nC ⟨pC2,cC2,pC3,cC3,rfl,wC,uC⟩;refine jaG (jad ?_);have raC: ∀H',nB.Sublist H'→nC.Sublist H'→RawTb B H' exC pB1 2 2 pC2 2 cC2 pC3 1 cC3:=fun H' s1 s2=>⟨raB.s.keeps s1,raB.sc,raB.sn,wC.keeps s2,by omega,uC.keeps s2,by omega,exC_sm⟩
 refine jaB rfl zq (fun q5=>jap (jad ?_));refine jjr ?_;refine jag (Post:=fun v=>v= .tuple [.int .i64 96,.int .i64 184,.int .i64 12,.int .i64 0].toArray) rfl zq zK (fun H' hH=>by have:=f22_c (Md.starC Tryz.prog B) H' [49,45,63,45,48] zA;rw [if_pos jiP.1,if_pos jiP.1,if_pos jiP.1,if_pos jiP.1,jiP.2.1,jiP.2.2.1,jiP.2.2.2] at this;exact this) ?_
 rintro v rfl;refine Z4 ?_;refine jlT rfl zq ?_;refine k_ext3 rfl zq ?_;refine Z7 ?_;refine jag (Post:=fun v=>v= .tuple [str [49,45,50,45,51],.int .i64 0].toArray) rfl zq zK (fun H' hH=>by have:=f23_c (Md.starC Tryz.prog B) H' 115;rw [if_pos zA,if_pos zA,show (115:Int).toNat=115 from rfl,ex_fig] at this;exact this) ?_
 rintro v rfl;refine Z10 ?_;refine jag (Post:=fun v=>v= .tuple [.int .i64 11,.int .i64 0].toArray) rfl zq zK (fun H' hH=>by have:=f8_c (Md.starC Tryz.prog B) H' (b:=exT) (raA.keeps (sq hH));rw [if_pos ex_ok,joj,ex_ok] at this;exact this) ?_
 rintro v rfl;refine Z10 ?_;refine jag (Post:=fun v=>v= .tuple [.int .i64 1,.int .i64 0].toArray) rfl zq zK (fun H' hH=>by have:=f8_c (Md.starC Tryz.prog B) H' (b:=exN) (raN.keeps (sq hH));rw [if_pos exN_ok,jmc,exN_ok] at this;exact this) ?_
 rintro v rfl;refine Z10 ?_;refine jag (Post:=fun v=>v= .tuple [.int .i64 0,.int .i64 0].toArray) rfl zq zK (fun H' hH=>by have:=f8_c (Md.starC Tryz.prog B) H' (b:=exC) (raC H' (sq hH) (sq hH));rw [if_pos jjY,jrK,jjY] at this;exact this) ?_
 rintro v rfl;refine Z11 ?_;refine jaJ rfl zq zK (Post:=fun v nw=> ∃w,v= .tuple [w,.int .i64 (jaO exT (jdN exT fiC))].toArray∧RdI B nw w (jj4 exT fiC)) (fun H' hH=>f10_s _ H' (b:=exT) (raA.keeps (sq hH)) fiC (by rw [joj];decide)) ?_
 rintro v nD ⟨w,rfl,hw⟩;refine jaG (jad ?_);rw [exT_can] at hw
 rw [jel.2.2.1];obtain ⟨pcT,ccT,rfl,rcT⟩:=hw
 refine Z10 ?_;refine jaJ rfl zq zK (Post:=fun v nw=> ∃w,v= .tuple [w,.int .i64 (jaO exN (jdN exN fiC))].toArray∧RdI B nw w (jj4 exN fiC)) (fun H' hH=>f10_s _ H' (b:=exN) (raN.keeps (sq hH)) fiC (by rw [jmc];decide)) ?_
 rintro v nE ⟨w,rfl,hw⟩;refine jaG (jad ?_);rw [exN_can] at hw
 rw [jel.2.2.2.1];obtain ⟨pcN,ccN,rfl,rcN⟩:=hw
 refine Z10 ?_;refine jag (Post:=fun v=>v= .tuple [.int .i64 0,.int .i64 0].toArray) rfl zq zK (fun H' hH=>by have:=f13_c (Md.starC Tryz.prog B) H' (b:=exT) (raA.keeps (sq hH)) buC;rw [if_pos jel.2.2.2.2.1,jrF,jel.2.2.2.2.1] at this;exact this) ?_
 rintro v rfl;refine Z11 ?_;refine jag (Post:=fun v=>v= .tuple [.int .i64 2,.int .i64 0].toArray) rfl zq zK (fun H' hH=>by have:=f13_c (Md.starC Tryz.prog B) H' (b:=exN) (raN.keeps (sq hH)) buC;rw [if_pos jel.2.2.2.2.2,jrG,jel.2.2.2.2.2] at this;exact this) ?_
 rintro v rfl;refine Z10 ?_;refine jag (Post:=fun v=> ∃w,v= .tuple [w,.int .i64 (tbS exT)].toArray∧IsB (tbS exT=0∧jbP (cdT exT)=true) w) rfl zq zK (fun H' hH=>f15_c _ H' (b:=exT) (raA.keeps (sq hH))) ?_
 rintro v ⟨w45,rfl,hw45⟩;obtain rfl:=isB_true hw45 ⟨ex_ok,ex_sound⟩
 rw [ex_ok];refine Z10 ?_;refine jbt rfl zq zK (f17_c _ (raC _ SubH.sub SubH.sub)) ?_
 rintro v h' ⟨nF,w40,g40,rfl,rfl,rg40,_,hl40⟩;refine Zs ?_
 obtain rfl:=jgN (hl40 jjY) exC_few
 rw [jjY];obtain ⟨p40,c40,rfl,r40⟩:=rg40
 have raCr: ∀H',(ro nB).Sublist H'→(ro nC).Sublist H'→RawTb B H' exC pB1 2 2 pC2 2 cC2 pC3 1 cC3:=fun H' s1 s2=>⟨raB.s.ro.keeps s1,raB.sc,raB.sn,(RdLn.ro wC).keeps s2,by omega,(RdLn.ro uC).keeps s2,by omega,exC_sm⟩
 simp only [jg9,joQ,jgC,jjI]
 simp only [jg9,joQ,jgC,jjI] at r40
 refine Z9 ?_;refine jbt rfl zq zK (f24_c _ (raCr _ SubH.sub SubH.sub)) ?_
 rintro v h' ⟨nG,w41,g41,rfl,rfl,rg41,_,_,hl41⟩;refine Zs ?_
 obtain rfl:=jgN (hl41 jjY (by rw [jrI];decide)) jrJ
 rw [jjY];obtain ⟨p41,c41,rfl,r41⟩:=rg41
 have raAr:=raA.ro
 have raNr:=raN.ro
 have r40r:=r40.ro
 have rcTr:=rcT.ro
 have rcNr:=rcN.ro
 simp only [jg9,joQ,jgC,jjI]
 simp only [jg9,joQ,jgC,jjI] at r41 r40r
 refine Z9 ?_;refine jag (Post:=fun v=>v= .tuple [.agg [.int .i64 96,.int .i64 132].toArray,.int .i64 0].toArray) rfl zq zK (fun H' hH=>by have:=f25_c (Md.starC Tryz.prog B) H' (b:=exN) (raNr.keeps (sq hH)) 1 96;rw [jm4,jrH.1] at this;exact this) ?_
 rintro v rfl;refine Z4 ?_
 refine jaB rfl zq (fun q32=>jap (jad ?_));refine D7 ?_;refine Z5 ?_;refine jag (Post:=fun v=>v= .tuple [.agg [.int .i64 72,.int .i64 128].toArray,.int .i64 0].toArray) rfl zq zK (fun H' hH=>by have:=f26_c (Md.starC Tryz.prog B) H' (b:=exN) (raNr.keeps (sq hH)) 1 100;rw [jpm,jrH.2] at this;exact this) ?_
 rintro v rfl;refine Z4 ?_
 refine jaB rfl zq (fun q34=>jap (jad ?_));refine jjr ?_;refine D60 ?_;refine Zs ?_;refine jag (Post:=fun v=>v= .tuple [.agg [.bool false,.int .i64 0,.int .i64 1].toArray,.int .i64 6,.bool true,.int .i64 0].toArray) rfl zq zK (fun H' hH=>by have:=f27_c (Md.starC Tryz.prog B) H' (b:=exT) (raAr.keeps (sq hH));rw [jm3.2.2,jm3.1,jm3.2.1,jel.1] at this;exact this) ?_
 rintro v rfl;refine Z4 ?_;refine jlT rfl zq ?_;refine k_ext3 rfl zq ?_
 refine jaB rfl zq (fun q36=>jap (jad ?_));refine D7 ?_;refine Z8 ?_;refine jaJ rfl zq zK (Post:=fun v nw=>TabO B (jkw exT fiC [49,45,48,45,63]) exR nw v) (fun H' hH=>f28_c _ H' (b:=exT) (raAr.keeps (sq hH)) fiC [49,45,48,45,63] zA) ?_
 rintro v nH ⟨x0,y1,z1,w1,y2,z2,w2,y3,z3,w3,rfl,_,hz⟩;refine jaG (jad ?_);obtain ⟨psexR,nsexR,ksexR,pwexR,nwexR,cwexR,pbexR,nbexR,cbexR,eexR,raexR⟩:=hz jma.1
 rw [eexR,jma.1];refine Z3 ?_
 refine jaB rfl zq (fun q40=>jap (jad ?_));refine D7 ?_;refine Z5 ?_;refine jag (Post:=fun v=>v= .tuple [.int .i64 7,.int .i64 0].toArray) rfl zq zK (fun H' hH=>by have:=f8_c (Md.starC Tryz.prog B) H' (b:=exR) (raexR.keeps (sq hH));rw [if_pos jma.2.1,jma.2.2,jma.2.1] at this;exact this) ?_
 rintro v rfl;refine Z11 ?_;refine jaJ rfl zq zK (Post:=fun v nw=>TabO B (putS exT buC [48,45,56,45,48]) exP nw v) (fun H' hH=>f29_c _ H' (b:=exT) (raAr.keeps (sq hH)) buC [48,45,56,45,48] zA) ?_
 rintro v nP ⟨x0,y1,z1,w1,y2,z2,w2,y3,z3,w3,rfl,_,hz⟩;refine jaG (jad ?_);obtain ⟨psexP,nsexP,ksexP,pwexP,nwexP,cwexP,pbexP,nbexP,cbexP,eexP,raexP⟩:=hz jmb.1
 rw [eexP,jmb.1];refine Z3 ?_
 refine jaB rfl zq (fun q44=>jap (jad ?_));refine D7 ?_;refine Z5 ?_;refine jag (Post:=fun v=>v= .tuple [.int .i64 38,.int .i64 0].toArray) rfl zq zK (fun H' hH=>by have:=f8_c (Md.starC Tryz.prog B) H' (b:=exP) (raexP.keeps (sq hH));rw [if_pos jmb.2.1,jmb.2.2,jmb.2.1] at this;exact this) ?_
 rintro v rfl;refine Z9 ?_;refine jbC [Zf 0,Zf 1,Zf 2,Zf 3,Zf 4,Zf 5,Zf 6,Zf 7,Zf 8,Zf 9,Zf 10,Zf 11,Zf 12,Zf 13,Zf 14,Zf 15,Zf 16,Zf 17,Zf 18,Zf 19,Zf 20,Zf 21,Zf 22,Zf 23,Zf 24,Zf 25,Zf 26,Zf 27,Zf 28,Zf 29,Zf 30,Zf 31,Zf 32,Zf 33,Zf 34,Zf 35,Zf 36,Zf 37,Zf 38,Zf 39,Zf 40,Zf 41,Zf 42,Zf 43,Zf 44,Zf 45,Zf 46,Zf 47,Zf 48,Zf 49,Zf 50,Zf 51,Zf 52,Zf 53,Zf 54,Zf 55,Zf 56,Zf 57,Zf 58,Zf 59,Zf 60,Zf 61,Zf 62,Zf 63,Zf 64,Zf 65,Zf 66,Zf 67,Zf 68,Zf 69,Zf 70,Zf 71,Zf 72,Zf 73] zK zK ?_;refine Zs ?_;refine jfj rfl zq zA ?_;refine Z2 ?_;refine D148 ?_;refine D148 ?_;refine D148 ?_;refine D148 ?_;refine D148 ?_;refine D148 ?_;refine D148 ?_;refine D148 ?_;refine D133 ?_;refine D20 ?_;refine Z6 ?_;refine jbC [Zf 0,Zf 1,Zf 2,Zf 3,Zf 4,Zf 5,Zf 6,Zf 7,Zf 8,Zf 9,Zf 10,Zf 11,Zf 12,Zf 13,Zf 14,Zf 15,Zf 16,Zf 17,Zf 18,Zf 19,Zf 20,Zf 21,Zf 22,Zf 23,Zf 24,Zf 25,Zf 26,Zf 27,Zf 28,Zf 29,Zf 30,Zf 31,Zf 32,Zf 33,Zf 34,Zf 35,Zf 36,Zf 37] zK zK ?_;refine Zs ?_;refine jfj rfl zq zA ?_;refine Z2 ?_;refine D148 ?_;refine jgO rfl rfl rfl ?_;refine Z3 ?_;refine D148 ?_;refine D133 ?_
 refine jcb kdq rfl rfl zA zA rfl (fun q261=>jap (jad ?_));have rd261:RdS B [⟨true,q261,.cells [.int .i64 96,.int .i64 104,.int .i64 112,.int .i64 120,.int .i64 128].toArray 3 (0,0)⟩] 1 (.slice (some ⟨q261,0,none⟩) 5 5) 5 (jaq [96,104,112,120,128]):=(OwnS.full (t:=3) (q:=q261) (cs:=jaq [96,104,112,120,128]) rfl).rd (gE _)
 refine jag (Post:=fun v=>IsB _ v) rfl rfl zK (fun H' hH=>f30_c _ H' (rcTr.keeps (sq hH)) zA (rd261.keeps (sq hH))) ?_;rintro v (⟨hc,rfl⟩|⟨hc,rfl⟩)
 ·refine jpD ?_;refine Z3 ?_
  refine jcb kdq rfl rfl zA zA rfl (fun q267=>jap (jad ?_));have rd267:RdS B [⟨true,q267,.cells [.int .i64 96].toArray 3 (0,0)⟩] 1 (.slice (some ⟨q267,0,none⟩) 1 1) 1 (jaq [96]):=(OwnS.full (t:=3) (q:=q267) (cs:=jaq [96]) rfl).rd (gE _)
  refine jag (Post:=fun v=>IsB _ v) rfl rfl zK (fun H' hH=>f30_c _ H' (rcNr.keeps (sq hH)) zA (rd267.keeps (sq hH))) ?_;rintro v (⟨hc,rfl⟩|⟨hc,rfl⟩)
  ·refine jpD ?_;refine Z5 ?_;refine jbC [Zf 0,Zf 1,Zf 2,Zf 3,Zf 4,Zf 5,Zf 6,Zf 7,Zf 8,Zf 9,Zf 10,Zf 11,Zf 12,Zf 13,Zf 14,Zf 15,Zf 16,Zf 17,Zf 18,Zf 19,Zf 20,Zf 21,Zf 22,Zf 23,Zf 24,Zf 25,Zf 26,Zf 27,Zf 28,Zf 29,Zf 30,Zf 31,Zf 32,Zf 33,Zf 34,Zf 35,Zf 36,Zf 37,Zf 38,Zf 39,Zf 40,Zf 41,Zf 42,Zf 43,Zf 44,Zf 45,Zf 46,Zf 47,Zf 48,Zf 49] zK zK ?_;refine Zs ?_;refine jfk rfl zq zA ?_;refine Z2 ?_;refine jfk rfl rfl zA ?_;refine Z6 ?_
   refine jcb kdq rfl rfl zA zA rfl (fun q282=>jap (jad ?_));have rd282:RdS B [⟨true,q282,.cells [.int .i64 1].toArray 3 (0,0)⟩] 1 (.slice (some ⟨q282,0,none⟩) 1 1) 1 (jaq [1]):=(OwnS.full (t:=3) (q:=q282) (cs:=jaq [1]) rfl).rd (gE _)
   refine jag (Post:=fun v=>IsB _ v) rfl rfl zK (fun H' hH=>f30_c _ H' (r40r.keeps (sq hH)) zA (rd282.keeps (sq hH))) ?_;rintro v (⟨hc,rfl⟩|⟨hc,rfl⟩)
   ·refine Z4 ?_
    refine jcb kdq rfl rfl zA zA rfl (fun q287=>jap (jad ?_));have rd287:RdS B [⟨true,q287,.cells [.int .i64 1,.int .i64 5].toArray 3 (0,0)⟩] 1 (.slice (some ⟨q287,0,none⟩) 2 2) 2 (jaq [1,5]):=(OwnS.full (t:=3) (q:=q287) (cs:=jaq [1,5]) rfl).rd (gE _)
    refine jag (Post:=fun v=>IsB _ v) rfl rfl zK (fun H' hH=>f30_c _ H' (r41.keeps (sq hH)) zA (rd287.keeps (sq hH))) ?_;rintro v (⟨hc,rfl⟩|⟨hc,rfl⟩)
    ·refine Z3 ?_;refine jhx rfl rfl ?_;refine k_bld rfl rfl ?_;refine jri rfl rfl zK zA ?_;refine Z2 ?_;refine jhx rfl rfl ?_;refine k_bld rfl rfl ?_;refine jri rfl rfl zK zA ?_;refine Z2 ?_;refine jhx rfl rfl ?_;refine jhx rfl rfl ?_;refine k_eqlCT rfl rfl zK zA ?_;refine Z3 ?_;refine jfk rfl rfl zA ?_;refine Z6 ?_;refine jfk rfl rfl zA ?_;refine Z3 ?_;refine jfk rfl rfl zA ?_;refine Z4 ?_;refine jac (ro h) rfl Tryz.func5 rfl jaa ?_;refine Zs ?_
     exact ⟨[],by simp,rfl⟩
    ·refine Zs ?_
     exact absurd rfl hc
   ·refine Zs ?_
    exact absurd rfl hc
  ·refine Zs ?_
   exact absurd rfl hc
 ·refine Zs ?_
  exact absurd rfl hc
end
end Go.Proofs
namespace Go.Proofs
open Go.Lo
section
theorem jiY (hi:i<(jab b).length):jeu b ((jab b).getD i default)=true∧jcG b ((jab b).getD i default)≠jjn:=jeT (jal hi)
theorem jrX (hi:i<(jab b).length):(dA (cdT b) i).can=jdw (jcG b ((jab b).getD i default)):=by rw [jav b hi];rfl
theorem jdL (h:tbS b=0):TbOk b:=jbH.1 h
end
theorem jnx (b:Tb) (c:Ce) (f:Str):(jdR b c f).sts=b.sts∧(jdR b c f).wrong=b.wrong:=by unfold jdR;split<;>exact ⟨rfl,rfl⟩
end Go.Proofs
namespace Go.Proofs
open Go.Lo
open Go.Conc (G)
section
variable [LaidO B]
section
variable {m:Md P B}
end
theorem told_eq (n m:Nat):(if (n:Int)=0 then (2:Int) else if (n:Int)=(m:Int) then 1 else 0)=jfo n m:=by
 unfold jfo
 by_cases h:n=0
 ·rw [if_pos h,if_pos zO]
 ·rw [if_neg h,if_neg zO];by_cases h2:n=m
  ·rw [if_pos h2,if_pos zO]
  ·rw [if_neg h2,if_neg zO]
section
theorem f40_r (m:Md Tryz.prog B) (h:Hp) (r:RawTb B h b ps ns ks pw nw cw pb nb cb):FnC m 40 #[tbV b ps ns ks pw nw cw pb nb cb] h fun v h'=>h'=h∧v= .int .i64 (tbS b):=f40_c m h r.s r.sc r.sn r.sm.sts r.w r.wn r.u r.un r.sm
theorem raw_of (rds:RdS B h 1 (.slice ps ns ks) ns (jay b.sts)) (hcs:ns≤ks) (rdw:RdLn B h (.slice pw nw cw) nw b.waters) (rdb:RdLn B h (.slice pb nb cb) nb b.butts) (hg: ¬jr5 b):RawTb B h b ps ns ks pw nw cw pb nb cb:=by
 have hml:=rds.elen zA
 have hwl:=jcv rdw
 have hbl:=jcv rdb
 have h1:ns≤20:=vZ fun x=>hg (.inl zO)
 have h2:nw≤20:=vZ fun x=>hg (.inr (.inl zO))
 have h3:nb≤20:=vZ fun x=>hg (.inr (.inr (.inl zO)))
 exact ⟨rds,hcs,by omega,rdw,by omega,rdb,by omega,small_tb hg⟩
theorem fig_sm (sm:TbSm b) (k:TbOk b) {c:Ce} (hc:jeu b c=true):(jcG b c).length≤100000:=by
 have h1:=fig_mem k hc
 have h2:=jhJ hc
 unfold jbo at h2
 split at h2
 ·exact (sm.but _ h2).2 _ h1
 ·exact (sm.wat _ h2).2 _ h1
end
end
end Go.Proofs
namespace Go.Proofs.YtkaokkedapnfhaaGreatDoor
open Go Go.Lo Go.ChangeShapes Go.WideShapes Go.ChangeAt Go.RowKit Go.Conc
theorem jlg (Lk:Looks) {p:Pinned} {s:OpenSpec} {k:StoodClaim8} {ks:List StandKind} (kinds:List LaidKind) (tests:Bool) (h:Claim7.holdsNew p (.plain s) {stood:=k,kinds:=ks}) (hw:k.row.wfByText s=true):
  Claim7.holdsNew p (.plain s) {stood:=k,kinds:=ks,goes:=true,laidByText:=true,laidKinds:=kinds,laidTests:=tests,laidLooks:=Lk}:=by
 obtain ⟨_,rest⟩:=h
 exact ⟨hw,rest⟩
theorem card_of (Lk:Looks) {p:Pinned} {s:OpenSpec} {c:OpenClaim} (kinds:List LaidKind) (tests:Bool) (har:Bool×String) (lk:Bool)
  (hc:c.holds p s) (hw:c.wfByText s=true) (htie:c.laidByTextAt Lk p kinds tests)
  (hst:c.start= .entering) (hnb:c.noBlocks=false∧c.again=false) (hm:p.checked.prog.mainIs=some (har.1,har.2.toList)) (hn:(!har.1&&har.2.isEmpty&&!lk)=false)
  (hl: ∀f fn,p.checked.prog.funcNamed c.func=some f→p.checked.prog.funcs[f]?=some fn→lk=p.checked.prog.looks []∧ ∀(j:Nat) t,fn.params[j]?=some t→p.checked.prog.wantsStandIn t=false)
  (hg:true=c.goesBy p.checked.prog):
  Claim7.holds p (.plain s) {stood:={row:=c,standIns:=[],harness:=har,looks:=lk},kinds:=[],alts:=[],goes:=true,laidByText:=true,laidKinds:=kinds,laidTests:=tests,laidLooks:=Lk}:=by
 have h6: ∀r:OpenClaim,Claim7.isSixth {stood:={row:=r,standIns:=[],harness:=har,looks:=lk},kinds:=[]}=false:=fun r=>by simpa [Claim7.isSixth] using hn
 exact ⟨jlg Lk kinds tests (Claim7.new_of_sixth hc har lk hst hnb hm (h6 c) hl) hw,(fun D hD=>by cases hD),htie,(fun h=>by cases h),hg⟩
theorem own:ownKnob Tryz.prog.godebug=none:=by kernel_rfl
theorem jiy:laidOutB Tryz.prog=true:=by kernel_rfl
theorem laidOutP:laidOutB Tryz.pinned.checked.prog=true:=jiy
def laidL:List (String×DataW Unit):=[("math/bits.deBruijn32tab",Rows.laid_math_bits_deBruijn32tab),("math/bits.deBruijn64tab",Rows.laid_math_bits_deBruijn64tab),("internal/strconv.uint64pow10",Rows.laid_internal_strconv_uint64pow10),("ribband/offsets.mosts",Rows.laid_ribband_offsets_mosts),("ribband/offsets.halves",Rows.laid_ribband_offsets_halves)]
theorem door_met (os:Os) (args:Array Value):laidMetH Tryz.prog laidL ((World.doorLaid Tryz.prog 36 os).forCall (fun _ _=>0) ⟨#[],args,[]⟩).memory:=by
 have d:((DataW.laidRun Tryz.prog ((World.doorLaid Tryz.prog 36 os).forCall (fun _ _=>0) ⟨#[],args,[]⟩).memory 8 ((laidL.filter fun x=>x.2.handleName?.isNone).map (·.1))).bind fun x=>
   if nodupBits 65 x.2 0&&laidRowsB Tryz.prog ((World.doorLaid Tryz.prog 36 os).forCall (fun _ _=>0) ⟨#[],args,[]⟩).memory x.2&&(laidL.filter fun x=>x.2.handleName?.isSome&&x.2.funcsIn?.isNone).all (handleAtB Tryz.prog ((World.doorLaid Tryz.prog 36 os).forCall (fun _ _=>0) ⟨#[],args,[]⟩).memory)
   then (funcsRun Tryz.prog ((World.doorLaid Tryz.prog 36 os).forCall (fun _ _=>0) ⟨#[],args,[]⟩).memory 8 ((funcsListed laidL).map (·.1))).map fun y=>(x.1,y) else none)=some (laidL.filter fun x=>x.2.handleName?.isNone,(funcsListed laidL).map (·.2.funcsOut)):=by kernel_rfl
 simp only [Option.bind_eq_some_iff] at d
 obtain ⟨x,hx,d⟩:=d
 split at d
 ·rename_i hb
  simp only [gK] at hb
  simp only [VE,vn] at d
  obtain ⟨y,hy,e1,e2⟩:=d
  exact laidMetH_of_parts3 (fuel:=8) (laidMet_of_run (ps:=x.2) 8 (by rw [hx,←e1]) (decide_eq_true (nodupBits_sound hb.1.1).1) hb.1.2) hb.2 (by rw [hy,e2])
 ·cases d
theorem str_lit {s:ByteArray} {l:List UInt8} (h:s.data.toList=l):Value.string s=str l:=by subst h;exact str_of s
theorem jrq (h:laidMetH Tryz.prog laidL W): ∃t f,W.heap[0]?=some (.cells [str [119,97,116,101,114],.bool false,.func (.func 207) #[] #[],str [98,117,116,116],.bool true,.func (.func 208) #[] #[]].toArray t f):=by
 obtain ⟨g,t,cs,fuel,p,hg,ht,hv,hd⟩:=h.funcs (n:= "ribband/offsets.halves") (gN _ (gN _ (gN _ (gN _ (gk ..)))))
 obtain rfl:=gF ((show Tryz.prog.globalNamed "ribband/offsets.halves" =some 0 by kernel_rfl).symm.trans hg)
 obtain rfl:=gF ((show (Tryz.prog.globals[0]?).map (·.type)=some 136 by kernel_rfl).symm.trans ht)
 have hu: Tryz.prog.underlying 136=some (.array 2 135):=by kernel_rfl
 obtain ⟨fs,hs,hfs⟩: ∃fs,Tryz.prog.underlying 135=some (.struct fs)∧fs.toList.map (fun f=>(f.offset,f.type))=[(0,9),(1,4),(2,133)]:=⟨_,Tryz.underlying135,by kernel_rfl⟩
 have c3: Tryz.prog.cellsOf 135=3:=by kernel_rfl
 have k9: Tryz.prog.cellsOf 9=1:=by kernel_rfl
 have k4: Tryz.prog.cellsOf 4=1:=by kernel_rfl
 have kf: Tryz.prog.cellsOf 133=1:=by kernel_rfl
 have u9: Tryz.prog.underlying 9=some .string:=by kernel_rfl
 have u4: Tryz.prog.underlying 4=some .bool:=by kernel_rfl
 obtain ⟨qs,rs,va,hfun⟩: ∃qs rs va,Tryz.prog.underlying 133=some (.func qs rs va):=⟨_,_,_,Tryz.underlying133⟩
 obtain ⟨f0,f1,f2,rfl⟩: ∃f0 f1 f2,fs= #[f0,f1,f2]:=by
  obtain ⟨fl⟩:=fs
  have hlen:fl.length=3:=by simpa using congrArg List.length hfs
  match fl,hlen with
  |[f0,f1,f2],_=>exact ⟨_,_,_,rfl⟩
 simp only [gu,vh,Gb,vn,and_true] at hfs
 obtain ⟨⟨o0,t0⟩,⟨o1,t1⟩,o2,t2⟩:=hfs
 obtain ⟨xs,m,_,ex,hl,hxl,hx⟩:=DataW.trod_array hu hd
 have hl6:cs.toList.length=6:=hl.trans zK
 obtain ⟨cl⟩:=cs
 obtain ⟨c0,c1,c2,d0,d1,d2,rfl⟩: ∃c0 c1 c2 d0 d1 d2,cl=[c0,c1,c2,d0,d1,d2]:=by
  match cl,hl6 with
  |[c0,c1,c2,d0,d1,d2],_=>exact ⟨_,_,_,_,_,_,rfl⟩
 obtain ⟨y0,y1,rfl⟩: ∃y0 y1,xs=[y0,y1]:=by
  match xs,hxl with
  |[y0,y1],_=>exact ⟨_,_,rfl⟩
 have e2: ∃a b:List UInt8,(Rows.laid_ribband_offsets_halves:DataW Unit)= .iface "func table" (.agg [.agg [.lit (.string [119,97,116,101,114]),.lit (.bool false),.iface "func" (.lit (.string a))],.agg [.lit (.string [98,117,116,116]),.lit (.bool true),.iface "func" (.lit (.string b))]])∧
   ((List.range Tryz.prog.funcs.size).filter fun f=>(Tryz.prog.funcs[f]?).any (·.name.toUTF8.data.toList==a))=[207]∧((List.range Tryz.prog.funcs.size).filter fun f=>(Tryz.prog.funcs[f]?).any (·.name.toUTF8.data.toList==b))=[208]∧a≠[]∧b≠[]∧
   [y0.1,y1.1]=[.agg [.lit (.string [119,97,116,101,114]),.lit (.bool false),.held a],.agg [.lit (.string [98,117,116,116]),.lit (.bool true),.held b]]:=by
  refine ⟨_,_,rfl,by kernel_rfl,by kernel_rfl,by simp,by simp,?_⟩
  have:=congrArg Prod.fst ex
  simp only [DataW.funcsOut,DataW.funcsOutAll,gu,vh] at this
  injection this with this
  exact this.symm
 obtain ⟨a,b,_,fa,fb,na,nb,e3⟩:=e2
 simp only [Gb,and_true] at e3
 obtain ⟨z0,z1⟩:=e3
 have key: ∀(u0 u1 u2:Value) (y:DataW (List UInt8)×List MemPlace) (s:List UInt8) (bb:Bool) (l:List UInt8) (fn:FuncId),DataW.trod (funcToken Tryz.prog) Tryz.prog W 0 (fun _=>true) true m 135 [u0,u1,u2]=some y→y.1= .agg [.lit (.string s),.lit (.bool bb),.held l]→l≠[]→((List.range Tryz.prog.funcs.size).filter fun f=>(Tryz.prog.funcs[f]?).any (·.name.toUTF8.data.toList==l))=[fn]→u0=str s∧u1= .bool bb∧u2= .func (.func fn) #[] #[]:=by
  intro u0 u1 u2 y s bb l fn h1 h2 h3 h4
  obtain ⟨ys,k,_,ey,_,hyl,hy⟩:=DataW.trod_struct hs h1
  obtain ⟨w0,w1,w2,rfl⟩: ∃w0 w1 w2,ys=[w0,w1,w2]:=by
   match ys,hyl with
   |[w0,w1,w2],_=>exact ⟨_,_,_,rfl⟩
  have g0:=hy 0 f0 rfl
  have g1:=hy 1 f1 rfl
  have g2:=hy 2 f2 rfl
  rw [t0,o0,k9] at g0
  rw [t1,o1,k4] at g1
  rw [t2,o2,kf] at g2
  obtain ⟨s0,q0,x0,_⟩:=DataW.trod_string u9 g0
  obtain ⟨b0,q1,x1⟩:=DataW.trod_bool u4 g1
  subst ey
  simp only [gu,vh,DataW.agg.injEq,Gb,and_true] at h2
  obtain ⟨e0,e1,e2⟩:=h2
  rw [x0] at e0
  rw [x1] at e1
  have q0':=gy (show [u0]=[Value.string s0] from q0)
  have q1':=gy (show [u1]=[Value.bool b0] from q1)
  refine ⟨by rw [q0'];exact str_lit (by simpa using e0),by rw [q1'];congr 1;simpa using e1,?_⟩
  obtain ⟨w21,w22⟩:=w2
  obtain rfl:w21= .held l:=e2
  cases l with
  |nil=>exact absurd rfl h3
  |cons b0 r0=>exact func_of_trod hfun h4 g2
 have g0:=hx 0 zO
 have g1:=hx 1 zO
 rw [c3] at g0 g1
 obtain ⟨rfl,rfl,rfl⟩:=key c0 c1 c2 y0 _ _ a 207 g0 z0 na fa
 obtain ⟨rfl,rfl,rfl⟩:=key d0 d1 d2 y1 _ _ b 208 g1 z1 nb fb
 unfold World.var? at hv
 rw [hg] at hv
 simp only [VO] at hv
 split at hv
 ·rename_i cs t f hb
  obtain rfl:=gF hv
  exact ⟨t,f,hb⟩
 ·cases hv
theorem mosts_of (h:laidMetH Tryz.prog laidL W): ∃t f,W.heap[1]?=some (.cells [.int .i64 9,.int .i64 11,.int .i64 7].toArray t f):=by
 obtain ⟨ps,hl,_,_⟩:=(laidMetH_iff.1 h).1
 have e:(laidL.filter fun x=>x.2.handleName?.isNone)=[("math/bits.deBruijn32tab",Rows.laid_math_bits_deBruijn32tab),("math/bits.deBruijn64tab",Rows.laid_math_bits_deBruijn64tab),("internal/strconv.uint64pow10",Rows.laid_internal_strconv_uint64pow10),("ribband/offsets.mosts",Rows.laid_ribband_offsets_mosts)]:=by kernel_rfl
 rw [e] at hl
 obtain ⟨_,_,_,_,_,_,_,_,_,_,hl,_⟩:=hl
 obtain ⟨_,_,_,_,_,_,_,_,_,_,hl,_⟩:=hl
 obtain ⟨_,_,_,_,_,_,_,_,_,_,hl,_⟩:=hl
 obtain ⟨g,t,cs,fuel,p,q,hg,ht,hv,hd,_,_⟩:=hl
 obtain rfl:=gF ((show Tryz.prog.globalNamed "ribband/offsets.mosts" =some 1 by kernel_rfl).symm.trans hg)
 obtain rfl:=gF ((show (Tryz.prog.globals[1]?).map (·.type)=some 117 by kernel_rfl).symm.trans ht)
 have hu: Tryz.prog.underlying 117=some (.array 3 3):=by kernel_rfl
 have h3: Tryz.prog.underlying 3=some (.int .i64):=by kernel_rfl
 have c3: Tryz.prog.cellsOf 3=1:=by kernel_rfl
 obtain ⟨xs,m,_,ex,hl3,hxl,hx⟩:=DataW.trod_array hu hd
 have hl3:cs.toList.length=3:=hl3.trans zK
 obtain ⟨cl⟩:=cs
 obtain ⟨c0,c1,c2,rfl⟩: ∃c0 c1 c2,cl=[c0,c1,c2]:=by
  match cl,hl3 with
  |[c0,c1,c2],_=>exact ⟨_,_,_,rfl⟩
 obtain ⟨y0,y1,y2,rfl⟩: ∃y0 y1 y2,xs=[y0,y1,y2]:=by
  match xs,hxl with
  |[y0,y1,y2],_=>exact ⟨_,_,_,rfl⟩
 have g0:=hx 0 zO
 have g1:=hx 1 zO
 have g2:=hx 2 zO
 rw [c3] at g0 g1 g2
 obtain ⟨n0,q0,x0,_⟩:=DataW.trod_int h3 g0
 obtain ⟨n1,q1,x1,_⟩:=DataW.trod_int h3 g1
 obtain ⟨n2,q2,x2,_⟩:=DataW.trod_int h3 g2
 obtain rfl:=gy (show [c0]=[Value.int .i64 n0] from q0)
 obtain rfl:=gy (show [c1]=[Value.int .i64 n1] from q1)
 obtain rfl:=gy (show [c2]=[Value.int .i64 n2] from q2)
 have ex1:=congrArg Prod.fst ex
 have ex2:(DataW.agg [.lit (.int .i64 9),.lit (.int .i64 11),.lit (.int .i64 7)]:DataW Unit)= .agg [y0.1,y1.1,y2.1]:=ex1
 rw [x0,x1,x2] at ex2
 simp only [DataW.agg.injEq,Gb,DataW.lit.injEq,Lit.int.injEq,true_and,and_true] at ex2
 obtain ⟨rfl,rfl,rfl⟩:=ex2
 unfold World.var? at hv
 rw [hg] at hv
 simp only [VO] at hv
 split at hv
 ·rename_i cs t f hb
  obtain rfl:=gF hv
  exact ⟨t,f,hb⟩
 ·cases hv
theorem laid_of (h:laidMetH Tryz.prog laidL W):LaidO W.heap:=⟨jrq h,mosts_of h⟩
theorem pin_main: Tryz.pinned.checked.prog.mainIs=some (true, "4ff7c1189c36e74e17a2183620bba8cf811f65bafb89284bc5cdf1d26adc3536".toList):=by kernel_rfl
theorem jqv:false= Tryz.pinned.checked.prog.looks []:=by kernel_rfl
end Go.Proofs.YtkaokkedapnfhaaGreatDoor
