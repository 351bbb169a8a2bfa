/- A part of the proof of a law. Condition of each theorem: as its statement says. -/
import Derived.Test.YtggpepeiedkbbaaGreatDoorVK5
set_option linter.all false
variable {A:Prop} {B:Array Go.Obj} {xs ys ln v mo:List Int} {p p2 pa ps pw pb pl:Option Go.Addr} {n k q i j bk e mm ns ks nw cw nb cb:Nat} {t ty u:Go.TypeId} {cs junk l l':List Go.Value} {h S h' H X F M:Go.Lo.Hp} {a b z:Int} {P:Go.Program} {ops:Array Go.Oper} {C:List Go.Value→Go.Lo.Hp→Prop} {kd:Go.Lo.Kd} {r:List (Nat×Go.Lo.Kd)} {d:Option Go.Tmp} {pos:String} {af:Array Go.Edge} {g:Option (Nat×Bool)} {y:Go.Operand} {f:Nat×Nat} {ss:List Go.Lo.Str}
set_option maxHeartbeats 4000000
set_option maxRecDepth 100000
set_option synthInstance.maxHeartbeats 1000000
set_option synthInstance.maxSize 100000
namespace Go.Lo
open Go.Conc (G)
structure Wr (B:Prop):Prop where
  g:B
section
variable {A B:Prop}
theorem Zs (b:B) (h:Wr B→A:=by intro zx;(first|refine jad ?_|refine k_nil ?_|refine mq rfl ?_|refine jcH ?_|refine k_as rfl zq ?_|refine k_off rfl rfl ?_|refine run_no ?_|refine run_ret rfl ?_|refine k_mv rfl rfl ?_|refine run_skip ?_|refine run_yes ?_|refine rr1 ?_|refine rr2 ?_|(first|refine k_fa0 rfl zq ?_|refine k_fa rfl zq ?_)|refine rr3 ?_|refine jhI rfl zq ?_|refine jqu ?_|refine k_ldh rfl zq ?_|refine k_add rfl zq (by unfold jeg;omega) ?_|refine jq8 rfl zq ?_|refine rr4 ?_|refine jmX ?_|refine jq7 rfl zq ?_|refine jkO rfl zq ?_|refine i_seq ?_|refine run_exit rfl ?_|refine jpI rfl zq ?_|refine jmc ?_|refine k_nilC rfl zq ?_|refine rr5 ?_|refine k_ext0 rfl zq ?_|refine k_ext1 rfl zq ?_|refine i_region rfl ?_|refine rr7 ?_|refine i_off rfl rfl ?_|refine joj rfl zq ?_|refine rr6 ?_|refine jhw rfl zq ?_|refine rr8 ?_|(first|refine k_fa0 rfl rfl ?_|refine k_fa rfl rfl ?_)|refine jq8 rfl rfl ?_|refine i_as rfl zq ?_|refine rr9 ?_|refine jq7 rfl rfl ?_|refine k_ixa rfl zq zO zO ?_|refine i_else ?_|refine i_skip ?_|refine k_ixa rfl rfl zO zO ?_|refine jq6 rfl zq (by unfold jeg;omega) ?_|refine rr10 ?_|refine jl6 rfl zq jjC ?_|refine jpm rfl zq ?_|(first|refine i_fa0 rfl zq ?_|refine i_fa rfl zq ?_)|refine i_pickF rfl zq ?_|refine k_nilC rfl rfl ?_|refine i_if ?_|refine i_ret rfl ?_|refine k_ldh rfl rfl ?_|refine hK _ _ ?_);exact zx.g):A:=h ⟨b⟩
theorem Z2 (b:B) (h:Wr B→A:=by intro zx;(iterate 2 (refine Zs ?_));exact zx.g):A:=h ⟨b⟩
theorem Z3 (b:B) (h:Wr B→A:=by intro zx;(iterate 3 (refine Zs ?_));exact zx.g):A:=h ⟨b⟩
theorem Z4 (b:B) (h:Wr B→A:=by intro zx;(iterate 4 (refine Zs ?_));exact zx.g):A:=h ⟨b⟩
theorem Z5 (b:B) (h:Wr B→A:=by intro zx;(iterate 5 (refine Zs ?_));exact zx.g):A:=h ⟨b⟩
theorem Z6 (b:B) (h:Wr B→A:=by intro zx;(iterate 6 (refine Zs ?_));exact zx.g):A:=h ⟨b⟩
theorem Z7 (b:B) (h:Wr B→A:=by intro zx;(iterate 7 (refine Zs ?_));exact zx.g):A:=h ⟨b⟩
theorem Z8 (b:B) (h:Wr B→A:=by intro zx;(iterate 8 (refine Zs ?_));exact zx.g):A:=h ⟨b⟩
theorem Z9 (b:B) (h:Wr B→A:=by intro zx;(iterate 9 (refine Zs ?_));exact zx.g):A:=h ⟨b⟩
theorem Z10 (b:B) (h:Wr B→A:=by intro zx;(iterate 10 (refine Zs ?_));exact zx.g):A:=h ⟨b⟩
theorem Z11 (b:B) (h:Wr B→A:=by intro zx;(iterate 11 (refine Zs ?_));exact zx.g):A:=h ⟨b⟩
theorem Z12 (b:B) (h:Wr B→A:=by intro zx;(iterate 12 (refine Zs ?_));exact zx.g):A:=h ⟨b⟩
theorem Z13 (b:B) (h:Wr B→A:=by intro zx;(iterate 13 (refine Zs ?_));exact zx.g):A:=h ⟨b⟩
theorem Z14 (b:B) (h:Wr B→A:=by intro zx;(iterate 14 (refine Zs ?_));exact zx.g):A:=h ⟨b⟩
theorem Z15 (b:B) (h:Wr B→A:=by intro zx;(iterate 15 (refine Zs ?_));exact zx.g):A:=h ⟨b⟩
theorem Z16 (b:B) (h:Wr B→A:=by intro zx;(iterate 16 (refine Zs ?_));exact zx.g):A:=h ⟨b⟩
theorem Z17 (b:B) (h:Wr B→A:=by intro zx;(iterate 17 (refine Zs ?_));exact zx.g):A:=h ⟨b⟩
theorem Z18 (b:B) (h:Wr B→A:=by intro zx;(iterate 18 (refine Zs ?_));exact zx.g):A:=h ⟨b⟩
theorem Z19 (b:B) (h:Wr B→A:=by intro zx;(iterate 19 (refine Zs ?_));exact zx.g):A:=h ⟨b⟩
theorem Z20 (b:B) (h:Wr B→A:=by intro zx;(iterate 20 (refine Zs ?_));exact zx.g):A:=h ⟨b⟩
theorem Z21 (b:B) (h:Wr B→A:=by intro zx;(iterate 21 (refine Zs ?_));exact zx.g):A:=h ⟨b⟩
theorem Z22 (b:B) (h:Wr B→A:=by intro zx;(iterate 22 (refine Zs ?_));exact zx.g):A:=h ⟨b⟩
theorem Z23 (b:B) (h:Wr B→A:=by intro zx;(iterate 23 (refine Zs ?_));exact zx.g):A:=h ⟨b⟩
theorem Z24 (b:B) (h:Wr B→A:=by intro zx;(iterate 24 (refine Zs ?_));exact zx.g):A:=h ⟨b⟩
theorem Z29 (b:B) (h:Wr B→A:=by intro zx;(iterate 29 (refine Zs ?_));exact zx.g):A:=h ⟨b⟩
theorem Z30 (b:B) (h:Wr B→A:=by intro zx;(iterate 30 (refine Zs ?_));exact zx.g):A:=h ⟨b⟩
theorem Z34 (b:B) (h:Wr B→A:=by intro zx;(iterate 34 (refine Zs ?_));exact zx.g):A:=h ⟨b⟩
theorem Z37 (b:B) (h:Wr B→A:=by intro zx;(iterate 37 (refine Zs ?_));exact zx.g):A:=h ⟨b⟩
theorem D0 (b:B) (h:Wr B→A:=by intro zx;refine jax rfl zq zK (Post:=fun v nz=>jhh B b (tbL b ps ns ks pw nw cw pb nb cb) (jaH b (jfx b st x)) nz v) (fun H' hH=>f88_c m H' (ra.keeps (sq hH)) callB145 (fun hk K q hKs hs=>by simpa [jfx,hsl] using f145_c m K hs hsl hns ((rd_has (q:=qs)).keeps (hH.trans hKs)) ((rd_has (q:=qa)).keeps (hH.trans hKs)))) ?_;exact zx.g):A:=h ⟨b⟩
theorem D1 (b:B) (h:Wr B→A:=by intro zx;refine jax rfl zq zK (Post:=fun w new=>OwnS 3 1 w (jjV (jan (x.ln.figs.getD j []))).length (jav (jjV (jan (x.ln.figs.getD j [])))) new) (fun H' hH=>f120_c m H' (ja9 _)) ?_;exact zx.g):A:=h ⟨b⟩
theorem D2 (b:B) (h:Wr B→A:=by intro zx;refine jax rfl zq zK (Post:=fun v nz=> ∃q q',nz=[⟨true,q,.cells [.int .i64 st].toArray 3 (0,0)⟩,⟨true,q',.cells [.int .i64 x].toArray 3 (0,0)⟩]∧v= .func (.func 145) #[] [.pointer (some ⟨q,0,none⟩),.pointer (some ⟨q',0,none⟩)].toArray) (fun H' hH=>f89_c m H' st x) ?_;exact zx.g):A:=h ⟨b⟩
theorem D3 (b:B) (h:Wr B→A:=by intro zx;refine jax rfl zq zK (Post:=fun v nz=>jhh B b (tbL b ps ns ks pw nw cw pb nb cb) (jaH b (jgX b c)) nz v) (fun H' hH=>f88_c m H' (ra.keeps (sq hH)) jk5 (fun hk K q hKs hs=>by simpa [jgX] using f149_c m K hs (c:=c) (RdN.keepsN (jkA (q:=qs)) (hH.trans hKs)))) ?_;exact zx.g):A:=h ⟨b⟩
theorem D4 (b:B) (h:Wr B→A:=by intro zx;refine jl5 rfl zq rfl ?_;exact zx.g):A:=h ⟨b⟩
theorem D5 (b:B) (h:Wr B→A:=by intro zx;refine jax rfl zq zK (Post:=fun v nz=> ∃q,nz=[⟨true,q,.cells (ceL c).toArray 37 (0,0)⟩]∧v= .func (.func 149) #[] [.pointer (some ⟨q,0,none⟩)].toArray) (fun H' hH=>f97_c m H' c) ?_;exact zx.g):A:=h ⟨b⟩
theorem D6 (b:B) (h:Wr B→A:=by intro zx;refine jaL rfl zq (by first|rfl|assumption) zO zO ?_;exact zx.g):A:=h ⟨b⟩
theorem D7 (b:B) (h:Wr B→A:=by intro zx;refine jac (((h0++[⟨true,qy,.cells [yv].toArray 220 (0,0)⟩,⟨true,qn,.cells [.func (.func 180) #[] [.pointer (some ⟨qx,0,none⟩),.pointer (some ⟨qy,0,none⟩),.pointer (some ⟨qm,0,none⟩),.pointer (some ⟨qn,0,none⟩),.pointer (some ⟨qc,0,none⟩)].toArray].toArray 221 (0,0)⟩])++X)++R2) rfl Tryz.func180 rfl jab ?_;exact zx.g):A:=h ⟨b⟩
theorem D8 (b:B) (h:Wr B→A:=by intro zx;refine jaL rfl zq rfl zO zO ?_;exact zx.g):A:=h ⟨b⟩
theorem D9 (b:B) (h:Wr B→A:=by intro zx;refine jaq [Zp 0,Zp 1,Zp 2,Zp 3,Zp 4,Zp 6,Zp 7,Zp 8,Zp 9,Zp 10,Zr 5,Zr 11,Zp 12,Zp 13,Zp 14,Zp 15,Zp 16,Zp 17,Zp 18,Zp 19,Zp 20,Zp 21,Zp 22,Zp 23,Zp 25,Zp 26,Zp 27,Zp 28,Zp 29,Zr 24,Zr 30,Zp 31,Zp 32,Zp 33,Zp 34,Zp 35,Zp 36,Zp 37,Zp 38] zK zK (gE _) ?_;exact zx.g):A:=h ⟨b⟩
theorem D10 (b:B) (h:Wr B→A:=by intro zx;refine jac (h) rfl Tryz.func176 rfl jab ?_;exact zx.g):A:=h ⟨b⟩
theorem D11 (b:B) (h:Wr B→A:=by intro zx;refine jaN (v:= .slice (lps.getD i default).p (lps.getD i default).ln.figs.length (lps.getD i default).c) rfl zq (rl.fat i 1 zO zO rfl) ?_;exact zx.g):A:=h ⟨b⟩
theorem D12 (b:B) (h:Wr B→A:=by intro zx;refine jeG (w:=[0,0,0]) rfl zq rfl zN ?_;exact zx.g):A:=h ⟨b⟩
theorem D13 (b:B) (h:Wr B→A:=by intro zx;refine jax rfl zq zK (Post:=fun v nz=> ∃q,v= .pointer (some ⟨q,0,none⟩)∧Sheet B nz b q (tbL b ps ns ks pw nw cw pb nb cb)) (fun H' hH=>f95_r m H' (ra.keeps (sq hH)) hk) ?_;exact zx.g):A:=h ⟨b⟩
theorem D14 (b:B) (h:Wr B→A:=by intro zx;refine jeH rfl rfl zA ?_;exact zx.g):A:=h ⟨b⟩
theorem D15 (b:B) (h:Wr B→A:=by intro zx;refine jac (h) rfl Tryz.func119 rfl jab ?_;exact zx.g):A:=h ⟨b⟩
theorem D16 (b:B) (h:Wr B→A:=by intro zx;refine jcC (v:= .bool false) rfl zq zA (jqN zA) ?_;exact zx.g):A:=h ⟨b⟩
theorem D17 (b:B) (h:Wr B→A:=by intro zx;refine jac (((h0++[⟨true,qy,.cells [yv].toArray 220 (0,0)⟩,⟨true,qn,.cells [.func (.func 180) #[] [.pointer (some ⟨qx,0,none⟩),.pointer (some ⟨qy,0,none⟩),.pointer (some ⟨qm,0,none⟩),.pointer (some ⟨qn,0,none⟩),.pointer (some ⟨qc,0,none⟩)].toArray].toArray 221 (0,0)⟩])++X)++R1) rfl Tryz.func180 rfl jab ?_;exact zx.g):A:=h ⟨b⟩
theorem D18 (b:B) (h:Wr B→A:=by intro zx;refine jac (((h0++[⟨true,qy,.cells [yv].toArray 220 (0,0)⟩,⟨true,qn,.cells [.func (.func 180) #[] [.pointer (some ⟨qx,0,none⟩),.pointer (some ⟨qy,0,none⟩),.pointer (some ⟨qm,0,none⟩),.pointer (some ⟨qn,0,none⟩),.pointer (some ⟨qc,0,none⟩)].toArray].toArray 221 (0,0)⟩])++X)++R) rfl Tryz.func180 rfl jab ?_;exact zx.g):A:=h ⟨b⟩
theorem D19 (b:B) (h:Wr B→A:=by intro zx;refine k_st1 rfl zq ?_;exact zx.g):A:=h ⟨b⟩
theorem D20 (b:B) (h:Wr B→A:=by intro zx;refine jaf (Post:=fun v=>IsB _ v) rfl zq zK (fun H' hH=>f117_c _ H' _ _ _) ?_;exact zx.g):A:=h ⟨b⟩
theorem D21 (b:B) (h:Wr B→A:=by intro zx;refine jaf (Post:=fun v=>IsB _ v) rfl zq zK (fun H' hH=>f117_c m H' _ _ _) ?_;exact zx.g):A:=h ⟨b⟩
theorem D22 (b:B) (h:Wr B→A:=by intro zx;refine jaN rfl rfl ((sh.latI (i:=k) zO).keeps SubH.sub) ?_;exact zx.g):A:=h ⟨b⟩
theorem D23 (b:B) (h:Wr B→A:=by intro zx;refine jac (h) rfl Tryz.func166 rfl jab ?_;exact zx.g):A:=h ⟨b⟩
theorem D24 (b:B) (h:Wr B→A:=by intro zx;refine m.weak (h':=h++[⟨true,q2,.cells (tbL b ps ns ks pw nw cw pb nb cb).toArray 25 (0,0)⟩,⟨true,q3,.cells (ceL c).toArray 37 (0,0)⟩]++[⟨true,qs,.cells (ceL c).toArray 37 (0,0)⟩]++n8++[⟨true,q6,.cells [.pointer (some ⟨q9,0,none⟩),.slice p8 (jah b).length c8].toArray 112 (0,0)⟩]) jfh ?_;exact zx.g):A:=h ⟨b⟩
theorem D25 (b:B) (h:Wr B→A:=by intro zx;refine jhv (c:=(jaR s).getD i 0) rfl zq jjC zO (jmg zO) ?_;exact zx.g):A:=h ⟨b⟩
theorem D26 (b:B) (h:Wr B→A:=by intro zx;refine jfG (n':=(ru:Int)) rfl zq zK (jdV (by unfold jeg;omega)) ?_;exact zx.g):A:=h ⟨b⟩
theorem D27 (b:B) (h:Wr B→A:=by intro zx;refine jax rfl zq zK (Post:=fun v nw=>OwnS 136 13 v (jah b).length (jaC (jah b)) nw) (fun H' hH=>f96_c m H' (sh.keeps (Gb zW hH)) hk) ?_;exact zx.g):A:=h ⟨b⟩
theorem D28 (b:B) (h:Wr B→A:=by intro zx;refine DrawT.leaf [Zp 0,Zp 2,Zp 4,Zp 9,Zp 11,Zr 1,Zr 3,Zp 5,Zp 6,Zr 7,Zr 10,Zp 12,Zp 13,Zr 14,Zk 8,Zk 15,Zp 16,Zk 17,Zk 18,Zp 19,Zf 20] zK ?_;exact zx.g):A:=h ⟨b⟩
theorem D29 (b:B) (h:Wr B→A:=by intro zx;refine jaq [Zp 0,Zp 1,Zp 2,Zp 4,Zp 7,Zp 8,Zp 9,Zp 11,Zr 3,Zp 5,Zr 6,Zr 10,Zp 12,Zr 13,Za 14,Za 15,Zk 16,Zf 17] zK zK (gE _) ?_;exact zx.g):A:=h ⟨b⟩
theorem D30 (b:B) (h:Wr B→A:=by intro zx;refine k_bld rfl zq ?_;exact zx.g):A:=h ⟨b⟩
theorem D31 (b:B) (h:Wr B→A:=by intro zx;refine jaN rfl rfl ((sh.latI (i:=i) zO).keeps SubH.sub) ?_;exact zx.g):A:=h ⟨b⟩
theorem D32 (b:B) (h:Wr B→A:=by intro zx;refine jdk rfl zq (ja9 _).len ?_;exact zx.g):A:=h ⟨b⟩
theorem D33 (b:B) (h:Wr B→A:=by intro zx;refine jbm [Zf 0,Zf 1,Zf 2,Zf 3,Zf 4,Zf 5,Zf 6,Zf 7,Zf 8,Zf 9,Zf 10,Zf 11,Zf 12,Zf 13,Zf 14,Zf 15] zK zK ?_;exact zx.g):A:=h ⟨b⟩
theorem D34 (b:B) (h:Wr B→A:=by intro zx;refine jaf (Post:=fun v=>IsB _ v) rfl zq zK (fun H' hH=>f172_c m H' _) ?_;exact zx.g):A:=h ⟨b⟩
theorem D35 (b:B) (h:Wr B→A:=by intro zx;refine jaq [Zp 0,Zp 1,Zp 3,Zp 4,Zr 2,Zr 5,Zp 6] zK zK (gE _) ?_;exact zx.g):A:=h ⟨b⟩
theorem D36 (b:B) (h:Wr B→A:=by intro zx;refine jaN (v:= .slice (lps.getD i default).p (lps.getD i default).ln.figs.length (lps.getD i default).c) rfl zq (rl2.fat i 1 zO zO rfl) ?_;exact zx.g):A:=h ⟨b⟩
theorem D37 (b:B) (h:Wr B→A:=by intro zx;refine jfG (n':=(((jaR s).getD i 0).toNat:Int)) rfl zq zK (jdV (by unfold jeg;omega)) ?_;exact zx.g):A:=h ⟨b⟩
theorem D38 (b:B) (h:Wr B→A:=by intro zx;refine jaq [Zp 0,Zp 1,Zp 3,Zp 8,Zp 10,Zr 2,Zr 4,Zp 5,Zp 6,Zr 7,Zr 9,Zp 11,Zf 12] zK zK (gE _) ?_;exact zx.g):A:=h ⟨b⟩
theorem D39 (b:B) (h:Wr B→A:=by intro zx;refine k_mul rfl zq (by unfold jeg;omega) ?_;exact zx.g):A:=h ⟨b⟩
theorem D40 (b:B) (h:Wr B→A:=by intro zx;refine k_bldZ rfl zq ?_;exact zx.g):A:=h ⟨b⟩
theorem D41 (b:B) (h:Wr B→A:=by intro zx;refine jb4 (vs:=[.bool (jd2 b ((jaa b).getD i default)).butt,.int .i64 ((jaa b).getD i default).line,.int .i64 (jd2 b ((jaa b).getD i default)).st]) rfl zq rfl ((hpc▸hcr).eat i zO zO) ?_;exact zx.g):A:=h ⟨b⟩
theorem D42 (b:B) (h:Wr B→A:=by intro zx;refine jb4 (vs:=[.bool (jd2 b ((jaa b).getD k default)).butt,.int .i64 ((jaa b).getD k default).line,.int .i64 (jd2 b ((jaa b).getD k default)).st]) rfl zq rfl ((hpc▸hcr).eat k zO zO) ?_;exact zx.g):A:=h ⟨b⟩
theorem D43 (b:B) (h:Wr B→A:=by intro zx;refine jaf (Post:=fun v=>v= .tuple [.agg (jav (joJ b c f)).toArray,.agg (jav (jpb b c f)).toArray,.int .i64 (jeL b c f)].toArray) rfl zq zK (fun H' hH=>f109_c m H' (ra.keeps (sq hH)) c f hf) ?_;exact zx.g):A:=h ⟨b⟩
theorem D44 (b:B) (h:Wr B→A:=by intro zx;refine jaf (Post:=fun v=>v=_) rfl zq zK (fun H' hH=>f65_r m H' (ra.keeps (sq hH))) ?_;exact zx.g):A:=h ⟨b⟩
theorem D45 (b:B) (h:Wr B→A:=by intro zx;refine jaL rfl zq hfp zO zO ?_;exact zx.g):A:=h ⟨b⟩
theorem D46 (b:B) (h:Wr B→A:=by intro zx;refine jeG rfl zq (ja9 _).len (by rw [(ja9 _).len];rfl) ?_;exact zx.g):A:=h ⟨b⟩
theorem D47 (b:B) (h:Wr B→A:=by intro zx;refine jax (Post:=fun v nz=> ∃q,v= .pointer (some ⟨q,0,none⟩)∧Sheet B nz b q (tbL b ps ns ks pw nw cw pb nb cb)) rfl zq zK (fun H' hH=>f95_r _ H' (ra.keeps (sq hH)) hk) ?_;exact zx.g):A:=h ⟨b⟩
theorem D48 (b:B) (h:Wr B→A:=by intro zx;refine jbm [Zf 0,Zf 1,Zf 2,Zf 3,Zf 4,Zf 5,Zf 6,Zf 7,Zf 8,Zf 9,Zf 10,Zf 11] zK zK ?_;exact zx.g):A:=h ⟨b⟩
theorem D49 (b:B) (h:Wr B→A:=by intro zx;refine jb4 (vs:=[.int .i64 (lps.getD k default).ln.lat,.slice (lps.getD k default).p (lps.getD k default).ln.figs.length (lps.getD k default).c]) rfl zq rfl (rl.eat k zO zO) ?_;exact zx.g):A:=h ⟨b⟩
theorem D50 (b:B) (h:Wr B→A:=by intro zx;refine jac (h) rfl Tryz.func170 rfl jab ?_;exact zx.g):A:=h ⟨b⟩
theorem D51 (b:B) (h:Wr B→A:=by intro zx;refine jac (h) rfl Tryz.func125 rfl jab ?_;exact zx.g):A:=h ⟨b⟩
theorem D52 (b:B) (h:Wr B→A:=by intro zx;refine jaf (Post:=fun v=>IsB _ v) rfl zq zK (fun H' hH=>f57_c m H' _ _ _) ?_;exact zx.g):A:=h ⟨b⟩
theorem D53 (b:B) (h:Wr B→A:=by intro zx;refine jaq [Zp 0,Zp 1,Zp 2,Zp 4,Zp 5,Zp 6,Zp 7,Zr 3,Zr 8,Zp 9] zK zK (gE _) ?_;exact zx.g):A:=h ⟨b⟩
theorem D54 (b:B) (h:Wr B→A:=by intro zx;refine jaq [Zp 0,Zp 1,Zp 2,Zp 3,Zp 6,Zr 4,Zp 5,Zr 7,Zp 8,Zp 9] zK zK (gE _) ?_;exact zx.g):A:=h ⟨b⟩
theorem D55 (b:B) (h:Wr B→A:=by intro zx;refine jaq [Zp 0,Zp 1,Zp 3,Zp 4,Zr 2,Zr 5,Zk 6,Zp 7,Zp 8,Zf 9] zK zK (gE _) ?_;exact zx.g):A:=h ⟨b⟩
theorem D56 (b:B) (h:Wr B→A:=by intro zx;refine jax rfl zq zK (Post:=fun v new=> ∃w,OwnS 3 1 w (lisP s).length (jav (lisP s)) new∧v= .tuple [w,.bool (ja2 s)].toArray) (fun H' hH=>f55p_c m H' s hl) ?_;exact zx.g):A:=h ⟨b⟩
theorem D57 (b:B) (h:Wr B→A:=by intro zx;refine jaL rfl zq hrp zO zO ?_;exact zx.g):A:=h ⟨b⟩
theorem D58 (b:B) (h:Wr B→A:=by intro zx;refine jaN rfl zq (hcv.keeps SubH.sub) ?_;exact zx.g):A:=h ⟨b⟩
theorem D59 (b:B) (h:Wr B→A:=by intro zx;refine k_mul rfl zq (by rcases sgn_or s with e|e<;>rw [e]<;>unfold jeg<;>omega) ?_;exact zx.g):A:=h ⟨b⟩
theorem D60 (b:B) (h:Wr B→A:=by intro zx;refine jae Tryz.func176 rfl rfl (l:=(.pointer (some ⟨q,0,none⟩))::(.int .i64 (i:Int))::(.int .i64 (k:Int))::(.int .i64 mi)::(.int .i64 mk)::uu119) rfl ?_;exact zx.g):A:=h ⟨b⟩
theorem D61 (b:B) (h:Wr B→A:=by intro zx;refine jaN (v:= .slice ((lw++lb).getD k default).p ((lw++lb).getD k default).ln.figs.length ((lw++lb).getD k default).c) rfl zq (r64.fat k 1 zO zO rfl) ?_;exact zx.g):A:=h ⟨b⟩
theorem D62 (b:B) (h:Wr B→A:=by intro zx;refine jax rfl zq zK (Post:=fun v nw=> ∃ps pw pb,v=tbV exT ps 2 2 pw 2 2 pb 1 1∧RawTb B nw exT ps 2 2 pw 2 2 pb 1 1) (fun H' hH=>f87_c _ H') ?_;exact zx.g):A:=h ⟨b⟩
theorem D63 (b:B) (h:Wr B→A:=by intro zx;refine DrawT.leaf [Zp 1,Zp 2,Zr 0,Zk 3,Zk 4,Zp 5,Zp 6,Zp 7,Za 8,Zf 9,Zp 10] zK ?_;exact zx.g):A:=h ⟨b⟩
theorem D64 (b:B) (h:Wr B→A:=by intro zx;refine DrawT.leaf [Zp 1,Zp 2,Zr 0,Zk 3,Za 8,Zk 4,Zp 5,Zp 6,Zp 7,Zf 9,Zp 10] zK ?_;exact zx.g):A:=h ⟨b⟩
theorem D65 (b:B) (h:Wr B→A:=by intro zx;refine DrawT.leaf [Zp 1,Zp 2,Zr 0,Za 8,Zk 3,Zk 4,Zp 5,Zp 6,Zp 7,Zf 9,Zp 10] zK ?_;exact zx.g):A:=h ⟨b⟩
theorem D66 (b:B) (h:Wr B→A:=by intro zx;refine jaN rfl zq ((sh.latI (i:=i) zO).keeps SubH.sub) ?_;exact zx.g):A:=h ⟨b⟩
theorem D67 (b:B) (h:Wr B→A:=by intro zx;refine jac (h) rfl Tryz.func66 rfl jab ?_;exact zx.g):A:=h ⟨b⟩
theorem D68 (b:B) (h:Wr B→A:=by intro zx;refine jaL rfl zq hzp zO zO ?_;exact zx.g):A:=h ⟨b⟩
theorem D69 (b:B) (h:Wr B→A:=by intro zx;refine jaf (Post:=fun v=>v= .int .u64 ((jcL x|||2^x.length:Nat):Int)) rfl zq zK (fun H' hH=>f135_c m H' (jcL x) x.length hbs hx12) ?_;exact zx.g):A:=h ⟨b⟩
theorem D70 (b:B) (h:Wr B→A:=by intro zx;refine jax rfl zq zK (Post:=fun v nz=>OwnS 9 1 v x.ln.figs.length (jaC x.ln.figs) nz) (fun H' hH=>f162_c m H' (rdf.keeps (sq hH)) zO) ?_;exact zx.g):A:=h ⟨b⟩
theorem D71 (b:B) (h:Wr B→A:=by intro zx;refine jc1 rfl Tryz.func153 (jcY rfl) ?_;exact zx.g):A:=h ⟨b⟩
theorem D72 (b:B) (h:Wr B→A:=by intro zx;refine jrd rfl rfl k zO zO ?_;exact zx.g):A:=h ⟨b⟩
theorem D73 (b:B) (h:Wr B→A:=by intro zx;refine jb4 (vs:=boL ((jah b).getD j [])) rfl zq (jaP _) (rdB'.eat j zO zO) ?_;exact zx.g):A:=h ⟨b⟩
theorem D74 (b:B) (h:Wr B→A:=by intro zx;refine DrawT.leaf [Zr 0,Zr 1,Zk 2,Zk 3,Zp 4,Zp 5,Zp 6,Za 7,Zf 8,Zp 9] zK ?_;exact zx.g):A:=h ⟨b⟩
theorem D75 (b:B) (h:Wr B→A:=by intro zx;refine DrawT.leaf [Zr 0,Zr 1,Zk 2,Za 7,Zk 3,Zp 4,Zp 5,Zp 6,Zf 8,Zp 9] zK ?_;exact zx.g):A:=h ⟨b⟩
theorem D76 (b:B) (h:Wr B→A:=by intro zx;refine DrawT.leaf [Zr 0,Zr 1,Za 7,Zk 2,Zk 3,Zp 4,Zp 5,Zp 6,Zf 8,Zp 9] zK ?_;exact zx.g):A:=h ⟨b⟩
theorem D77 (b:B) (h:Wr B→A:=by intro zx;refine i_pickT rfl zq ?_;exact zx.g):A:=h ⟨b⟩
theorem D78 (b:B) (h:Wr B→A:=by intro zx;refine jfF (Post:=fun v=>v= .pointer (some ⟨q1,2+i,none⟩)) rfl zq (jiN i zO) (fun H' hH=>jrs m H' q1 i zO) ?_;exact zx.g):A:=h ⟨b⟩
theorem D79 (b:B) (h:Wr B→A:=by intro zx;refine jcC (v:= .bool false) rfl rfl zA (jlX zA) ?_;exact zx.g):A:=h ⟨b⟩
theorem D80 (b:B) (h:Wr B→A:=by intro zx;refine jac (h) rfl Tryz.func123 rfl jab ?_;exact zx.g):A:=h ⟨b⟩
theorem D81 (b:B) (h:Wr B→A:=by intro zx;refine jaf (Post:=fun v=>v= .int .u64 ((2^(jaa b).length-1:Nat):Int)) rfl zq zK (fun H' hH=>f106_c _ H' _ h12) ?_;exact zx.g):A:=h ⟨b⟩
theorem D82 (b:B) (h:Wr B→A:=by intro zx;refine jaL rfl zq hpc zO zO ?_;exact zx.g):A:=h ⟨b⟩
theorem D83 (b:B) (h:Wr B→A:=by intro zx;refine jac (h) rfl Tryz.func19 rfl jab ?_;exact zx.g):A:=h ⟨b⟩
theorem D84 (b:B) (h:Wr B→A:=by intro zx;refine jaf (Post:=fun v=>v=_) rfl zq zK (fun H' hH=>f221_c m H' _) ?_;exact zx.g):A:=h ⟨b⟩
theorem D85 (b:B) (h:Wr B→A:=by intro zx;refine je5 Tryz.func201 rfl rfl (l:=(.pointer (some ⟨C.wg,0,none⟩))::uu6) rfl ?_;exact zx.g):A:=h ⟨b⟩
theorem D86 (b:B) (h:Wr B→A:=by intro zx;refine jaN rfl zq (rdg.sat k zO zO) ?_;exact zx.g):A:=h ⟨b⟩
theorem D87 (b:B) (h:Wr B→A:=by intro zx;refine jcC (v:= .bool false) rfl zq zA (jn8 (decide_eq_false zO)) ?_;exact zx.g):A:=h ⟨b⟩
theorem D88 (b:B) (h:Wr B→A:=by intro zx;refine jcC (v:= .bool true) rfl zq zA (jlX (decide_eq_true zO)) ?_;exact zx.g):A:=h ⟨b⟩
theorem D89 (b:B) (h:Wr B→A:=by intro zx;refine jaq [Zr 0,Zr 1,Zr 3,Zk 2,Zp 4] zK zK (gE _) ?_;exact zx.g):A:=h ⟨b⟩
theorem D90 (b:B) (h:Wr B→A:=by intro zx;refine i_cal rfl zq zK ?_;exact zx.g):A:=h ⟨b⟩
theorem D91 (b:B) (h:Wr B→A:=by intro zx;refine (Md.starC Tryz.prog B).weak (h':=ro h) (by simpa using jpQ (B:=B) h []) ?_;exact zx.g):A:=h ⟨b⟩
theorem D92 (b:B) (h:Wr B→A:=by intro zx;refine jac (h) rfl Tryz.func121 rfl jab ?_;exact zx.g):A:=h ⟨b⟩
theorem D93 (b:B) (h:Wr B→A:=by intro zx;refine jaL rfl rfl rfl zO zO ?_;exact zx.g):A:=h ⟨b⟩
theorem D94 (b:B) (h:Wr B→A:=by intro zx;refine jaN (v:= .int .i64 (lps.getD (i-1) default).ln.lat) rfl rfl (rl.fat (i-1) 0 zO zO rfl) ?_;exact zx.g):A:=h ⟨b⟩
theorem D95 (b:B) (h:Wr B→A:=by intro zx;refine jhv (c:=s.getD i 0) rfl rfl jjC zO (jmg zO) ?_;exact zx.g):A:=h ⟨b⟩
theorem D96 (b:B) (h:Wr B→A:=by intro zx;refine jc1 rfl Tryz.func201 (jbT rfl) ?_;exact zx.g):A:=h ⟨b⟩
theorem D97 (b:B) (h:Wr B→A:=by intro zx;refine jcC (v:= .bool true) rfl zq zA (jqN zA) ?_;exact zx.g):A:=h ⟨b⟩
theorem D98 (b:B) (h:Wr B→A:=by intro zx;refine jpM rfl zq ⟨rfl,.inl rfl⟩ uptrW.1 uptrW.2.1 uptrW.2.2 ?_;exact zx.g):A:=h ⟨b⟩
theorem D99 (b:B) (h:Wr B→A:=by intro zx;refine jio [Zf 0] [1] zK zK ?_;exact zx.g):A:=h ⟨b⟩
theorem D100 (b:B) (h:Wr B→A:=by intro zx;refine jaN rfl zq (rx.keeps SubH.sub) ?_;exact zx.g):A:=h ⟨b⟩
theorem D101 (b:B) (h:Wr B→A:=by intro zx;refine jac (h) rfl Tryz.func210 rfl jab ?_;exact zx.g):A:=h ⟨b⟩
theorem D102 (b:B) (h:Wr B→A:=by intro zx;refine jac (h) rfl Tryz.func109 rfl jab ?_;exact zx.g):A:=h ⟨b⟩
theorem D103 (b:B) (h:Wr B→A:=by intro zx;refine jaL rfl zq hyp zO zO ?_;exact zx.g):A:=h ⟨b⟩
theorem jjh (b:B) (h:Wr B→A:=by intro zx;refine D10 ?_;refine Zs ?_;exact zx.g):A:=h ⟨b⟩
theorem D105 (b:B) (h:Wr B→A:=by intro zx;refine D14 ?_;refine Z3 ?_;exact zx.g):A:=h ⟨b⟩
theorem jdP (b:B) (h:Wr B→A:=by intro zx;refine D4 ?_;refine Z3 ?_;exact zx.g):A:=h ⟨b⟩
theorem D107 (b:B) (h:Wr B→A:=by intro zx;refine k_subW (z:=(ru:Int)-48) rfl zq zF ?_;refine jfG (n':=(ru:Int)-48) rfl zq zK (jdV (by unfold jeg;omega)) ?_;exact zx.g):A:=h ⟨b⟩
theorem jmK (b:B) (h:Wr B→A:=by intro zx;refine D15 ?_;refine Zs ?_;exact zx.g):A:=h ⟨b⟩
theorem D109 (b:B) (h:Wr B→A:=by intro zx;refine D40 ?_;refine D12 ?_;exact zx.g):A:=h ⟨b⟩
theorem joF (b:B) (h:Wr B→A:=by intro zx;refine D109 ?_;refine Z3 ?_;exact zx.g):A:=h ⟨b⟩
theorem D111 (b:B) (h:Wr B→A:=by intro zx;refine jg7 (v:= .int .u64 (v:Int)) rfl zq (.inr rfl) (jn7 zA (jc7 v 0 hv70 zO).hi) ?_;refine je6 rfl zq zK (jc7 v 0 hv70 zO).hi32 ?_;exact zx.g):A:=h ⟨b⟩
theorem D112 (b:B) (h:Wr B→A:=by intro zx;refine jrd rfl zq k zO zN ?_;refine jaN rfl zq (most_atI k zO) ?_;exact zx.g):A:=h ⟨b⟩
theorem joE (b:B) (h:Wr B→A:=by intro zx;refine D23 ?_;refine Zs ?_;exact zx.g):A:=h ⟨b⟩
theorem D114 (b:B) (h:Wr B→A:=by intro zx;refine jcC (v:= .int .u64 0) rfl zq zA (jfE ((jc7 v 0 hv70 zO).lo)) ?_;refine je6 rfl zq zK (jc7 v 0 hv70 zO).lo32 ?_;exact zx.g):A:=h ⟨b⟩
theorem D115 (b:B) (h:Wr B→A:=by intro zx;refine Zs ?_;refine joj rfl rfl ?_;exact zx.g):A:=h ⟨b⟩
theorem D116 (b:B) (h:Wr B→A:=by intro zx;refine jeG rfl zq (jeP b c f).len (by rw [(jeP b c f).len];rfl) ?_;refine jeG rfl zq (je0 b c f).len (by rw [(je0 b c f).len];rfl) ?_;exact zx.g):A:=h ⟨b⟩
theorem D117 (b:B) (h:Wr B→A:=by intro zx;refine D105 ?_;refine D105 ?_;exact zx.g):A:=h ⟨b⟩
end
end Go.Lo
namespace Go.Lo
theorem E0 (h:A:=by first|exact ⟨rfl,IsB.yes zO⟩|exact ⟨rfl,IsB.no zO⟩):A:=h
theorem E1 (h:A:=by exact m.weak jab (hnext1 _ _ _ zO ⟨i+1,zs,rfl,by omega,by omega,hzw,hin.stop zO zO zO,exU rfl,rfl⟩)):A:=h
theorem E2 (h:A:=by first|exact ⟨rfl,by rw [if_pos zO]⟩|exact ⟨rfl,by rw [if_neg zO,if_pos zO]⟩|exact ⟨rfl,by rw [if_neg zO,if_neg zO]⟩):A:=h
theorem E3 (h:A:=by exact ⟨rfl,by rw [if_neg zO,if_pos zO]⟩):A:=h
theorem E4 (h:A:=by exact ⟨rfl,by rw [if_neg zO,if_neg zO]⟩):A:=h
theorem E5 (h:A:=by exact m.weak jab (hnext _ _ _ zO ⟨p+1,k,n+1,v.set k (10*v.getD k 0+((ru:Int)-48)),rfl,by rw [←hrd,hdr,hru];exact (jkB zO (by rw [←hru];omega)).symm,by simpa using hv3,hk2,by omega,by omega,jik (by rw [jbE zO] at hc;omega) hvb,fun j hj=>by rw [set_other zO];exact hvz j zO,exU rfl,rfl⟩)):A:=h
theorem E6 (h:A:=by exact m.weak jab (hnext _ _ _ zO ⟨k+1,rfl,by omega,exU rfl,rfl⟩)):A:=h
theorem E7 (h:A:=by exact m.weak jab (hnext _ _ _ zO ⟨k+1,wp,wc,M,rfl,by omega,by rw [hks];exact how,exU rfl,rfl⟩)):A:=h
theorem E8 (h:A:=by exact m.weak jab (hnext _ _ _ zO ⟨k+1,p9,c9,n9,rfl,by omega,by rw [hkl,hks,jbo];exact o9,exU rfl,rfl⟩)):A:=h
theorem E9 (h:A:=by exact ⟨rfl,_,rfl,by unfold jeg;omega,⟨fun _=>hse▸jaj (l:=ss) zO,fun _=>by omega⟩⟩):A:=h
theorem E10 (h:A:=by first|exact (jdc zD).symm|exact (jdb zD zD).symm):A:=h
theorem E11 (h:A:=by exact (jcf zO ⟨_,by rw [jaS zO,ja5 _ _ zO],by omega⟩).symm):A:=h
theorem E12 (h:A:=by exact (jch zO hnu zO).symm):A:=h
theorem E13 (h:A:=by exact (jcg zO hnu zO fun e=>by have:=e _ (jaj (l:=x.ln.figs) (i:=k) zO);rw [show x.ln.figs.getD k default=x.ln.figs.getD k [] from rfl,jbu,hfo,decide_eq_false (show¬x.ln.figs.getD k []=jdZ from hda)] at this;cases this).symm):A:=h
theorem E14 (h:A:=by exact m.weak jab (hnext1 _ _ _ zO ⟨i+1,rfl,by omega,by rw [hlm,hdr,jhT zO hnu zO hall,jaS zO,Nat.add_sub_cancel,ja5 _ _ zO,←hx],exU rfl,rfl⟩)):A:=h
theorem E15 (h:A:=by exact ⟨rfl,IsB.no fun e=>by have:=e.1;omega⟩):A:=h
theorem E16 (h:A:=by exact ⟨rfl,IsB.no fun e=>by have:=e.2 i zO;rw [←hcc] at this;unfold ji6 at this;omega⟩):A:=h
theorem E17 (h:A:=by exact ⟨rfl,IsB.no fun e=>by have:=e.2 0 zO;unfold ji6 at this;omega⟩):A:=h
theorem E18 (h:A:=by exact ⟨rfl,IsB.yes ⟨by omega,fun j hj=>hch j zO⟩⟩):A:=h
theorem E19 (h:A:=by exact m.weak jab (hnext _ _ _ zO ⟨i+1,p9,c9,n9,i+1,rfl,by omega,hk2.symm,by rw [hkl,hks,jj6,←hf];exact o9,exU rfl,rfl⟩)):A:=h
theorem E20 (h:A:=by exact ja4 fun e=>e.2.1 ⟨(ja7 (n:=48) zA).1 zD,hz⟩):A:=h
theorem E21 (h:A:=by exact ja4 fun e=>absurd (e.2.2 i zO) zD):A:=h
theorem E22 (h:A:=by exact absurd ((ja7 (n:=48) zA).2 e.1) zD):A:=h
theorem E23 (h:A:=by exact ⟨rfl,_,IsB.yes (.inl hq),by rw [jbx,if_pos hq]⟩):A:=h
theorem E24 (h:A:=by exact ⟨rfl,_,IsB.no (by rintro (e|e);exact hq e;exact of_decide_eq_false hno e.1),by rw [jbx,if_neg hq]⟩):A:=h
theorem E25 (h:A:=by exact ⟨rfl,_,IsB.yes (.inr ⟨of_decide_eq_true hno,by assumption⟩),by rw [jbx,if_neg hq]⟩):A:=h
theorem E26 (h:A:=by exact ⟨rfl,_,IsB.no (by rintro (e|e);exact hq e;exact absurd e.2 zD),by rw [jbx,if_neg hq]⟩):A:=h
theorem E27 (h:A:=by exact ⟨⟨fun x=>by simp at x,fun x=>absurd x this⟩,fun x=>absurd x this⟩):A:=h
theorem E28 (h:A:=by exact ⟨rfl,IsB.no fun e=>by rcases (jed s).1 e with e|e;rw [hfo] at e;cases e;exact hda e⟩):A:=h
theorem E29 (h:A:=by exact (jcg zO hnu zO fun e=>absurd (e _ (jaj (l:=x.ln.figs) (i:=k) zO)) zD).symm):A:=h
theorem E30 (h:A:=by exact (jaU (jdf zO) zA).symm):A:=h
theorem E31 (h:A:=by exact (jaU (jde zO zO) zA).symm):A:=h
theorem E32 (h:A:=by exact (jfL hh0 zO zD).symm):A:=h
theorem E33 (h:A:=by exact m.weak jab (hnext3 _ _ _ zO ⟨k+1,wpk,wck,Mk,rfl,by omega,by rw [hks];exact howk,exU rfl,rfl⟩)):A:=h
theorem E34 (h:A:=by exact (decide_eq_true (gt fun e=>by rw [this.2 zO] at hr;cases hr)).symm):A:=h
theorem E35 (h:A:=by first|exact congrArg Value.bool (decide_eq_true zO).symm|exact congrArg Value.bool (decide_eq_false zO).symm):A:=h
theorem E36 (h:A:=by exact congrArg Value.bool (decide_eq_false zO).symm):A:=h
theorem E37 (h:A:=by exact absurd hn (by rintro (e|e);exact hbt e;rw [e] at hc;cases hc)):A:=h
theorem E38 (h:A:=by exact ⟨rfl,congrArg Value.bool fall_turn.symm⟩):A:=h
theorem E39 (h:A:=by exact ⟨_,rfl,.inl ⟨rfl,by rw [hgp,if_pos (by first|exact .inl zO|exact .inr (by simpa using hc)),ge];exact hRp⟩⟩):A:=h
theorem E40 (h:A:=by first|exact .inl zO|exact .inr (by simpa using hc)):A:=h
theorem E41 (h:A:=by exact gK _ _):A:=h
theorem E42 (h:A:=by first|exact jal.1 zO zO|exact jal.2.1 zO zO|exact jal.2.2.1 zO zO|exact jal.2.2.2 zO zO):A:=h
theorem E43 (h:A:=by exact m.weak jab (hnext1 _ _ _ zO ⟨i+1,fd,rfl,by omega,by rw [hst];exact hfd,exU rfl,rfl⟩)):A:=h
theorem E44 (h:A:=by exact hnext2 _ _ _ zO ⟨k+1,lps.set k ⟨x.ln,p44,c44⟩,_,FM++n44,rfl,by omega,by simpa using hlen,by rw [jhu (by rw [hxk])];exact hmap,fun j hj=>by rw [jmh zO];exact hsame j zO,OwnS.blk (junk:=junk) (by rw [jbC];simp [hlen]) (by have:=hwc;rw [jbC] at this⊢;simpa using this) hwn,by rw [jln zO];exact .snoc hof o44,exU rfl,rfl⟩):A:=h
theorem E45 (h:A:=by exact OwnS.blk (junk:=junkf) (by rw [jaY]) (by have:=hfc;rw [jaY] at this⊢;simpa using this) (by simpa using hfn)):A:=h
theorem E46 (h:A:=by exact hnext1 _ _ _ zO ⟨2,wp,wc,_,_,M0,_,rfl,by omega,fun e=>by omega,fun e=>by omega,fun _=>hh0,fun _=>hHalf,exU rfl,rfl⟩):A:=h
theorem E47 (h:A:=by exact hnext1 _ _ _ zO ⟨1,_,_,pb,cb,_,[],rfl,by omega,fun e=>by omega,fun _=>⟨rfl,rfl,rfl⟩,fun _=>hHalf,fun e=>by omega,exU rfl,(by rw [ge])⟩):A:=h
theorem E48 (h:A:=by exact ⟨n37,rfl,x0,y1,z1,w1,y2,z2,w2,y3,z3,w3,by rw [e0],fun e=>ha1 (by rwa [e0] at e),fun e=>⟨_,_,_,_,_,_,_,_,_,ha2 (by rwa [e0] at e),ra2⟩⟩):A:=h
theorem E49 (h:A:=by exact IsB.yes (.inr ⟨by omega,(jcs zO).1 zO⟩)):A:=h
theorem E50 (h:A:=by exact IsB.no fun e=>e.elim (fun e=>by omega) (fun e=>by have:=(jcs (xs:=xs) (ys:=ys) zO).2 e.2;omega)):A:=h
theorem E51 (h:A:=by exact IsB.no fun e=>e.elim (fun e=>by omega) (fun e=>by omega)):A:=h
theorem E52 (h:A:=by exact ⟨rfl,IsB.yes (.inl zO)⟩):A:=h
theorem E53 (h:A:=by exact ⟨rfl,IsB.yes (.inr (.inl zO))⟩):A:=h
theorem E54 (h:A:=by exact ⟨rfl,IsB.yes (.inr (.inr (.inl zO)))⟩):A:=h
theorem E55 (h:A:=by exact ⟨rfl,IsB.yes (.inr (.inr (.inr (.inl ⟨j,by omega,by omega⟩))))⟩):A:=h
theorem E56 (h:A:=by exact ⟨rfl,IsB.yes (.inr (.inr (.inr (.inr (.inl hgw)))))⟩):A:=h
theorem E57 (h:A:=by exact ⟨rfl,IsB.yes (.inr (.inr (.inr (.inr (.inr hgb)))))⟩):A:=h
theorem E58 (h:A:=by first|exact (risesL_iff.2 zO).symm|exact (gY.2 fun e=>by have:=risesL_iff.1 e;omega).symm):A:=h
theorem E59 (h:A:=by exact (gY.2 fun e=>by have:=risesL_iff.1 e;omega).symm):A:=h
theorem E60 (h:A:=by first|exact (risesX_iff.2 zO).symm|exact (gY.2 fun e=>by have:=risesX_iff.1 e;omega).symm):A:=h
theorem E61 (h:A:=by exact (gY.2 fun e=>by have:=risesX_iff.1 e;omega).symm):A:=h
theorem E62 (h:A:=by exact ⟨rfl,congrArg Value.bool (rises_turn zD hbt hab)⟩):A:=h
theorem E63 (h:A:=by exact GI (gen _) (vo (GX _ _) (gM _))):A:=h
theorem E64 (h:A:=by exact ⟨_,rfl,some ⟨q24,0,none⟩,1,[.slice mp ms.length mc],rfl,fun H2 s1 s2=>⟨((OwnS.full (t:=42) (k:=1) (q:=q24) (cs:=[Value.slice mp ms.length mc]) rfl).rd (B:=B) (gE _)).keeps s2,RdE.snoc RdE.nil rfl (rM.keeps s1) hmc⟩⟩):A:=h
theorem E65 (h:A:=by exact m.weak jab (hnext2 _ _ _ zO ⟨i+1,false,rfl,by omega,by rw [nextT_succ,←hq,hni],exU rfl,rfl⟩)):A:=h
theorem E66 (h:A:=by exact m.weak jab (hnext2 _ _ _ zO ⟨i+1,true,rfl,by omega,by rw [nextT_succ,←hq,hni];rfl,exU rfl,rfl⟩)):A:=h
theorem E67 (h:A:=by exact m.weak jab (hnext2 _ _ _ zO ⟨i+1,false,rfl,by omega,by rw [nextT_succ,←hq,hni];rfl,exU rfl,rfl⟩)):A:=h
theorem E68 (h:A:=by exact m.weak jab (hnext1 _ _ _ zO ⟨j+1,op,oc,vs,Mo,Mi,rfl,by omega,by rw [hgj];exact how,by rw [hgj];exact hre,exU rfl,rfl⟩)):A:=h
theorem E69 (h:A:=by exact rdE_app (hre H2 s1 ((gG Mi n97).trans t1)) (h98 H2 ((gK Mi n97).trans t1) ((gK (Mi++n97) n98).trans s2)).2):A:=h
theorem E70 (h:A:=by exact ⟨Mo++Mi,by rw [gI],op,oc,vs,rfl,fun H2 s1 s2=>⟨(how.rd (B:=B) (gE _)).keeps ((gG _ _).trans s2),hre H2 s1 ((gK _ _).trans s2)⟩⟩):A:=h
theorem E71 (h:A:=by exact ⟨nL++Mo,by rw [gI],op,oc,bs,by rw [gN],fun H2 s1 s2=>⟨by rw [gN];exact (how.rd (B:=B) (gE _)).keeps ((gK _ _).trans s2),by have:=hbe H2 s1 ((gG _ _).trans s2);rw [pairK,GE] at this;exact this⟩⟩):A:=h
theorem E72 (h:A:=by exact (how.rd (B:=B) (gE _)).keeps ((gK _ _).trans s2)):A:=h
theorem E73 (h:A:=by exact hnext2 _ _ _ zO ⟨k+1,p99,c99,vs2++[.slice p97 (((jai most i).getD k []).length+1) c97],n99,Mi2++n97,rfl,by omega,o99,by rw [hsk];exact RdE.snoc (hre2.keeps (gG _ _)) (by rw [gH];rfl) (r97.keeps (gK _ _)) o97.cap,exU rfl,rfl⟩):A:=h
theorem E74 (h:A:=by exact RdE.snoc (hre2.keeps (gG _ _)) (by rw [gH];rfl) (r97.keeps (gK _ _)) o97.cap):A:=h
theorem E75 (h:A:=by exact m.weak jab (hnext2 _ _ _ zO ⟨k+1,op2,oc2,vs2,Mo2,Mi2,rfl,by omega,by rw [hsk];exact how2,by rw [hsk];exact hre2,exU rfl,rfl⟩)):A:=h
theorem E76 (h:A:=by exact m.weak jab (hnext1 _ _ _ zO ⟨i+1,op2,oc2,vs2,Mo2,Mi2,rfl,by omega,by rw [←subK_all];exact how2,by rw [←subK_all];exact hre2,exU rfl,rfl⟩)):A:=h
theorem E77 (h:A:=by exact ⟨Mo++Mi,by rw [gI],op,oc,vs,rfl,fun H2 _ s2=>⟨(how.rd (B:=B) (gE _)).keeps ((gG _ _).trans s2),hre.keeps ((gK _ _).trans s2)⟩⟩):A:=h
theorem E78 (h:A:=by exact ⟨nS++Mo++Mi,by simp only [gI],op,oc,bs,rfl,fun H2 _ s2=>⟨(how.rd (B:=B) (gE _)).keeps (((gK nS Mo).trans (gG _ Mi)).trans s2),hbe.keeps ((List.Sublist.append_right (gG nS Mo) Mi).trans s2)⟩⟩):A:=h
theorem E79 (h:A:=by exact ⟨[],by simp,_,by rw [ha2],fun e=>absurd (ha2▸e) zA⟩):A:=h
theorem E80 (h:A:=by exact f147_c m H' (ra.keeps (sq hH)) ok ((eB.2 y hym).1.keeps (sq hH)) ((eB.2 y hym).2.keeps (sq hH)) hqm.1 hqm.2 st p bt):A:=h
theorem E81 (h:A:=by exact ⟨_,_,_,[],_,[],hW',trodAll_mk1 (shut_bool Tryz.underlying4 _),hq,rfl,hbelow.frame _,fun h=>by cases h⟩):A:=h
theorem E82 (h:A:=by exact (show Tryz.prog.wantsStandIn t=false by simpa using gZ.1 hall t (by simpa using hm))):A:=h
theorem E83 (h:A:=by first|exact ⟨rfl,IsB.yes (by rw [he,gP zO,jc4 ys k zO];rfl)⟩|exact ⟨rfl,IsB.no (by rw [he,show ys.drop k=[] from gP zO];cases xs.drop k<;>simp [jbn])⟩):A:=h
theorem E84 (h:A:=by exact ⟨rfl,IsB.no (by rw [he,show ys.drop k=[] from gP zO];cases xs.drop k<;>simp [jbn])⟩):A:=h
theorem E85 (h:A:=by first|exact ⟨rfl,IsB.yes (.inl zO)⟩|exact ⟨rfl,IsB.yes (.inr ⟨by omega,by assumption⟩)⟩|exact ⟨rfl,IsB.no (by rintro (h1|⟨h1,h2⟩)<;>first|omega|contradiction)⟩):A:=h
theorem E86 (h:A:=by exact ⟨rfl,IsB.yes (.inr ⟨by omega,by assumption⟩)⟩):A:=h
theorem E87 (h:A:=by exact ⟨rfl,IsB.no (by rintro (h1|⟨h1,h2⟩)<;>first|omega|contradiction)⟩):A:=h
theorem E88 (h:A:=by exact m.weak jab (hnext _ _ _ zO ⟨i+1,o,lf,rfl,by omega,by rw [jgH,hak,if_neg (by intro e;have:=e.1;have:jbY (jah b) i<lf:=e.2;omega)],exU rfl,rfl⟩)):A:=h
theorem E89 (h:A:=by exact jcu (jcP (by first|assumption|decide)) (GN _)):A:=h
theorem E90 (h:A:=by exact ⟨p1,p2,p3,p4,p5,p6,p7,p8,p9,e1,e2.keeps (sq hH)⟩):A:=h
end Go.Lo
namespace Go.Proofs
open Go.Lo
open Go.Conc (G)
section
theorem f57_c (m:Md Tryz.prog B) (h:Hp) (x lo hi:Int):FnC m 57 #[.int .i64 x,.int .i64 lo,.int .i64 hi] h fun v h'=>h'=h∧IsB (lo≤x∧x≤hi) v:=by
 refine jae Tryz.func57 rfl rfl (l:=(.int .i64 x)::(.int .i64 lo)::(.int .i64 hi)::uu12) rfl ?_
 intro cf cs K hK
 refine Z8 ?_
 refine jcB rfl zq (fun hc=>?_) (fun hc=>?_)
 ·refine Z3 ?_
  refine jcB rfl rfl (fun hc=>?_) (fun hc=>?_);all_goals
   refine Z4 ?_;refine jac (h) rfl Tryz.func57 rfl jab ?_;refine Zs ?_
   exact E0
 ·refine Z8 ?_;refine jac (h) rfl Tryz.func57 rfl jab ?_;refine Zs ?_
  exact E0
theorem ext_getD (hl:xs.length=ys.length) (he: ∀i,i<xs.length→xs.getD i 0=ys.getD i 0):xs=ys:=by
 apply Ga hl
 intro i h1 h2
 have:=he i h1
 rw [gC,gD h1,gC,gD h2] at this
 exact this
theorem jhP {x:Int}:x∈xs↔ ∃i,i<xs.length∧xs.getD i 0=x:=by
 rw [GK];constructor
 ·rintro ⟨i,h,e⟩;exact ⟨i,h,by rw [gC,gD h];exact e⟩
 ·rintro ⟨i,h,e⟩;exact ⟨i,h,by rw [gC,gD h] at e;exact e⟩
def jbn:List Int→List Int→Bool
 |a::r,b::s=>if a=b then jbn r s else decide (a<b)
 |[],_::_=>true
 |_,[]=>false
def jdh (xs ys:List Int):Prop:=xs.length<ys.length∨(xs.length=ys.length∧jbn xs ys=true)
def jbq (n:Nat):List Int:=(List.range n).map fun i:Nat=>(i:Int)
theorem jf0 (n:Nat):jbq (n+1)=jbq n++[(n:Int)]:=by simp [jbq,GV]
theorem f42_c (m:Md Tryz.prog B) (h:Hp) {c n2 c2:Nat} (rd:RdS B h 1 (.slice p n c) n (jav xs)) (hn:n≤1000000) (rd2:RdS B h 1 (.slice p2 n2 c2) n2 (jav ys)):FnC m 42 #[.slice p n c,.slice p2 n2 c2] h fun v h'=>h'=h∧IsB (xs=ys) v:=by
 have hl:=rd.ilen
 have hl2:=rd2.ilen
 refine jae Tryz.func42 rfl rfl (l:=(.slice p n c)::(.slice p2 n2 c2)::uu24) rfl ?_
 intro cf cs K hK
 refine Z11 ?_
 refine jaI rfl zq (fun hc=>?_) (fun hc=>?_)
 ·refine Z7 ?_;refine jac (h) rfl Tryz.func42 rfl jab ?_;refine Zs ?_
  exact ⟨rfl,IsB.no fun e=>by subst e;omega⟩
 ·refine Z9 ?_
  refine jag (fun nn l h'=> ∃(k:Nat),nn=n-k∧(k≤n)∧(∀i,i<k→xs.getD i 0=ys.getD i 0)∧(∃U:Nat→Value,l=((.slice p n c)::(.slice p2 n2 c2)::(U 2)::(U 3)::(U 4)::(.int .i64 (k:Int))::vw20 U 6 []))∧h=h') _ ⟨0,rfl,by omega,by omega,exU rfl,rfl⟩ ?_;rintro nn l h' ⟨k,rfl,hk,he,⟨U,rfl⟩,rfl⟩ hnext;refine Z6 ?_
  refine jam rfl zq (fun hc=>?_) (fun hc=>?_)
  ·refine Z6 ?_;refine jaq [Zp 0,Zp 1,Zp 2,Zp 4,Zp 5,Zp 6,Zr 3,Zr 7,Zp 8] zK zK (gE _) ?_;refine Z2 ?_
   obtain ⟨rd_b,rd_o,rfl⟩:=rd.ptr zO
   refine D6 ?_;refine Z2 ?_
   obtain ⟨rd2_b,rd2_o,rfl⟩:=rd2.ptr zO
   refine D6 ?_;refine jaN rfl zq (rd.iat k zO zO) ?_;refine jaN rfl zq (rd2.iat k zO zO) ?_
   refine jaI rfl zq (fun hc=>?_) (fun hc=>?_)
   ·refine Z7 ?_;refine jac (h) rfl Tryz.func42 rfl jab ?_;refine Zs ?_
    exact ⟨rfl,IsB.no fun e=>by subst e;contradiction⟩
   ·refine Z9 ?_
    exact m.weak jab (hnext _ _ _ zO ⟨k+1,rfl,by omega,fun i hi=>by
     rcases vG i k with h1|h1
     ·exact he i h1
     ·obtain rfl:i=k:=by omega
      assumption,exU rfl,rfl⟩)
  ·refine Z8 ?_;refine jac (h) rfl Tryz.func42 rfl jab ?_;refine Zs ?_
   exact ⟨rfl,IsB.yes (ext_getD zO fun i hi=>he i zO)⟩
theorem f35_c (m:Md Tryz.prog B) (h:Hp) {c:Nat} (x:Int) (rd:RdS B h 1 (.slice p n c) n (jav xs)) (hn:n≤1000000):FnC m 35 #[.slice p n c,.int .i64 x] h fun v h'=>h'=h∧IsB (x∈xs) v:=by
 have hl:=rd.ilen
 refine jae Tryz.func35 rfl rfl (l:=(.slice p n c)::(.int .i64 x)::uu16) rfl ?_
 intro cf cs K hK
 refine Z10 ?_
 refine jag (fun nn l h'=> ∃(k:Nat),nn=n-k∧(k≤n)∧(∀i,i<k→xs.getD i 0≠x)∧(∃U:Nat→Value,l=((.slice p n c)::(.int .i64 x)::(U 2)::(U 3)::(U 4)::(.int .i64 (k:Int))::vw12 U 6 []))∧h=h') _ ⟨0,rfl,by omega,by omega,exU rfl,rfl⟩ ?_;rintro nn l h' ⟨k,rfl,hk,he,⟨U,rfl⟩,rfl⟩ hnext;refine Z6 ?_
 refine jam rfl zq (fun hc=>?_) (fun hc=>?_)
 ·refine Z9 ?_
  obtain ⟨rd_b,rd_o,rfl⟩:=rd.ptr zO
  refine D6 ?_;refine jaN rfl zq (rd.iat k zO zO) ?_;refine Zs ?_
  refine jaE rfl zq (fun hc=>?_) (fun hc=>?_)
  ·refine Z7 ?_;refine jac (h) rfl Tryz.func35 rfl jab ?_;refine Zs ?_
   exact ⟨rfl,IsB.yes (jhP.2 ⟨k,by omega,by assumption⟩)⟩
  ·refine Z9 ?_
   exact m.weak jab (hnext _ _ _ zO ⟨k+1,rfl,by omega,fun i hi=>by
    rcases vG i k with h1|h1
    ·exact he i h1
    ·obtain rfl:i=k:=by omega
     assumption,exU rfl,rfl⟩)
 ·refine Z8 ?_;refine jac (h) rfl Tryz.func35 rfl jab ?_;refine Zs ?_
  exact ⟨rfl,IsB.no fun e=>by
   obtain ⟨i,h1,h2⟩:=jhP.1 e
   exact he i zO h2⟩
theorem f128_c (m:Md Tryz.prog B) (h:Hp) (z:Nat) (hz:z≤1000):FnC m 128 #[.int .i64 (z:Int)] h fun v h'=> ∃new,h'=h++new∧OwnS 3 1 v z (jav (jbq z)) new:=by
 refine jae Tryz.func128 rfl rfl (l:=(.int .i64 (z:Int))::uu14) rfl ?_
 intro cf cs K hK
 refine Z14 ?_
 refine jag (fun nn l h'=> ∃(k:Nat) (w:Value) (new:Hp),nn=z-k∧(k≤z)∧(OwnS 3 1 w k (jav (jbq k)) new)∧(∃U:Nat→Value,l=((.int .i64 (z:Int))::(U 1)::(U 2)::w::(.int .i64 (k:Int))::vw10 U 5 []))∧h++new=h') _ ⟨0,_,[],rfl,by omega,OwnS.nil,exU rfl,zS⟩ ?_;rintro nn l h' ⟨k,w,new,rfl,hk,ho,⟨U,rfl⟩,rfl⟩ hnext;refine Z5 ?_
 refine jam rfl zq (fun hc=>?_) (fun hc=>?_)
 ·refine Z8 ?_
  refine jb7 kdq rfl zq zA zA rfl (fun q12=>jao (jad ?_));refine k_app1 (F:=h) rfl zq rfl ho kdq zO zO (fun w2 new2 ho2=>jad ?_);rw [show jav (jbq k)++[Value.int .i64 (k:Int)]=jav (jbq (k+1)) by rw [jf0,jbo];rfl] at ho2
  refine Z8 ?_
  exact m.weak jab (hnext _ _ _ zO ⟨k+1,_,_,rfl,by omega,ho2,exU rfl,rfl⟩)
 ·refine Z9 ?_;refine jac (h++new) rfl Tryz.func128 rfl jab ?_;refine Zs ?_
  obtain rfl:k=z:=by omega
  exact ⟨_,rfl,ho⟩
def Asc (ys:List Int):Prop:=ys.Pairwise (· < ·)
theorem Asc.eq: ∀{xs ys:List Int},Asc xs→Asc ys→(∀z,z∈xs↔z∈ys)→xs=ys
 |[],[],_,_,_=>rfl
 |[],b::s,_,_,h=>by have:=(h b).2 zS;simp at this
 |a::r,[],_,_,h=>by have:=(h a).1 zS;simp at this
 |a::r,b::s,h1,h2,h=>by
  unfold Asc at h1 h2
  rw [vX] at h1 h2
  have hab:a=b:=by
   rcases gU.1 ((h a).1 zS) with e|e
   ·exact e
   ·rcases gU.1 ((h b).2 zS) with e'|e'
    ·exact e'.symm
    ·have:=h1.1 b e';have:=h2.1 a e;omega
  subst hab
  have:r=s:=Asc.eq h1.2 h2.2 fun z=>by
   constructor
   ·intro hz
    rcases gU.1 ((h z).1 (gO _ hz)) with e|e
    ·have:=h1.1 z hz;omega
    ·exact e
   ·intro hz
    rcases gU.1 ((h z).2 (gO _ hz)) with e|e
    ·have:=h2.1 z hz;omega
    ·exact e
  rw [this]
theorem OwnS.full {t:Nat} (hl:cs.length=n*k):OwnS t k (.slice (some ⟨q,0,none⟩) n n) n cs [⟨true,q,.cells cs.toArray t (0,0)⟩]:=by
 have:=OwnS.blk (t:=t) (k:=k) (b:=q) (n:=n) (cap:=n) (cs:=cs) (junk:=[]) hl (by simpa using hl) (gM _)
 simpa using this
def RdI (B:Array Obj) (h:Hp) (w:Value) (xs:List Int):Prop:= ∃p c,w= .slice p xs.length c∧RdS B h 1 (.slice p xs.length c) xs.length (jav xs)
theorem RdI.nil:RdI B h (.slice none 0 0) []:=⟨none,0,rfl,none,0,rfl,rfl,.inl ⟨rfl,rfl⟩⟩
theorem take_set {n:Int} (h:i<ln.length):(ln.set i n).take (i+1)=ln.take i++[n]:=by
 rw [VD (by simpa using h)];simp [Vb]
theorem f221_c (m:Md Tryz.prog B) (h:Hp) (x:Int):FnC m 221 #[.int .i64 x] h fun v h'=>h'=h∧v= .bool false:=by
 refine jae Tryz.func221 rfl rfl (l:=[.int .i64 x,undef,undef,undef,undef,undef]) rfl ?_
 intro cf cs K hK
 refine Z8 ?_;refine k_neq rfl zq ?_;refine Z3 ?_;refine jac (h) rfl Tryz.func221 rfl jab ?_;refine Zs ?_
 exact ⟨rfl,by simp⟩
theorem f187_c (m:Md Tryz.prog B) (h:Hp) (x y:Int):FnC m 187 #[.int .i64 x,.int .i64 y] h fun v h'=>h'=h∧IsB (x<y) v:=by
 refine jae Tryz.func187 rfl rfl (l:=(.int .i64 x)::(.int .i64 y)::uu15) rfl ?_
 intro cf cs K hK
 refine Z5 ?_;refine rr13 ?_;refine Zs ?_;refine D84 ?_
 rintro v rfl;refine Z9 ?_
 refine jam rfl rfl (fun hc=>?_) (fun hc=>?_);all_goals
  refine Z4 ?_;refine jac (h) rfl Tryz.func187 rfl jab ?_;refine Zs ?_
  first|exact ⟨rfl,IsB.yes zD⟩|exact ⟨rfl,IsB.no zO⟩
def Ins (ys:List Int) (a i j:Nat):Prop:=(∀p q,a≤p→p<q→q≤i→p≠j→q≠j→ys.getD p 0≤ys.getD q 0)∧(∀q,j<q→q≤i→ys.getD j 0≤ys.getD q 0)
theorem Ins.start {a:Nat} (h:jmF ys a i):Ins ys a i i:=⟨fun p q h1 h2 h3 h4 h5=>h p q h1 h2 zO,fun q h1 h2=>by omega⟩
theorem Ins.stop {ys:List Int} {a i j:Nat} (h:Ins ys a i j) (hj:j=a∨(a<j∧ys.getD (j-1) 0≤ys.getD j 0)) (haj:a≤j) (hji:j≤i):jmF ys a (i+1):=fun p q h1 h2 h3=>by
 by_cases e1:p=j
 ·subst e1
  exact h.2 q h2 zO
 ·by_cases e2:q=j
  ·subst e2
   rcases hj with hj|⟨hj,hle⟩
   ·omega
   ·by_cases e3:p=q-1
    ·subst e3
     exact hle
    ·have:=h.1 p (q-1) h1 zO zO e1 zO
     omega
  ·exact h.1 p q h1 h2 zO e1 e2
theorem Ins.step {ys:List Int} {a i j:Nat} (h:Ins ys a i j) (haj:a<j) (hji:j≤i) (hi:i<ys.length) (hlt:ys.getD j 0<ys.getD (j-1) 0):Ins (jeJ ys j (j-1)) a i (j-1):=by
 have g: ∀k,(jeJ ys j (j-1)).getD k 0=if k=j-1 then ys.getD j 0 else if k=j then ys.getD (j-1) 0 else ys.getD k 0:=fun k=>joP zO zO
 refine ⟨fun p q h1 h2 h3 h4 h5=>?_,fun q h1 h2=>?_⟩
 ·rw [g,g,if_neg h4,if_neg h5];by_cases e1:p=j
  ·subst e1
   rw [if_pos rfl,if_neg zO];exact h.1 (p-1) q zO zO h3 zO zO
  ·rw [if_neg e1];by_cases e2:q=j
   ·subst e2
    rw [if_pos rfl];exact h.1 p (q-1) h1 zO zO e1 zO
   ·rw [if_neg e2];exact h.1 p q h1 h2 h3 e1 e2
 ·rw [g,g,if_pos rfl,if_neg zO];by_cases e2:q=j
  ·subst e2
   rw [if_pos rfl];omega
  ·rw [if_neg e2];exact h.2 q zO h2
theorem swapL_at:(ys.set i (ys.getD j 0)).set j (ys.getD i 0)=jeJ ys i j:=rfl
theorem f181_c (m:Md Tryz.prog B) (h:Hp) {c:Nat} (hl:xs.length=n) (hn:n≤100000) (a b:Nat) (hab:a≤b) (hb:b≤n):FnC m 181 #[.slice (some ⟨bk,0,none⟩) n c,.int .i64 (a:Int),.int .i64 (b:Int)] (h++[jjj bk xs junk]) fun v h'=>v= .tuple [].toArray∧ ∃ys,h'=h++[jjj bk ys junk]∧Sw a b xs ys∧jmF ys a b:=by
 refine jae Tryz.func181 rfl rfl (l:=(.slice (some ⟨bk,0,none⟩) n c)::(.int .i64 (a:Int))::(.int .i64 (b:Int))::uu46) rfl ?_
 intro cf cs K hK
 refine Z7 ?_
 refine jag (fun nn l h'=> ∃(i:Nat) (ys:List Int),nn=b-i∧(a+1≤i)∧(i≤max (a+1) b)∧(Sw a b xs ys)∧(jmF ys a i)∧(∃U:Nat→Value,l=((.slice (some ⟨bk,0,none⟩) n c)::(.int .i64 (a:Int))::(.int .i64 (b:Int))::(U 3)::(U 4)::(U 5)::(.int .i64 (i:Int))::vw42 U 7 []))∧h++[jjj bk ys junk]=h') _ ⟨a+1,xs,rfl,by omega,by omega,.refl _,fun p q h1 h2 h3=>by omega,exU rfl,rfl⟩ ?_;rintro nn l h' ⟨i,ys,rfl,hi1,hi2,hsw,hso,⟨U,rfl⟩,rfl⟩ hnext1;have hyl:=hsw.length
 refine Z5 ?_
 refine jam rfl zq (fun hc=>?_) (fun hc=>?_)
 ·refine Z11 ?_
  refine jag (fun nn l h'=> ∃(j:Nat) (zs:List Int),nn=j+1∧(a≤j)∧(j≤i)∧(Sw a b xs zs)∧(Ins zs a i j)∧(∃U:Nat→Value,l=((.slice (some ⟨bk,0,none⟩) n c)::(.int .i64 (a:Int))::(.int .i64 (b:Int))::(U 3)::(U 4)::(U 5)::(.int .i64 (i:Int))::(.int .i64 (j:Int))::vw41 U 8 []))∧h++[jjj bk zs junk]=h') _ ⟨i,ys,rfl,by omega,by omega,hsw,Ins.start hso,exU rfl,rfl⟩ ?_;rintro nn l h' ⟨j,zs,rfl,hj1,hj2,hzw,hin,⟨U,rfl⟩,rfl⟩ hnext2;have hzl:=hzw.length
  refine Z2 ?_;refine jaq [Zp 0,Zp 1,Zp 2,Zp 3,Zp 4,Zp 5,Zp 6,Zp 8,Zp 9,Zp 10,Zp 11,Zr 7,Zr 12,Zk 13,Zp 14] zK zK (gE _) ?_;refine Z2 ?_
  refine jaJ rfl zq (fun hc=>?_) (fun hc=>?_)
  ·refine Z3 ?_;refine jaL rfl rfl (by first|rfl|assumption) zO zO ?_;refine Z2 ?_;refine jq6 rfl rfl (by unfold jeg;omega) ?_;refine jaL rfl rfl (by first|rfl|assumption) zO zO ?_;refine jaN rfl rfl (jgU j rfl zO) ?_;refine jaN rfl rfl (jgU (j-1) zO zO) ?_;refine jaf (Post:=fun v=>IsB _ v) rfl rfl zK (fun H' hH=>f187_c m H' _ _) ?_
   rintro v (⟨hc,rfl⟩|⟨hc,rfl⟩)
   ·refine Z7 ?_;refine jaq [Zp 0,Zp 1,Zp 2,Zp 3,Zp 4,Zp 5,Zp 6,Zp 7,Zp 8,Zp 10,Zp 11,Zp 12,Zr 9,Zr 13,Zp 14,Zf 15,Zp 16,Zf 17] zK zK (gE _) ?_;refine Z8 ?_;refine D6 ?_;refine Z2 ?_;refine D6 ?_;refine jaN rfl zq (jgU (j-1) zO zO) ?_;refine jaN rfl zq (jgU j rfl zO) ?_;refine D6 ?_
    haveI hs1:=setSeg_ints (xs:=zs) (junk:=junk) (v:=zs.getD (j-1) 0) (i:=(j:Int)) (k:=j) rfl zO
    refine D19 ?_;refine D6 ?_
    haveI hs2:=setSeg_ints (xs:=zs.set j (zs.getD (j-1) 0)) (junk:=junk) (v:=zs.getD j 0) (i:=(j:Int)-1) (k:=j-1) zO zN
    refine D19 ?_
    rw [swapL_at];refine Z7 ?_
    have ej:(j:Int)-1=((j-1:Nat):Int):=by omega
    rw [ej];exact m.weak jab (hnext2 _ _ _ zO ⟨j-1,jeJ zs j (j-1),rfl,by omega,by omega,.step j (j-1) ⟨by omega,by omega⟩ ⟨by omega,by omega⟩ hzw,hin.step zO zO zO zO,exU rfl,rfl⟩)
   ·refine Z11 ?_
    exact E1
  ·refine Z21 ?_
   exact E1
 ·refine Z3 ?_;refine jel rfl ?_;refine jac (h++[jjj bk ys junk]) rfl Tryz.func181 rfl jab ?_;refine Zs ?_
  refine ⟨rfl,ys,rfl,hsw,fun p q h1 h2 h3=>?_⟩
  by_cases e:a<b
  ·exact hso p q h1 h2 zO
  ·omega
theorem f191_c (m:Md Tryz.prog B) (h:Hp) (x:Int) (hx:0≤x∧x<65536):FnC m 191 #[.int .u64 x] h fun v h'=>h'=h∧ ∃k:Int,v= .int .i64 k∧0≤k∧k≤1000:=by
 refine jae Tryz.func191 rfl rfl (l:=(.int .u64 x)::uu24) rfl ?_
 intro cf cs K hK
 refine Z8 ?_
 refine jdH rfl zq (fun hc=>?_) (fun hc=>?_)
 ·exfalso
  omega
 ·refine Z7 ?_
  refine jdH rfl zq (fun hc=>?_) (fun hc=>?_)
  ·exfalso
   omega
  ·refine Z7 ?_
   refine jdH rfl zq (fun hc=>?_) (fun hc=>?_);refine Z5 ?_
   have hq:x.fdiv (2^(min (8:Int).toNat IntKind.u64.bits))=x/256:=by
    rw [Int.fdiv_eq_ediv_of_nonneg _ zA];rfl
   refine k_shr (x/256) rfl zq zA hq ?_;refine Z7 ?_;rotate_left
   refine Z3 ?_
   all_goals
    refine Z4 ?_
    first
     |refine jfG rfl zq zK (n':=x) zF ?_
     |refine jfG rfl zq zK (n':=x/256) zF ?_
    refine k_ixS (n:=256) rfl zq zK zK zO zO (fun b8=>jad ?_);have hb8:=b8.toNat_lt
    refine jfG rfl zq zK (n':=(b8.toNat:Int)) zF ?_;refine Z4 ?_;refine jac (h) rfl Tryz.func191 rfl jab ?_;refine Zs ?_;exact ⟨rfl,_,rfl,by omega,by omega⟩
theorem f151_c (m:Md Tryz.prog B) (h:Hp) (x:Int) (hx:0≤x∧x<65536):FnC m 151 #[.int .u64 x] h fun v h'=>h'=h∧ ∃k:Int,v= .int .i64 k∧0≤k∧k≤1000:=by
 refine jae Tryz.func151 rfl rfl (l:=(.int .u64 x)::uu7) rfl ?_
 intro cf cs K hK
 refine Z10 ?_;refine jaf rfl zq zK (fun H' hH=>f191_c m H' _ hx) ?_
 rintro v ⟨k,rfl,hk0,hk1⟩;refine Z4 ?_;refine jac (h) rfl Tryz.func151 rfl jab ?_;refine Zs ?_
 exact ⟨rfl,_,rfl,hk0,hk1⟩
end
section
def PdqC {B:Array Obj} (m:Md Tryz.prog B) (N:Nat):Prop:= ∀(h:Hp) (bk n c:Nat) (xs:List Int) (junk:List Value) (lim:Int),xs.length=n→n≤N→0≤lim→lim≤1000→
 FnC m 150 #[.slice (some ⟨bk,0,none⟩) n c,.int .i64 0,.int .i64 (n:Int),.int .i64 lim] (h++[jjj bk xs junk]) fun v h'=>v= .tuple [].toArray∧ ∃ys,h'=h++[jjj bk ys junk]∧Sw 0 n xs ys∧jmF ys 0 n
def jc8 (xs:List Int):Nat→List Int
 |0=>[]
 |t+1=>jc8 xs t++if t=0∨xs.getD t 0≠xs.getD (t-1) 0 then [xs.getD t 0] else []
theorem jh7 (xs:List Int): ∀t,t≤xs.length→(∀i,0<i→i<t→xs.getD i 0≠xs.getD (i-1) 0)→jc8 xs t=xs.take t
 |0,_,_=>rfl
 |t+1,h,hd=>by
  rw [jc8,jh7 xs t zO (fun i h1 h2=>hd i h1 zO),take_snoc' xs t zO,if_pos];by_cases e:t=0
  ·exact .inl e
  ·exact .inr (hd t zO zO)
theorem jkn {v:Int} (h:k<ys.length):(ys.set k v).take (k+1)=ys.take k++[v]:=take_set h
theorem jm2 {c:Nat} (hl:ys.length=n) (hj:n+junk.length=c):OwnS 3 1 (.slice (some ⟨bk,0,none⟩) n c) n (jav ys) [jjj bk ys junk]:=
 .blk (by simp [hl]) (by simp [hl];omega) zO
theorem own_cut {c:Nat} (hl:ys.length=n) (hj:n+junk.length=c) (hk:k≤n):OwnS 3 1 (.slice (some ⟨bk,0,none⟩) k c) k (jav (ys.take k)) [jjj bk ys junk]:=by
 have:=(jm2 (bk:=bk) hl hj).pre (m:=k) hk
 rwa [Gw,←jiK] at this
theorem f100_c (m:Md Tryz.prog B) (h:Hp) {c:Nat} (hl:xs.length=n) (hj:n+junk.length=c) (hn:n≤100000):FnC m 100 #[.slice (some ⟨bk,0,none⟩) n c] (h++[jjj bk xs junk]) fun v h'=> ∃nw,h'=h++nw∧ ∃k,k=(jc8 xs n).length∧OwnS 3 1 v k (jav (jc8 xs n)) nw:=by
 refine jae Tryz.func100 rfl rfl (l:=(.slice (some ⟨bk,0,none⟩) n c)::uu60) rfl ?_
 intro cf cs K hK
 refine Z9 ?_
 refine jam rfl zq (fun hc=>?_) (fun hc=>?_)
 ·refine Z8 ?_;refine jac (h++[jjj bk xs junk]) rfl Tryz.func100 rfl jab ?_;refine Zs ?_
  have hall:jc8 xs n=xs:=by rw [jh7 xs n zO (fun i h1 h2=>by omega),gq zO]
  exact ⟨_,rfl,n,by rw [hall,hl],by rw [hall];exact jm2 hl hj⟩
 ·refine Z9 ?_
  refine jag (fun nn l h'=> ∃(k:Nat),nn=n-k∧(1≤k)∧(k≤n)∧(∀i,0<i→i<k→xs.getD i 0≠xs.getD (i-1) 0)∧(∃U:Nat→Value,l=((.slice (some ⟨bk,0,none⟩) n c)::(U 1)::(U 2)::(.int .i64 (k:Int))::vw57 U 4 []))∧h++[jjj bk xs junk]=h') _ ⟨1,rfl,by omega,by omega,fun i h1 h2=>by omega,exU rfl,rfl⟩ ?_;rintro nn l h' ⟨k,rfl,hk1,hk2,hd,⟨U,rfl⟩,rfl⟩ hnext1;have hu:=jh7 xs k zO hd
  refine Z6 ?_
  refine jam rfl zq (fun hc=>?_) (fun hc=>?_)
  ·refine Z6 ?_;refine D53 ?_;refine Z2 ?_;refine D6 ?_;refine Z3 ?_;refine D6 ?_;refine jaN rfl zq (jgU k rfl zO) ?_;refine jaN rfl zq (jgU (k-1) zO zO) ?_
   refine jaE rfl zq (fun hc=>?_) (fun hc=>?_)
   ·refine Z6 ?_;refine jhV (a:=k) rfl zq rfl zO ?_
    rw [jrS zO];refine Z5 ?_
    have hu1:jc8 xs (k+1)=xs.take k:=by rw [jc8,if_neg (by rintro (e|e)<;>omega),ge,hu]
    refine Z3 ?_
    refine jag (fun nn l h'=> ∃(j e:Nat) (ys:List Int),nn=n-j∧(1≤j)∧(k+j≤n)∧(e=(jc8 xs (k+j)).length)∧(e<k+j)∧(k≤e)∧(ys.length=n)∧(ys.take e=jc8 xs (k+j))∧(∀i,k+j≤i+1→ys.getD i 0=xs.getD i 0)∧(∃U:Nat→Value,l=((.slice (some ⟨bk,0,none⟩) n c)::(U 1)::(U 2)::(.int .i64 (e:Int))::(.slice (some ⟨bk,k,none⟩) (n-k) (c-k))::(.int .i64 (j:Int))::vw55 U 6 []))∧h++[jjj bk ys junk]=h') _ ⟨1,k,xs,rfl,by omega,by omega,by rw [hu1,GO];omega,by omega,by omega,hl,by rw [hu1],fun i hi=>rfl,exU rfl,rfl⟩ ?_;rintro nn l h' ⟨j,e,ys,rfl,hj1,hj2,he,hek,hke,hyl,hyt,hys,⟨U,rfl⟩,rfl⟩ hnext2;refine Z6 ?_
    refine jam rfl zq (fun hc=>?_) (fun hc=>?_)
    ·refine Z6 ?_;refine D53 ?_
     have hy1:=hys (k+j) zO
     have hy2:=hys (k+(j-1)) zO
     refine Z2 ?_;refine D6 ?_;refine Z3 ?_;refine D6 ?_;refine jaN rfl zq (jm0 j rfl zO) ?_;refine jaN rfl zq (jm0 (j-1) zO zO) ?_
     rw [hy1,hy2];refine jaI rfl zq (fun hc=>?_) (fun hc=>?_)
     ·have hU:jc8 xs (k+(j+1))=jc8 xs (k+j)++[xs.getD (k+j) 0]:=by
       rw [show k+(j+1)=(k+j)+1 by omega,jc8,if_pos (.inr (by rw [show k+j-1=k+(j-1) by omega];exact hc))]
      refine Z8 ?_;refine D6 ?_;refine jaN rfl zq (jm0 j rfl zO) ?_
      rw [hy1];refine D6 ?_
      haveI hs1:=setSeg_ints (xs:=ys) (junk:=junk) (v:=xs.getD (k+j) 0) (i:=(e:Int)) (k:=e) rfl zO
      refine D19 ?_;refine Z12 ?_
      exact m.weak jab (hnext2 _ _ _ zO ⟨j+1,e+1,ys.set e (xs.getD (k+j) 0),rfl,by omega,by omega,by rw [hU,gH,←he];rfl,by omega,by omega,by simp [hyl],by rw [jkn zO,hyt,hU],fun i hi=>by rw [jkV zO,if_neg zO];exact hys i zO,exU rfl,rfl⟩)
     ·have hU:jc8 xs (k+(j+1))=jc8 xs (k+j):=by
       rw [show k+(j+1)=(k+j)+1 by omega,jc8,if_neg (fun y=>y.elim (fun x=>by omega) (fun x=>x (by rw [show k+j-1=k+(j-1) by omega];exact hc))),ge]
      refine Z9 ?_
      exact m.weak jab (hnext2 _ _ _ zO ⟨j+1,e,ys,rfl,by omega,by omega,by rw [hU,←he],by omega,by omega,hyl,by rw [hU,hyt],fun i hi=>hys i zO,exU rfl,rfl⟩)
    ·refine Z5 ?_
     obtain rfl:n=k+j:=by omega
     refine Z2 ?_;refine jhV (a:=e) rfl zq rfl zO ?_;refine k_clear rfl zq hyl zO zO ?_;refine Z5 ?_;refine joh (b:=e) rfl zq (.inr ⟨_,_,rfl⟩) rfl zO ?_;refine Z3 ?_;refine jac (h++[jjj bk (ys.take e++List.replicate (k+j-e) 0) junk]) rfl Tryz.func100 rfl jab ?_;refine Zs ?_
     refine ⟨_,rfl,e,he,?_⟩
     have:=own_cut (bk:=bk) (n:=k+j) (c:=c) (k:=e) (ys:=ys.take e++List.replicate (k+j-e) 0) (junk:=junk) zN hj zO
     rw [VQ zN,List.take_take,Nat.min_self,hyt] at this
     rw [hyt];exact this
   ·refine Z9 ?_
    exact m.weak jab (hnext1 _ _ _ zO ⟨k+1,rfl,by omega,by omega,fun i h1 h2=>by
     rcases vG i k with h3|h3
     ·exact hd i h1 h3
     ·obtain rfl:i=k:=by omega
      assumption,exU rfl,rfl⟩)
  ·refine Z9 ?_;refine jac (h++[jjj bk xs junk]) rfl Tryz.func100 rfl jab ?_;refine Zs ?_
   obtain rfl:k=n:=by omega
   have hall:jc8 xs k=xs:=by rw [hu,gq zO]
   exact ⟨_,rfl,k,by rw [hall,hl],by rw [hall];exact jm2 hl hj⟩
theorem f99_c (m:Md Tryz.prog B) (h:Hp) {N:Nat} (hP:PdqC m N) (hN:N≤60000) {c:Nat} (hl:xs.length=n) (hn:n≤N):FnC m 99 #[.slice (some ⟨bk,0,none⟩) n c] (h++[jjj bk xs junk]) fun v h'=>v= .tuple [].toArray∧ ∃ys,h'=h++[jjj bk ys junk]∧Sw 0 n xs ys∧jmF ys 0 n:=by
 refine jae Tryz.func99 rfl rfl (l:=(.slice (some ⟨bk,0,none⟩) n c)::uu10) rfl ?_
 intro cf cs K hK
 refine Z10 ?_;refine jfG rfl zq zK (n':=(n:Int)) zF ?_;refine jaf rfl zq zK (fun H' hH=>f151_c m H' _ zO) ?_
 rintro v ⟨lim,rfl,hk0,hk1⟩;refine Zs ?_;refine jdp rfl zq zK (hP h bk n c xs junk lim hl hn hk0 hk1) ?_
 rintro v h' ⟨rfl,ys,rfl,hsw,hso⟩;refine Z2 ?_;refine jel rfl ?_;refine jac (h++[jjj bk ys junk]) rfl Tryz.func99 rfl jab ?_;refine Zs ?_
 exact ⟨rfl,ys,rfl,hsw,hso⟩
section
variable {m:Md P B}
end
def jrW:List Int→List Int→Int
 |[],[]=>0
 |[],_::_=> -1
 |_::_,[]=>1
 |a::r,b::s=>if a<b then-1 else if b<a then 1 else jrW r s
theorem jgE (xs:List Int) (k:Nat) (h:k<xs.length):xs.drop k=xs.getD k 0::xs.drop (k+1):=by
 rw [vN h,gC,gD h];rfl
theorem jrV (h1:k<xs.length) (h2:k<ys.length):jrW (xs.drop k) (ys.drop k)=if xs.getD k 0<ys.getD k 0 then-1 else if ys.getD k 0<xs.getD k 0 then 1 else jrW (xs.drop (k+1)) (ys.drop (k+1)):=by
 rw [jgE xs k h1,jgE ys k h2];rfl
theorem sgn_ne (h:(if a<b then (-1:Int) else if b<a then 1 else 0)≠0):(if a<b then (-1:Int) else if b<a then 1 else 0)=if a<b then-1 else if b<a then 1 else z:=by
 split
 ·rfl
 ·rename_i h1
  rw [if_neg h1] at h
  split
  ·rfl
  ·rename_i h2
   rw [if_neg h2] at h
   exact absurd rfl h
theorem sgn_eq (h:(if a<b then (-1:Int) else if b<a then 1 else 0)=0):(if a<b then (-1:Int) else if b<a then 1 else z)=z:=by
 split
 ·rename_i h1
  rw [if_pos h1] at h
  cases h
 ·rename_i h1
  rw [if_neg h1] at h
  split
  ·rename_i h2
   rw [if_pos h2] at h
   cases h
  ·rfl
theorem jk4 (h1:k≤xs.length) (h2:k≤ys.length) (h:xs.length=k∨ys.length=k):jrW (xs.drop k) (ys.drop k)=if k<xs.length then 1 else if k<ys.length then-1 else 0:=by
 by_cases e:k<xs.length
 ·rw [if_pos e,jgE xs k e,(gP zO:ys.drop k=[])];rfl
 ·rw [if_neg e,(gP zO:xs.drop k=[])];by_cases e2:k<ys.length
  ·rw [if_pos e2,jgE ys k e2];rfl
  ·rw [if_neg e2,(gP zO:ys.drop k=[])];rfl
theorem f227_c (m:Md Tryz.prog B) (h:Hp) (x y:Int):FnC m 227 #[.int .i64 x,.int .i64 y] h fun v h'=>h'=h∧v= .int .i64 (if x<y then-1 else if y<x then 1 else 0):=by
 refine jae Tryz.func227 rfl rfl (l:=(.int .i64 x)::(.int .i64 y)::uu18) rfl ?_
 intro cf cs K hK
 refine Z7 ?_;refine D84 ?_
 rintro v rfl;refine Z6 ?_;refine D84 ?_
 rintro v rfl;refine Z22 ?_
 refine jam rfl zq (fun hc=>?_) (fun hc=>?_)
 ·refine Z7 ?_;refine jac (h) rfl Tryz.func227 rfl jab ?_;refine Zs ?_
  exact E2
 ·refine Z8 ?_
  refine jaJ rfl zq (fun hc=>?_) (fun hc=>?_);refine Z2 ?_
  rotate_left
  refine Z3 ?_
  all_goals
   refine Z5 ?_;refine jac (h) rfl Tryz.func227 rfl jab ?_;refine Zs ?_
   exact E2
theorem f210_c (m:Md Tryz.prog B) (h:Hp) {c:Nat} (rd:RdS B h 1 (.slice p n c) n (jav xs)) (hn:n≤1000000) {n2 c2:Nat} (rd2:RdS B h 1 (.slice p2 n2 c2) n2 (jav ys)):FnC m 210 #[.slice p n c,.slice p2 n2 c2] h fun v h'=>h'=h∧v= .int .i64 (jrW xs ys):=by
 have hl:=rd.ilen
 have hl2:=rd2.ilen
 refine jae Tryz.func210 rfl rfl (l:=(.slice p n c)::(.slice p2 n2 c2)::uu34) rfl ?_
 intro cf cs K hK
 refine Z12 ?_
 refine jag (fun nn l h'=> ∃(k:Nat),nn=n-k∧(k≤n)∧(k≤n2)∧(jrW xs ys=jrW (xs.drop k) (ys.drop k))∧(∃U:Nat→Value,l=((.slice p n c)::(.slice p2 n2 c2)::vw7 U 2 ((.slice p n c)::(.int .i64 (n:Int))::(.int .i64 (k:Int))::vw24 U 12 [])))∧h=h') _ ⟨0,rfl,by omega,by omega,rfl,exU rfl,rfl⟩ ?_;rintro nn l h' ⟨k,rfl,hk,hk2,he,⟨U,rfl⟩,rfl⟩ hnext;refine Z2 ?_
 refine jam rfl zq (fun hc=>?_) (fun hc=>?_)
 ·refine Z9 ?_
  obtain ⟨rd_b,rd_o,rfl⟩:=rd.ptr zO
  refine D6 ?_;refine jaN rfl zq (rd.iat k zO zO) ?_;refine Z9 ?_
  refine jdH rfl zq (fun hc=>?_) (fun hc=>?_)
  ·refine Z7 ?_;refine D101 ?_;refine Zs ?_
   exact ⟨rfl,by rw [he,jk4 zO zO zO,if_pos zO]⟩
  ·refine Z7 ?_
   obtain ⟨rd2_b,rd2_o,rfl⟩:=rd2.ptr zO
   refine D6 ?_;refine jaN rfl zq (rd2.iat k zO zO) ?_;refine Z6 ?_;refine jaf (Post:=fun v=>v=_) rfl zq zK (fun H' hH=>f227_c m H' _ _) ?_
   rintro v rfl;refine Z5 ?_
   have hcd:=jrV (xs:=xs) (ys:=ys) (k:=k) zO zO
   refine Zs ?_
   refine jaI rfl zq (fun hc=>?_) (fun hc=>?_)
   ·refine Z8 ?_;refine D101 ?_;refine Zs ?_
    exact ⟨rfl,by rw [he,hcd];exact congrArg _ (sgn_ne hc)⟩
   ·have hcz:=hc
    refine Z8 ?_
    exact m.weak jab (hnext _ _ _ zO ⟨k+1,rfl,by omega,by omega,by rw [he,hcd,sgn_eq hcz],exU rfl,rfl⟩)
 ·refine Z11 ?_
  refine jam rfl zq (fun hc=>?_) (fun hc=>?_)
  ·refine Z7 ?_;refine D101 ?_;refine Zs ?_
   exact ⟨rfl,by rw [he,jk4 zO zO zO,if_neg zO,if_pos zO]⟩
  ·refine Z8 ?_;refine D101 ?_;refine Zs ?_
   exact ⟨rfl,by rw [he,jk4 zO zO zO,if_neg zO,if_neg zO]⟩
def bitN (mm k:Nat):Nat:=(mm/2^k)%2
def jbZ (mm k:Nat):List Int:=(jbq k).filter fun i=>decide (bitN mm i.toNat=1)
def w1 (o:Option Nat) (n:Nat):Nat:=match o with|none=>0|some s=>if s=2*n then 2 else 1
section
variable {m:Md P B}
theorem k_quo {x:Operand} {w:Int} (a k:Nat) (ho:ops[i]?=some ⟨d,.binOp .quo t x y u,ty,pos,af,g⟩) (hw:Wt ops l g) [KHeap kd S h H] [ex:OpV l x (.int .i64 z)] [ey:OpV l y (.int .i64 w)] (hz:z=a) (hk:w=k) (h0:0<k) (ha:a≤10000000) [PutV l d (.int .i64 ((a/k:Nat):Int)) l'] (q:RegK m S ops r l' h C):RegK m S ops ((i,kd)::r) l h C:=
 RegK.rd (v:= .int .i64 ((a/k:Nat):Int)) ho hw (jbc ex.eq ey.eq zS (by
  subst hz
  subst hk
  have:(k:Int)≠0:=by omega
  have hle:=Nat.div_le_self a k
  have h64:jeg ((a/k:Nat):Int):=by generalize a/k=q at hle⊢;unfold jeg;omega
  simp only [binOp,Op.intDiv,if_neg this,←Int.ofNat_tdiv,jdV h64]
  rfl)) q
end
end
section
section
variable {m:Md P B}
theorem k_nilC {x:Operand} {a:Addr} (ho:ops[i]?=some ⟨d,.nilCheck x,ty,pos,af,g⟩) (hw:Wt ops l g) [KHeap kd S h H] [ex:OpV l x (.pointer (some a))] [PutV l d (.pointer (some a)) l'] (q:RegK m S ops r l' h C):RegK m S ops ((i,kd)::r) l h C:=
 RegK.rd (v:= .pointer (some a)) ho hw (by
  simp only [execOp,ex.eq]
  exact Reads.pure _) q
end
section
variable {m:Md P B}
end
end
section
class Off (h new:Hp) (F:outParam Hp):Prop where
 perm:h.Perm (F++new)
instance (priority:=2000) {A new:Hp}:Off (A++new) new A:=⟨List.Perm.refl _⟩
instance (priority:=1000) {A new:Hp} [o:Off A new F]:Off (A++X) new (F++X):=⟨by
 refine (o.perm.append_right X).trans ?_
 rw [gI,gI];exact Gz F vO⟩
section
variable {m:Md P B}
theorem ja6 {t t2 t3 by' c:Nat} {x:Operand} {s:Value} {rw:Bool} {ys:List Value} {new:Hp} (ho:ops[i]?=some ⟨d,.call ⟨.builtin .append,[x,y].toArray,#[t,t2]⟩,ty,pos,af,g⟩) (hg:Wt ops l g)
  [ex:OpV l x s] [ey:OpV l y (.slice (some ⟨q,0,none⟩) mm c)] [SliceT P t e k] [SliceT P t2 e k] [ElemT P e k by'] [hh:Has h q rw (.cells ys.toArray t3 f)] [on:Ones ys] (hy:ys.length=mm*k) (o:OwnS e k s n cs new) [w:Off h new F] (hk:kd= .free∨(kd= .keep∧S.Sublist F)) (hb:2*(n+mm)*by'≤2^48) (hmax:n+mm≤2^62)
  (cc: ∀v' new',OwnS e k v' (n+mm) (cs++ys) new'→RegK m S ops r (put l d v') (F++new') C):RegK m S ops ((i,kd)::r) l h C:=
 jrh ho hg (Weak.perm w.perm) o (jeX hy) on.one hk hb hmax cc
end
theorem jfh {F1 F2 L:Hp} [a:Off h' L F1] [b:Off F1 M F2] [s:SubH H F2]:Weak B h' (H++M++L):=
 (Weak.perm a.perm).trans (((Weak.perm b.perm).trans ((Weak.sub s.sub).apps M)).apps L)
theorem setSeg_ints {j:Int} (a:Int) (hj:j=i) (hi:i<xs.length):SetSeg (jav xs++junk) (0+j.toNat*1) [.int .i64 a] (jav (xs.set i a)++junk):=by
 subst hj
 have hl:(jav xs).length=xs.length:=gN ..
 refine ⟨?_,by rw [gm,gH,hl];simp only [gV,Gp];omega⟩
 rw [gm,GG,Gw,VQ zO,List.drop_append_of_le_length (by simp only [gV,Gp];omega),←jiK,←jrm,Gj,if_pos hi,jbo];simp [jav]
theorem jqP {A new:Hp} (o:X.Perm (F++new)):(A++X).Perm ((A++F)++new):=by
 rw [gI];exact Gz A o
instance (priority:=900) {A new:Hp} [o:Off X new F]:Off (A++X) new (A++F):=⟨jqP o.perm⟩
instance {x:Chunk} {l:Hp}:Off (x::l) [x] l:=⟨by
 have:=vO (l₁:=[x]) (l₂:=l)
 exact this⟩
instance (priority:=900) {y:Chunk} {l new:Hp} [o:Off l new F]:Off (y::l) new (y::F):=⟨o.perm.cons y⟩
section
variable {m:Md P B}
theorem jbz {t t2 by':Nat} {x:Operand} {s u:Value} {ys:List Value} {new:Hp} (ho:ops[i]?=some ⟨d,.call ⟨.builtin .append,[x,y].toArray,#[t,t2]⟩,ty,pos,af,g⟩) (hg:Wt ops l g)
  [ex:OpV l x s] [ey:OpV l y u] [SliceT P t e k] [SliceT P t2 e k] [ElemT P e k by'] (o:OwnS e k s n cs new) (rx:RdS B h k u mm ys) (h1: ∀u∈ys,u.oneCell'=true) [w:Off h new F] (hk:kd= .free∨(kd= .keep∧S.Sublist F)) (hb:2*(n+mm)*by'≤2^48) (hmax:n+mm≤2^62)
  (c: ∀v' new',OwnS e k v' (n+mm) (cs++ys) new'→RegK m S ops r (put l d v') (F++new') C):RegK m S ops ((i,kd)::r) l h C:=
 jrh ho hg (Weak.perm w.perm) o rx h1 hk hb hmax c
end
theorem jbp (h:i<n):(jbq n).getD i 0=(i:Int):=by
 unfold jbq
 rw [gC,gX,Gg h];rfl
end
section
theorem f117_c (m:Md Tryz.prog B) (h:Hp) (x lo hi:Int):FnC m 117 #[.int .i64 x,.int .i64 lo,.int .i64 hi] h fun v h'=>h'=h∧IsB (lo≤x∧x≤hi) v:=by
 refine jae Tryz.func117 rfl rfl (l:=(.int .i64 x)::(.int .i64 lo)::(.int .i64 hi)::uu12) rfl ?_
 intro cf cs K hK
 refine Z8 ?_
 refine jcB rfl zq (fun hc=>?_) (fun hc=>?_)
 ·refine Z3 ?_
  refine jcB rfl rfl (fun hc=>?_) (fun hc=>?_);all_goals
   refine Z4 ?_;refine jac (h) rfl Tryz.func117 rfl jab ?_;refine Zs ?_
   exact E0
 ·refine Z8 ?_;refine jac (h) rfl Tryz.func117 rfl jab ?_;refine Zs ?_
  exact E0
def partsI (n:Int):List Int:=[n/96,n/8%12,n%8]
abbrev p3V (v:List Int):Value:= .agg [.int .i64 (v.getD 0 0),.int .i64 (v.getD 1 0),.int .i64 (v.getD 2 0)].toArray
theorem f118_c (m:Md Tryz.prog B) (h:Hp) (n:Nat) (hn:n<960):FnC m 118 #[.int .i64 (n:Int)] h fun v h'=>h'=h∧v=p3V (partsI n):=by
 refine jae Tryz.func118 rfl rfl (l:=(.int .i64 (n:Int))::uu10) rfl ?_
 intro cf cs K hK
 refine Z2 ?_
 refine jay rfl zq (fun q2=>jao (jad ?_));refine Z4 ?_;refine k_quo n 96 rfl zq rfl rfl zO zO ?_;refine Zs ?_;refine k_quo n 8 rfl zq rfl rfl zO zO ?_;refine k_rem (a:=n/8) (b:=12) rfl zq zO ?_;refine Zs ?_;refine k_rem (a:=n) (b:=8) rfl zq zO ?_;refine k_bldA rfl zq rfl ?_;refine D4 ?_;refine Z2 ?_;refine jac (h) rfl Tryz.func118 rfl jab ?_;refine Zs ?_
 exact ⟨rfl,rfl⟩
section
variable {m:Md P B}
theorem k_andV {x:Operand} {k:IntKind} (v:Int) (ho:ops[i]?=some ⟨d,.binOp .and t x y u,ty,pos,af,g⟩) (hw:Wt ops l g) [KHeap kd S h H] [ex:OpV l x (.int k a)] [ey:OpV l y (.int k b)] (hv:bAnd k a b=v) [PutV l d (.int k v) l'] (n:RegK m S ops r l' h C):RegK m S ops ((i,kd)::r) l h C:=
 RegK.rd (v:= .int k v) ho hw (jbc ex.eq ey.eq zS (jfE hv)) n
theorem k_orV {x:Operand} {k:IntKind} (v:Int) (ho:ops[i]?=some ⟨d,.binOp .or t x y u,ty,pos,af,g⟩) (hw:Wt ops l g) [KHeap kd S h H] [ex:OpV l x (.int k a)] [ey:OpV l y (.int k b)] (hv:bOr k a b=v) [PutV l d (.int k v) l'] (n:RegK m S ops r l' h C):RegK m S ops ((i,kd)::r) l h C:=
 RegK.rd (v:= .int k v) ho hw (jbc ex.eq ey.eq zS (op_or hv)) n
theorem k_subV {x:Operand} {k:IntKind} (v:Int) (ho:ops[i]?=some ⟨d,.binOp .sub t x y u,ty,pos,af,g⟩) (hw:Wt ops l g) [KHeap kd S h H] [ex:OpV l x (.int k a)] [ey:OpV l y (.int k b)] (hv:k.wrap (a-b)=v) [PutV l d (.int k v) l'] (n:RegK m S ops r l' h C):RegK m S ops ((i,kd)::r) l h C:=
 RegK.rd (v:= .int k v) ho hw (jbc ex.eq ey.eq zS (op_sub hv)) n
theorem k_eqlV {x:Operand} {k:IntKind} (v:Bool) (ho:ops[i]?=some ⟨d,.binOp .eql t x y u,ty,pos,af,g⟩) (hw:Wt ops l g) [KHeap kd S h H] [ex:OpV l x (.int k a)] [ey:OpV l y (.int k b)] (hv:decide (a=b)=v) [PutV l d (.bool v) l'] (n:RegK m S ops r l' h C):RegK m S ops ((i,kd)::r) l h C:=
 RegK.rd (v:= .bool v) ho hw (jbc ex.eq ey.eq zS (jho hv)) n
end
theorem shr_nat (s:Nat) (hi:i<64):(s:Int).fdiv (2^(min (i:Int).toNat IntKind.u64.bits))=((s/2^i:Nat):Int):=by
 rw [gm,show min i IntKind.u64.bits=i from xN (by show i≤64;omega)];rw [show ((2:Int)^i)=((2^i:Nat):Int) by simp,Int.fdiv_eq_ediv_of_nonneg _ (Int.natCast_nonneg _)];rfl
theorem and_one (n:Nat) (hn:n<4096):bAnd .u64 (n:Int) 1=((n%2:Nat):Int):=by
 have h:((List.range 4096).all fun n=>bAnd .u64 (n:Int) 1==((n%2:Nat):Int))=true:=by kernel_rfl
 simpa using gZ.1 h n (gT.2 hn)
theorem bit_dec (s i:Nat):decide (((s/2^i%2:Nat):Int)=1)=s.testBit i:=by
 rw [Nat.testBit_eq_decide_div_mod_eq];by_cases h:s/2^i%2=1
 ·simp [h]
 ·simp only [h,decide_false]
  exact decide_eq_false zO
theorem f98_c (m:Md Tryz.prog B) (h:Hp) (s i:Nat) (hs:s<4096) (hi:i<12):FnC m 98 #[.int .u64 (s:Int),.int .i64 (i:Int)] h fun v h'=>h'=h∧v= .bool (s.testBit i):=by
 refine jae Tryz.func98 rfl rfl (l:=(.int .u64 (s:Int))::(.int .i64 (i:Int))::uu8) rfl ?_
 intro cf cs K hK
 refine Z8 ?_;refine k_shr ((s/2^i:Nat):Int) rfl zq zO (shr_nat s zO) ?_;refine k_andV ((s/2^i%2:Nat):Int) rfl zq (and_one _ (Nat.lt_of_le_of_lt (Nat.div_le_self _ _) zO)) ?_;refine k_eqlV (s.testBit i) rfl zq (bit_dec s i) ?_;refine Z3 ?_;refine jac (h) rfl Tryz.func98 rfl jab ?_;refine Zs ?_
 exact ⟨rfl,rfl⟩
theorem jkf (n:Nat) (hn:n<2^64):IntKind.u64.wrap (n:Int)=(n:Int):=by
 unfold IntKind.wrap
 simp [IntKind.bits,IntKind.signed]
 omega
theorem or_nat (a b:Nat) (ha:a<2^64) (hb:b<2^64):bOr .u64 (a:Int) (b:Int)=((a|||b:Nat):Int):=by
 unfold bOr
 have e:(BitVec.ofInt IntKind.u64.bits (a:Int)|||BitVec.ofInt IntKind.u64.bits (b:Int)).toNat=a|||b:=by
  rw [BitVec.toNat_or,BitVec.ofInt_natCast,BitVec.ofInt_natCast,BitVec.toNat_ofNat,BitVec.toNat_ofNat];rw [show IntKind.u64.bits=64 from rfl,Nat.mod_eq_of_lt ha,Nat.mod_eq_of_lt hb]
 rw [e];exact jkf _ (Nat.or_lt_two_pow ha hb)
theorem jqg (i:Nat) (hi:i<64):IntKind.u64.wrap ((1:Int)*2^(min (i:Int).toNat IntKind.u64.bits))=((2^i:Nat):Int):=by
 rw [gm,show min i IntKind.u64.bits=i from xN (by show i≤64;omega),Int.one_mul];rw [show ((2:Int)^i)=((2^i:Nat):Int) by simp];exact jkf _ (Nat.pow_lt_pow_right zO hi)
theorem f106_c (m:Md Tryz.prog B) (h:Hp) (n:Nat) (hn:n≤12):FnC m 106 #[.int .i64 (n:Int)] h fun v h'=>h'=h∧v= .int .u64 ((2^n-1:Nat):Int):=by
 refine jae Tryz.func106 rfl rfl (l:=[.int .i64 (n:Int),undef,undef,undef,undef,undef]) rfl ?_
 intro cf cs K hK
 refine Z7 ?_;refine k_shl ((2^n:Nat):Int) rfl zq zO (jqg n zO) ?_;refine k_subV ((2^n-1:Nat):Int) rfl zq (by have:=GY (n:=2) zO hn;have:=Nat.pow_pos (n:=n) (show 0<2 by omega);rw [show ((2^n:Nat):Int)-1=((2^n-1:Nat):Int) by omega];exact jkf _ zO) ?_;refine Z3 ?_;refine jac (h) rfl Tryz.func106 rfl jab ?_;refine Zs ?_
 exact ⟨rfl,rfl⟩
theorem f135_c (m:Md Tryz.prog B) (h:Hp) (s i:Nat) (hs:s<4096) (hi:i<12):FnC m 135 #[.int .u64 (s:Int),.int .i64 (i:Int)] h fun v h'=>h'=h∧v= .int .u64 ((s|||2^i:Nat):Int):=by
 refine jae Tryz.func135 rfl rfl (l:=(.int .u64 (s:Int))::(.int .i64 (i:Int))::uu7) rfl ?_
 intro cf cs K hK
 refine Z8 ?_;refine k_shl ((2^i:Nat):Int) rfl zq zO (jqg i zO) ?_;refine k_orV ((s|||2^i:Nat):Int) rfl zq (or_nat _ _ zO (Nat.pow_lt_pow_right zO zO)) ?_;refine Z3 ?_;refine jac (h) rfl Tryz.func135 rfl jab ?_;refine Zs ?_
 exact ⟨rfl,rfl⟩
end
section
class LaidO (B:Array Obj):Prop where
 halves: ∃t f,B[0]?=some (.cells [str [119,97,116,101,114],.bool false,.func (.func 261) #[] #[],str [98,117,116,116],.bool true,.func (.func 262) #[] #[]].toArray t f)
 mosts: ∃t f,B[1]?=some (.cells [.int .i64 9,.int .i64 11,.int .i64 7].toArray t f)
variable [LaidO B]
theorem jfX [x:LaidO B]:RdN B h 0 0 [str [119,97,116,101,114],.bool false,.func (.func 261) #[] #[],str [98,117,116,116],.bool true,.func (.func 262) #[] #[]]:=fun j hj=>by
 obtain ⟨t,f,e⟩:=x.halves
 refine Rd.base rfl e ?_
 rw [GG,gd,gC,gD hj];rfl
theorem jpi [x:LaidO B]:RdN B h 1 0 [.int .i64 9,.int .i64 11,.int .i64 7]:=fun j hj=>by
 obtain ⟨t,f,e⟩:=x.mosts
 refine Rd.base rfl e ?_
 rw [GG,gd,gC,gD hj];rfl
theorem most_at [LaidO B] (k:Nat) (hk:k<3):Rd B h ⟨1,k,none⟩ (.int .i64 (mosts.getD k 0)):=by
 have:=jpi (B:=B) (h:=h) k hk
 rw [GG] at this
 rcases (by omega:k=0∨k=1∨k=2) with rfl|rfl|rfl<;>exact this
end
section
variable [LaidO B]
theorem three (h:v.length=3): ∃a b c,v=[a,b,c]:=by
 match v,h with
 |[a,b,c],_=>exact ⟨a,b,c,rfl⟩
theorem jnX {c:UInt8} {r:Str} (h:c.toNat=45∧0<n∧k<2):rdF mo (c::r) v k n=rdF mo r v (k+1) 0:=by rw [rdF,if_pos h]
theorem jqz {c:UInt8} {r:Str} (h:c.toNat=63∧n=0) (hm:(v.set k (-1)).getD k 0≤mo.getD k 0):rdF mo (c::r) v k n=rdF mo r (v.set k (-1)) k (n+1):=by
 rw [rdF,if_neg zO,if_pos h,if_neg zO]
theorem jkB {c:UInt8} {r:Str} (h:(48≤c.toNat∧c.toNat≤57)∧(n=0∨v.getD k 0>0)) (hm:(v.set k (10*v.getD k 0+((c.toNat:Int)-48))).getD k 0≤mo.getD k 0):rdF mo (c::r) v k n=rdF mo r (v.set k (10*v.getD k 0+((c.toNat:Int)-48))) k (n+1):=by
 rw [rdF,if_neg zO,if_neg zO,if_pos h,if_neg zO]
theorem jkC {c:UInt8} {r:Str} (h:(48≤c.toNat∧c.toNat≤57)∧(n=0∨v.getD k 0>0)) (hm:(v.set k (10*v.getD k 0+((c.toNat:Int)-48))).getD k 0>mo.getD k 0):rdF mo (c::r) v k n=([0,0,0],false):=by
 rw [rdF,if_neg zO,if_neg zO,if_pos h,if_pos hm]
theorem jc2 {c:UInt8} {r:Str} (h1: ¬(c.toNat=45∧0<n∧k<2)) (h2: ¬(c.toNat=63∧n=0)) (h3: ¬((48≤c.toNat∧c.toNat≤57)∧(n=0∨v.getD k 0>0))):rdF mo (c::r) v k n=([0,0,0],false):=by
 rw [rdF,if_neg h1,if_neg h2,if_neg h3]
theorem most_atI (k:Nat) (hk:k<3):Rd B h ⟨1,0+(k:Int).toNat*1,none⟩ (.int .i64 (mosts.getD k 0)):=by
 rw [show 0+(k:Int).toNat*1=k by omega];exact most_at k hk
theorem jbE {x:Int} (h:k<v.length):(v.set k x).getD k 0=x:=by
 rw [gC,Vv h];rfl
theorem jik {x c:Int} (hx:a≤x∧x≤c) (hv: ∀j,a≤v.getD j 0∧v.getD j 0≤c) (j:Nat):a≤(v.set k x).getD j 0∧(v.set k x).getD j 0≤c:=by
 rw [gC,vT];have:=hv j
 rw [gC] at this
 split
 ·split
  ·exact hx
  ·rw [gh zO] at this
   exact this
 ·exact this
theorem jdo (h:k<3):7≤mosts.getD k 0∧mosts.getD k 0≤11:=by
 rcases (by omega:k=0∨k=1∨k=2) with rfl|rfl|rfl<;>decide
theorem zero3 (j:Nat): -1≤([0,0,0]:List Int).getD j 0∧([0,0,0]:List Int).getD j 0≤11:=by
 match j with
 |0=>decide
 |1=>decide
 |2=>decide
 |j+3=>simp
theorem set_other {x:Int} (h:k≠j):(v.set k x).getD j 0=v.getD j 0:=by
 rw [gC,vP h,gC]
theorem jk9 (j:Nat):([0,0,0]:List Int).getD j 0=0:=by
 match j with
 |0=>rfl
 |1=>rfl
 |2=>rfl
 |j+3=>simp
theorem rd_ways (ru n k:Nat) (x:Int):(ru=45∧0<n∧k<2)∨(ru=63∧n=0)∨((48≤ru∧ru≤57)∧(n=0∨x>0))∨(¬(ru=45∧0<n∧k<2)∧ ¬(ru=63∧n=0)∧ ¬((48≤ru∧ru≤57)∧(n=0∨x>0))):=by omega
theorem f119_c (m:Md Tryz.prog B) (h:Hp) (s:Str) (hl:s.length≤100000):FnC m 119 #[str s] h fun v h'=>h'=h∧v= .tuple [.agg (jav (jan s)).toArray,.bool (ja2 s)].toArray:=by
 refine jae Tryz.func119 rfl rfl (l:=(str s)::uu76) rfl ?_
 intro cf cs K hK
 refine Z2 ?_
 refine jay rfl zq (fun q2=>jao (jad ?_));refine Z11 ?_
 refine k_srange zK rfl zq (fun it=>jao (jad ?_));refine Z2 ?_
 refine jag (fun nn l h'=> ∃(p k n:Nat) (v:List Int),nn=s.length-p∧(rdF mosts (s.drop p) v k n=rdF mosts s [0,0,0] 0 0)∧(v.length=3)∧(k≤2)∧(p≤s.length)∧(n≤p)∧(∀j,-1≤v.getD j 0∧v.getD j 0≤11)∧(∀j,k<j∨(k=j∧n=0)→v.getD j 0=0)∧(∃U:Nat→Value,l=((str s)::(U 1)::(.pointer (some ⟨q2,0,none⟩))::(U 3)::(.int .i64 (k:Int))::(.int .i64 (n:Int))::(U 6)::(U 7)::(U 8)::(.pointer (some ⟨it,0,none⟩))::vw67 U 10 []))∧h++[⟨true,q2,.cells (jav v).toArray 145 (0,0)⟩,⟨true,it,sitO s p⟩]=h') _ ⟨0,0,0,[0,0,0],rfl,by rw [xf],rfl,by omega,by omega,by omega,zero3,fun j _=>jk9 j,exU rfl,rfl⟩ ?_;rintro nn l h' ⟨p,k,n,v,rfl,hrd,hv3,hk2,hpl,hnp,hvb,hvz,⟨U,rfl⟩,rfl⟩ hnext;refine Z2 ?_
 refine k_snext2 rfl zq (fun hdone=>jad ?_) (fun c ru p' hc hway=>jad ?_)
 ·refine Z7 ?_;refine jdk rfl zq hv3 ?_;refine Zs ?_
  refine jaE rfl zq (fun hc=>?_) (fun hc=>?_)
  ·refine Z2 ?_
   refine jaJ rfl rfl (fun hc=>?_) (fun hc=>?_);all_goals
    refine Zs ?_;refine jeG rfl zq hv3 zS ?_;refine Z3 ?_
    haveI:Seg (jav v) 0 3 (jav v):=seg_all (by simpa using hv3)
    refine jmK ?_
    have hR:rdF mosts s [0,0,0] 0 0=(v,decide (k=2)&&decide (0<n)):=by rw [←hrd,gP hdone];rfl
   ·have hb:(decide (k=2)&&decide (0<n))=true:=by simp;omega
    rw [ja2,jan,hR,hb];exact ⟨rfl,rfl⟩
   ·have hb:(decide (k=2)&&decide (0<n))=false:=by simp;omega
    rw [ja2,jan,hR,hb];exact ⟨rfl,rfl⟩
  ·refine Z4 ?_;refine jeG rfl zq hv3 zS ?_;refine Z3 ?_
   haveI:Seg (jav v) 0 3 (jav v):=seg_all (by simpa using hv3)
   refine jmK ?_
   have hR:rdF mosts s [0,0,0] 0 0=(v,decide (k=2)&&decide (0<n)):=by rw [←hrd,gP hdone];rfl
   have hb:(decide (k=2)&&decide (0<n))=false:=by simp;omega
   rw [ja2,jan,hR,hb];exact ⟨rfl,rfl⟩
 ·have hplt:p<s.length:=(vM.1 hc).1
  have hdr:s.drop p=c::s.drop (p+1):=by rw [vN hplt,(vM.1 hc).2]
  have hmo:=jdo (k:=k) zO
  refine Z8 ?_;refine jiI rfl zq ?_;refine Z5 ?_
  have hvk:=hvb k
  have hvk0:n=0→v.getD k 0=0:=fun e=>hvz k (.inr ⟨rfl,e⟩)
  rcases rd_ways ru n k (v.getD k 0) with hA|hA|hA|⟨hA1,hA2,hA3⟩
  obtain ⟨hc1,hru,rfl⟩:c.toNat<128∧ru=c.toNat∧p'=p+1:=by omega
  rotate_left
  obtain ⟨hc1,hru,rfl⟩:c.toNat<128∧ru=c.toNat∧p'=p+1:=by omega
  rotate_left
  obtain ⟨hc1,hru,rfl⟩:c.toNat<128∧ru=c.toNat∧p'=p+1:=by omega
  all_goals
   refine jpG ?_;refine Zs ?_
  ·refine jmb rfl zq zO ?_;refine Z14 ?_;refine jmb rfl zq zO ?_;refine Z8 ?_;refine rr14 ?_;refine Zs ?_;refine D26 ?_;refine D20 ?_;rintro v (⟨hc,rfl⟩|⟨hc,rfl⟩)
   ·refine Z3 ?_
    refine jaE rfl rfl (fun hc=>?_) (fun hc=>?_)
    ·refine Z10 ?_;refine jpG ?_;refine Z3 ?_;refine jrd rfl zq k zO zO ?_;refine D39 ?_;refine Zs ?_;refine D107 ?_;refine Z2 ?_;refine k_stI rfl zq k zO zO ?_;refine Z9 ?_;refine D35 ?_;refine Z4 ?_;refine D112 ?_
     refine jaJ rfl zq (fun hc=>?_) (fun hc=>?_)
     ·refine Z4 ?_;refine joF ?_
      haveI:Seg (jav [0,0,0]) 0 3 (jav [0,0,0]):=seg_all rfl
      refine jmK ?_
      have hR:rdF mosts s [0,0,0] 0 0=([0,0,0],false):=by rw [←hrd,hdr];exact jkC zO (by rw [jbE zO] at hc;rw [jbE zO];omega)
      have hfo:ja2 s=false:=by rw [ja2,hR]
      have hps:jan s=[0,0,0]:=by rw [jan,hR]
      rw [hfo,hps];exact ⟨rfl,rfl⟩
     ·refine Z4 ?_
      exact E5
    ·refine Z3 ?_;refine D72 ?_
     refine jaJ rfl rfl (fun hc=>?_) (fun hc=>?_)
     ·refine Z5 ?_;refine jpG ?_;refine Z3 ?_;refine jrd rfl zq k zO zO ?_;refine D39 ?_;refine Zs ?_;refine D107 ?_;refine Z2 ?_;refine k_stI rfl zq k zO zO ?_;refine Z9 ?_;refine D35 ?_;refine Z4 ?_;refine D112 ?_
      refine jaJ rfl zq (fun hc=>?_) (fun hc=>?_)
      ·refine Z4 ?_;refine joF ?_
       haveI:Seg (jav [0,0,0]) 0 3 (jav [0,0,0]):=seg_all rfl
       refine jmK ?_
       have hR:rdF mosts s [0,0,0] 0 0=([0,0,0],false):=by rw [←hrd,hdr];exact jkC zO (by rw [jbE zO] at hc;rw [jbE zO];omega)
       have hfo:ja2 s=false:=by rw [ja2,hR]
       have hps:jan s=[0,0,0]:=by rw [jan,hR]
       rw [hfo,hps];exact ⟨rfl,rfl⟩
      ·refine Z4 ?_
       exact E5
     ·omega
   ·refine Zs ?_
    omega
  ·refine jaE rfl zq (fun hc=>?_) (fun hc=>?_)
   ·refine Z2 ?_
    refine jaJ rfl rfl (fun hc=>?_) (fun hc=>?_)
    ·refine Z3 ?_
     refine jam rfl rfl (fun hc=>?_) (fun hc=>?_)
     ·omega
     ·refine Z7 ?_
      refine jaE rfl zq (fun hc=>?_) (fun hc=>?_)
      ·refine Z2 ?_
       refine jaE rfl rfl (fun hc=>?_) (fun hc=>?_)
       ·omega
       ·refine Z5 ?_;refine rr14 ?_;refine Zs ?_;refine D26 ?_;refine D20 ?_
        rintro v (⟨hc,rfl⟩|⟨hc,rfl⟩)
        ·refine Z3 ?_
         refine jaE rfl rfl (fun hc=>?_) (fun hc=>?_)
         ·omega
         ·refine Z3 ?_;refine D72 ?_
          refine jaJ rfl rfl (fun hc=>?_) (fun hc=>?_)
          ·omega
          ·refine Z7 ?_;refine joF ?_
           haveI:Seg (jav [0,0,0]) 0 3 (jav [0,0,0]):=seg_all rfl
           refine jmK ?_
           have hR:rdF mosts s [0,0,0] 0 0=([0,0,0],false):=by rw [←hrd,hdr];exact jc2 zO zO zO
           have hfo:ja2 s=false:=by rw [ja2,hR]
           have hps:jan s=[0,0,0]:=by rw [jan,hR]
           rw [hfo,hps];exact ⟨rfl,rfl⟩
        ·refine Z16 ?_;refine joF ?_
         haveI:Seg (jav [0,0,0]) 0 3 (jav [0,0,0]):=seg_all rfl
         refine jmK ?_
         have hR:rdF mosts s [0,0,0] 0 0=([0,0,0],false):=by rw [←hrd,hdr];exact jc2 zO zO zO
         have hfo:ja2 s=false:=by rw [ja2,hR]
         have hps:jan s=[0,0,0]:=by rw [jan,hR]
         rw [hfo,hps];exact ⟨rfl,rfl⟩
      ·refine Z8 ?_;refine rr14 ?_;refine Zs ?_;refine D26 ?_;refine D20 ?_
       rintro v (⟨hc,rfl⟩|⟨hc,rfl⟩)
       ·refine Z3 ?_
        refine jaE rfl rfl (fun hc=>?_) (fun hc=>?_)
        ·omega
        ·refine Z3 ?_;refine D72 ?_
         refine jaJ rfl rfl (fun hc=>?_) (fun hc=>?_)
         ·omega
         ·refine Z7 ?_;refine joF ?_
          haveI:Seg (jav [0,0,0]) 0 3 (jav [0,0,0]):=seg_all rfl
          refine jmK ?_
          have hR:rdF mosts s [0,0,0] 0 0=([0,0,0],false):=by rw [←hrd,hdr];exact jc2 zO zO zO
          have hfo:ja2 s=false:=by rw [ja2,hR]
          have hps:jan s=[0,0,0]:=by rw [jan,hR]
          rw [hfo,hps];exact ⟨rfl,rfl⟩
       ·refine Z16 ?_;refine joF ?_
        haveI:Seg (jav [0,0,0]) 0 3 (jav [0,0,0]):=seg_all rfl
        refine jmK ?_
        have hR:rdF mosts s [0,0,0] 0 0=([0,0,0],false):=by rw [←hrd,hdr];exact jc2 zO zO zO
        have hfo:ja2 s=false:=by rw [ja2,hR]
        have hps:jan s=[0,0,0]:=by rw [jan,hR]
        rw [hfo,hps];exact ⟨rfl,rfl⟩
    ·refine Z11 ?_
     refine jaE rfl zq (fun hc=>?_) (fun hc=>?_)
     ·refine Z2 ?_
      refine jaE rfl rfl (fun hc=>?_) (fun hc=>?_)
      ·omega
      ·refine Z5 ?_;refine rr14 ?_;refine Zs ?_;refine D26 ?_;refine D20 ?_
       rintro v (⟨hc,rfl⟩|⟨hc,rfl⟩)
       ·refine Z3 ?_
        refine jaE rfl rfl (fun hc=>?_) (fun hc=>?_)
        ·omega
        ·refine Z3 ?_;refine D72 ?_
         refine jaJ rfl rfl (fun hc=>?_) (fun hc=>?_)
         ·omega
         ·refine Z7 ?_;refine joF ?_
          haveI:Seg (jav [0,0,0]) 0 3 (jav [0,0,0]):=seg_all rfl
          refine jmK ?_
          have hR:rdF mosts s [0,0,0] 0 0=([0,0,0],false):=by rw [←hrd,hdr];exact jc2 zO zO zO
          have hfo:ja2 s=false:=by rw [ja2,hR]
          have hps:jan s=[0,0,0]:=by rw [jan,hR]
          rw [hfo,hps];exact ⟨rfl,rfl⟩
       ·refine Z16 ?_;refine joF ?_
        haveI:Seg (jav [0,0,0]) 0 3 (jav [0,0,0]):=seg_all rfl
        refine jmK ?_
        have hR:rdF mosts s [0,0,0] 0 0=([0,0,0],false):=by rw [←hrd,hdr];exact jc2 zO zO zO
        have hfo:ja2 s=false:=by rw [ja2,hR]
        have hps:jan s=[0,0,0]:=by rw [jan,hR]
        rw [hfo,hps];exact ⟨rfl,rfl⟩
     ·refine Z8 ?_;refine rr14 ?_;refine Zs ?_;refine D26 ?_;refine D20 ?_
      rintro v (⟨hc,rfl⟩|⟨hc,rfl⟩)
      ·refine Z3 ?_
       refine jaE rfl rfl (fun hc=>?_) (fun hc=>?_)
       ·omega
       ·refine Z3 ?_;refine D72 ?_
        refine jaJ rfl rfl (fun hc=>?_) (fun hc=>?_)
        ·omega
        ·refine Z7 ?_;refine joF ?_
         haveI:Seg (jav [0,0,0]) 0 3 (jav [0,0,0]):=seg_all rfl
         refine jmK ?_
         have hR:rdF mosts s [0,0,0] 0 0=([0,0,0],false):=by rw [←hrd,hdr];exact jc2 zO zO zO
         have hfo:ja2 s=false:=by rw [ja2,hR]
         have hps:jan s=[0,0,0]:=by rw [jan,hR]
         rw [hfo,hps];exact ⟨rfl,rfl⟩
      ·refine Z16 ?_;refine joF ?_
       haveI:Seg (jav [0,0,0]) 0 3 (jav [0,0,0]):=seg_all rfl
       refine jmK ?_
       have hR:rdF mosts s [0,0,0] 0 0=([0,0,0],false):=by rw [←hrd,hdr];exact jc2 zO zO zO
       have hfo:ja2 s=false:=by rw [ja2,hR]
       have hps:jan s=[0,0,0]:=by rw [jan,hR]
       rw [hfo,hps];exact ⟨rfl,rfl⟩
   ·refine Z14 ?_
    refine jaE rfl zq (fun hc=>?_) (fun hc=>?_)
    ·refine Z2 ?_
     refine jaE rfl rfl (fun hc=>?_) (fun hc=>?_)
     ·omega
     ·refine Z5 ?_;refine rr14 ?_;refine Zs ?_;refine D26 ?_;refine D20 ?_
      rintro v (⟨hc,rfl⟩|⟨hc,rfl⟩)
      ·refine Z3 ?_
       refine jaE rfl rfl (fun hc=>?_) (fun hc=>?_)
       ·omega
       ·refine Z3 ?_;refine D72 ?_
        refine jaJ rfl rfl (fun hc=>?_) (fun hc=>?_)
        ·omega
        ·refine Z7 ?_;refine joF ?_
         haveI:Seg (jav [0,0,0]) 0 3 (jav [0,0,0]):=seg_all rfl
         refine jmK ?_
         have hR:rdF mosts s [0,0,0] 0 0=([0,0,0],false):=by rw [←hrd,hdr];exact jc2 zO zO zO
         have hfo:ja2 s=false:=by rw [ja2,hR]
         have hps:jan s=[0,0,0]:=by rw [jan,hR]
         rw [hfo,hps];exact ⟨rfl,rfl⟩
      ·refine Z16 ?_;refine joF ?_
       haveI:Seg (jav [0,0,0]) 0 3 (jav [0,0,0]):=seg_all rfl
       refine jmK ?_
       have hR:rdF mosts s [0,0,0] 0 0=([0,0,0],false):=by rw [←hrd,hdr];exact jc2 zO zO zO
       have hfo:ja2 s=false:=by rw [ja2,hR]
       have hps:jan s=[0,0,0]:=by rw [jan,hR]
       rw [hfo,hps];exact ⟨rfl,rfl⟩
    ·refine Z8 ?_;refine rr14 ?_;refine Zs ?_;refine D26 ?_;refine D20 ?_
     rintro v (⟨hc,rfl⟩|⟨hc,rfl⟩)
     ·refine Z3 ?_
      refine jaE rfl rfl (fun hc=>?_) (fun hc=>?_)
      ·omega
      ·refine Z3 ?_;refine D72 ?_
       refine jaJ rfl rfl (fun hc=>?_) (fun hc=>?_)
       ·omega
       ·refine Z7 ?_;refine joF ?_
        haveI:Seg (jav [0,0,0]) 0 3 (jav [0,0,0]):=seg_all rfl
        refine jmK ?_
        have hR:rdF mosts s [0,0,0] 0 0=([0,0,0],false):=by rw [←hrd,hdr];exact jc2 zO zO zO
        have hfo:ja2 s=false:=by rw [ja2,hR]
        have hps:jan s=[0,0,0]:=by rw [jan,hR]
        rw [hfo,hps];exact ⟨rfl,rfl⟩
     ·refine Z16 ?_;refine joF ?_
      haveI:Seg (jav [0,0,0]) 0 3 (jav [0,0,0]):=seg_all rfl
      refine jmK ?_
      have hR:rdF mosts s [0,0,0] 0 0=([0,0,0],false):=by rw [←hrd,hdr];exact jc2 zO zO zO
      have hfo:ja2 s=false:=by rw [ja2,hR]
      have hps:jan s=[0,0,0]:=by rw [jan,hR]
      rw [hfo,hps];exact ⟨rfl,rfl⟩
  ·refine jeI rfl zq zO ?_;refine Z2 ?_;refine k_gtrT rfl rfl zO ?_;refine Z3 ?_;refine jl8 rfl rfl zO ?_;refine Z12 ?_;exact m.weak jab (hnext _ _ _ zO ⟨p+1,k+1,0,v,rfl,by rw [←hrd,hdr];exact (jnX zO).symm,hv3,by omega,by omega,by omega,hvb,fun j hj=>hvz j zO,exU rfl,rfl⟩)
  ·refine jmb rfl zq zO ?_;refine Z14 ?_;refine jeI rfl zq zO ?_;refine Z2 ?_;refine jeI rfl rfl zO ?_;refine Z7 ?_;refine k_stI rfl zq k zO zO ?_;refine Z9 ?_;refine D35 ?_;refine Z4 ?_;refine D112 ?_;refine k_gtrF rfl zq (by rw [jbE zO];omega) ?_;refine Z4 ?_;exact m.weak jab (hnext _ _ _ zO ⟨p+1,k,n+1,v.set k (-1),rfl,by rw [←hrd,hdr];exact (jqz zO (by rw [jbE zO];omega)).symm,by simpa using hv3,hk2,by omega,by omega,jik zO hvb,fun j hj=>by rw [set_other zO];exact hvz j zO,exU rfl,rfl⟩)
end
section
variable [LaidO B]
theorem ext3 {w:List Int} (hv:v.length=3) (hw:w.length=3) (h: ∀j,j<3→v.getD j 0=w.getD j 0):v=w:=by
 obtain ⟨a,b,c,rfl⟩:=three hv
 obtain ⟨a',b',c',rfl⟩:=three hw
 have h0:a=a':=h 0 zA
 have h1:b=b':=h 1 zA
 have h2:c=c':=h 2 zA
 rw [h0,h1,h2]
def jaT (p o:List Int):List Int:=(List.range 3).map fun j=>if p.getD j 0= -1 then o.getD j 0 else p.getD j 0
theorem jdz (p o:List Int):(jaT p o).length=3:=by simp [jaT]
theorem jf7 (p o:List Int) (h:j<3):(jaT p o).getD j 0=if p.getD j 0= -1 then o.getD j 0 else p.getD j 0:=by
 rw [jaT,gC,gX,Gg h];rfl
def jqb (v:List Int):Nat:=v.countP fun x=>decide (x= -1)
theorem jlw (h:k<v.length):jqb (v.take (k+1))=jqb (v.take k)+if v.getD k 0= -1 then 1 else 0:=by
 rw [take_snoc' v k h,jqb,Vo,jqb];congr 1
 by_cases e:v.getD k 0= -1
 ·rw [if_pos e];simp only [VG,xS,e,decide_true]
  rfl
 ·rw [if_neg e];simp only [VG,xS,e,decide_false]
  simp
structure PtOk (v:List Int):Prop where
 len:v.length=3
 lo: ∀j,-1≤v.getD j 0
 hi: ∀j,j<3→v.getD j 0≤mosts.getD j 0
theorem PtOk.zero:PtOk [0,0,0]:=⟨rfl,fun j=>(zero3 j).1,fun j h=>by rw [jk9];exact (Int.le_trans zA (jdo h).1)⟩
theorem PtOk.set (o:PtOk v) {x:Int} (h1: -1≤x) (h2:x≤mosts.getD k 0):PtOk (v.set k x):=by
 refine ⟨by simpa using o.len,fun j=>?_,fun j hj=>?_⟩
 ·by_cases e:k=j
  ·subst e
   by_cases e2:k<v.length
   ·rw [jbE e2];exact h1
   ·rw [List.set_eq_of_length_le zO];exact o.lo k
  ·rw [set_other e];exact o.lo j
 ·by_cases e:k=j
  ·subst e
   rw [jbE (by rw [o.len];exact hj)];exact h2
  ·rw [set_other e];exact o.hi j hj
theorem jnW: ∀(s:Str) {v:List Int} {k n:Nat},PtOk v→k≤2→(∀j,k<j∨(k=j∧n=0)→v.getD j 0=0)→PtOk (rdF mosts s v k n).1
 |[],v,k,n,h,_,_=>h
 |c::r,v,k,n,h,hk,hz=>by
  have hm:=jdo (k:=k) zO
  have hl:=h.lo k
  have h3:=h.len
  rw [rdF];split
  ·exact jnW r h zO fun j hj=>hz j zO
  ·split
   ·split
    ·exact PtOk.zero
    ·exact jnW r (h.set zO zO) hk fun j hj=>by rw [set_other zO];exact hz j zO
   ·split
    ·rename_i hd
     split
     ·exact PtOk.zero
     ·rename_i hn
      rw [jbE zO] at hn
      refine jnW r (h.set ?_ zO) hk fun j hj=>by rw [set_other zO];exact hz j zO
      rcases hd.2 with e|e
      ·have:=hz k (.inr ⟨rfl,e⟩);omega
      ·omega
    ·exact PtOk.zero
theorem ja9 (s:Str):PtOk (jan s):=jnW s .zero zO fun j _=>jk9 j
theorem parts_n (h:n<960):PtOk (jdE n):=by
 refine ⟨rfl,fun j=>?_,fun j hj=>?_⟩
 ·match j with
  |0=>show-1≤((n/96:Nat):Int);omega
  |1=>show-1≤((n/8%12:Nat):Int);omega
  |2=>show-1≤((n%8:Nat):Int);omega
  |j+3=>simp [jdE]
 ·rcases (by omega:j=0∨j=1∨j=2) with rfl|rfl|rfl
  ·show ((n/96:Nat):Int)≤9
   omega
  ·show ((n/8%12:Nat):Int)≤11
   omega
  ·show ((n%8:Nat):Int)≤7
   omega
theorem jmj {p:List Int} (hp:PtOk p):jaT p (jdE n)=jdE n↔jfZ p n=true:=by
 rw [jfZ,gZ];constructor
 ·intro h j hj
  rw [gT] at hj
  have:=jf7 p (jdE n) hj
  rw [h] at this
  have:=hp.lo j
  simp only [GR,decide_eq_true_eq]
  by_cases e:p.getD j 0= -1
  ·left
   omega
  ·rw [if_neg e] at*
   right
   omega
 ·intro h
  refine ext3 (jdz _ _) rfl fun j hj=>?_
  rw [jf7 _ _ hj];have h1:=h j (gT.2 hj)
  simp only [GR,decide_eq_true_eq] at h1
  have:=hp.lo j
  by_cases e:p.getD j 0= -1
  ·rw [if_pos e]
  ·rw [if_neg e];omega
def jhr (p:List Int) (k:Nat):List Int:=((List.range k).filter (jfZ p)).map fun (n:Nat)=>(n:Int)
theorem jgo (p:List Int) (k:Nat):jhr p (k+1)=jhr p k++if jfZ p k then [(k:Int)] else []:=by
 rw [jhr,GV,GA,GC,←jhr];congr 1
 cases h:jfZ p k<;>simp [List.filter,h]
theorem jne (p:List Int) (k:Nat):(jhr p k).length≤k:=by
 rw [jhr,gN];exact GI (GX _ _) zS
theorem f171_c (m:Md Tryz.prog B) (h:Hp) (hv:v.length=3):FnC m 171 #[.agg (jav v).toArray] h fun w h'=>h'=h∧w= .int .i64 (jqb v:Int):=by
 refine jae Tryz.func171 rfl rfl (l:=(.agg (jav v).toArray)::uu15) rfl ?_
 intro cf cs K hK
 refine Z2 ?_
 refine jaA rfl zq (fun q1=>jao (jad ?_));refine Z9 ?_;refine jdk rfl zq hv ?_;refine Z3 ?_
 refine jag (fun nn l h'=> ∃(k:Nat),nn=3-k∧(k≤3)∧(∃U:Nat→Value,l=((.agg (jav v).toArray)::(.pointer (some ⟨q1,0,none⟩))::(U 2)::(.int .i64 (jqb (v.take k):Int))::(U 4)::(U 5)::(.agg (jav v).toArray)::(.int .i64 (k:Int))::vw8 U 8 []))∧h++[⟨true,q1,.cells (jav v).toArray 145 (0,0)⟩]=h') _ ⟨0,rfl,by omega,exU rfl,rfl⟩ ?_;rintro nn l h' ⟨k,rfl,hk,⟨U,rfl⟩,rfl⟩ hnext;have hsm:jqb (v.take k)≤k:=GI (vB ..) zN
 refine Z2 ?_
 refine jam rfl zq (fun hc=>?_) (fun hc=>?_)
 ·refine Z8 ?_;refine k_ixv rfl zq zO zO (jni zO) ?_;refine Z5 ?_
  refine jaE rfl zq (fun hc=>?_) (fun hc=>?_);refine Z7 ?_
  rotate_left
  refine Z3 ?_
  all_goals
   refine Z5 ?_
  ·rw [show (jqb (v.take k):Int)=(jqb (v.take (k+1)):Int) by rw [jlw zO,if_neg zO];omega];exact E6
  ·rw [show (jqb (v.take k):Int)+1=(jqb (v.take (k+1)):Int) by rw [jlw zO,if_pos zO];omega];exact E6
 ·refine Z10 ?_;refine jac (h) rfl Tryz.func171 rfl jab ?_;refine Zs ?_
  obtain rfl:k=3:=by omega
  rw [←hv,GE];exact ⟨rfl,rfl⟩
theorem f110_c (m:Md Tryz.prog B) (h:Hp) {p o:List Int} (hp:p.length=3) (ho:o.length=3):FnC m 110 #[.agg (jav p).toArray,.agg (jav o).toArray] h fun w h'=>h'=h∧w= .agg (jav (jaT p o)).toArray:=by
 refine jae Tryz.func110 rfl rfl (l:=(.agg (jav p).toArray)::(.agg (jav o).toArray)::uu19) rfl ?_
 intro cf cs K hK
 refine Z2 ?_
 refine jaA rfl zq (fun q2=>jao (jad ?_));refine jaA rfl zq (fun q3=>jao (jad ?_));refine jay rfl zq (fun q4=>jao (jad ?_));refine Z4 ?_;refine jdk rfl zq hp ?_;refine Z3 ?_
 refine jag (fun nn l h'=> ∃(k:Nat) (v:List Int),nn=3-k∧(k≤3)∧(v.length=3)∧(∀j,j<3→v.getD j 0=if j<k then (jaT p o).getD j 0 else p.getD j 0)∧(∃U:Nat→Value,l=((.agg (jav p).toArray)::(.agg (jav o).toArray)::(.pointer (some ⟨q2,0,none⟩))::(.pointer (some ⟨q3,0,none⟩))::(.pointer (some ⟨q4,0,none⟩))::(U 5)::(U 6)::(.agg (jav p).toArray)::(.int .i64 (k:Int))::vw12 U 9 []))∧h++[⟨true,q2,.cells (jav v).toArray 145 (0,0)⟩,⟨true,q3,.cells (jav o).toArray 145 (0,0)⟩,⟨true,q4,.cells (jav [0,0,0]).toArray 145 (0,0)⟩]=h') _ ⟨0,p,rfl,by omega,hp,fun j hj=>by simp,exU rfl,rfl⟩ ?_;rintro nn l h' ⟨k,v,rfl,hk,hv,hvj,⟨U,rfl⟩,rfl⟩ hnext;refine Z2 ?_
 refine jam rfl zq (fun hc=>?_) (fun hc=>?_)
 ·refine Z9 ?_;refine k_ixv rfl zq zO zO (jni zO) ?_;refine Z6 ?_
  refine jaE rfl zq (fun hc=>?_) (fun hc=>?_);refine Z6 ?_;refine jrd rfl zq k zO zO ?_;refine Zs ?_;refine k_stI rfl zq k zO zO ?_;refine Zs ?_
  rotate_left
  refine Z3 ?_
  all_goals
   refine Z5 ?_
  ·exact m.weak jab (hnext _ _ _ zO ⟨k+1,v,rfl,by omega,hv,by
    intro j hj
    rw [hvj j hj];by_cases e:k=j
    ·subst e
     rw [if_neg zO,if_pos zO,jf7 _ _ hj,if_neg zO]
    ·by_cases e2:j<k
     ·rw [if_pos e2,if_pos zO]
     ·rw [if_neg e2,if_neg zO],exU rfl,rfl⟩)
  ·exact m.weak jab (hnext _ _ _ zO ⟨k+1,v.set k (o.getD k 0),rfl,by omega,by simpa using hv,by
    intro j hj
    by_cases e:k=j
    ·subst e
     rw [jbE zO,if_pos zO,jf7 _ _ hj,if_pos zO]
    ·rw [set_other e,hvj j hj];by_cases e2:j<k
     ·rw [if_pos e2,if_pos zO]
     ·rw [if_neg e2,if_neg zO],exU rfl,rfl⟩)
 ·refine Z6 ?_;refine jdk rfl zq hv ?_;refine jeG rfl zq hv zN ?_;refine Z2 ?_
  haveI:Seg (jav v) 0 3 (jav v):=seg_all (by simpa using hv)
  refine jac (h) rfl Tryz.func110 rfl jab ?_;refine Zs ?_;have hw:v=jaT p o:=ext3 hv (jdz _ _) fun j hj=>by rw [hvj j hj,if_pos zO]
  rw [hw];exact ⟨rfl,rfl⟩
theorem f120_c (m:Md Tryz.prog B) (h:Hp) (hv:PtOk v):FnC m 120 #[.agg (jav v).toArray] h fun w h'=> ∃new,h'=h++new∧OwnS 3 1 w (jjV v).length (jav (jjV v)) new:=by
 refine jae Tryz.func120 rfl rfl (l:=(.agg (jav v).toArray)::uu21) rfl ?_
 intro cf cs K hK
 refine Z2 ?_
 refine jaA rfl zq (fun q1=>jao (jad ?_));refine Z12 ?_
 refine jag (fun nn l h'=> ∃(k:Nat) (wp:Option Addr) (wc:Nat) (M:Hp),nn=960-k∧(k≤960)∧(OwnS 3 1 (.slice wp (jhr v k).length wc) (jhr v k).length (jav (jhr v k)) M)∧(∃U:Nat→Value,l=((.agg (jav v).toArray)::(.pointer (some ⟨q1,0,none⟩))::(U 2)::(.slice wp (jhr v k).length wc)::(U 4)::(U 5)::(.int .i64 (k:Int))::vw15 U 7 []))∧h++[⟨true,q1,.cells (jav v).toArray 145 (0,0)⟩]++M=h') _ ⟨0,none,0,[],rfl,by omega,OwnS.nil,exU rfl,zS⟩ ?_;rintro nn l h' ⟨k,wp,wc,M,rfl,hk,how,⟨U,rfl⟩,rfl⟩ hnext;have hml:=jne v k
 refine Z2 ?_
 refine jam rfl zq (fun hc=>?_) (fun hc=>?_);refine Z6 ?_
 rotate_left
 refine Z4 ?_
 all_goals
  refine Z5 ?_
 ·refine Zs ?_;refine jac (h++M) rfl Tryz.func120 rfl jab ?_;refine Zs ?_
  obtain rfl:k=960:=by omega
  exact ⟨M,rfl,how⟩
 ·refine Z3 ?_;refine jaf (Post:=fun v=>v=_) rfl zq zK (fun H' hH=>f118_c m H' k zO) ?_
  rintro v rfl;refine Zs ?_
  refine jay rfl zq (fun q5=>jao (jad ?_));refine jeG (w:=jdE k) rfl zq rfl (by simp;rfl) ?_;refine Z2 ?_;refine D89 ?_;refine jdk rfl zq hv.len ?_;refine jdk rfl zq rfl ?_;refine jdk rfl zq rfl ?_;refine jaf (Post:=fun w=>w= .agg (jav (jaT v (jdE k))).toArray) rfl zq zK (fun H' hH=>f110_c m H' hv.len rfl) ?_;rintro w rfl;refine Zs ?_
  refine k_eqlA3 (e:=3) rfl zq zK zK (jdz _ _) rfl (fun hc=>?_) (fun hc=>?_);refine Z5 ?_
  refine jb7 kdq rfl zq zA zA rfl (fun q18=>jao (jad ?_));refine ja6 rfl zq rfl how kdq zO zO (fun w9 n9 o9=>jad ?_);obtain ⟨p9,c9,rfl,hc9,r9⟩:=jas (B:=B) o9
  refine Z2 ?_
  rotate_left
  refine Z3 ?_
  all_goals
   refine Z5 ?_
  ·have hks:jhr v (k+1)=jhr v k:=by rw [jgo,if_neg (fun e=>hc ((jmj hv).2 e)),ge]
   rw [←hks];exact E7
  ·have hks:jhr v (k+1)=jhr v k++[(k:Int)]:=by rw [jgo,if_pos ((jmj hv).1 hc)]
   have hkl:(jhr v (k+1)).length=(jhr v k).length+1:=by rw [hks];simp
   rw [←hkl];exact E8
end
section
theorem extNoEsc:Ext Tryz.prog 236 Extern.AbiNoEscape.same:=⟨Tryz.f236,Tryz.func236,by kernel_rfl,by kernel_rfl,by kernel_rfl,by kernel_rfl⟩
theorem extMnz:Ext Tryz.prog 237 (Extern.BytealgMakeNoZero.makeNoZero #[3] #[192]):=⟨Tryz.f237,Tryz.func237,by kernel_rfl,by kernel_rfl,by kernel_rfl,by kernel_rfl⟩
theorem jlh: Tryz.prog.underlying 248=some (.pointer 250):=by kernel_rfl
theorem und234: Tryz.prog.underlying 234=some .unsafePointer:=by kernel_rfl
theorem und192: Tryz.prog.underlying 192=some (.slice 5):=by kernel_rfl
theorem jjC: Tryz.prog.underlying 9=some .string:=by kernel_rfl
theorem info250:(Tryz.prog.info? 250).map (fun i=>decide (i.size=0))=some false:=by kernel_rfl
theorem lies250:liesAt Tryz.prog Tryz.prog.depth 250 (2/ Tryz.prog.cellsOf 250) 0 250 1=true:=by kernel_rfl
theorem jqf:Still Tryz.prog (sizeOf 250) 2:=joR zK
theorem depthO: ∃k,Tryz.prog.depth=k+1:=⟨Tryz.prog.depth-1,by kernel_rfl⟩
theorem own_pos {v:Value} (o:OwnS t 1 v n cs M) (h:0<n): ∃b cap junk,v= .slice (some ⟨b,0,none⟩) n cap∧M=[⟨true,b,.cells (cs++junk).toArray t (0,0)⟩]∧n≤cap:=by
 cases o with
 |nil=>omega
 |blk hl hc hn=>exact ⟨_,_,_,rfl,rfl,hn⟩
abbrev jmB (q:Nat) (pa:Option Addr) (v:Value):Chunk:=⟨true,q,.cells [.pointer pa,v].toArray 250 (0,0)⟩
theorem f229_c (m:Md Tryz.prog B) (F M:Hp) {v:Value} [CellsV v [v]] (hpa:pa=none∨pa=some ⟨q,0,none⟩):FnC m 229 #[.pointer (some ⟨q,0,none⟩)] (F++[jmB q pa v]++M) fun _ h'=>h'=F++[jmB q (some ⟨q,0,none⟩) v]++M:=by
 refine jae Tryz.func229 rfl rfl (l:=(.pointer (some ⟨q,0,none⟩))::uu19) rfl ?_
 intro cf cs K hK
 refine Zs ?_
 rcases hpa with rfl|rfl
 all_goals
  refine Z5 ?_
 ·refine jre rfl zq jlh ?_;refine Z5 ?_;refine k_to rfl zq jlh und234 info250 rd_at ?_;refine k_extP extNoEsc rfl zq kdq rfl ?_;refine k_from rfl zq und234 jlh ⟨2,jqf,by decide⟩ lies250 ?_;refine Z2 ?_;refine D19 ?_;refine Zs ?_;refine jel rfl ?_;refine jac (F++[jmB q (some ⟨q,0,none⟩) v]++M) rfl Tryz.func229 rfl jab ?_;refine Zs ?_;rfl
 ·refine jrf rfl zq jlh ?_;refine Z9 ?_;refine jq9 rfl zq jlh jqf zA ?_;refine Z3 ?_;refine jel rfl ?_;refine jac (F++[jmB q (some ⟨q,0,none⟩) v]++M) rfl Tryz.func229 rfl jab ?_;refine Zs ?_;rfl
theorem f230_c (m:Md Tryz.prog B) (F:Hp) (n:Nat) (hn:n≤2^40):FnC m 230 #[.pointer (some ⟨q,0,none⟩),.int .i64 (n:Int)] (F++[jmB q pa (.slice none 0 0)]) fun _ h'=> ∃q2 N M,n≤N∧h'=F++[jmB q pa (.slice (some ⟨q2,0,none⟩) 0 N)]++M∧OwnS 5 1 (.slice (some ⟨q2,0,none⟩) 0 N) 0 [] M:=by
 refine jae Tryz.func230 rfl rfl (l:=(.pointer (some ⟨q,0,none⟩))::(.int .i64 (n:Int))::uu28) rfl ?_
 intro cf cs K hK
 refine Zs ?_;refine jaq [Zp 0,Zp 1,Zp 2,Zp 6,Zp 9,Zp 10,Zp 11,Zr 3,Zp 4,Zp 5,Zp 7,Zr 12,Zp 13,Zk 8,Zp 14,Zp 15] zK zK (gE _) ?_;refine Z8 ?_;refine k_cap rfl zq ?_;refine D39 ?_;refine Z3 ?_
 rw [show (2:Int)*((0:Nat):Int)+(n:Int)=(n:Int) by omega];refine k_mnz (n:=n) extMnz rfl zq kdq und192 zO (fun q13 N junk hnN hjl=>jao (jad ?_));refine joh (b:=0) rfl zq (.inr ⟨_,_,rfl⟩) rfl zO ?_;refine Z9 ?_;refine k_copy0 rfl zq ?_;refine Z6 ?_;refine D19 ?_;refine Zs ?_;refine jel rfl ?_;refine jac (F++[jmB q pa (.slice (some ⟨q13,0,none⟩) 0 N),⟨true,q13,.cells junk.toArray 5 (0,0)⟩]) rfl Tryz.func230 rfl jab ?_;refine Zs ?_;exact ⟨q13,N,[⟨true,q13,.cells junk.toArray 5 (0,0)⟩],hnN,by simp,OwnS.blk (cs:=[]) (junk:=junk) rfl (by simp [hjl]) zO⟩
theorem f212_c (m:Md Tryz.prog B) (F:Hp) (n:Nat) (hn:n≤2^40) (h0:0<n):FnC m 212 #[.pointer (some ⟨q,0,none⟩),.int .i64 (n:Int)] (F++[jmB q none (.slice none 0 0)]) fun _ h'=> ∃v M,h'=F++[jmB q (some ⟨q,0,none⟩) v]++M∧OwnS 5 1 v 0 [] M:=by
 refine jae Tryz.func212 rfl rfl (l:=(.pointer (some ⟨q,0,none⟩))::(.int .i64 (n:Int))::uu23) rfl ?_
 intro cf cs K hK
 refine Z3 ?_;refine jdp rfl zq zK (CallF.weak (weakEq (ge _).symm) (f229_c m F [] (q:=q) (pa:=none) (v:= .slice none 0 0) (.inl rfl))) ?_
 rintro _ h' rfl;rw [ge];refine Z6 ?_;refine jrc rfl zq zO ?_;refine Z4 ?_;refine jaq [Zp 0,Zp 1,Zp 2,Zp 5,Zp 6,Zp 7,Zp 11,Zr 3,Zp 4,Zr 8,Zp 9,Zp 10,Zp 12] zK zK (gE _) ?_;refine Z8 ?_;refine k_cap rfl zq ?_;refine Z3 ?_;refine jl8 rfl zq zO ?_;refine Z5 ?_;refine jdp rfl zq zK (f230_c m F (q:=q) (pa:=some ⟨q,0,none⟩) n hn) ?_
 rintro _ h' ⟨q2,N,M,hnN,rfl,ho⟩;refine Z2 ?_;refine jel rfl ?_;refine jac (F++[jmB q (some ⟨q,0,none⟩) (.slice (some ⟨q2,0,none⟩) 0 N)]++M) rfl Tryz.func212 rfl jab ?_;refine Zs ?_
 exact ⟨_,M,rfl,ho⟩
theorem f213_c (m:Md Tryz.prog B) (F M:Hp) (hpa:pa=none∨pa=some ⟨q,0,none⟩) {v:Value} {t:Str} (ho:OwnS 5 1 v t.length (t.map jco) M) (s:Str) (hn:t.length+s.length≤2^40):FnC m 213 #[.pointer (some ⟨q,0,none⟩),str s] (F++[jmB q pa v]++M) fun w h'=> ∃v' M',h'=F++[jmB q (some ⟨q,0,none⟩) v']++M'∧OwnS 5 1 v' (t++s).length ((t++s).map jco) M'∧w= .tuple [.int .i64 (s.length:Int),.nilIface].toArray:=by
 obtain ⟨p0,c0,rfl,hc0,r0⟩:=jas (B:=B) ho
 refine jae Tryz.func213 rfl rfl (l:=(.pointer (some ⟨q,0,none⟩))::(str s)::uu17) rfl ?_
 intro cf cs K hK
 refine Z8 ?_;refine jdp rfl zq zK (f229_c m F M (v:= .slice p0 t.length c0) hpa) ?_
 rintro _ h' rfl;refine Z10 ?_
 refine k_appS rfl zq jjC ho (Weak.perm Off.perm) kdq zO zO (fun w9 n9 o9=>jad ?_);obtain ⟨p9,c9,rfl,hc9,r9⟩:=jas (B:=B) o9
 refine Z2 ?_;refine D19 ?_;refine Z9 ?_;refine jac (F++[jmB q (some ⟨q,0,none⟩) (.slice p9 (t.length+s.length) c9)]++n9) rfl Tryz.func213 rfl jab ?_;refine Zs ?_
 exact ⟨_,_,rfl,by rw [GC,gH];exact o9,rfl⟩
theorem f214_c (m:Md Tryz.prog B) (F:Hp) {v:Value} {t:Str} (ho:OwnS 5 1 v t.length (t.map jco) M) (h0:0<t.length) (hn:t.length≤2^40):FnC m 214 #[.pointer (some ⟨q,0,none⟩)] (F++[jmB q pa v]++M) fun w h'=>h'=F++[jmB q pa v]∧w=str t:=by
 obtain ⟨b1,cap1,junk1,rfl,rfl,hcap⟩: ∃b cap junk,v= .slice (some ⟨b,0,none⟩) t.length cap∧M=[⟨true,b,.cells (t.map jco++junk).toArray 5 (0,0)⟩]∧t.length≤cap:=own_pos ho h0
 refine jae Tryz.func214 rfl rfl (l:=(.pointer (some ⟨q,0,none⟩))::uu13) rfl ?_
 intro cf cs K hK
 refine Z5 ?_;refine jaq [Zp 0,Zp 1,Zp 2,Zp 5,Zp 6,Zp 7,Zr 3,Zp 4,Zr 8,Zp 9,Zf 10,Zp 11] zK zK (gE _) ?_;refine Z7 ?_;refine k_usd rfl zq zO ?_;refine Z2 ?_;refine k_ustr (s:=t) (n:=t.length) rfl zq (joS zK) depthO zK rfl zO zO (.inl rfl) ?_;refine Z4 ?_;refine jac (F++[jmB q pa (.slice (some ⟨b1,0,none⟩) t.length cap1)]) rfl Tryz.func214 rfl jab ?_;refine Zs ?_
 exact ⟨rfl,rfl⟩
end
section
theorem d36: ∀n,n<10→(([48,49,50,51,52,53,54,55,56,57,97,98,99,100,101,102,103,104,105,106,107,108,109,110,111,112,113,114,115,116,117,118,119,120,121,122]:Str).take (n+1)).drop n=jjv n:=by decide
def d100:Str:=(List.range 100).flatMap fun n=>[UInt8.ofNat (48+n/10),UInt8.ofNat (48+n%10)]
theorem d100_cut: ∀n,n<100→10≤n→(d100.take (n*2+2)).drop (n*2)=jjv n:=by decide+kernel
theorem f232_c (m:Md Tryz.prog B) (h:Hp) (n:Nat) (hn:n<100):FnC m 232 #[.int .i64 (n:Int)] h fun v h'=>h'=h∧v=str (jjv n):=by
 refine jae Tryz.func232 rfl rfl (l:=(.int .i64 (n:Int))::uu14) rfl ?_
 intro cf cs K hK
 refine Z8 ?_
 refine jam rfl zq (fun hc=>?_) (fun hc=>?_);refine Z7 ?_
 rw [show (n:Int)+1=((n+1:Nat):Int) by omega];refine jhU (j:=n) (k:=n+1) rfl zq jjC zO (by show _≤36;omega) ?_;rw [d36 n zO];rotate_left
 refine Z6 ?_;refine D39 ?_;refine Zs ?_;refine D39 ?_;refine Zs ?_
 rw [show (n:Int)*2+2=((n*2+2:Nat):Int) by omega,show (n:Int)*2=((n*2:Nat):Int) by omega];refine jhU (p:=d100) (j:=n*2) (k:=n*2+2) rfl zq jjC zO (by show _≤200;omega) ?_;rw [d100_cut n hn zO];all_goals
  refine Z3 ?_;refine jac (h) rfl Tryz.func232 rfl jab ?_;refine Zs ?_
  exact ⟨rfl,rfl⟩
theorem f228_c (m:Md Tryz.prog B) (h:Hp) (n:Nat) (hn:n<100):FnC m 228 #[.int .i64 (n:Int),.int .i64 10] h fun v h'=>h'=h∧v=str (jjv n):=by
 refine jae Tryz.func228 rfl rfl (l:=(.int .i64 (n:Int))::(.int .i64 10)::uu52) rfl ?_
 intro cf cs K hK
 refine Z8 ?_;refine jeI rfl zq rfl ?_;refine Z6 ?_;refine k_leqT rfl zq zO ?_;refine Z2 ?_;refine jl8 rfl rfl zO ?_;refine Z6 ?_;refine jaf (Post:=fun v=>v=_) rfl zq zK (fun H' hH=>f232_c m H' n hn) ?_
 rintro v rfl;refine Z4 ?_;refine jac (h) rfl Tryz.func228 rfl jab ?_;refine Zs ?_
 exact ⟨rfl,rfl⟩
theorem f211_c (m:Md Tryz.prog B) (h:Hp) (n:Nat) (hn:n<100):FnC m 211 #[.int .i64 (n:Int)] h fun v h'=>h'=h∧v=str (jjv n):=by
 refine jae Tryz.func211 rfl rfl (l:=[.int .i64 (n:Int),undef,undef,undef,undef]) rfl ?_
 intro cf cs K hK
 refine Z7 ?_;refine jaf (Post:=fun v=>v=_) rfl zq zK (fun H' hH=>f228_c m H' n hn) ?_
 rintro v rfl;refine Z4 ?_;refine jac (h) rfl Tryz.func211 rfl jab ?_;refine Zs ?_
 exact ⟨rfl,rfl⟩
theorem f164_c (m:Md Tryz.prog B) (h:Hp) (n:Nat) (hn:n<100):FnC m 164 #[.int .i64 (n:Int)] h fun v h'=>h'=h∧v=str (jjv n):=by
 refine jae Tryz.func164 rfl rfl (l:=[.int .i64 (n:Int),undef,undef,undef,undef]) rfl ?_
 intro cf cs K hK
 refine Z7 ?_;refine jaf (Post:=fun v=>v=_) rfl zq zK (fun H' hH=>f211_c m H' n hn) ?_
 rintro v rfl;refine Z4 ?_;refine jac (h) rfl Tryz.func164 rfl jab ?_;refine Zs ?_
 exact ⟨rfl,rfl⟩
theorem k_quoB {m:Md P B} {x:Operand} {w:Int} (ho:ops[i]?=some ⟨d,.binOp .quo t x y u,ty,pos,af,g⟩) (hw:Wt ops l g) [KHeap kd S h H] [ex:OpV l x (.int .i64 z)] [ey:OpV l y (.int .i64 w)] (h0:w≠0) (hv:jeg (z.tdiv w)) [PutV l d (.int .i64 (z.tdiv w)) l'] (q:RegK m S ops r l' h C):RegK m S ops ((i,kd)::r) l h C:=
 RegK.rd (v:= .int .i64 (z.tdiv w)) ho hw (jbc ex.eq ey.eq zS (by
  simp only [binOp,Op.intDiv,if_neg h0,jdV hv]
  rfl)) q
theorem quo_big (h0:0<k) (h:k≤1000):1000000≤(9223372036854775807:Int).tdiv (k:Int)∧(9223372036854775807:Int).tdiv (k:Int)≤9223372036854775807:=by
 have e:(9223372036854775807:Int).tdiv (k:Int)=((9223372036854775807/k:Nat):Int):=(Int.ofNat_tdiv 9223372036854775807 k).symm
 rw [e];have h1:1000000≤9223372036854775807/k:=(Nat.le_div_iff_mul_le h0).2 zO
 have h2:=Nat.div_le_self 9223372036854775807 k
 omega
def jqZ (ss:List Str):List Nat:=ss.map List.length
theorem joe (h:k<ss.length):(jqZ ss).getD k 0=(ss.getD k []).length:=by
 rw [jqZ,gC,gX,gD h,gC,gD h];rfl
theorem lens_le {c:Nat} (h: ∀s∈ss,s.length≤c): ∀k,((jqZ ss).take k).sum≤k*c:=by
 intro k
 induction k with
 |zero=>simp
 |succ k ih=>
  by_cases hk:k<ss.length
  ·rw [jga _ _ (by simpa [jqZ] using hk),joe hk];have:=h _ (jaj (l:=ss) hk)
   have e:ss.getD k default=ss.getD k []:=rfl
   rw [e] at this
   rw [Gf];omega
  ·rw [gq (by simp [jqZ];omega)];rw [gq (by simp [jqZ];omega)] at ih
   rw [Gf];omega
def jgv (sep:Str) (ss:List Str) (k:Nat):Str:=ss.getD 0 []++((ss.drop 1).take k).flatMap fun x=>sep++x
theorem jjY (sep:Str) (ss:List Str):jgv sep ss 0=ss.getD 0 []:=by simp [jgv]
theorem jg6 (sep:Str) (h:k+1<ss.length):jgv sep ss (k+1)=jgv sep ss k++sep++(ss.drop 1).getD k []:=by
 rw [jgv,jgv,jaV (α:=Str) (ss.drop 1) k (by rw [Gu];omega),GQ];simp only [vL,List.flatMap_nil,ge,gI]
 rfl
theorem jpw (ss:List Str):jaC (ss.drop 1)=(jaC ss).drop 1:=by have:=jiZ ss 1;simpa using this
theorem jrj {sep:Str} (h:0<sep.length) (hk:0<k) (hl:k<ss.length):0<(jgv sep ss k).length:=by
 match k,hk with
 |k+1,_=>rw [jg6 sep zO,gH,gH];omega
theorem jiJ (sep:Str) (h:0<ss.length):jgv sep ss (ss.length-1)=jnh sep ss:=by
 match ss,h with
 |a::r,_=>simp [jgv,jnh]
theorem jrk (sep:Str) {c:Nat} (hs:sep.length≤c) (h: ∀s∈ss,s.length≤c): ∀k,(jgv sep ss k).length≤c+k*(2*c):=by
 have h0:(ss.getD 0 []).length≤c:=by
  by_cases e:0<ss.length
  ·exact h _ (jaj (l:=ss) e)
  ·rw [gC,gh zO];simp
 intro k
 induction k with
 |zero=>rw [jjY];omega
 |succ k ih=>
  by_cases hk:k+1<ss.length
  ·rw [jg6 sep hk,gH,gH,Gf];have:((ss.drop 1).getD k []).length≤c:=h _ (List.mem_of_mem_drop (jaj (l:=ss.drop 1) (i:=k) (by rw [Gu];omega)))
   omega
  ·rw [jgv,gq (by rw [Gu];omega)];rw [jgv,gq (by rw [Gu];omega)] at ih
   rw [Gf];omega
theorem f165_c (m:Md Tryz.prog B) (h:Hp) {c:Nat} (rd:RdS B h 1 (.slice p n c) n (jaC ss)) (hcap:n≤c) (hn:2≤n∧n≤1000) (hss: ∀s∈ss,s.length≤100000) (sep:Str) (hsep:0<sep.length∧sep.length≤100000):FnC m 165 #[.slice p n c,str sep] h fun v h'=>h'=h∧v=str (jnh sep ss):=by
 refine jae Tryz.func165 rfl rfl (l:=(.slice p n c)::(str sep)::uu73) rfl ?_
 intro cf cs K hK
 refine Z13 ?_;refine jmb rfl zq zO ?_;refine Z5 ?_;refine jmb rfl zq zO ?_;refine Z14 ?_;refine k_gtrT rfl zq zO ?_;refine Z4 ?_
 have hqb:=quo_big (k:=n-1) zO zO
 rw [show ((n-1:Nat):Int)=(n:Int)-1 by omega] at hqb
 refine Z6 ?_;refine k_quoB rfl zq zO (by unfold jeg;omega) ?_;refine k_geqF rfl zq zO ?_;refine Z10 ?_
 have hmu:0≤(sep.length:Int)*((n:Int)-1)∧(sep.length:Int)*((n:Int)-1)≤100000000:=⟨Int.mul_nonneg zO zO,by have:=Int.mul_le_mul (show (sep.length:Int)≤100000 by omega) (show (n:Int)-1≤1000 by omega) zO zO;omega⟩
 refine D39 ?_;refine Z5 ?_
 obtain ⟨Z,hZ⟩: ∃Z:Nat,(sep.length:Int)*((n:Int)-1)=(Z:Int):=⟨((sep.length:Int)*((n:Int)-1)).toNat,by omega⟩
 have hZ0:sep.length≤Z:=by have:=Int.mul_le_mul_of_nonneg_left (show (1:Int)≤(n:Int)-1 by omega) (show 0≤(sep.length:Int) by omega);omega
 rw [Int.zero_add,hZ];have hll:=rd.elen zA
 refine Z6 ?_
 refine jag (fun nn l h'=> ∃(k:Nat),nn=n-k∧(k≤n)∧(∃U:Nat→Value,l=((.slice p n c)::(str sep)::(U 2)::(U 3)::(U 4)::(.int .i64 ((Z+((jqZ ss).take k).sum:Nat):Int))::vw33 U 6 ((.slice p n c)::(.int .i64 (n:Int))::(.int .i64 (k:Int))::vw33 U 42 [])))∧h=h') _ ⟨0,rfl,by omega,exU rfl,rfl⟩ ?_;rintro nn l h' ⟨k,rfl,hk,⟨U,rfl⟩,rfl⟩ hnext;have hlk:=lens_le hss k
 refine Z2 ?_
 refine jam rfl zq (fun hc=>?_) (fun hc=>?_)
 ·refine Z8 ?_
  obtain ⟨rd_b,rd_o,rfl⟩:=rd.ptr zO
  refine D6 ?_;refine jaN rfl zq (rd.sat k zO zO) ?_;refine Z4 ?_
  have hsk:(ss.getD k []).length≤100000:=hss _ (jaj (l:=ss) zO)
  refine Z5 ?_
  refine jaJ rfl zq (fun hc=>?_) (fun hc=>?_)
  ·omega
  ·refine Z15 ?_
   rw [show ((Z+((jqZ ss).take k).sum:Nat):Int)+((ss.getD k []).length:Int)=((Z+((jqZ ss).take (k+1)).sum:Nat):Int) by rw [jga _ _ (by simp [jqZ];omega),joe zO];omega];exact E6
 ·refine Z6 ?_
  refine jay rfl zq (fun q8=>jao (jad ?_));refine Z2 ?_
  have hkn:k=n:=by omega
  subst hkn
  obtain ⟨T,hT⟩: ∃T,T=Z+((jqZ ss).take k).sum:=⟨_,rfl⟩
  rw [←hT];have hs0:(ss.getD 0 []).length≤100000:=hss _ (jaj (l:=ss) zO)
  refine Z2 ?_;refine jdp rfl zq zK (f212_c m h (q:=q8) T zO zO) ?_
  rintro _ _ ⟨v0,M0,rfl,ho0⟩;refine Z5 ?_
  obtain ⟨rd_b,rd_o,rfl⟩:=rd.ptr zO
  refine D6 ?_;refine jaN rfl zq (rd.sat 0 zO zO) ?_;refine jdp rfl zq zK (f213_c m h M0 (q:=q8) (pa:=some ⟨q8,0,none⟩) (v:=v0) (t:=[]) (.inr rfl) ho0 (ss.getD 0 []) (by rw [Gp];omega)) ?_
  rintro _ _ ⟨v1,M1,rfl,ho1,rfl⟩;refine Z6 ?_;refine jhV (a:=1) rfl zq rfl zO ?_
  have rdc:=rd.cut (lo:=1) zO hcap
  rw [Gw,←jpw] at rdc
  refine Z4 ?_
  refine jag (fun nn l h'=> ∃(j:Nat) (w:Value) (M:Hp),nn=k-1-j∧(j≤k-1)∧(OwnS 5 1 w (jgv sep ss j).length ((jgv sep ss j).map jco) M)∧(∃U:Nat→Value,l=((.slice (some ⟨rd_b,rd_o,none⟩) k c)::(str sep)::vw6 U 2 ((.pointer (some ⟨q8,0,none⟩))::vw54 U 9 ((.slice (jmJ 1 (some ⟨rd_b,rd_o,none⟩) c 1) (k-1) (c-1))::(.int .i64 ((k-1:Nat):Int))::(.int .i64 (j:Int))::vw9 U 66 []))))∧h++[jmB q8 (some ⟨q8,0,none⟩) w]++M=h') _ ⟨0,v1,M1,rfl,by omega,by rw [jjY];simpa using ho1,exU rfl,rfl⟩ ?_;rintro nn l h' ⟨j,w,M,rfl,hj,ho,⟨U,rfl⟩,rfl⟩ hnext;have hjl:=jrk sep (c:=100000) hsep.2 hss j
  have hdl:(ss.drop 1).length=k-1:=by rw [Gu];omega
  refine Z2 ?_
  refine jam rfl zq (fun hc=>?_) (fun hc=>?_)
  ·refine Z7 ?_
   obtain ⟨cb,co,hcp⟩:=rdc.ptr zO
   rw [hcp] at rdc⊢
   refine Zs ?_;refine D8 ?_;refine jaN rfl zq (rdc.sat j zO zO) ?_;refine Z3 ?_
   have hdj:((ss.drop 1).getD j []).length≤100000:=hss _ (List.mem_of_mem_drop (jaj (l:=ss.drop 1) zO))
   have hjb:j*(2*100000)≤1000*200000:=vo zO zO
   refine Z2 ?_;refine jdp rfl zq zK (f213_c m h M (q:=q8) (pa:=some ⟨q8,0,none⟩) (.inr rfl) ho (sep) zO) ?_
   rintro _ _ ⟨w1,M1b,rfl,ho2,rfl⟩;refine Z4 ?_;refine jdp rfl zq zK (f213_c m h M1b (q:=q8) (pa:=some ⟨q8,0,none⟩) (.inr rfl) ho2 ((ss.drop 1).getD j []) (by rw [gH];omega)) ?_
   rintro _ _ ⟨w2,M2,rfl,ho3,rfl⟩;refine Z7 ?_
   rw [←hcp];exact m.weak jab (hnext _ _ _ zO ⟨j+1,w2,M2,rfl,by omega,by rw [jg6 sep zO];exact ho3,exU rfl,rfl⟩)
  ·refine Z5 ?_
   have hjk:j=ss.length-1:=by omega
   rw [hjk,jiJ sep zO] at ho
   rw [hjk,jiJ sep zO] at hjl
   have hjp:0<(jnh sep ss).length:=by rw [←jiJ sep (show 0<ss.length by omega)];exact jrj hsep.1 zO zO
   have hjb:(ss.length-1)*(2*100000)≤1000*200000:=vo zO zO
   refine Zs ?_;refine jdp rfl zq zK (f214_c m h (q:=q8) ho hjp zO) ?_
   rintro _ _ ⟨rfl,rfl⟩;refine Z4 ?_;refine jac (h) rfl Tryz.func165 rfl jab ?_;refine Zs ?_
   exact ⟨rfl,rfl⟩
end
section
variable [LaidO B]
theorem jjQ (h:k<v.length):jaC ((v.map jaD).take (k+1))=jaC ((v.map jaD).take k)++[str (jaD (v.getD k 0))]:=by
 rw [jaV (α:=Str) (v.map jaD) k (by simpa using h),ja0];congr 1
 rw [gC,gX,gD h,gC,gD h];rfl
theorem jqB (x:Int):(jaD x).length≤2:=by
 unfold jaD jjv
 split
 ·simp
 ·split<;>simp
theorem f113_c (m:Md Tryz.prog B) (h:Hp) (hv:PtOk v):FnC m 113 #[.agg (jav v).toArray] h fun w h'=>h'=h∧w=str (jbM v):=by
 refine jae Tryz.func113 rfl rfl (l:=(.agg (jav v).toArray)::uu22) rfl ?_
 intro cf cs K hK
 refine Z2 ?_
 refine jaA rfl zq (fun q1=>jao (jad ?_));refine Z9 ?_;refine jdk rfl zq hv.len ?_;refine Z3 ?_
 refine jag (fun nn l h'=> ∃(k:Nat) (wp:Option Addr) (wc:Nat) (M:Hp),nn=3-k∧(k≤3)∧(OwnS 9 1 (.slice wp k wc) k (jaC ((v.map jaD).take k)) M)∧(∃U:Nat→Value,l=((.agg (jav v).toArray)::(.pointer (some ⟨q1,0,none⟩))::(U 2)::(.slice wp k wc)::(U 4)::(U 5)::(.agg (jav v).toArray)::(.int .i64 (k:Int))::vw15 U 8 []))∧h++[⟨true,q1,.cells (jav v).toArray 145 (0,0)⟩]++M=h') _ ⟨0,none,0,[],rfl,by omega,by simpa [jaC] using OwnS.nil,exU rfl,zS⟩ ?_;rintro nn l h' ⟨k,wp,wc,M,rfl,hk,how,⟨U,rfl⟩,rfl⟩ hnext;refine Z2 ?_
 refine jam rfl zq (fun hc=>?_) (fun hc=>?_)
 ·refine Z8 ?_;refine k_ixv rfl zq zO zO (jni (by rw [hv.len];omega)) ?_;refine Z5 ?_
  refine jaE rfl zq (fun hc=>?_) (fun hc=>?_);refine Z4 ?_
  refine jb7 kdq rfl zq zA zA rfl (fun q13=>jao (jad ?_));rotate_left
  refine Z5 ?_
  have hlo:=hv.lo k
  have hhi:=hv.hi k zO
  have hmo:=jdo (k:=k) zO
  obtain ⟨a,ha⟩: ∃a:Nat,v.getD k 0=(a:Int):=⟨(v.getD k 0).toNat,by omega⟩
  rw [ha];refine jaf (Post:=fun v=>v=_) rfl zq zK (fun H' hH=>f164_c m H' a zO) ?_;rintro v rfl;refine Zs ?_
  refine jb7 kdq rfl zq zA zA rfl (fun q18=>jao (jad ?_));all_goals
   refine ja6 rfl zq rfl how kdq zO zO (fun w9 n9 o9=>jad ?_);obtain ⟨p9,c9,rfl,hc9,r9⟩:=jas (B:=B) o9
   refine Z7 ?_
  ·exact m.weak jab (hnext _ _ _ zO ⟨k+1,p9,c9,n9,rfl,by omega,by rw [jjQ (by rw [hv.len];omega),jaD,if_neg zO,ha,gm];exact o9,exU rfl,rfl⟩)
  ·exact m.weak jab (hnext _ _ _ zO ⟨k+1,p9,c9,n9,rfl,by omega,by rw [jjQ (by rw [hv.len];omega),jaD,if_pos zO];exact o9,exU rfl,rfl⟩)
 ·refine Z7 ?_
  have hk3:k=3:=by omega
  subst hk3
  rw [gq (by rw [gN,hv.len];omega)] at how
  obtain ⟨p0,c0,e0,hc0,r0⟩:=jas (B:=B) how
  obtain ⟨rfl,-,rfl⟩:=Value.slice.inj e0
  refine jaf (Post:=fun w=>w=str (jbM v)) rfl zq zK (fun H' hH=>f165_c m H' (r0.keeps (sq hH)) hc0 zO (fun s hs=>by obtain ⟨x,_,rfl⟩:=gR.1 hs;have:=jqB x;omega) [45] zA) ?_;rintro w rfl;refine Z4 ?_;refine jac (h) rfl Tryz.func113 rfl jab ?_;refine Zs ?_
  exact ⟨rfl,rfl⟩
def figN (n:Nat):Str:=jbM (jdE n)
theorem f59_c (m:Md Tryz.prog B) (h:Hp) (x:Int):FnC m 59 #[.int .i64 x] h fun w h'=>h'=h∧w= .tuple [str (if 0≤x∧x≤959 then figN x.toNat else []),.int .i64 (if 0≤x∧x≤959 then 0 else 1)].toArray:=by
 refine jae Tryz.func59 rfl rfl (l:=(.int .i64 x)::uu9) rfl ?_
 intro cf cs K hK
 refine Z9 ?_;refine jaf (Post:=fun v=>IsB _ v) rfl zq zK (fun H' hH=>f117_c m H' x 0 959) ?_
 rintro v (⟨hc,rfl⟩|⟨hc,rfl⟩);refine Z6 ?_
 obtain ⟨n,hn⟩: ∃n:Nat,x=(n:Int):=⟨x.toNat,by omega⟩
 subst hn
 refine Z2 ?_;refine jaf (Post:=fun w=>w= .agg (jav (jdE n)).toArray) rfl zq zK (fun H' hH=>f118_c m H' n zO) ?_
 rintro w rfl;refine Zs ?_;refine jaf (Post:=fun v=>v=_) rfl zq zK (fun H' hH=>f113_c m H' (parts_n (n:=n) zO)) ?_
 rintro v rfl;refine Zs ?_
 rotate_left
 refine Z6 ?_
 all_goals
  refine Z4 ?_;refine jac (h) rfl Tryz.func59 rfl jab ?_;refine Zs ?_
 ·rw [if_neg hc,if_neg hc];exact ⟨rfl,rfl⟩
 ·rw [if_pos hc,if_pos hc];exact ⟨rfl,rfl⟩
def firstM (l:List Int):Int:=l.getD 0 0
def lastM (l:List Int):Int:=l.getD (l.length-1) 0
def lowN (v:List Int):Nat:=96*(v.getD 0 0).toNat+8*(v.getD 1 0).toNat+(v.getD 2 0).toNat
theorem low_fits (hv:PtOk v):lowN v<960∧jfZ v (lowN v)=true:=by
 have h0:=hv.hi 0 zA
 have h1:=hv.hi 1 zA
 have h2:=hv.hi 2 zA
 have m0:mosts.getD 0 0=9:=rfl
 have m1:mosts.getD 1 0=11:=rfl
 have m2:mosts.getD 2 0=7:=rfl
 rw [m0] at h0
 rw [m1] at h1
 rw [m2] at h2
 have l0:=hv.lo 0
 have l1:=hv.lo 1
 have l2:=hv.lo 2
 unfold lowN
 refine ⟨by omega,?_⟩
 rw [jfZ,gZ];intro j hj
 rw [gT] at hj
 simp only [GR,decide_eq_true_eq]
 rcases (by omega:j=0∨j=1∨j=2) with rfl|rfl|rfl
 ·show v.getD 0 0<0∨v.getD 0 0=(((96*(v.getD 0 0).toNat+8*(v.getD 1 0).toNat+(v.getD 2 0).toNat)/96:Nat):Int)
  omega
 ·show v.getD 1 0<0∨v.getD 1 0=(((96*(v.getD 0 0).toNat+8*(v.getD 1 0).toNat+(v.getD 2 0).toNat)/8%12:Nat):Int)
  omega
 ·show v.getD 2 0<0∨v.getD 2 0=(((96*(v.getD 0 0).toNat+8*(v.getD 1 0).toNat+(v.getD 2 0).toNat)%8:Nat):Int)
  omega
theorem mea_pos (hv:PtOk v):0<(jjV v).length:=by
 obtain ⟨h1,h2⟩:=low_fits hv
 exact Vt (gR.2 ⟨lowN v,ga.2 ⟨gT.2 h1,h2⟩,rfl⟩)
theorem mea_le (v:List Int):(jjV v).length≤960:=jne v 960
theorem f62_c (m:Md Tryz.prog B) (h:Hp) (s:Str) (hl:s.length≤100000):FnC m 62 #[str s] h fun w h'=>h'=h∧w= .tuple [.int .i64 (if ja2 s then firstM (jdN s) else 0),.int .i64 (if ja2 s then lastM (jdN s) else 0),.int .i64 (if ja2 s then ((jdN s).length:Int) else 0),.int .i64 (if ja2 s then 0 else 3)].toArray:=by
 refine jae Tryz.func62 rfl rfl (l:=(str s)::uu28) rfl ?_
 intro cf cs K hK
 refine Z10 ?_;refine jaf (Post:=fun v=>v=_) rfl zq zK (fun H' hH=>f119_c m H' s hl) ?_
 rintro v rfl;refine Z4 ?_
 refine jay rfl zq (fun q6=>jao (jad ?_));refine jeG rfl zq (ja9 s).len (by rw [(ja9 s).len];rfl) ?_;refine Z4 ?_;cases hfo:ja2 s
 refine Z8 ?_
 rotate_left
 refine Z8 ?_;refine jdk rfl zq (ja9 s).len ?_;refine jax rfl zq zK (Post:=fun w new=>OwnS 3 1 w (jjV (jan s)).length (jav (jjV (jan s))) new) (fun H' hH=>f120_c m H' (ja9 s)) ?_
 rintro w n17 o17;refine jaz (jad ?_);obtain ⟨p17,c17,rfl,hc17,r17⟩:=jas (B:=B) o17
 have hmp:=mea_pos (ja9 s)
 have hml:=mea_le (jan s)
 refine Z3 ?_;refine jaq [Zp 0,Zp 1,Zp 3,Zp 4,Zp 5,Zp 6,Zp 7,Zp 9,Zp 10,Zr 2,Zp 11,Zr 8,Zp 12,Zp 13,Zp 14] zK zK (gE _) ?_;refine Zs ?_
 obtain ⟨r17_b,r17_o,rfl⟩:=r17.ptr zO
 refine D6 ?_;refine Z4 ?_;refine D8 ?_;refine Z2 ?_;refine jaN rfl zq (r17.iat 0 zO zO) ?_;refine Zs ?_;refine jaN rfl zq (r17.iat ((jjV (jan s)).length-1) zO zO) ?_
 all_goals
  refine Z5 ?_;refine jac (h) rfl Tryz.func62 rfl jab ?_;refine Zs ?_
 ·have hme:jdN s=jjV (jan s):=by rw [jdN,if_pos hfo]
  rw [if_pos hfo,if_pos hfo,if_pos hfo,if_pos hfo,hme];exact ⟨rfl,rfl⟩
 ·rw [if_neg (by simp [hfo]),if_neg (by simp [hfo]),if_neg (by simp [hfo]),if_neg (by simp [hfo])];exact ⟨rfl,rfl⟩
end
section
variable [LaidO B]
theorem jj5 (ss:List Str) (i:Nat):jaC (ss.take i)=(jaC ss).take i:=by have:=jmr ss i;simpa using this
theorem byte_at {rw:Bool} {s:Str} [x:Has h q rw (.cells (s.map jco++junk).toArray e f)] (i:Nat) (hi:i<s.length):Rd B h ⟨q,0+(i:Int).toNat*1,none⟩ (.int .u8 ((s.getD i 0).toNat:Int)):=by
 refine Rd.held x.mem ?_
 rw [show 0+(i:Int).toNat*1=i by omega,gd,gb (by simpa using hi),gX,gD hi,gC,gD hi];rfl
theorem f168_c (m:Md Tryz.prog B) (h:Hp) (s:Str) (hl:s.length≤100000):FnC m 168 #[str s] h fun v h'=>h'=h∧IsB (jhq s) v:=by
 refine jae Tryz.func168 rfl rfl (l:=(str s)::uu30) rfl ?_
 intro cf cs K hK
 refine Z8 ?_
 refine k_s2b rfl zq jjC und192 zK kdq (fun q6 N junk hjk=>jao (jad ?_));refine Z4 ?_
 refine jag (fun nn l h'=> ∃(i:Nat),nn=s.length-i∧(i≤s.length)∧(∀j,j<i→ji6 j (s.getD j 0))∧(∃U:Nat→Value,l=((str s)::vw5 U 1 ((.slice (some ⟨q6,0,none⟩) s.length N)::(.int .i64 (s.length:Int))::(.int .i64 (i:Int))::vw22 U 9 [])))∧h++[⟨true,q6,.cells (s.map jco++junk).toArray 5 (N,N+1)⟩]=h') _ ⟨0,rfl,by omega,fun j hj=>absurd hj zO,exU rfl,rfl⟩ ?_;rintro nn l h' ⟨i,rfl,hi,hch,⟨U,rfl⟩,rfl⟩ hnext;refine Z2 ?_
 refine jam rfl zq (fun hc=>?_) (fun hc=>?_)
 ·refine Z9 ?_;refine D8 ?_;refine jaN rfl zq (byte_at i zO) ?_
  obtain ⟨ch,hcc⟩: ∃ch,ch=s.getD i 0:=⟨_,rfl⟩
  rw [←hcc];have hcb:=ch.toNat_lt
  refine Z4 ?_;refine rr14 ?_;refine Zs ?_;refine jfG (n':=(ch.toNat:Int)) rfl zq zK (jdV (by unfold jeg;omega)) ?_;refine D21 ?_
  rintro v (⟨hc,rfl⟩|⟨hc,rfl⟩)
  ·refine Z20 ?_
   exact m.weak jab (hnext _ _ _ zO ⟨i+1,rfl,by omega,by
    intro j hj
    by_cases e:j<i
    ·exact hch j e
    ·obtain rfl:j=i:=by omega
     rw [←hcc];unfold ji6
     omega,exU rfl,rfl⟩)
  ·refine Z4 ?_
   refine jaE rfl rfl (fun hc=>?_) (fun hc=>?_)
   ·refine Z14 ?_;refine jac (h) rfl Tryz.func168 rfl jab ?_;refine Zs ?_
    refine ⟨rfl,IsB.no fun e=>?_⟩
    have:=e.2 i zO
    rw [←hcc] at this
    unfold ji6 at this
    omega
   ·refine Z2 ?_;refine jfG (n':=(ch.toNat:Int)) rfl rfl zK (jdV (by unfold jeg;omega)) ?_;refine jaf (Post:=fun v=>IsB _ v) rfl rfl zK (fun H' hH=>f117_c m H' _ _ _) ?_
    rintro v (⟨hc,rfl⟩|⟨hc,rfl⟩)
    ·refine D115 ?_;refine Z10 ?_
     exact m.weak jab (hnext _ _ _ zO ⟨i+1,rfl,by omega,by
      intro j hj
      by_cases e:j<i
      ·exact hch j e
      ·obtain rfl:j=i:=by omega
       rw [←hcc];unfold ji6
       omega,exU rfl,rfl⟩)
    ·refine Zs ?_;refine jhw rfl rfl ?_;refine Z9 ?_;refine jac (h) rfl Tryz.func168 rfl jab ?_;refine Zs ?_
     refine ⟨rfl,IsB.no fun e=>?_⟩
     have:=e.2 i zO
     rw [←hcc] at this
     unfold ji6 at this
     omega
 ·refine Z8 ?_;refine D21 ?_
  rintro v (⟨hc,rfl⟩|⟨hc,rfl⟩);all_goals
   refine Z4 ?_;refine jac (h) rfl Tryz.func168 rfl jab ?_;refine Zs ?_
  ·refine ⟨rfl,IsB.yes ⟨by omega,fun j hj=>hch j zO⟩⟩
  ·refine ⟨rfl,IsB.no fun e=>?_⟩
   have:=e.1
   omega
theorem f215_c (m:Md Tryz.prog B) (h:Hp) {c:Nat} (rd:RdS B h 1 (.slice p n c) n (jaC ss)) (hn:n≤100000) (s:Str):FnC m 215 #[.slice p n c,str s] h fun v h'=>h'=h∧ ∃x:Int,v= .int .i64 x∧jeg x∧(0≤x↔s∈ss):=by
 have hll0:=rd.elen zA
 refine jae Tryz.func215 rfl rfl (l:=(.slice p n c)::(str s)::uu17) rfl ?_
 intro cf cs K hK
 refine Z12 ?_
 refine jag (fun nn l h'=> ∃(i:Nat),nn=n-i∧(i≤n)∧(∀j,j<i→s≠ss.getD j [])∧(∃U:Nat→Value,l=((.slice p n c)::(str s)::vw5 U 2 ((.int .i64 (n:Int))::(.int .i64 (i:Int))::vw10 U 9 [])))∧h=h') _ ⟨0,rfl,by omega,fun j hj=>absurd hj zO,exU rfl,rfl⟩ ?_;rintro nn l h' ⟨i,rfl,hi,hno,⟨U,rfl⟩,rfl⟩ hnext;refine Z2 ?_
 refine jam rfl zq (fun hc=>?_) (fun hc=>?_)
 ·refine Z16 ?_
  obtain ⟨rd_b,rd_o,rfl⟩:=rd.ptr zO
  refine D6 ?_;refine jaN rfl zq (rd.sat i zO zO) ?_
  by_cases hse:s=ss.getD i []
  ·refine jg3 rfl zq hse ?_;refine Z8 ?_;refine jac (h) rfl Tryz.func215 rfl jab ?_;refine Zs ?_;have hll:=rd.elen zA
   exact E9
  ·refine jg4 rfl zq hse ?_;refine Z8 ?_;exact m.weak jab (hnext _ _ _ zO ⟨i+1,rfl,by omega,by
    intro j hj
    by_cases e:j<i
    ·exact hno j e
    ·obtain rfl:j=i:=by omega
     exact hse,exU rfl,rfl⟩)
 ·refine Z9 ?_;refine jac (h) rfl Tryz.func215 rfl jab ?_;refine Zs ?_
  have hll:=rd.elen zA
  refine ⟨rfl,_,rfl,by unfold jeg;omega,⟨fun e=>by omega,fun e=>?_⟩⟩
  obtain ⟨j,hj,e2⟩:=GK.1 e
  refine absurd ?_ (hno j zO)
  rw [gC,gD hj];exact e2.symm
theorem f169_c (m:Md Tryz.prog B) (h:Hp) {c:Nat} (rd:RdS B h 1 (.slice p n c) n (jaC ss)) (hn:n≤100000) (s:Str):FnC m 169 #[.slice p n c,str s] h fun v h'=>h'=h∧IsB (s∈ss) v:=by
 refine jae Tryz.func169 rfl rfl (l:=(.slice p n c)::(str s)::uu7) rfl ?_
 intro cf cs K hK
 refine Z8 ?_;refine jaf (Post:=fun v=> ∃x:Int,v= .int .i64 x∧jeg x∧(0≤x↔s∈ss)) rfl zq zK (fun H' hH=>f215_c m H' (rd.keeps (sq hH)) hn s) ?_
 rintro v ⟨x,rfl,hx64,hxi⟩;refine Zs ?_
 refine jdH rfl zq (fun hc=>?_) (fun hc=>?_)
 ·refine Z3 ?_;refine jac (h) rfl Tryz.func169 rfl jab ?_;refine Zs ?_
  exact ⟨rfl,IsB.yes (hxi.1 hc)⟩
 ·refine Z3 ?_;refine jac (h) rfl Tryz.func169 rfl jab ?_;refine Zs ?_
  exact ⟨rfl,IsB.no fun e=>absurd (hxi.2 e) zO⟩
theorem f121_c (m:Md Tryz.prog B) (h:Hp) {b:Tb} (rds:RdS B h 1 (.slice ps ns ks) ns (jaC b.sts)) (hcs:ns≤ks) (hns:ns≤1000) (hsl: ∀s∈b.sts,s.length≤100000):FnC m 121 #[tbV b ps ns ks pw nw cw pb nb cb] h fun v h'=>h'=h∧v= .int .i64 (jeA b):=by
 have hml:=rds.elen zA
 refine jae Tryz.func121 rfl rfl (l:=(tbV b ps ns ks pw nw cw pb nb cb)::uu39) rfl ?_
 intro cf cs K hK
 refine Z2 ?_
 refine jaA rfl zq (fun q1=>jao (jad ?_));refine Z9 ?_;refine D21 ?_
 rintro v (⟨hc,rfl⟩|⟨hc,rfl⟩)
 ·refine Z11 ?_;refine D21 ?_
  rintro v (⟨hc,rfl⟩|⟨hc,rfl⟩)
  ·refine Z17 ?_
   refine jag (fun nn l h'=> ∃(i:Nat),nn=ns-i∧(i≤ns)∧(jdF [] b.sts=jdF (b.sts.take i) (b.sts.drop i))∧(∃U:Nat→Value,l=((tbV b ps ns ks pw nw cw pb nb cb)::(.pointer (some ⟨q1,0,none⟩))::vw18 U 2 ((.slice ps ns ks)::(.int .i64 (ns:Int))::(.int .i64 (i:Int))::vw17 U 23 [])))∧h++[⟨true,q1,.cells (tbL b ps ns ks pw nw cw pb nb cb).toArray 127 (0,0)⟩]=h') _ ⟨0,rfl,by omega,by simp,exU rfl,rfl⟩ ?_;rintro nn l h' ⟨i,rfl,hi,hnm,⟨U,rfl⟩,rfl⟩ hnext;refine Z2 ?_
   refine jam rfl zq (fun hc=>?_) (fun hc=>?_)
   ·refine Z9 ?_
    obtain ⟨rds_b,rds_o,rfl⟩:=rds.ptr zO
    refine D6 ?_;refine jaN rfl zq (rds.sat i zO zO) ?_;refine Z5 ?_
    have hdr:b.sts.drop i=b.sts.getD i []::b.sts.drop (i+1):=jk0 zO
    have hsi:(b.sts.getD i []).length≤100000:=hsl _ (jaj (l:=b.sts) zO)
    have rdt:=rds.pre (m:=i) zO
    rw [Gw,←jj5] at rdt
    refine Z2 ?_;refine jaf (Post:=fun v=>IsB _ v) rfl zq zK (fun H' hH=>f168_c m H' _ hsi) ?_
    rintro v (⟨hc,rfl⟩|⟨hc,rfl⟩)
    ·refine Z11 ?_;refine joh (b:=i) rfl zq rds.okp rfl zO ?_;refine Zs ?_;refine jaf (Post:=fun v=>IsB _ v) rfl zq zK (fun H' hH=>f169_c m H' (rdt.keeps (sq hH)) zO _) ?_
     rintro v (⟨hc,rfl⟩|⟨hc,rfl⟩)
     ·refine Z9 ?_;refine D92 ?_;refine Zs ?_
      refine ⟨rfl,congrArg (Value.int .i64) ?_⟩
      first
       |exact (jdf zO).symm
       |exact (jde zO zO).symm
       |(rw [jbj zO zO,hnm,hdr];exact E10)
       |(rw [jbj zO zO,hnm,gP zO];rfl)
     ·refine Z11 ?_
      exact m.weak jab (hnext _ _ _ zO ⟨i+1,rfl,by omega,by rw [hnm,hdr,joa zD zD,←jjF b.sts i zO],exU rfl,rfl⟩)
    ·refine Z10 ?_;refine D92 ?_;refine Zs ?_
     refine ⟨rfl,congrArg (Value.int .i64) ?_⟩
     first
      |exact (jdf zO).symm
      |exact (jde zO zO).symm
      |(rw [jbj zO zO,hnm,hdr];exact E10)
      |(rw [jbj zO zO,hnm,gP zO];rfl)
   ·refine Z9 ?_;refine D92 ?_;refine Zs ?_
    refine ⟨rfl,congrArg (Value.int .i64) ?_⟩
    first
     |exact (jdf zO).symm
     |exact (jde zO zO).symm
     |(rw [jbj zO zO,hnm,hdr];exact E10)
     |(rw [jbj zO zO,hnm,gP zO];rfl)
  ·refine Z10 ?_;refine D92 ?_;refine Zs ?_
   refine ⟨rfl,congrArg (Value.int .i64) ?_⟩
   first
    |exact (jdf zO).symm
    |exact (jde zO zO).symm
    |(rw [jbj zO zO,hnm,hdr];exact E10)
    |(rw [jbj zO zO,hnm,gP zO];rfl)
 ·refine Z10 ?_;refine D92 ?_;refine Zs ?_
  refine ⟨rfl,congrArg (Value.int .i64) ?_⟩
  first
   |exact (jdf zO).symm
   |exact (jde zO zO).symm
   |(rw [jbj zO zO,hnm,hdr];exact E10)
   |(rw [jbj zO zO,hnm,gP zO];rfl)
end
section
variable [LaidO B]
theorem jaS {ls:List Ln} (h:0<i):jm1 ls i=some (ls.getD (i-1) default).lat:=by
 match i,h with
 |i+1,_=>rfl
theorem ja5 (lps:List Lp) (i:Nat) (h:i<lps.length):(lps.map (·.ln)).getD i default=(lps.getD i default).ln:=by
 rw [gC,gX,gD h,gC,gD h];rfl
theorem f170_c (m:Md Tryz.prog B) (h:Hp) {b:Tb} (rds:RdS B h 1 (.slice ps ns ks) ns (jaC b.sts)) (hcs:ns≤ks) (hns:ns≤1000) (hsl: ∀s∈b.sts,s.length≤100000) {nl cl:Nat} {lns:List Ln} (hln:RdLn B h (.slice pl nl cl) nl lns) (hnl:nl≤1000) (hsm: ∀l∈lns,l.figs.length≤1000∧ ∀f∈l.figs,f.length≤100000):FnC m 170 #[tbV b ps ns ks pw nw cw pb nb cb,.slice pl nl cl] h fun v h'=>h'=h∧v= .int .i64 (jaF b.sts.length lns):=by
 have hml:=rds.elen zA
 obtain ⟨lps,rfl,rl,hfig⟩:=hln
 have hll:=rl.elen zA
 refine jae Tryz.func170 rfl rfl (l:=(tbV b ps ns ks pw nw cw pb nb cb)::(.slice pl nl cl)::uu67) rfl ?_
 intro cf cs K hK
 refine Z2 ?_
 refine jaA rfl zq (fun q2=>jao (jad ?_));refine Z7 ?_
 refine jaJ rfl zq (fun hc=>?_) (fun hc=>?_)
 ·refine Z7 ?_;refine D50 ?_;refine Zs ?_
  refine ⟨rfl,congrArg (Value.int .i64) ?_⟩
  first
   |(rw [jaF,if_pos zI];done)
   |(rw [jaF,if_neg zI,hlm];first
     |(rw [gP zI];rfl)
     |(rw [hdr];first
       |exact (jci zO).symm
       |exact E11
       |exact E12
       |exact E13))
 ·refine Z11 ?_
  refine jag (fun nn l h'=> ∃(i:Nat),nn=nl-i∧(i≤nl)∧(jce b.sts.length none (lps.map (·.ln))=jce b.sts.length (jm1 (lps.map (·.ln)) i) ((lps.map (·.ln)).drop i))∧(∃U:Nat→Value,l=((tbV b ps ns ks pw nw cw pb nb cb)::(.slice pl nl cl)::(.pointer (some ⟨q2,0,none⟩))::vw11 U 3 ((.slice pl nl cl)::(.int .i64 (nl:Int))::(.int .i64 (i:Int))::vw52 U 17 [])))∧h++[⟨true,q2,.cells (tbL b ps ns ks pw nw cw pb nb cb).toArray 127 (0,0)⟩]=h') _ ⟨0,rfl,by omega,rfl,exU rfl,rfl⟩ ?_;rintro nn l h' ⟨i,rfl,hi,hlm,⟨U,rfl⟩,rfl⟩ hnext1;refine Z2 ?_
  refine jam rfl zq (fun hc=>?_) (fun hc=>?_)
  ·refine Z7 ?_
   obtain ⟨rl_b,rl_o,rfl⟩:=rl.ptr zO
   refine Z2 ?_;refine D8 ?_;refine jb4 (vs:=[.int .i64 (lps.getD i default).ln.lat,.slice (lps.getD i default).p (lps.getD i default).ln.figs.length (lps.getD i default).c]) rfl zq rfl (rl.eat i zO zO) ?_
   obtain ⟨x,hx⟩: ∃x,x=lps.getD i default:=⟨_,rfl⟩
   rw [←hx];refine jay rfl zq (fun q6=>jao (jad ?_));refine Zs ?_;refine D4 ?_;refine Z4 ?_
   have hxm:x∈lps:=hx▸jaj zO
   obtain ⟨hxc,rdf0⟩:=hfig x hxm
   have hdr:(lps.map (·.ln)).drop i=x.ln::(lps.map (·.ln)).drop (i+1):=by rw [jk0 zI,ja5 _ _ zO,←hx]
   obtain ⟨hfl,hfs⟩:=hsm x.ln (gR.2 ⟨x,hxm,rfl⟩)
   refine Z3 ?_;refine D21 ?_
   rintro v (⟨hc,rfl⟩|⟨hc,rfl⟩)
   ·refine Z6 ?_;refine jaq [Zp 0,Zp 1,Zp 2,Zp 3,Zp 5,Zp 6,Zp 7,Zp 8,Zp 9,Zr 4,Zr 10,Zp 11,Zp 12,Zp 13] zK zK (gE _) ?_;refine Zs ?_
    refine jaJ rfl zq (fun hc=>?_) (fun hc=>?_)
    ·refine Z4 ?_;refine jq6 rfl rfl (by unfold jeg;omega) ?_;refine D93 ?_;refine Z2 ?_;refine D94 ?_
     refine jcB rfl rfl (fun hc=>?_) (fun hc=>?_)
     ·refine Z9 ?_;refine D50 ?_;refine Zs ?_
      refine ⟨rfl,congrArg (Value.int .i64) ?_⟩
      first
       |(rw [jaF,if_pos zI];done)
       |(rw [jaF,if_neg zI,hlm];first
         |(rw [gP zI];rfl)
         |(rw [hdr];first
           |exact (jci zO).symm
           |exact E11
           |exact E12
           |exact E13))
     ·refine Z5 ?_
      have hnu: ¬jhF (jm1 (lps.map (·.ln)) i) x.ln.lat:=by
       rintro ⟨y,e1,e2⟩;first
        |(have hi0:i=0:=by omega
          subst hi0
          cases e1)
        |(rw [jaS zO,ja5 _ _ zO] at e1;have e3:=gF e1;omega)
      refine Z8 ?_
      refine jaI rfl zq (fun hc=>?_) (fun hc=>?_)
      ·refine Z8 ?_;refine D50 ?_;refine Zs ?_
       refine ⟨rfl,congrArg (Value.int .i64) ?_⟩
       first
        |(rw [jaF,if_pos zI];done)
        |(rw [jaF,if_neg zI,hlm];first
          |(rw [gP zI];rfl)
          |(rw [hdr];first
            |exact (jci zO).symm
            |exact E11
            |exact E12
            |exact E13))
      ·refine Z13 ?_
       refine jag (fun nn l h'=> ∃(k:Nat),nn=x.ln.figs.length-k∧(k≤x.ln.figs.length)∧(∀j,j<k→jbu (x.ln.figs.getD j [])=true)∧(∃U:Nat→Value,l=((tbV b ps ns ks pw nw cw pb nb cb)::(.slice (some ⟨rl_b,rl_o,none⟩) nl cl)::(.pointer (some ⟨q2,0,none⟩))::vw11 U 3 ((.slice (some ⟨rl_b,rl_o,none⟩) nl cl)::(.int .i64 (nl:Int))::(.int .i64 (i:Int))::vw33 U 17 ((.slice x.p x.ln.figs.length x.c)::(.int .i64 (x.ln.figs.length:Int))::(.int .i64 (k:Int))::vw16 U 53 []))))∧h++[⟨true,q2,.cells (tbL b ps ns ks pw nw cw pb nb cb).toArray 127 (0,0)⟩,⟨true,q6,.cells [.int .i64 x.ln.lat,.slice x.p x.ln.figs.length x.c].toArray 121 (0,0)⟩]=h') _ ⟨0,rfl,by omega,fun j hj=>absurd hj zO,exU rfl,rfl⟩ ?_;rintro nn l h' ⟨k,rfl,hk,hfk,⟨U,rfl⟩,rfl⟩ hnext2;refine Z2 ?_
       refine jam rfl zq (fun hc=>?_) (fun hc=>?_)
       ·refine Z7 ?_
        have rdf:=rdf0 zO
        obtain ⟨fb,fo,hfp⟩:=rdf.ptr zO
        have rdg:=rdf
        rw [hfp] at rdg
        have hsk:(x.ln.figs.getD k []).length≤100000:=hfs _ (jaj (l:=x.ln.figs) zO)
        refine Zs ?_;refine D45 ?_;refine D86 ?_;refine Z5 ?_;refine jaf (Post:=fun v=>v=_) rfl zq zK (fun H' hH=>f119_c m H' _ hsk) ?_
        rintro v rfl;refine Z4 ?_
        refine jay rfl zq (fun q9=>jao (jad ?_));refine D46 ?_;refine Z3 ?_
        cases hfo:ja2 (x.ln.figs.getD k [])
        all_goals
         refine Z2 ?_
        ·refine Z3 ?_
         by_cases hda:x.ln.figs.getD k []=[45]
         ·refine jez rfl rfl hda ?_;refine Z9 ?_;exact m.weak jab (hnext2 _ _ _ zO ⟨k+1,rfl,by omega,fun j hj=>by
           by_cases e:j<k
           ·exact hfk j e
           ·obtain rfl:j=k:=by omega
            first|(rw [jbu,hfo];rfl)|(rw [jbu,decide_eq_true (show x.ln.figs.getD j []=jdZ from hda)];simp),exU rfl,rfl⟩)
         ·refine jfY rfl rfl hda ?_;refine Z8 ?_;refine D50 ?_;refine Zs ?_;refine ⟨rfl,congrArg (Value.int .i64) ?_⟩
          first
           |(rw [jaF,if_pos zI];done)
           |(rw [jaF,if_neg zI,hlm];first
             |(rw [gP zI];rfl)
             |(rw [hdr];first
               |exact (jci zO).symm
               |exact E11
               |exact E12
               |exact E13))
        ·refine Z13 ?_
         exact m.weak jab (hnext2 _ _ _ zO ⟨k+1,rfl,by omega,fun j hj=>by
          by_cases e:j<k
          ·exact hfk j e
          ·obtain rfl:j=k:=by omega
           first|(rw [jbu,hfo];rfl)|(rw [jbu,decide_eq_true (show x.ln.figs.getD j []=jdZ from hda)];simp),exU rfl,rfl⟩)
       ·refine Z5 ?_
        have hall: ∀f∈x.ln.figs,jbu f=true:=fun f hf=>by
         obtain ⟨j,hj,e⟩:=GK.1 hf
         have:=hfk j zO
         rw [gC,gD hj] at this
         exact e▸this
        refine Z4 ?_
        exact E14
    ·refine Z15 ?_
     have hnu: ¬jhF (jm1 (lps.map (·.ln)) i) x.ln.lat:=by
      rintro ⟨y,e1,e2⟩;first
       |(have hi0:i=0:=by omega
         subst hi0
         cases e1)
       |(rw [jaS zO,ja5 _ _ zO] at e1;have e3:=gF e1;omega)
     refine Z8 ?_
     refine jaI rfl zq (fun hc=>?_) (fun hc=>?_)
     ·refine Z8 ?_;refine D50 ?_;refine Zs ?_
      refine ⟨rfl,congrArg (Value.int .i64) ?_⟩
      first
       |(rw [jaF,if_pos zI];done)
       |(rw [jaF,if_neg zI,hlm];first
         |(rw [gP zI];rfl)
         |(rw [hdr];first
           |exact (jci zO).symm
           |exact E11
           |exact E12
           |exact E13))
     ·refine Z13 ?_
      refine jag (fun nn l h'=> ∃(k:Nat),nn=x.ln.figs.length-k∧(k≤x.ln.figs.length)∧(∀j,j<k→jbu (x.ln.figs.getD j [])=true)∧(∃U:Nat→Value,l=((tbV b ps ns ks pw nw cw pb nb cb)::(.slice (some ⟨rl_b,rl_o,none⟩) nl cl)::(.pointer (some ⟨q2,0,none⟩))::vw11 U 3 ((.slice (some ⟨rl_b,rl_o,none⟩) nl cl)::(.int .i64 (nl:Int))::(.int .i64 (i:Int))::vw33 U 17 ((.slice x.p x.ln.figs.length x.c)::(.int .i64 (x.ln.figs.length:Int))::(.int .i64 (k:Int))::vw16 U 53 []))))∧h++[⟨true,q2,.cells (tbL b ps ns ks pw nw cw pb nb cb).toArray 127 (0,0)⟩,⟨true,q6,.cells [.int .i64 x.ln.lat,.slice x.p x.ln.figs.length x.c].toArray 121 (0,0)⟩]=h') _ ⟨0,rfl,by omega,fun j hj=>absurd hj zO,exU rfl,rfl⟩ ?_;rintro nn l h' ⟨k,rfl,hk,hfk,⟨U,rfl⟩,rfl⟩ hnext2;refine Z2 ?_
      refine jam rfl zq (fun hc=>?_) (fun hc=>?_)
      ·refine Z7 ?_
       have rdf:=rdf0 zO
       obtain ⟨fb,fo,hfp⟩:=rdf.ptr zO
       have rdg:=rdf
       rw [hfp] at rdg
       have hsk:(x.ln.figs.getD k []).length≤100000:=hfs _ (jaj (l:=x.ln.figs) zO)
       refine Zs ?_;refine D45 ?_;refine D86 ?_;refine Z5 ?_;refine jaf (Post:=fun v=>v=_) rfl zq zK (fun H' hH=>f119_c m H' _ hsk) ?_
       rintro v rfl;refine Z4 ?_
       refine jay rfl zq (fun q9=>jao (jad ?_));refine D46 ?_;refine Z3 ?_
       cases hfo:ja2 (x.ln.figs.getD k [])
       all_goals
        refine Z2 ?_
       ·refine Z3 ?_
        by_cases hda:x.ln.figs.getD k []=[45]
        ·refine jez rfl rfl hda ?_;refine Z9 ?_;exact m.weak jab (hnext2 _ _ _ zO ⟨k+1,rfl,by omega,fun j hj=>by
          by_cases e:j<k
          ·exact hfk j e
          ·obtain rfl:j=k:=by omega
           first|(rw [jbu,hfo];rfl)|(rw [jbu,decide_eq_true (show x.ln.figs.getD j []=jdZ from hda)];simp),exU rfl,rfl⟩)
        ·refine jfY rfl rfl hda ?_;refine Z8 ?_;refine D50 ?_;refine Zs ?_;refine ⟨rfl,congrArg (Value.int .i64) ?_⟩
         first
          |(rw [jaF,if_pos zI];done)
          |(rw [jaF,if_neg zI,hlm];first
            |(rw [gP zI];rfl)
            |(rw [hdr];first
              |exact (jci zO).symm
              |exact E11
              |exact E12
              |exact E13))
       ·refine Z13 ?_
        exact m.weak jab (hnext2 _ _ _ zO ⟨k+1,rfl,by omega,fun j hj=>by
         by_cases e:j<k
         ·exact hfk j e
         ·obtain rfl:j=k:=by omega
          first|(rw [jbu,hfo];rfl)|(rw [jbu,decide_eq_true (show x.ln.figs.getD j []=jdZ from hda)];simp),exU rfl,rfl⟩)
      ·refine Z5 ?_
       have hall: ∀f∈x.ln.figs,jbu f=true:=fun f hf=>by
        obtain ⟨j,hj,e⟩:=GK.1 hf
        have:=hfk j zO
        rw [gC,gD hj] at this
        exact e▸this
       refine Z4 ?_
       exact E14
   ·refine Z10 ?_;refine D50 ?_;refine Zs ?_
    refine ⟨rfl,congrArg (Value.int .i64) ?_⟩
    first
     |(rw [jaF,if_pos zI];done)
     |(rw [jaF,if_neg zI,hlm];first
       |(rw [gP zI];rfl)
       |(rw [hdr];first
         |exact (jci zO).symm
         |exact E11
         |exact E12
         |exact E13))
  ·refine Z9 ?_;refine D50 ?_;refine Zs ?_
   refine ⟨rfl,congrArg (Value.int .i64) ?_⟩
   first
    |(rw [jaF,if_pos zI];done)
    |(rw [jaF,if_neg zI,hlm];first
      |(rw [gP zI];rfl)
      |(rw [hdr];first
        |exact (jci zO).symm
        |exact E11
        |exact E12
        |exact E13))
end
end Go.Proofs
