/- A part of the proof of a law. Condition of each theorem: as its statement says. -/
import Derived.Test.YtggpepeiedkbbaaGreatDoorVG5
set_option linter.all false
variable {A:Prop} {B:Array Go.Obj} {xs ys ln:List Int} {p p2:Option Go.Addr} {n i j bk a1 b1 mm:Nat} {t ty u:Go.TypeId} {k k':Go.IntKind} {cs junk l l':List Go.Value} {h S h' H X F:Go.Lo.Hp} {a b z:Int} {P:Go.Program} {ops:Array Go.Oper} {C:List Go.Value→Go.Lo.Hp→Prop} {kd:Go.Lo.Kd} {r:List (Nat×Go.Lo.Kd)} {d:Option Go.Tmp} {pos:String} {af:Array Go.Edge} {g:Option (Nat×Bool)} {y:Go.Operand} {ds:List Go.Deferred} {K:Go.Goroutine→Go.Lo.Hp→Prop}
set_option maxHeartbeats 4000000
set_option maxRecDepth 100000
set_option synthInstance.maxHeartbeats 1000000
set_option synthInstance.maxSize 100000
namespace Go.Lo
open Go.Conc (G)
structure Wr (B:Prop):Prop where
  g:B
section
variable {A B:Prop}
theorem Zs (b:B) (h:Wr B→A:=by intro zx;(first|refine jae ?_|refine mq rfl ?_|refine k_nil ?_|refine jcX ?_|refine k_as rfl zq ?_|refine k_off rfl rfl ?_|refine k_mv rfl rfl ?_|refine run_no ?_|refine run_skip ?_|refine run_ret rfl ?_|refine run_yes ?_|refine rr2 ?_|(first|refine k_fa0 rfl zq ?_|refine k_fa rfl zq ?_)|refine rr1 ?_|refine k_ldA rfl zq ?_|refine rr3 ?_|refine k_ldh rfl zq ?_|refine jsQ ?_|refine jtI rfl zq ?_|refine jrz rfl zq (by unfold jfx;omega) ?_|refine jtH rfl zq ?_|refine joD ?_|refine rr4 ?_|refine k_len rfl zq ?_|refine k_ext0 rfl zq ?_|refine k_ext1 rfl zq ?_|refine run_exit rfl ?_|refine i_seq ?_|refine k_nilC rfl zq ?_|refine jr0 rfl zq ?_|refine jnO ?_|refine rr5 ?_|refine i_region rfl ?_|(first|refine k_fa0 rfl rfl ?_|refine k_fa rfl rfl ?_)|refine rr7 ?_|refine rr8 ?_|refine k_sub rfl zq (by unfold jfx;omega) ?_|refine rr6 ?_|refine i_off rfl rfl ?_|refine k_notT rfl zq ?_|refine k_notF rfl zq ?_|refine k_ldh rfl rfl ?_|refine rr10 ?_|refine rr9 ?_|refine i_as rfl zq ?_|refine jtI rfl rfl ?_|refine k_ixa rfl zq zO zO ?_|refine k_ldA rfl rfl ?_|refine i_else ?_|refine i_skip ?_|refine k_ixa rfl rfl zO zO ?_|refine jtH rfl rfl ?_|refine k_notT rfl rfl ?_|refine jnC rfl zq jgR ?_|refine k_len rfl rfl ?_|refine jrB rfl zq ?_|(first|refine i_fa0 rfl zq ?_|refine i_fa rfl zq ?_)|refine rr11 ?_|refine i_pickF rfl zq ?_|refine k_nilC rfl rfl ?_|refine i_if ?_|refine i_ret rfl ?_|refine hK _ _ ?_);exact zx.g):A:=h ⟨b⟩
theorem Z2 (b:B) (h:Wr B→A:=by intro zx;(iterate 2 (refine Zs ?_));exact zx.g):A:=h ⟨b⟩
theorem Z3 (b:B) (h:Wr B→A:=by intro zx;(iterate 3 (refine Zs ?_));exact zx.g):A:=h ⟨b⟩
theorem Z4 (b:B) (h:Wr B→A:=by intro zx;(iterate 4 (refine Zs ?_));exact zx.g):A:=h ⟨b⟩
theorem Z5 (b:B) (h:Wr B→A:=by intro zx;(iterate 5 (refine Zs ?_));exact zx.g):A:=h ⟨b⟩
theorem Z6 (b:B) (h:Wr B→A:=by intro zx;(iterate 6 (refine Zs ?_));exact zx.g):A:=h ⟨b⟩
theorem Z7 (b:B) (h:Wr B→A:=by intro zx;(iterate 7 (refine Zs ?_));exact zx.g):A:=h ⟨b⟩
theorem Z8 (b:B) (h:Wr B→A:=by intro zx;(iterate 8 (refine Zs ?_));exact zx.g):A:=h ⟨b⟩
theorem Z9 (b:B) (h:Wr B→A:=by intro zx;(iterate 9 (refine Zs ?_));exact zx.g):A:=h ⟨b⟩
theorem Z10 (b:B) (h:Wr B→A:=by intro zx;(iterate 10 (refine Zs ?_));exact zx.g):A:=h ⟨b⟩
theorem Z11 (b:B) (h:Wr B→A:=by intro zx;(iterate 11 (refine Zs ?_));exact zx.g):A:=h ⟨b⟩
theorem Z12 (b:B) (h:Wr B→A:=by intro zx;(iterate 12 (refine Zs ?_));exact zx.g):A:=h ⟨b⟩
theorem Z13 (b:B) (h:Wr B→A:=by intro zx;(iterate 13 (refine Zs ?_));exact zx.g):A:=h ⟨b⟩
theorem Z14 (b:B) (h:Wr B→A:=by intro zx;(iterate 14 (refine Zs ?_));exact zx.g):A:=h ⟨b⟩
theorem Z15 (b:B) (h:Wr B→A:=by intro zx;(iterate 15 (refine Zs ?_));exact zx.g):A:=h ⟨b⟩
theorem Z16 (b:B) (h:Wr B→A:=by intro zx;(iterate 16 (refine Zs ?_));exact zx.g):A:=h ⟨b⟩
theorem Z17 (b:B) (h:Wr B→A:=by intro zx;(iterate 17 (refine Zs ?_));exact zx.g):A:=h ⟨b⟩
theorem Z18 (b:B) (h:Wr B→A:=by intro zx;(iterate 18 (refine Zs ?_));exact zx.g):A:=h ⟨b⟩
theorem Z19 (b:B) (h:Wr B→A:=by intro zx;(iterate 19 (refine Zs ?_));exact zx.g):A:=h ⟨b⟩
theorem Z20 (b:B) (h:Wr B→A:=by intro zx;(iterate 20 (refine Zs ?_));exact zx.g):A:=h ⟨b⟩
theorem Z21 (b:B) (h:Wr B→A:=by intro zx;(iterate 21 (refine Zs ?_));exact zx.g):A:=h ⟨b⟩
theorem Z22 (b:B) (h:Wr B→A:=by intro zx;(iterate 22 (refine Zs ?_));exact zx.g):A:=h ⟨b⟩
theorem Z23 (b:B) (h:Wr B→A:=by intro zx;(iterate 23 (refine Zs ?_));exact zx.g):A:=h ⟨b⟩
theorem Z24 (b:B) (h:Wr B→A:=by intro zx;(iterate 24 (refine Zs ?_));exact zx.g):A:=h ⟨b⟩
theorem Z25 (b:B) (h:Wr B→A:=by intro zx;(iterate 25 (refine Zs ?_));exact zx.g):A:=h ⟨b⟩
theorem D0 (b:B) (h:Wr B→A:=by intro zx;refine jcq rfl zq (by first|rfl|assumption) zO zO ?_;exact zx.g):A:=h ⟨b⟩
theorem D1 (b:B) (h:Wr B→A:=by intro zx;refine jar [Zp 0,Zp 1,Zp 2,Zp 3,Zp 4,Zp 5,Zp 6,Zp 8,Zp 9,Zp 10,Zr 7,Zr 11,Zp 12,Zf 13,Zp 14,Zf 15] zK zK (List.Sublist.refl _) ?_;exact zx.g):A:=h ⟨b⟩
theorem D2 (b:B) (h:Wr B→A:=by intro zx;refine jaD rfl zq zK (Post:=fun v nz=>jic B b (tbL b ps ns ks pw nw cw pb nb cb) (jaJ b (jfJ b st x)) nz v) (fun H' hH=>f88_c m H' (ra.keeps (sq hH)) callB145 (fun hk K q hKs hs=>by simpa [jfJ,hsl] using f145_c m K hs hsl hns ((rd_has (q:=qs)).keeps (hH.trans hKs)) ((rd_has (q:=qa)).keeps (hH.trans hKs)))) ?_;exact zx.g):A:=h ⟨b⟩
theorem D3 (b:B) (h:Wr B→A:=by intro zx;refine jaD rfl zq zK (Post:=fun w new=>OwnS 3 1 w (jdJ (jal (x.ln.figs.getD j []))).length (jaI (jdJ (jal (x.ln.figs.getD j [])))) new) (fun H' hH=>f120_c m H' (jbi _)) ?_;exact zx.g):A:=h ⟨b⟩
theorem D4 (b:B) (h:Wr B→A:=by intro zx;refine jaD rfl zq zK (Post:=fun v nz=> ∃q q',nz=[⟨true,q,.cells [.int .i64 st].toArray 3 (0,0)⟩,⟨true,q',.cells [.int .i64 x].toArray 3 (0,0)⟩]∧v= .func (.func 145) #[] [.pointer (some ⟨q,0,none⟩),.pointer (some ⟨q',0,none⟩)].toArray) (fun H' hH=>f89_c m H' st x) ?_;exact zx.g):A:=h ⟨b⟩
theorem D5 (b:B) (h:Wr B→A:=by intro zx;refine jaD rfl zq zK (Post:=fun v nz=>jic B b (tbL b ps ns ks pw nw cw pb nb cb) (jaJ b (jdv b c)) nz v) (fun H' hH=>f88_c m H' (ra.keeps (sq hH)) jmr (fun hk K q hKs hs=>by simpa [jdv] using f149_c m K hs (c:=c) (RdN.keepsN (jlM (q:=qs)) (hH.trans hKs)))) ?_;exact zx.g):A:=h ⟨b⟩
theorem D6 (b:B) (h:Wr B→A:=by intro zx;refine jnB rfl zq rfl ?_;exact zx.g):A:=h ⟨b⟩
theorem D7 (b:B) (h:Wr B→A:=by intro zx;refine jaD rfl zq zK (Post:=fun v nz=> ∃q,nz=[⟨true,q,.cells (ceL c).toArray 37 (0,0)⟩]∧v= .func (.func 149) #[] [.pointer (some ⟨q,0,none⟩)].toArray) (fun H' hH=>f97_c m H' c) ?_;exact zx.g):A:=h ⟨b⟩
theorem D8 (b:B) (h:Wr B→A:=by intro zx;refine jcq rfl rfl (by first|rfl|assumption) zO zO ?_;exact zx.g):A:=h ⟨b⟩
theorem D9 (b:B) (h:Wr B→A:=by intro zx;refine k_st1 rfl zq ?_;exact zx.g):A:=h ⟨b⟩
theorem D10 (b:B) (h:Wr B→A:=by intro zx;refine jad (((h0++[⟨true,qy,.cells [yv].toArray 220 (0,0)⟩,⟨true,qn,.cells [.func (.func 180) #[] [.pointer (some ⟨qx,0,none⟩),.pointer (some ⟨qy,0,none⟩),.pointer (some ⟨qm,0,none⟩),.pointer (some ⟨qn,0,none⟩),.pointer (some ⟨qc,0,none⟩)].toArray].toArray 221 (0,0)⟩])++X)++R2) rfl Tryz.func180 rfl jab ?_;exact zx.g):A:=h ⟨b⟩
theorem D11 (b:B) (h:Wr B→A:=by intro zx;refine jar [Zp 0,Zp 1,Zp 2,Zp 3,Zp 4,Zp 5,Zp 6,Zp 7,Zp 8,Zp 10,Zp 11,Zp 12,Zr 9,Zr 13,Zp 14,Zf 15,Zp 16,Zf 17] zK zK (List.Sublist.refl _) ?_;exact zx.g):A:=h ⟨b⟩
theorem D12 (b:B) (h:Wr B→A:=by intro zx;refine jcq rfl zq rfl zO zO ?_;exact zx.g):A:=h ⟨b⟩
theorem D13 (b:B) (h:Wr B→A:=by intro zx;refine jar [Zp 0,Zp 1,Zp 2,Zp 3,Zp 4,Zp 6,Zp 7,Zp 8,Zp 9,Zp 10,Zr 5,Zr 11,Zp 12,Zp 13,Zp 14,Zp 15,Zp 16,Zp 17,Zp 18,Zp 19,Zp 20,Zp 21,Zp 22,Zp 23,Zp 25,Zp 26,Zp 27,Zp 28,Zp 29,Zr 24,Zr 30,Zp 31,Zp 32,Zp 33,Zp 34,Zp 35,Zp 36,Zp 37,Zp 38] zK zK (List.Sublist.refl _) ?_;exact zx.g):A:=h ⟨b⟩
theorem D14 (b:B) (h:Wr B→A:=by intro zx;refine jad (h) rfl Tryz.func176 rfl jab ?_;exact zx.g):A:=h ⟨b⟩
theorem D15 (b:B) (h:Wr B→A:=by intro zx;refine jag (Post:=fun v=>IsB _ v) rfl rfl zK (fun H' hH=>f187_c m H' _ _) ?_;exact zx.g):A:=h ⟨b⟩
theorem D16 (b:B) (h:Wr B→A:=by intro zx;refine jaW (v:= .slice (lps.getD i default).p (lps.getD i default).ln.figs.length (lps.getD i default).c) rfl zq (rl.fat i 1 zO zO rfl) ?_;exact zx.g):A:=h ⟨b⟩
theorem D17 (b:B) (h:Wr B→A:=by intro zx;refine jfq (w:=[0,0,0]) rfl zq rfl zN ?_;exact zx.g):A:=h ⟨b⟩
theorem D18 (b:B) (h:Wr B→A:=by intro zx;refine jaD rfl zq zK (Post:=fun v nz=> ∃q,v= .pointer (some ⟨q,0,none⟩)∧Sheet B nz b q (tbL b ps ns ks pw nw cw pb nb cb)) (fun H' hH=>f95_r m H' (ra.keeps (sq hH)) hk) ?_;exact zx.g):A:=h ⟨b⟩
theorem D19 (b:B) (h:Wr B→A:=by intro zx;refine ja5 rfl rfl zA ?_;exact zx.g):A:=h ⟨b⟩
theorem D20 (b:B) (h:Wr B→A:=by intro zx;refine jad (h) rfl Tryz.func119 rfl jab ?_;exact zx.g):A:=h ⟨b⟩
theorem D21 (b:B) (h:Wr B→A:=by intro zx;refine jar [Zp 0,Zp 1,Zp 2,Zp 3,Zp 4,Zp 5,Zp 6,Zp 7,Zp 8,Zp 9,Zp 10,Zp 11,Zp 12,Zp 14,Zp 15,Zp 16,Zp 17,Zp 18,Zr 13,Zr 19,Zp 20,Zf 21,Zp 22,Zf 23] zK zK (List.Sublist.refl _) ?_;exact zx.g):A:=h ⟨b⟩
theorem D22 (b:B) (h:Wr B→A:=by intro zx;refine jc6 (v:= .bool false) rfl zq zA (jtj zA) ?_;exact zx.g):A:=h ⟨b⟩
theorem D23 (b:B) (h:Wr B→A:=by intro zx;refine k_mul rfl zq (by unfold jfx;omega) ?_;exact zx.g):A:=h ⟨b⟩
theorem D24 (b:B) (h:Wr B→A:=by intro zx;refine jad (((h0++[⟨true,qy,.cells [yv].toArray 220 (0,0)⟩,⟨true,qn,.cells [.func (.func 180) #[] [.pointer (some ⟨qx,0,none⟩),.pointer (some ⟨qy,0,none⟩),.pointer (some ⟨qm,0,none⟩),.pointer (some ⟨qn,0,none⟩),.pointer (some ⟨qc,0,none⟩)].toArray].toArray 221 (0,0)⟩])++X)++R1) rfl Tryz.func180 rfl jab ?_;exact zx.g):A:=h ⟨b⟩
theorem D25 (b:B) (h:Wr B→A:=by intro zx;refine jad (((h0++[⟨true,qy,.cells [yv].toArray 220 (0,0)⟩,⟨true,qn,.cells [.func (.func 180) #[] [.pointer (some ⟨qx,0,none⟩),.pointer (some ⟨qy,0,none⟩),.pointer (some ⟨qm,0,none⟩),.pointer (some ⟨qn,0,none⟩),.pointer (some ⟨qc,0,none⟩)].toArray].toArray 221 (0,0)⟩])++X)++R) rfl Tryz.func180 rfl jab ?_;exact zx.g):A:=h ⟨b⟩
theorem D26 (b:B) (h:Wr B→A:=by intro zx;refine jag (Post:=fun v=>IsB _ v) rfl zq zK (fun H' hH=>f117_c _ H' _ _ _) ?_;exact zx.g):A:=h ⟨b⟩
theorem D27 (b:B) (h:Wr B→A:=by intro zx;refine jag (Post:=fun v=>IsB _ v) rfl zq zK (fun H' hH=>f117_c m H' _ _ _) ?_;exact zx.g):A:=h ⟨b⟩
theorem D28 (b:B) (h:Wr B→A:=by intro zx;refine jaW rfl rfl ((sh.latI (i:=k) zO).keeps SubH.sub) ?_;exact zx.g):A:=h ⟨b⟩
theorem D29 (b:B) (h:Wr B→A:=by intro zx;refine jad (h) rfl Tryz.func166 rfl jab ?_;exact zx.g):A:=h ⟨b⟩
theorem D30 (b:B) (h:Wr B→A:=by intro zx;refine m.weak (h':=h++[⟨true,q2,.cells (tbL b ps ns ks pw nw cw pb nb cb).toArray 25 (0,0)⟩,⟨true,q3,.cells (ceL c).toArray 37 (0,0)⟩]++[⟨true,qs,.cells (ceL c).toArray 37 (0,0)⟩]++n8++[⟨true,q6,.cells [.pointer (some ⟨q9,0,none⟩),.slice p8 (jac b).length c8].toArray 112 (0,0)⟩]) jf2 ?_;exact zx.g):A:=h ⟨b⟩
theorem D31 (b:B) (h:Wr B→A:=by intro zx;refine jiq (c:=(ja4 s).getD i 0) rfl zq jgR zO (jnS zO) ?_;exact zx.g):A:=h ⟨b⟩
theorem D32 (b:B) (h:Wr B→A:=by intro zx;refine jar [Zp 0,Zp 1,Zp 2,Zp 3,Zp 4,Zp 5,Zp 6,Zp 7,Zp 8,Zp 9,Zp 10,Zp 12,Zp 13,Zp 14,Zr 11,Zr 15,Zp 16,Zf 17,Zp 18,Zf 19] zK zK (List.Sublist.refl _) ?_;exact zx.g):A:=h ⟨b⟩
theorem D33 (b:B) (h:Wr B→A:=by intro zx;refine jbg (n':=(ru:Int)) rfl zq zK (jew (by unfold jfx;omega)) ?_;exact zx.g):A:=h ⟨b⟩
theorem D34 (b:B) (h:Wr B→A:=by intro zx;refine jaD rfl zq zK (Post:=fun v nw=>OwnS 136 13 v (jac b).length (jaC (jac b)) nw) (fun H' hH=>f96_c m H' (sh.keeps (List.Sublist.trans zW hH)) hk) ?_;exact zx.g):A:=h ⟨b⟩
theorem D35 (b:B) (h:Wr B→A:=by intro zx;refine DrawT.leaf [Zp 0,Zp 2,Zp 4,Zp 9,Zp 11,Zr 1,Zr 3,Zp 5,Zp 6,Zr 7,Zr 10,Zp 12,Zp 13,Zr 14,Zk 8,Zk 15,Zp 16,Zk 17,Zk 18,Zp 19,Zf 20] zK ?_;exact zx.g):A:=h ⟨b⟩
theorem D36 (b:B) (h:Wr B→A:=by intro zx;refine jar [Zp 0,Zp 1,Zp 2,Zp 4,Zp 7,Zp 8,Zp 9,Zp 11,Zr 3,Zp 5,Zr 6,Zr 10,Zp 12,Zr 13,Za 14,Za 15,Zk 16,Zf 17] zK zK (List.Sublist.refl _) ?_;exact zx.g):A:=h ⟨b⟩
theorem D37 (b:B) (h:Wr B→A:=by intro zx;refine jnL rfl zq ?_;exact zx.g):A:=h ⟨b⟩
theorem D38 (b:B) (h:Wr B→A:=by intro zx;refine jar [Zp 0,Zp 1,Zp 3,Zp 4,Zr 2,Zr 5,Zp 6,Zp 7,Zp 8,Zf 9] zK zK (List.Sublist.refl _) ?_;exact zx.g):A:=h ⟨b⟩
theorem D39 (b:B) (h:Wr B→A:=by intro zx;refine jaW rfl rfl ((sh.latI (i:=i) zO).keeps SubH.sub) ?_;exact zx.g):A:=h ⟨b⟩
theorem D40 (b:B) (h:Wr B→A:=by intro zx;refine jdR rfl zq (jbi _).len ?_;exact zx.g):A:=h ⟨b⟩
theorem D41 (b:B) (h:Wr B→A:=by intro zx;refine jaK [Zf 0,Zf 1,Zf 2,Zf 3,Zf 4,Zf 5,Zf 6,Zf 7,Zf 8,Zf 9,Zf 10,Zf 11,Zf 12,Zf 13,Zf 14,Zf 15] zK zK ?_;exact zx.g):A:=h ⟨b⟩
theorem D42 (b:B) (h:Wr B→A:=by intro zx;refine jar [Zp 0,Zp 1,Zp 2,Zp 3,Zp 4,Zp 6,Zp 7,Zp 8,Zp 9,Zp 10,Zr 5,Zr 11,Zk 12,Zp 13] zK zK (List.Sublist.refl _) ?_;exact zx.g):A:=h ⟨b⟩
theorem D43 (b:B) (h:Wr B→A:=by intro zx;refine jag (Post:=fun v=>IsB _ v) rfl zq zK (fun H' hH=>f187_c m H' _ _) ?_;exact zx.g):A:=h ⟨b⟩
theorem D44 (b:B) (h:Wr B→A:=by intro zx;refine jag (Post:=fun v=>IsB _ v) rfl zq zK (fun H' hH=>f172_c m H' _) ?_;exact zx.g):A:=h ⟨b⟩
theorem D45 (b:B) (h:Wr B→A:=by intro zx;refine jar [Zp 0,Zp 1,Zp 3,Zp 4,Zr 2,Zr 5,Zp 6] zK zK (List.Sublist.refl _) ?_;exact zx.g):A:=h ⟨b⟩
theorem D46 (b:B) (h:Wr B→A:=by intro zx;refine jaW (v:= .slice (lps.getD i default).p (lps.getD i default).ln.figs.length (lps.getD i default).c) rfl zq (rl2.fat i 1 zO zO rfl) ?_;exact zx.g):A:=h ⟨b⟩
theorem D47 (b:B) (h:Wr B→A:=by intro zx;refine jbg (n':=(((ja4 s).getD i 0).toNat:Int)) rfl zq zK (jew (by unfold jfx;omega)) ?_;exact zx.g):A:=h ⟨b⟩
theorem D48 (b:B) (h:Wr B→A:=by intro zx;refine jar [Zp 0,Zp 1,Zp 3,Zp 8,Zp 10,Zr 2,Zr 4,Zp 5,Zp 6,Zr 7,Zr 9,Zp 11,Zf 12] zK zK (List.Sublist.refl _) ?_;exact zx.g):A:=h ⟨b⟩
theorem D49 (b:B) (h:Wr B→A:=by intro zx;refine k_bldZ rfl zq ?_;exact zx.g):A:=h ⟨b⟩
theorem D50 (b:B) (h:Wr B→A:=by intro zx;refine jc5 (vs:=[.bool (jcI b ((jaa b).getD i default)).butt,.int .i64 ((jaa b).getD i default).line,.int .i64 (jcI b ((jaa b).getD i default)).st]) rfl zq rfl ((hpc▸hcr).eat i zO zO) ?_;exact zx.g):A:=h ⟨b⟩
theorem D51 (b:B) (h:Wr B→A:=by intro zx;refine jc5 (vs:=[.bool (jcI b ((jaa b).getD k default)).butt,.int .i64 ((jaa b).getD k default).line,.int .i64 (jcI b ((jaa b).getD k default)).st]) rfl zq rfl ((hpc▸hcr).eat k zO zO) ?_;exact zx.g):A:=h ⟨b⟩
theorem D52 (b:B) (h:Wr B→A:=by intro zx;refine jag (Post:=fun v=>v= .tuple [.agg (jaI (jqH b c f)).toArray,.agg (jaI (jrn b c f)).toArray,.int .i64 (jhA b c f)].toArray) rfl zq zK (fun H' hH=>f109_c m H' (ra.keeps (sq hH)) c f hf) ?_;exact zx.g):A:=h ⟨b⟩
theorem D53 (b:B) (h:Wr B→A:=by intro zx;refine jag (Post:=fun v=>v=_) rfl zq zK (fun H' hH=>f65_r m H' (ra.keeps (sq hH))) ?_;exact zx.g):A:=h ⟨b⟩
theorem D54 (b:B) (h:Wr B→A:=by intro zx;refine jcq rfl zq hfp zO zO ?_;exact zx.g):A:=h ⟨b⟩
theorem D55 (b:B) (h:Wr B→A:=by intro zx;refine jfq rfl zq (jbi _).len (by rw [(jbi _).len];rfl) ?_;exact zx.g):A:=h ⟨b⟩
theorem D56 (b:B) (h:Wr B→A:=by intro zx;refine jaD (Post:=fun v nz=> ∃q,v= .pointer (some ⟨q,0,none⟩)∧Sheet B nz b q (tbL b ps ns ks pw nw cw pb nb cb)) rfl zq zK (fun H' hH=>f95_r _ H' (ra.keeps (sq hH)) hk) ?_;exact zx.g):A:=h ⟨b⟩
theorem D57 (b:B) (h:Wr B→A:=by intro zx;refine jaK [Zf 0,Zf 1,Zf 2,Zf 3,Zf 4,Zf 5,Zf 6,Zf 7,Zf 8,Zf 9,Zf 10,Zf 11] zK zK ?_;exact zx.g):A:=h ⟨b⟩
theorem D58 (b:B) (h:Wr B→A:=by intro zx;refine jc5 (vs:=[.int .i64 (lps.getD k default).ln.lat,.slice (lps.getD k default).p (lps.getD k default).ln.figs.length (lps.getD k default).c]) rfl zq rfl (rl.eat k zO zO) ?_;exact zx.g):A:=h ⟨b⟩
theorem D59 (b:B) (h:Wr B→A:=by intro zx;refine jad (h) rfl Tryz.func170 rfl jab ?_;exact zx.g):A:=h ⟨b⟩
theorem D60 (b:B) (h:Wr B→A:=by intro zx;refine jad (h) rfl Tryz.func125 rfl jab ?_;exact zx.g):A:=h ⟨b⟩
theorem D61 (b:B) (h:Wr B→A:=by intro zx;refine jag (Post:=fun v=>IsB _ v) rfl zq zK (fun H' hH=>f57_c m H' _ _ _) ?_;exact zx.g):A:=h ⟨b⟩
theorem D62 (b:B) (h:Wr B→A:=by intro zx;refine jar [Zp 0,Zp 1,Zp 2,Zp 4,Zp 5,Zp 6,Zp 7,Zr 3,Zr 8,Zp 9] zK zK (List.Sublist.refl _) ?_;exact zx.g):A:=h ⟨b⟩
theorem D63 (b:B) (h:Wr B→A:=by intro zx;refine jar [Zp 0,Zp 1,Zp 2,Zp 3,Zp 6,Zr 4,Zp 5,Zr 7,Zp 8,Zp 9] zK zK (List.Sublist.refl _) ?_;exact zx.g):A:=h ⟨b⟩
theorem D64 (b:B) (h:Wr B→A:=by intro zx;refine jar [Zp 0,Zp 1,Zp 3,Zp 4,Zr 2,Zr 5,Zk 6,Zp 7,Zp 8,Zf 9] zK zK (List.Sublist.refl _) ?_;exact zx.g):A:=h ⟨b⟩
theorem D65 (b:B) (h:Wr B→A:=by intro zx;refine jcq rfl zq hrp zO zO ?_;exact zx.g):A:=h ⟨b⟩
theorem D66 (b:B) (h:Wr B→A:=by intro zx;refine jaW rfl zq (hcv.keeps SubH.sub) ?_;exact zx.g):A:=h ⟨b⟩
theorem D67 (b:B) (h:Wr B→A:=by intro zx;refine k_mul rfl zq (by rcases sgn_or s with e|e<;>rw [e]<;>unfold jfx<;>omega) ?_;exact zx.g):A:=h ⟨b⟩
theorem D68 (b:B) (h:Wr B→A:=by intro zx;refine jaf Tryz.func176 rfl rfl (l:=(.pointer (some ⟨q,0,none⟩))::(.int .i64 (i:Int))::(.int .i64 (k:Int))::(.int .i64 mi)::(.int .i64 mk)::uu119) rfl ?_;exact zx.g):A:=h ⟨b⟩
theorem D69 (b:B) (h:Wr B→A:=by intro zx;refine jaW (v:= .slice ((lw++lb).getD k default).p ((lw++lb).getD k default).ln.figs.length ((lw++lb).getD k default).c) rfl zq (r64.fat k 1 zO zO rfl) ?_;exact zx.g):A:=h ⟨b⟩
theorem D70 (b:B) (h:Wr B→A:=by intro zx;refine jaW rfl rfl (jaQ (a) zO zO) ?_;exact zx.g):A:=h ⟨b⟩
theorem D71 (b:B) (h:Wr B→A:=by intro zx;refine jaD rfl zq zK (Post:=fun v nw=> ∃ps pw pb,v=tbV exT ps 2 2 pw 2 2 pb 1 1∧RawTb B nw exT ps 2 2 pw 2 2 pb 1 1) (fun H' hH=>f87_c _ H') ?_;exact zx.g):A:=h ⟨b⟩
theorem D72 (b:B) (h:Wr B→A:=by intro zx;refine jaW rfl zq (jaQ (a) zO zO) ?_;exact zx.g):A:=h ⟨b⟩
theorem D73 (b:B) (h:Wr B→A:=by intro zx;refine DrawT.leaf [Zp 1,Zp 2,Zr 0,Zk 3,Zk 4,Zp 5,Zp 6,Zp 7,Za 8,Zf 9,Zp 10] zK ?_;exact zx.g):A:=h ⟨b⟩
theorem D74 (b:B) (h:Wr B→A:=by intro zx;refine DrawT.leaf [Zp 1,Zp 2,Zr 0,Zk 3,Za 8,Zk 4,Zp 5,Zp 6,Zp 7,Zf 9,Zp 10] zK ?_;exact zx.g):A:=h ⟨b⟩
theorem D75 (b:B) (h:Wr B→A:=by intro zx;refine DrawT.leaf [Zp 1,Zp 2,Zr 0,Za 8,Zk 3,Zk 4,Zp 5,Zp 6,Zp 7,Zf 9,Zp 10] zK ?_;exact zx.g):A:=h ⟨b⟩
theorem D76 (b:B) (h:Wr B→A:=by intro zx;refine jaW rfl zq ((sh.latI (i:=i) zO).keeps SubH.sub) ?_;exact zx.g):A:=h ⟨b⟩
theorem D77 (b:B) (h:Wr B→A:=by intro zx;refine jad (h) rfl Tryz.func66 rfl jab ?_;exact zx.g):A:=h ⟨b⟩
theorem D78 (b:B) (h:Wr B→A:=by intro zx;refine jcq rfl zq hzp zO zO ?_;exact zx.g):A:=h ⟨b⟩
theorem D79 (b:B) (h:Wr B→A:=by intro zx;refine jag (Post:=fun v=>v= .int .u64 ((jcf x|||2^x.length:Nat):Int)) rfl zq zK (fun H' hH=>f135_c m H' (jcf x) x.length hbs hx12) ?_;exact zx.g):A:=h ⟨b⟩
theorem D80 (b:B) (h:Wr B→A:=by intro zx;refine jaD rfl zq zK (Post:=fun v nz=>OwnS 9 1 v x.ln.figs.length (jaC x.ln.figs) nz) (fun H' hH=>f162_c m H' (rdf.keeps (sq hH)) zO) ?_;exact zx.g):A:=h ⟨b⟩
theorem D81 (b:B) (h:Wr B→A:=by intro zx;refine jdx rfl Tryz.func153 (jds rfl) ?_;exact zx.g):A:=h ⟨b⟩
theorem D82 (b:B) (h:Wr B→A:=by intro zx;refine jtN rfl rfl k zO zO ?_;exact zx.g):A:=h ⟨b⟩
theorem D83 (b:B) (h:Wr B→A:=by intro zx;refine jc5 (vs:=boL ((jac b).getD j [])) rfl zq (ja2 _) (rdB'.eat j zO zO) ?_;exact zx.g):A:=h ⟨b⟩
theorem D84 (b:B) (h:Wr B→A:=by intro zx;refine DrawT.leaf [Zr 0,Zr 1,Zk 2,Zk 3,Zp 4,Zp 5,Zp 6,Za 7,Zf 8,Zp 9] zK ?_;exact zx.g):A:=h ⟨b⟩
theorem D85 (b:B) (h:Wr B→A:=by intro zx;refine DrawT.leaf [Zr 0,Zr 1,Zk 2,Za 7,Zk 3,Zp 4,Zp 5,Zp 6,Zf 8,Zp 9] zK ?_;exact zx.g):A:=h ⟨b⟩
theorem D86 (b:B) (h:Wr B→A:=by intro zx;refine DrawT.leaf [Zr 0,Zr 1,Za 7,Zk 2,Zk 3,Zp 4,Zp 5,Zp 6,Zf 8,Zp 9] zK ?_;exact zx.g):A:=h ⟨b⟩
theorem D87 (b:B) (h:Wr B→A:=by intro zx;refine i_pickT rfl zq ?_;exact zx.g):A:=h ⟨b⟩
theorem D88 (b:B) (h:Wr B→A:=by intro zx;refine jaW rfl zq (jaQ (j-1) zO zO) ?_;exact zx.g):A:=h ⟨b⟩
theorem D89 (b:B) (h:Wr B→A:=by intro zx;refine jgt (Post:=fun v=>v= .pointer (some ⟨q1,2+i,none⟩)) rfl zq (jjQ i zO) (fun H' hH=>jt3 m H' q1 i zO) ?_;exact zx.g):A:=h ⟨b⟩
theorem D90 (b:B) (h:Wr B→A:=by intro zx;refine jc6 (v:= .bool false) rfl rfl zA (jnt zA) ?_;exact zx.g):A:=h ⟨b⟩
theorem D91 (b:B) (h:Wr B→A:=by intro zx;refine jad (h) rfl Tryz.func123 rfl jab ?_;exact zx.g):A:=h ⟨b⟩
theorem D92 (b:B) (h:Wr B→A:=by intro zx;refine jag (Post:=fun v=>v= .int .u64 ((2^(jaa b).length-1:Nat):Int)) rfl zq zK (fun H' hH=>f106_c _ H' _ h12) ?_;exact zx.g):A:=h ⟨b⟩
theorem D93 (b:B) (h:Wr B→A:=by intro zx;refine jcq rfl zq hpc zO zO ?_;exact zx.g):A:=h ⟨b⟩
theorem D94 (b:B) (h:Wr B→A:=by intro zx;refine jad (h) rfl Tryz.func19 rfl jab ?_;exact zx.g):A:=h ⟨b⟩
theorem D95 (b:B) (h:Wr B→A:=by intro zx;refine k_sub rfl rfl (by unfold jfx;omega) ?_;exact zx.g):A:=h ⟨b⟩
theorem D96 (b:B) (h:Wr B→A:=by intro zx;refine jfc w 4 rfl zq rfl rfl zO zO ?_;exact zx.g):A:=h ⟨b⟩
theorem D97 (b:B) (h:Wr B→A:=by intro zx;refine jag (Post:=fun v=>v=_) rfl zq zK (fun H' hH=>f221_c m H' _) ?_;exact zx.g):A:=h ⟨b⟩
theorem D98 (b:B) (h:Wr B→A:=by intro zx;refine jfS Tryz.func201 rfl rfl (l:=(.pointer (some ⟨C.wg,0,none⟩))::uu6) rfl ?_;exact zx.g):A:=h ⟨b⟩
theorem D99 (b:B) (h:Wr B→A:=by intro zx;refine jaW rfl zq (rdg.sat k zO zO) ?_;exact zx.g):A:=h ⟨b⟩
theorem D100 (b:B) (h:Wr B→A:=by intro zx;refine jc6 (v:= .bool false) rfl zq zA (jp0 (decide_eq_false zO)) ?_;exact zx.g):A:=h ⟨b⟩
theorem D101 (b:B) (h:Wr B→A:=by intro zx;refine jc6 (v:= .bool true) rfl zq zA (jnt (decide_eq_true zO)) ?_;exact zx.g):A:=h ⟨b⟩
theorem D102 (b:B) (h:Wr B→A:=by intro zx;refine jar [Zr 0,Zr 1,Zr 3,Zk 2,Zp 4] zK zK (List.Sublist.refl _) ?_;exact zx.g):A:=h ⟨b⟩
theorem D103 (b:B) (h:Wr B→A:=by intro zx;refine i_cal rfl zq zK ?_;exact zx.g):A:=h ⟨b⟩
theorem D104 (b:B) (h:Wr B→A:=by intro zx;refine (Md.starC Tryz.prog B).weak (h':=ro h) (by simpa using jr5 (B:=B) h []) ?_;exact zx.g):A:=h ⟨b⟩
theorem D105 (b:B) (h:Wr B→A:=by intro zx;refine jaW rfl zq (jaQ (f+root) zO zO) ?_;exact zx.g):A:=h ⟨b⟩
theorem D106 (b:B) (h:Wr B→A:=by intro zx;refine jaW rfl zq (jaQ (f+ch) zO zO) ?_;exact zx.g):A:=h ⟨b⟩
theorem D107 (b:B) (h:Wr B→A:=by intro zx;refine jad (h) rfl Tryz.func121 rfl jab ?_;exact zx.g):A:=h ⟨b⟩
theorem D108 (b:B) (h:Wr B→A:=by intro zx;refine jaW (v:= .int .i64 (lps.getD (i-1) default).ln.lat) rfl rfl (rl.fat (i-1) 0 zO zO rfl) ?_;exact zx.g):A:=h ⟨b⟩
theorem D109 (b:B) (h:Wr B→A:=by intro zx;refine jiq (c:=s.getD i 0) rfl rfl jgR zO (jnS zO) ?_;exact zx.g):A:=h ⟨b⟩
theorem D110 (b:B) (h:Wr B→A:=by intro zx;refine jdx rfl Tryz.func201 (jcj rfl) ?_;exact zx.g):A:=h ⟨b⟩
theorem D111 (b:B) (h:Wr B→A:=by intro zx;refine jc6 (v:= .bool true) rfl zq zA (jtj zA) ?_;exact zx.g):A:=h ⟨b⟩
theorem D112 (b:B) (h:Wr B→A:=by intro zx;refine jr3 rfl zq ⟨rfl,.inl rfl⟩ uptrW.1 uptrW.2.1 uptrW.2.2 ?_;exact zx.g):A:=h ⟨b⟩
theorem D113 (b:B) (h:Wr B→A:=by intro zx;refine jad (h++[jbU bk ys junk]) rfl Tryz.func216 rfl jab ?_;exact zx.g):A:=h ⟨b⟩
theorem D114 (b:B) (h:Wr B→A:=by intro zx;refine jad (h++[jbU bk ys junk]) rfl Tryz.func186 rfl jab ?_;exact zx.g):A:=h ⟨b⟩
theorem D115 (b:B) (h:Wr B→A:=by intro zx;refine jjm [Zf 0] [1] zK zK ?_;exact zx.g):A:=h ⟨b⟩
theorem D116 (b:B) (h:Wr B→A:=by intro zx;refine jaW rfl zq (rx.keeps SubH.sub) ?_;exact zx.g):A:=h ⟨b⟩
theorem D117 (b:B) (h:Wr B→A:=by intro zx;refine jad (h) rfl Tryz.func210 rfl jab ?_;exact zx.g):A:=h ⟨b⟩
theorem D118 (b:B) (h:Wr B→A:=by intro zx;refine jad (h) rfl Tryz.func109 rfl jab ?_;exact zx.g):A:=h ⟨b⟩
theorem D119 (b:B) (h:Wr B→A:=by intro zx;refine jcq rfl zq hyp zO zO ?_;exact zx.g):A:=h ⟨b⟩
theorem jkn (b:B) (h:Wr B→A:=by intro zx;refine D14 ?_;refine Zs ?_;exact zx.g):A:=h ⟨b⟩
theorem D121 (b:B) (h:Wr B→A:=by intro zx;refine D19 ?_;refine Z3 ?_;exact zx.g):A:=h ⟨b⟩
theorem jhx (b:B) (h:Wr B→A:=by intro zx;refine D6 ?_;refine Z3 ?_;exact zx.g):A:=h ⟨b⟩
theorem D123 (b:B) (h:Wr B→A:=by intro zx;refine Z2 ?_;refine D0 ?_;exact zx.g):A:=h ⟨b⟩
theorem D124 (b:B) (h:Wr B→A:=by intro zx;refine Zs ?_;refine k_notF rfl rfl ?_;exact zx.g):A:=h ⟨b⟩
theorem D125 (b:B) (h:Wr B→A:=by intro zx;refine k_subW (z:=(ru:Int)-48) rfl zq zL ?_;refine jbg (n':=(ru:Int)-48) rfl zq zK (jew (by unfold jfx;omega)) ?_;exact zx.g):A:=h ⟨b⟩
theorem jor (b:B) (h:Wr B→A:=by intro zx;refine D20 ?_;refine Zs ?_;exact zx.g):A:=h ⟨b⟩
theorem jqC (b:B) (h:Wr B→A:=by intro zx;refine D0 ?_;refine D123 ?_;exact zx.g):A:=h ⟨b⟩
theorem D128 (b:B) (h:Wr B→A:=by intro zx;refine D49 ?_;refine D17 ?_;exact zx.g):A:=h ⟨b⟩
theorem jqB (b:B) (h:Wr B→A:=by intro zx;refine D128 ?_;refine Z3 ?_;exact zx.g):A:=h ⟨b⟩
theorem joq (b:B) (h:Wr B→A:=by intro zx;refine D9 ?_;refine D0 ?_;exact zx.g):A:=h ⟨b⟩
theorem D131 (b:B) (h:Wr B→A:=by intro zx;refine jhW (v:= .int .u64 (v:Int)) rfl zq (.inr rfl) (jpZ zA (jdD v 0 hv70 zO).hi) ?_;refine jfT rfl zq zK (jdD v 0 hv70 zO).hi32 ?_;exact zx.g):A:=h ⟨b⟩
theorem D132 (b:B) (h:Wr B→A:=by intro zx;refine jtN rfl zq k zO zN ?_;refine jaW rfl zq (most_atI k zO) ?_;exact zx.g):A:=h ⟨b⟩
theorem jqA (b:B) (h:Wr B→A:=by intro zx;refine D29 ?_;refine Zs ?_;exact zx.g):A:=h ⟨b⟩
theorem D134 (b:B) (h:Wr B→A:=by intro zx;refine jc6 (v:= .int .u64 0) rfl zq zA (jgs ((jdD v 0 hv70 zO).lo)) ?_;refine jfT rfl zq zK (jdD v 0 hv70 zO).lo32 ?_;exact zx.g):A:=h ⟨b⟩
theorem D135 (b:B) (h:Wr B→A:=by intro zx;refine jfq rfl zq (jfy b c f).len (by rw [(jfy b c f).len];rfl) ?_;refine jfq rfl zq (jfM b c f).len (by rw [(jfM b c f).len];rfl) ?_;exact zx.g):A:=h ⟨b⟩
theorem D136 (b:B) (h:Wr B→A:=by intro zx;refine D121 ?_;refine D121 ?_;exact zx.g):A:=h ⟨b⟩
end
end Go.Lo
namespace Go.Lo
theorem E0 (h:A:=by first|exact ⟨rfl,IsB.yes zO⟩|exact ⟨rfl,IsB.no zO⟩):A:=h
theorem E1 (h:A:=by exact m.weak jab (hnext1 _ _ _ zO ⟨i+1,zs,rfl,by omega,by omega,hzw,hin.stop zO zO zO,exU rfl,rfl⟩)):A:=h
theorem E2 (h:A:=by first|exact ⟨rfl,by rw [if_pos zO]⟩|exact ⟨rfl,by rw [if_neg zO,if_pos zO]⟩|exact ⟨rfl,by rw [if_neg zO,if_neg zO]⟩):A:=h
theorem E3 (h:A:=by exact ⟨rfl,by rw [if_neg zO,if_pos zO]⟩):A:=h
theorem E4 (h:A:=by exact ⟨rfl,by rw [if_neg zO,if_neg zO]⟩):A:=h
theorem E5 (h:A:=by exact ⟨rfl,ys,rfl,hsw,hre.stop fun c h1 h2=>by omega⟩):A:=h
theorem E6 (h:A:=by exact ⟨rfl,ys,rfl,hsw,hre.stop fun c h1 h2=>by have:=hmax c h1 h2;omega⟩):A:=h
theorem E7 (h:A:=by exact m.weak jab (hnext _ _ _ zO ⟨ch,jbR ys (f+root) (f+ch),rfl,by omega,by omega,.step (f+root) (f+ch) ⟨by omega,by omega⟩ ⟨by omega,by omega⟩ hsw,hre.step hr1 hch zO zO hmax zD,exU rfl,rfl⟩)):A:=h
theorem E8 (h:A:=by first|exact ⟨true,exU rfl,rfl,⟨fun _=>by omega,fun _=>rfl⟩⟩|exact ⟨false,exU rfl,rfl,⟨fun e=>(by cases e),fun e=>zO⟩⟩):A:=h
theorem E9 (h:A:=by exact ⟨false,exU rfl,rfl,⟨fun e=>(by cases e),fun e=>zO⟩⟩):A:=h
theorem E10 (h:A:=by first|exact ⟨true,ys,rfl,rfl,hsw,fun _=>by rw [show b=i1 by omega];exact hso2⟩|exact ⟨false,ys,rfl,rfl,hsw,fun e=>by cases e⟩):A:=h
theorem E11 (h:A:=by exact ⟨false,ys,rfl,rfl,hsw,fun e=>by cases e⟩):A:=h
theorem E12 (h:A:=by exact ⟨zs,hzw,by have:=hin.stop zO zO zO;rwa [show i1-1+1=i1 by omega] at this,exU rfl,rfl⟩):A:=h
theorem E13 (h:A:=by exact ⟨y1,hswy,fun p q h1 h2 h3=>by omega,exU rfl,rfl⟩):A:=h
theorem E14 (h:A:=by exact ⟨i1,_,by omega,by omega,by first|exact hvw|exact hsw4,by first|exact hvo|exact hso4,exU rfl,rfl⟩):A:=h
theorem E15 (h:A:=by exact ⟨_,_,_,by omega,by omega,by first|exact hs1.trans hrw|exact hs1,exU rfl,rfl⟩):A:=h
theorem E16 (h:A:=by exact ⟨_,by first|exact hs2.trans hiw|exact hs2,exU rfl,rfl⟩):A:=h
theorem E17 (h:A:=by exact m.weak jab (hnext _ _ _ zO ⟨p+1,k,n+1,v.set k (10*v.getD k 0+((ru:Int)-48)),rfl,by rw [←hrd,hdr,hru];exact (jlN zO (by rw [←hru];omega)).symm,by simpa using hv3,hk2,by omega,by omega,jjj (by rw [jca zO] at hc;omega) hvb,fun j hj=>by rw [set_other zO];exact hvz j zO,exU rfl,rfl⟩)):A:=h
theorem E18 (h:A:=by exact m.weak jab (hnext _ _ _ zO ⟨k+1,rfl,by omega,exU rfl,rfl⟩)):A:=h
theorem E19 (h:A:=by exact m.weak jab (hnext _ _ _ zO ⟨k+1,wp,wc,M,rfl,by omega,by rw [hks];exact how,exU rfl,rfl⟩)):A:=h
theorem E20 (h:A:=by exact m.weak jab (hnext _ _ _ zO ⟨k+1,p9,c9,n9,rfl,by omega,by rw [hkl,hks,jcx];exact o9,exU rfl,rfl⟩)):A:=h
theorem E21 (h:A:=by exact ⟨rfl,_,rfl,by unfold jfx;omega,⟨fun _=>hse▸jah (l:=ss) zO,fun _=>by omega⟩⟩):A:=h
theorem E22 (h:A:=by first|exact (jdI zD).symm|exact (jdH zD zD).symm):A:=h
theorem E23 (h:A:=by exact (jcL zO ⟨_,by rw [ja8 zO,ja1 _ _ zO],by omega⟩).symm):A:=h
theorem E24 (h:A:=by exact (jcN zO hnu zO).symm):A:=h
theorem E25 (h:A:=by exact (jcM zO hnu zO fun e=>by have:=e _ (jah (l:=x.ln.figs) (i:=k) zO);rw [show x.ln.figs.getD k default=x.ln.figs.getD k [] from rfl,jbx,hfo,decide_eq_false (show¬x.ln.figs.getD k []=jbG from hda)] at this;cases this).symm):A:=h
theorem E26 (h:A:=by exact m.weak jab (hnext1 _ _ _ zO ⟨i+1,rfl,by omega,by rw [hlm,hdr,jiO zO hnu zO hall,ja8 zO,Nat.add_sub_cancel,ja1 _ _ zO,←hx],exU rfl,rfl⟩)):A:=h
theorem E27 (h:A:=by exact ⟨rfl,IsB.no fun e=>by have:=e.1;omega⟩):A:=h
theorem E28 (h:A:=by exact ⟨rfl,IsB.no fun e=>by have:=e.2 i zO;rw [←hcc] at this;unfold jka at this;omega⟩):A:=h
theorem E29 (h:A:=by exact ⟨rfl,IsB.no fun e=>by have:=e.2 0 zO;unfold jka at this;omega⟩):A:=h
theorem E30 (h:A:=by exact ⟨rfl,IsB.yes ⟨by omega,fun j hj=>hch j zO⟩⟩):A:=h
theorem E31 (h:A:=by exact m.weak jab (hnext _ _ _ zO ⟨i+1,p9,c9,n9,i+1,rfl,by omega,hk2.symm,by rw [hkl,hks,jlf,←hf];exact o9,exU rfl,rfl⟩)):A:=h
theorem E32 (h:A:=by exact jbs fun e=>e.2.1 ⟨(jbt (n:=48) zA).1 zD,hz⟩):A:=h
theorem E33 (h:A:=by exact jbs fun e=>absurd (e.2.2 i zO) zD):A:=h
theorem E34 (h:A:=by exact absurd ((jbt (n:=48) zA).2 e.1) zD):A:=h
theorem E35 (h:A:=by exact ⟨rfl,_,IsB.yes (.inl hq),by rw [jbZ,if_pos hq]⟩):A:=h
theorem E36 (h:A:=by exact ⟨rfl,_,IsB.no (by rintro (e|e);exact hq e;exact of_decide_eq_false hno e.1),by rw [jbZ,if_neg hq]⟩):A:=h
theorem E37 (h:A:=by exact ⟨rfl,_,IsB.yes (.inr ⟨of_decide_eq_true hno,by assumption⟩),by rw [jbZ,if_neg hq]⟩):A:=h
theorem E38 (h:A:=by exact ⟨rfl,_,IsB.no (by rintro (e|e);exact hq e;exact absurd e.2 zD),by rw [jbZ,if_neg hq]⟩):A:=h
theorem E39 (h:A:=by exact ⟨⟨fun x=>by simp at x,fun x=>absurd x this⟩,fun x=>absurd x this⟩):A:=h
theorem E40 (h:A:=by exact ⟨rfl,IsB.no fun e=>by rcases (jeS s).1 e with e|e;rw [hfo] at e;cases e;exact hda e⟩):A:=h
theorem E41 (h:A:=by exact (jcM zO hnu zO fun e=>absurd (e _ (jah (l:=x.ln.figs) (i:=k) zO)) zD).symm):A:=h
theorem E42 (h:A:=by exact (jbc (jdN zO) zA).symm):A:=h
theorem E43 (h:A:=by exact (jbc (jdM zO zO) zA).symm):A:=h
theorem E44 (h:A:=by exact (jgz hh0 zO zD).symm):A:=h
theorem E45 (h:A:=by exact m.weak jab (hnext3 _ _ _ zO ⟨k+1,wpk,wck,Mk,rfl,by omega,by rw [hks];exact howk,exU rfl,rfl⟩)):A:=h
theorem E46 (h:A:=by exact (decide_eq_true (Classical.byContradiction fun e=>by rw [this.2 zO] at hr;cases hr)).symm):A:=h
theorem E47 (h:A:=by first|exact congrArg Value.bool (decide_eq_true zO).symm|exact congrArg Value.bool (decide_eq_false zO).symm):A:=h
theorem E48 (h:A:=by exact congrArg Value.bool (decide_eq_false zO).symm):A:=h
theorem E49 (h:A:=by exact ⟨rfl,congrArg Value.bool fall_turn.symm⟩):A:=h
theorem E50 (h:A:=by exact ⟨_,rfl,.inl ⟨rfl,by rw [hgp,if_pos (by first|exact .inl zO|exact .inr (by simpa using hc)),List.append_nil];exact hRp⟩⟩):A:=h
theorem E51 (h:A:=by first|exact .inl zO|exact .inr (by simpa using hc)):A:=h
theorem E52 (h:A:=by exact List.getElem_mem _):A:=h
theorem E53 (h:A:=by first|exact jan.1 zO zO|exact jan.2.1 zO zO|exact jan.2.2.1 zO zO|exact jan.2.2.2 zO zO):A:=h
theorem E54 (h:A:=by exact m.weak jab (hnext1 _ _ _ zO ⟨i+1,fd,rfl,by omega,by rw [hst];exact hfd,exU rfl,rfl⟩)):A:=h
theorem E55 (h:A:=by exact hnext2 _ _ _ zO ⟨k+1,lps.set k ⟨x.ln,p44,c44⟩,_,FM++n44,rfl,by omega,by simpa using hlen,by rw [jip (by rw [hxk])];exact hmap,fun j hj=>by rw [jnT zO];exact hsame j zO,OwnS.blk (junk:=junk) (by rw [jb7];simp [hlen]) (by have:=hwc;rw [jb7] at this⊢;simpa using this) hwn,by rw [jmP zO];exact .snoc hof o44,exU rfl,rfl⟩):A:=h
theorem E56 (h:A:=by exact OwnS.blk (junk:=junkf) (by rw [jbf]) (by have:=hfc;rw [jbf] at this⊢;simpa using this) (by simpa using hfn)):A:=h
theorem E57 (h:A:=by exact hnext1 _ _ _ zO ⟨2,wp,wc,_,_,M0,_,rfl,by omega,fun e=>by omega,fun e=>by omega,fun _=>hh0,fun _=>hHalf,exU rfl,rfl⟩):A:=h
theorem E58 (h:A:=by exact hnext1 _ _ _ zO ⟨1,_,_,pb,cb,_,[],rfl,by omega,fun e=>by omega,fun _=>⟨rfl,rfl,rfl⟩,fun _=>hHalf,fun e=>by omega,exU rfl,(by rw [List.append_nil])⟩):A:=h
theorem E59 (h:A:=by exact ⟨n37,rfl,x0,y1,z1,w1,y2,z2,w2,y3,z3,w3,by rw [e0],fun e=>ha1 (by rwa [e0] at e),fun e=>⟨_,_,_,_,_,_,_,_,_,ha2 (by rwa [e0] at e),ra2⟩⟩):A:=h
theorem E60 (h:A:=by exact IsB.yes (.inr ⟨by omega,(jc0 zO).1 zO⟩)):A:=h
theorem E61 (h:A:=by exact IsB.no fun e=>e.elim (fun e=>by omega) (fun e=>by have:=(jc0 (xs:=xs) (ys:=ys) zO).2 e.2;omega)):A:=h
theorem E62 (h:A:=by exact IsB.no fun e=>e.elim (fun e=>by omega) (fun e=>by omega)):A:=h
theorem E63 (h:A:=by exact ⟨rfl,IsB.yes (.inl zO)⟩):A:=h
theorem E64 (h:A:=by exact ⟨rfl,IsB.yes (.inr (.inl zO))⟩):A:=h
theorem E65 (h:A:=by exact ⟨rfl,IsB.yes (.inr (.inr (.inl zO)))⟩):A:=h
theorem E66 (h:A:=by exact ⟨rfl,IsB.yes (.inr (.inr (.inr (.inl ⟨j,by omega,by omega⟩))))⟩):A:=h
theorem E67 (h:A:=by exact ⟨rfl,IsB.yes (.inr (.inr (.inr (.inr (.inl hgw)))))⟩):A:=h
theorem E68 (h:A:=by exact ⟨rfl,IsB.yes (.inr (.inr (.inr (.inr (.inr hgb)))))⟩):A:=h
theorem E69 (h:A:=by first|exact ⟨rfl,IsB.no fun e=>e.1 hgr⟩|exact ⟨rfl,IsB.yes ⟨hgr,by omega⟩⟩|exact ⟨rfl,IsB.no fun e=>by have:=e.2;omega⟩):A:=h
theorem E70 (h:A:=by exact Reads.bind this (Reads.pure _)):A:=h
theorem E71 (h:A:=by exact List.map_congr_left fun d hd=>h1 d (by simp [hd]) fun e=>hn.1 (e▸hd)):A:=h
theorem E72 (h:A:=by exact setCan_map (jbu b) hi (fun d hd hne=>setF_cdOf k hc (jaA hd).1 hne) (setF_cdOf_self k hc)):A:=h
theorem E73 (h:A:=by exact ⟨rfl,IsB.yes (jcU.2 ⟨k,by omega,by assumption⟩)⟩):A:=h
theorem E74 (h:A:=by exact ⟨fun e j hj=>by simpa using e j (List.mem_range.2 hj),fun e j hj=>by simpa using e j (List.mem_range.1 hj)⟩):A:=h
theorem E75 (h:A:=by exact ⟨rfl,IsB.yes (fits_iff.2 fun j hj=>hft j zO)⟩):A:=h
theorem E76 (h:A:=by exact ⟨rfl,IsB.no fun e=>by have:=fits_iff.1 e i zO;omega⟩):A:=h
theorem E77 (h:A:=by exact ⟨(hf x hx).1,(hf x hx).2 zO⟩):A:=h
theorem E78 (h:A:=by exact ((k.lines c.butt).ok _ (jbz hc)).len):A:=h
theorem E79 (h:A:=by exact ⟨((jbl s).getD j 0).toNat,by omega,by omega,by rw [show ((((jbl s).getD j 0).toNat:Nat):Int)=(jbl s).getD j 0 by omega];exact hm⟩):A:=h
theorem E80 (h:A:=by exact (Md.starC Tryz.prog B).weak jab (hnext _ _ _ zO ⟨j+1,rfl,by omega,exU rfl,rfl⟩)):A:=h
theorem E81 (h:A:=by exact ⟨_,_,_,[],_,[],hW',trodAll_mk1 (shut_bool Tryz.underlying4 _),hq,rfl,hbelow.frame _,fun h=>by cases h⟩):A:=h
theorem E82 (h:A:=by exact (show Tryz.prog.wantsStandIn t=false by simpa using List.all_eq_true.1 hall t (by simpa using hm))):A:=h
theorem E83 (h:A:=by exact ⟨fun h=>h.2,fun ⟨x,hx,e⟩=>⟨mem_canB hx e,x,hx,e⟩⟩):A:=h
theorem E84 (h:A:=by exact ⟨⟨h0,fun i hi=>h1 i zO⟩,h1 k zO⟩):A:=h
theorem E85 (h:A:=by exact r.can hi ((jcv.1 ok).2.1 i _ e)):A:=h
theorem E86 (h:A:=by exact ⟨v,e,s,k.imp (fun ⟨a,b,c⟩=>⟨a,by omega,c⟩) fun ⟨a,b,c⟩=>⟨a,by omega,c⟩⟩):A:=h
theorem E87 (h:A:=by exact ⟨by omega,by omega,a2⟩):A:=h
theorem E88 (h:A:=by exact (jay (Below.trod jbA zK (of_decide_eq_true zK) h0 hbelow hlt0) (jay (Below.trod jbA zK (of_decide_eq_true zK) h1 hbelow hlt1) (jay (Below.trod jbA zK (of_decide_eq_true zK) h2 hbelow hlt2) (jay (Below.trod jbA zK (of_decide_eq_true zK) h3 hbelow hlt3) (jay (Below.trod jbA zK (of_decide_eq_true zK) h4 hbelow hlt4) rfl)))))):A:=h
theorem E89 (h:A:=by exact Int.le_trans ((spB_low.1 (Int.le_refl _)).2 y hy) h1):A:=h
theorem E90 (h:A:=by exact Int.le_trans h2 ((spB_high.1 (Int.le_refl _)).2 y hy)):A:=h
theorem E91 (h:A:=by exact ⟨r 1,Nat.le_refl _,by decide,l,by decide,l,by decide,⟨fun x hx=>(by cases hx),fun x hx=>(by cases hx),fun x hx=>(by cases hx)⟩⟩):A:=h
theorem E92 (h:A:=by exact (jay (Below.trod jbA zK (of_decide_eq_true zK) h0 hbelow hlt0) (jay (Below.trod jbA zK (of_decide_eq_true zK) h1 hbelow hlt1) (jay (Below.trod jbA zK (of_decide_eq_true zK) h2 hbelow hlt2) rfl)))):A:=h
theorem E93 (h:A:=by exact Prod.ext (Int.le_antisymm ((h1 _).2 (Int.le_refl _)) ((h1 _).1 (Int.le_refl _))) (Int.le_antisymm ((h2 _).1 (Int.le_refl _)) ((h2 _).2 (Int.le_refl _)))):A:=h
theorem E94 (h:A:=by exact ⟨Int.le_refl _,Int.le_refl _⟩):A:=h
end Go.Lo
namespace Go.Proofs
open Go.Lo
open Go.Conc (G)
section
theorem f57_c (m:Md Tryz.prog B) (h:Hp) (x lo hi:Int):FnC m 57 #[.int .i64 x,.int .i64 lo,.int .i64 hi] h fun v h'=>h'=h∧IsB (lo≤x∧x≤hi) v:=by
 refine jaf Tryz.func57 rfl rfl (l:=(.int .i64 x)::(.int .i64 lo)::(.int .i64 hi)::uu12) rfl ?_
 intro cf cs K hK
 refine Z8 ?_
 refine jcn rfl zq (fun hc=>?_) (fun hc=>?_)
 ·refine Z3 ?_
  refine jcn rfl rfl (fun hc=>?_) (fun hc=>?_);all_goals
   refine Z4 ?_;refine jad (h) rfl Tryz.func57 rfl jab ?_;refine Zs ?_
   exact E0
 ·refine Z8 ?_;refine jad (h) rfl Tryz.func57 rfl jab ?_;refine Zs ?_
  exact E0
theorem ext_getD (hl:xs.length=ys.length) (he: ∀i,i<xs.length→xs.getD i 0=ys.getD i 0):xs=ys:=by
 apply List.ext_getElem hl
 intro i h1 h2
 have:=he i h1
 rw [List.getD_eq_getElem?_getD,List.getElem?_eq_getElem h1,List.getD_eq_getElem?_getD,List.getElem?_eq_getElem h2] at this
 exact this
theorem jcU {x:Int}:x∈xs↔ ∃i,i<xs.length∧xs.getD i 0=x:=by
 rw [List.mem_iff_getElem];constructor
 ·rintro ⟨i,h,e⟩;exact ⟨i,h,by rw [List.getD_eq_getElem?_getD,List.getElem?_eq_getElem h];exact e⟩
 ·rintro ⟨i,h,e⟩;exact ⟨i,h,by rw [List.getD_eq_getElem?_getD,List.getElem?_eq_getElem h] at e;exact e⟩
def jbX:List Int→List Int→Bool
 |a::r,b::s=>if a=b then jbX r s else decide (a<b)
 |[],_::_=>true
 |_,[]=>false
def jff (xs ys:List Int):Prop:=xs.length<ys.length∨(xs.length=ys.length∧jbX xs ys=true)
def jeT (n:Nat):List Int:=(List.range n).map fun i:Nat=>(i:Int)
theorem jjX (n:Nat):jeT (n+1)=jeT n++[(n:Int)]:=by simp [jeT,List.range_succ]
theorem f42_c (m:Md Tryz.prog B) (h:Hp) {c n2 c2:Nat} (rd:RdS B h 1 (.slice p n c) n (jaI xs)) (hn:n≤1000000) (rd2:RdS B h 1 (.slice p2 n2 c2) n2 (jaI ys)):FnC m 42 #[.slice p n c,.slice p2 n2 c2] h fun v h'=>h'=h∧IsB (xs=ys) v:=by
 have hl:=rd.ilen
 have hl2:=rd2.ilen
 refine jaf Tryz.func42 rfl rfl (l:=(.slice p n c)::(.slice p2 n2 c2)::jpn) rfl ?_
 intro cf cs K hK
 refine Z11 ?_
 refine jbK rfl zq (fun hc=>?_) (fun hc=>?_)
 ·refine Z7 ?_;refine jad (h) rfl Tryz.func42 rfl jab ?_;refine Zs ?_
  exact ⟨rfl,IsB.no fun e=>by subst e;omega⟩
 ·refine Z9 ?_
  refine jai (fun nn l h'=> ∃(k:Nat),nn=n-k∧(k≤n)∧(∀i,i<k→xs.getD i 0=ys.getD i 0)∧(∃U:Nat→Value,l=((.slice p n c)::(.slice p2 n2 c2)::(U 2)::(U 3)::(U 4)::(.int .i64 (k:Int))::jr6 U 6 []))∧h=h') _ ⟨0,rfl,by omega,by omega,exU rfl,rfl⟩ ?_;rintro nn l h' ⟨k,rfl,hk,he,⟨U,rfl⟩,rfl⟩ hnext;refine Z6 ?_
  refine jao rfl zq (fun hc=>?_) (fun hc=>?_)
  ·refine Z6 ?_;refine jar [Zp 0,Zp 1,Zp 2,Zp 4,Zp 5,Zp 6,Zr 3,Zr 7,Zp 8] zK zK (List.Sublist.refl _) ?_;refine Z2 ?_
   obtain ⟨rd_b,rd_o,rfl⟩:=rd.ptr zO
   refine D0 ?_;refine Z2 ?_
   obtain ⟨rd2_b,rd2_o,rfl⟩:=rd2.ptr zO
   refine D0 ?_;refine jaW rfl zq (rd.iat k zO zO) ?_;refine jaW rfl zq (rd2.iat k zO zO) ?_
   refine jbK rfl zq (fun hc=>?_) (fun hc=>?_)
   ·refine Z7 ?_;refine jad (h) rfl Tryz.func42 rfl jab ?_;refine Zs ?_
    exact ⟨rfl,IsB.no fun e=>by subst e;contradiction⟩
   ·refine Z9 ?_
    exact m.weak jab (hnext _ _ _ zO ⟨k+1,rfl,by omega,fun i hi=>by
     rcases Nat.lt_or_ge i k with h1|h1
     ·exact he i h1
     ·obtain rfl:i=k:=by omega
      assumption,exU rfl,rfl⟩)
  ·refine Z8 ?_;refine jad (h) rfl Tryz.func42 rfl jab ?_;refine Zs ?_
   exact ⟨rfl,IsB.yes (ext_getD zO fun i hi=>he i zO)⟩
def Asc (ys:List Int):Prop:=ys.Pairwise (· < ·)
theorem Asc.eq: ∀{xs ys:List Int},Asc xs→Asc ys→(∀z,z∈xs↔z∈ys)→xs=ys
 |[],[],_,_,_=>rfl
 |[],b::s,_,_,h=>by have:=(h b).2 zS;simp at this
 |a::r,[],_,_,h=>by have:=(h a).1 zS;simp at this
 |a::r,b::s,h1,h2,h=>by
  unfold Asc at h1 h2
  rw [List.pairwise_cons] at h1 h2
  have hab:a=b:=by
   rcases List.mem_cons.1 ((h a).1 zS) with e|e
   ·exact e
   ·rcases List.mem_cons.1 ((h b).2 zS) with e'|e'
    ·exact e'.symm
    ·have:=h1.1 b e';have:=h2.1 a e;omega
  subst hab
  have:r=s:=Asc.eq h1.2 h2.2 fun z=>by
   constructor
   ·intro hz
    rcases List.mem_cons.1 ((h z).1 (List.mem_cons_of_mem _ hz)) with e|e
    ·have:=h1.1 z hz;omega
    ·exact e
   ·intro hz
    rcases List.mem_cons.1 ((h z).2 (List.mem_cons_of_mem _ hz)) with e|e
    ·have:=h2.1 z hz;omega
    ·exact e
  rw [this]
theorem OwnS.full {t k q:Nat} (hl:cs.length=n*k):OwnS t k (.slice (some ⟨q,0,none⟩) n n) n cs [⟨true,q,.cells cs.toArray t (0,0)⟩]:=by
 have:=OwnS.blk (t:=t) (k:=k) (b:=q) (n:=n) (cap:=n) (cs:=cs) (junk:=[]) hl (by simpa using hl) (Nat.le_refl _)
 simpa using this
def RdI (B:Array Obj) (h:Hp) (w:Value) (xs:List Int):Prop:= ∃p c,w= .slice p xs.length c∧RdS B h 1 (.slice p xs.length c) xs.length (jaI xs)
theorem RdI.nil:RdI B h (.slice none 0 0) []:=⟨none,0,rfl,none,0,rfl,rfl,.inl ⟨rfl,rfl⟩⟩
theorem take_set {n:Int} (h:i<ln.length):(ln.set i n).take (i+1)=ln.take i++[n]:=by
 rw [List.take_succ_eq_append_getElem (by simpa using h)];simp [List.take_set_of_le]
theorem f221_c (m:Md Tryz.prog B) (h:Hp) (x:Int):FnC m 221 #[.int .i64 x] h fun v h'=>h'=h∧v= .bool false:=by
 refine jaf Tryz.func221 rfl rfl (l:=[.int .i64 x,undef,undef,undef,undef,undef]) rfl ?_
 intro cf cs K hK
 refine Z8 ?_;refine jnD rfl zq ?_;refine Z3 ?_;refine jad (h) rfl Tryz.func221 rfl jab ?_;refine Zs ?_
 exact ⟨rfl,by simp⟩
theorem f187_c (m:Md Tryz.prog B) (h:Hp) (x y:Int):FnC m 187 #[.int .i64 x,.int .i64 y] h fun v h'=>h'=h∧IsB (x<y) v:=by
 refine jaf Tryz.func187 rfl rfl (l:=(.int .i64 x)::(.int .i64 y)::uu15) rfl ?_
 intro cf cs K hK
 refine Z5 ?_;refine rr13 ?_;refine Zs ?_;refine D97 ?_
 rintro v rfl;refine Z9 ?_
 refine jao rfl rfl (fun hc=>?_) (fun hc=>?_);all_goals
  refine Z4 ?_;refine jad (h) rfl Tryz.func187 rfl jab ?_;refine Zs ?_
  first|exact ⟨rfl,IsB.yes zD⟩|exact ⟨rfl,IsB.no zO⟩
def Ins (ys:List Int) (a i j:Nat):Prop:=(∀p q,a≤p→p<q→q≤i→p≠j→q≠j→ys.getD p 0≤ys.getD q 0)∧(∀q,j<q→q≤i→ys.getD j 0≤ys.getD q 0)
theorem Ins.start {a:Nat} (h:SortR ys a i):Ins ys a i i:=⟨fun p q h1 h2 h3 h4 h5=>h p q h1 h2 zO,fun q h1 h2=>by omega⟩
theorem Ins.stop {ys:List Int} {a i j:Nat} (h:Ins ys a i j) (hj:j=a∨(a<j∧ys.getD (j-1) 0≤ys.getD j 0)) (haj:a≤j) (hji:j≤i):SortR ys a (i+1):=fun p q h1 h2 h3=>by
 by_cases e1:p=j
 ·subst e1
  exact h.2 q h2 zO
 ·by_cases e2:q=j
  ·subst e2
   rcases hj with hj|⟨hj,hle⟩
   ·omega
   ·by_cases e3:p=q-1
    ·subst e3
     exact hle
    ·have:=h.1 p (q-1) h1 zO zO e1 zO
     omega
  ·exact h.1 p q h1 h2 zO e1 e2
theorem Ins.step {ys:List Int} {a i j:Nat} (h:Ins ys a i j) (haj:a<j) (hji:j≤i) (hi:i<ys.length) (hlt:ys.getD j 0<ys.getD (j-1) 0):Ins (jbR ys j (j-1)) a i (j-1):=by
 have g: ∀k,(jbR ys j (j-1)).getD k 0=if k=j-1 then ys.getD j 0 else if k=j then ys.getD (j-1) 0 else ys.getD k 0:=fun k=>jbI zO zO
 refine ⟨fun p q h1 h2 h3 h4 h5=>?_,fun q h1 h2=>?_⟩
 ·rw [g,g,if_neg h4,if_neg h5];by_cases e1:p=j
  ·subst e1
   rw [if_pos rfl,if_neg zO];exact h.1 (p-1) q zO zO h3 zO zO
  ·rw [if_neg e1];by_cases e2:q=j
   ·subst e2
    rw [if_pos rfl];exact h.1 p (q-1) h1 zO zO e1 zO
   ·rw [if_neg e2];exact h.1 p q h1 h2 h3 e1 e2
 ·rw [g,g,if_pos rfl,if_neg zO];by_cases e2:q=j
  ·subst e2
   rw [if_pos rfl];omega
  ·rw [if_neg e2];exact h.2 q zO h2
theorem jb9:(ys.set i (ys.getD j 0)).set j (ys.getD i 0)=jbR ys i j:=rfl
theorem f181_c (m:Md Tryz.prog B) (h:Hp) {c:Nat} (hl:xs.length=n) (hn:n≤100000) (a b:Nat) (hab:a≤b) (hb:b≤n):FnC m 181 #[.slice (some ⟨bk,0,none⟩) n c,.int .i64 (a:Int),.int .i64 (b:Int)] (h++[jbU bk xs junk]) fun v h'=>v= .tuple [].toArray∧ ∃ys,h'=h++[jbU bk ys junk]∧Sw a b xs ys∧SortR ys a b:=by
 refine jaf Tryz.func181 rfl rfl (l:=(.slice (some ⟨bk,0,none⟩) n c)::(.int .i64 (a:Int))::(.int .i64 (b:Int))::uu46) rfl ?_
 intro cf cs K hK
 refine Z7 ?_
 refine jai (fun nn l h'=> ∃(i:Nat) (ys:List Int),nn=b-i∧(a+1≤i)∧(i≤max (a+1) b)∧(Sw a b xs ys)∧(SortR ys a i)∧(∃U:Nat→Value,l=((.slice (some ⟨bk,0,none⟩) n c)::(.int .i64 (a:Int))::(.int .i64 (b:Int))::(U 3)::(U 4)::(U 5)::(.int .i64 (i:Int))::vw42 U 7 []))∧h++[jbU bk ys junk]=h') _ ⟨a+1,xs,rfl,by omega,by omega,.refl _,fun p q h1 h2 h3=>by omega,exU rfl,rfl⟩ ?_;rintro nn l h' ⟨i,ys,rfl,hi1,hi2,hsw,hso,⟨U,rfl⟩,rfl⟩ hnext1;have hyl:=hsw.length
 refine Z5 ?_
 refine jao rfl zq (fun hc=>?_) (fun hc=>?_)
 ·refine Z11 ?_
  refine jai (fun nn l h'=> ∃(j:Nat) (zs:List Int),nn=j+1∧(a≤j)∧(j≤i)∧(Sw a b xs zs)∧(Ins zs a i j)∧(∃U:Nat→Value,l=((.slice (some ⟨bk,0,none⟩) n c)::(.int .i64 (a:Int))::(.int .i64 (b:Int))::(U 3)::(U 4)::(U 5)::(.int .i64 (i:Int))::(.int .i64 (j:Int))::vw41 U 8 []))∧h++[jbU bk zs junk]=h') _ ⟨i,ys,rfl,by omega,by omega,hsw,Ins.start hso,exU rfl,rfl⟩ ?_;rintro nn l h' ⟨j,zs,rfl,hj1,hj2,hzw,hin,⟨U,rfl⟩,rfl⟩ hnext2;have hzl:=hzw.length
  refine Z2 ?_;refine jar [Zp 0,Zp 1,Zp 2,Zp 3,Zp 4,Zp 5,Zp 6,Zp 8,Zp 9,Zp 10,Zp 11,Zr 7,Zr 12,Zk 13,Zp 14] zK zK (List.Sublist.refl _) ?_;refine Z2 ?_
  refine jaY rfl zq (fun hc=>?_) (fun hc=>?_)
  ·refine Z3 ?_;refine D8 ?_;refine Z2 ?_;refine D95 ?_;refine D8 ?_;refine jaW rfl rfl (jaQ j rfl zO) ?_;refine jaW rfl rfl (jaQ (j-1) zO zO) ?_;refine D15 ?_
   rintro v (⟨hc,rfl⟩|⟨hc,rfl⟩)
   ·refine Z7 ?_;refine D11 ?_;refine Z8 ?_;refine jqC ?_;refine D88 ?_;refine jaW rfl zq (jaQ j rfl zO) ?_;refine D0 ?_
    haveI hs1:=setSeg_ints (xs:=zs) (junk:=junk) (v:=zs.getD (j-1) 0) (i:=(j:Int)) (k:=j) rfl zO
    refine joq ?_
    haveI hs2:=setSeg_ints (xs:=zs.set j (zs.getD (j-1) 0)) (junk:=junk) (v:=zs.getD j 0) (i:=(j:Int)-1) (k:=j-1) zO zN
    refine D9 ?_
    rw [jb9];refine Z7 ?_
    have ej:(j:Int)-1=((j-1:Nat):Int):=by omega
    rw [ej];exact m.weak jab (hnext2 _ _ _ zO ⟨j-1,jbR zs j (j-1),rfl,by omega,by omega,.step j (j-1) ⟨by omega,by omega⟩ ⟨by omega,by omega⟩ hzw,hin.step zO zO zO zO,exU rfl,rfl⟩)
   ·refine Z11 ?_
    exact E1
  ·refine Z21 ?_
   exact E1
 ·refine Z3 ?_;refine jdm rfl ?_;refine jad (h++[jbU bk ys junk]) rfl Tryz.func181 rfl jab ?_;refine Zs ?_
  refine ⟨rfl,ys,rfl,hsw,fun p q h1 h2 h3=>?_⟩
  by_cases e:a<b
  ·exact hso p q h1 h2 zO
  ·omega
theorem f191_c (m:Md Tryz.prog B) (h:Hp) (x:Int) (hx:0≤x∧x<65536):FnC m 191 #[.int .u64 x] h fun v h'=>h'=h∧ ∃k:Int,v= .int .i64 k∧0≤k∧k≤1000:=by
 refine jaf Tryz.func191 rfl rfl (l:=(.int .u64 x)::jpn) rfl ?_
 intro cf cs K hK
 refine Z8 ?_
 refine jcH rfl zq (fun hc=>?_) (fun hc=>?_)
 ·exfalso
  omega
 ·refine Z7 ?_
  refine jcH rfl zq (fun hc=>?_) (fun hc=>?_)
  ·exfalso
   omega
  ·refine Z7 ?_
   refine jcH rfl zq (fun hc=>?_) (fun hc=>?_);refine Z5 ?_
   have hq:x.fdiv (2^(min (8:Int).toNat IntKind.u64.bits))=x/256:=by
    rw [Int.fdiv_eq_ediv_of_nonneg _ zA];rfl
   refine k_shr (x/256) rfl zq zA hq ?_;refine Z7 ?_;rotate_left
   refine Z3 ?_
   all_goals
    refine Z4 ?_
    first
     |refine jbg rfl zq zK (n':=x) zL ?_
     |refine jbg rfl zq zK (n':=x/256) zL ?_
    refine k_ixS (n:=256) rfl zq zK zK zO zO (fun b8=>jae ?_);have hb8:=b8.toNat_lt
    refine jbg rfl zq zK (n':=(b8.toNat:Int)) zL ?_;refine Z4 ?_;refine jad (h) rfl Tryz.func191 rfl jab ?_;refine Zs ?_;exact ⟨rfl,_,rfl,by omega,by omega⟩
theorem f151_c (m:Md Tryz.prog B) (h:Hp) (x:Int) (hx:0≤x∧x<65536):FnC m 151 #[.int .u64 x] h fun v h'=>h'=h∧ ∃k:Int,v= .int .i64 k∧0≤k∧k≤1000:=by
 refine jaf Tryz.func151 rfl rfl (l:=(.int .u64 x)::uu7) rfl ?_
 intro cf cs K hK
 refine Z10 ?_;refine jag rfl zq zK (fun H' hH=>f191_c m H' _ hx) ?_
 rintro v ⟨k,rfl,hk0,hk1⟩;refine Z4 ?_;refine jad (h) rfl Tryz.func151 rfl jab ?_;refine Zs ?_
 exact ⟨rfl,_,rfl,hk0,hk1⟩
end
section
def PdqC {B:Array Obj} (m:Md Tryz.prog B) (N:Nat):Prop:= ∀(h:Hp) (bk n c:Nat) (xs:List Int) (junk:List Value) (lim:Int),xs.length=n→n≤N→0≤lim→lim≤1000→
 FnC m 150 #[.slice (some ⟨bk,0,none⟩) n c,.int .i64 0,.int .i64 (n:Int),.int .i64 lim] (h++[jbU bk xs junk]) fun v h'=>v= .tuple [].toArray∧ ∃ys,h'=h++[jbU bk ys junk]∧Sw 0 n xs ys∧SortR ys 0 n
def jdE (xs:List Int):Nat→List Int
 |0=>[]
 |t+1=>jdE xs t++if t=0∨xs.getD t 0≠xs.getD (t-1) 0 then [xs.getD t 0] else []
theorem ji2 (xs:List Int): ∀t,t≤xs.length→(∀i,0<i→i<t→xs.getD i 0≠xs.getD (i-1) 0)→jdE xs t=xs.take t
 |0,_,_=>rfl
 |t+1,h,hd=>by
  rw [jdE,ji2 xs t zO (fun i h1 h2=>hd i h1 zO),take_snoc' xs t zO,if_pos];by_cases e:t=0
  ·exact .inl e
  ·exact .inr (hd t zO zO)
theorem jlA {k:Nat} {v:Int} (h:k<ys.length):(ys.set k v).take (k+1)=ys.take k++[v]:=take_set h
theorem joH {c:Nat} (hl:ys.length=n) (hj:n+junk.length=c):OwnS 3 1 (.slice (some ⟨bk,0,none⟩) n c) n (jaI ys) [jbU bk ys junk]:=
 .blk (by simp [hl]) (by simp [hl];omega) zO
theorem own_cut {c k:Nat} (hl:ys.length=n) (hj:n+junk.length=c) (hk:k≤n):OwnS 3 1 (.slice (some ⟨bk,0,none⟩) k c) k (jaI (ys.take k)) [jbU bk ys junk]:=by
 have:=(joH (bk:=bk) hl hj).pre (m:=k) hk
 rwa [Nat.mul_one,←jjM] at this
theorem f100_c (m:Md Tryz.prog B) (h:Hp) {c:Nat} (hl:xs.length=n) (hj:n+junk.length=c) (hn:n≤100000):FnC m 100 #[.slice (some ⟨bk,0,none⟩) n c] (h++[jbU bk xs junk]) fun v h'=> ∃nw,h'=h++nw∧ ∃k,k=(jdE xs n).length∧OwnS 3 1 v k (jaI (jdE xs n)) nw:=by
 refine jaf Tryz.func100 rfl rfl (l:=(.slice (some ⟨bk,0,none⟩) n c)::uu60) rfl ?_
 intro cf cs K hK
 refine Z9 ?_
 refine jao rfl zq (fun hc=>?_) (fun hc=>?_)
 ·refine Z8 ?_;refine jad (h++[jbU bk xs junk]) rfl Tryz.func100 rfl jab ?_;refine Zs ?_
  have hall:jdE xs n=xs:=by rw [ji2 xs n zO (fun i h1 h2=>by omega),List.take_of_length_le zO]
  exact ⟨_,rfl,n,by rw [hall,hl],by rw [hall];exact joH hl hj⟩
 ·refine Z9 ?_
  refine jai (fun nn l h'=> ∃(k:Nat),nn=n-k∧(1≤k)∧(k≤n)∧(∀i,0<i→i<k→xs.getD i 0≠xs.getD (i-1) 0)∧(∃U:Nat→Value,l=((.slice (some ⟨bk,0,none⟩) n c)::(U 1)::(U 2)::(.int .i64 (k:Int))::vw57 U 4 []))∧h++[jbU bk xs junk]=h') _ ⟨1,rfl,by omega,by omega,fun i h1 h2=>by omega,exU rfl,rfl⟩ ?_;rintro nn l h' ⟨k,rfl,hk1,hk2,hd,⟨U,rfl⟩,rfl⟩ hnext1;have hu:=ji2 xs k zO hd
  refine Z6 ?_
  refine jao rfl zq (fun hc=>?_) (fun hc=>?_)
  ·refine Z6 ?_;refine D62 ?_;refine D123 ?_;refine Z3 ?_;refine D0 ?_;refine jaW rfl zq (jaQ k rfl zO) ?_;refine jaW rfl zq (jaQ (k-1) zO zO) ?_
   refine jaS rfl zq (fun hc=>?_) (fun hc=>?_)
   ·refine Z6 ?_;refine jiR (a:=k) rfl zq rfl zO ?_
    rw [juu zO];refine Z5 ?_
    have hu1:jdE xs (k+1)=xs.take k:=by rw [jdE,if_neg (by rintro (e|e)<;>omega),List.append_nil,hu]
    refine Z3 ?_
    refine jai (fun nn l h'=> ∃(j e:Nat) (ys:List Int),nn=n-j∧(1≤j)∧(k+j≤n)∧(e=(jdE xs (k+j)).length)∧(e<k+j)∧(k≤e)∧(ys.length=n)∧(ys.take e=jdE xs (k+j))∧(∀i,k+j≤i+1→ys.getD i 0=xs.getD i 0)∧(∃U:Nat→Value,l=((.slice (some ⟨bk,0,none⟩) n c)::(U 1)::(U 2)::(.int .i64 (e:Int))::(.slice (some ⟨bk,k,none⟩) (n-k) (c-k))::(.int .i64 (j:Int))::vw55 U 6 []))∧h++[jbU bk ys junk]=h') _ ⟨1,k,xs,rfl,by omega,by omega,by rw [hu1,List.length_take];omega,by omega,by omega,hl,by rw [hu1],fun i hi=>rfl,exU rfl,rfl⟩ ?_;rintro nn l h' ⟨j,e,ys,rfl,hj1,hj2,he,hek,hke,hyl,hyt,hys,⟨U,rfl⟩,rfl⟩ hnext2;refine Z6 ?_
    refine jao rfl zq (fun hc=>?_) (fun hc=>?_)
    ·refine Z6 ?_;refine D62 ?_
     have hy1:=hys (k+j) zO
     have hy2:=hys (k+(j-1)) zO
     refine D123 ?_;refine Z3 ?_;refine D0 ?_;refine jaW rfl zq (joF j rfl zO) ?_;refine jaW rfl zq (joF (j-1) zO zO) ?_
     rw [hy1,hy2];refine jbK rfl zq (fun hc=>?_) (fun hc=>?_)
     ·have hU:jdE xs (k+(j+1))=jdE xs (k+j)++[xs.getD (k+j) 0]:=by
       rw [show k+(j+1)=(k+j)+1 by omega,jdE,if_pos (.inr (by rw [show k+j-1=k+(j-1) by omega];exact hc))]
      refine Z8 ?_;refine D0 ?_;refine jaW rfl zq (joF j rfl zO) ?_
      rw [hy1];refine D0 ?_
      haveI hs1:=setSeg_ints (xs:=ys) (junk:=junk) (v:=xs.getD (k+j) 0) (i:=(e:Int)) (k:=e) rfl zO
      refine D9 ?_;refine Z12 ?_
      exact m.weak jab (hnext2 _ _ _ zO ⟨j+1,e+1,ys.set e (xs.getD (k+j) 0),rfl,by omega,by omega,by rw [hU,List.length_append,←he];rfl,by omega,by omega,by simp [hyl],by rw [jlA zO,hyt,hU],fun i hi=>by rw [jmg zO,if_neg zO];exact hys i zO,exU rfl,rfl⟩)
     ·have hU:jdE xs (k+(j+1))=jdE xs (k+j):=by
       rw [show k+(j+1)=(k+j)+1 by omega,jdE,if_neg (fun y=>y.elim (fun x=>by omega) (fun x=>x (by rw [show k+j-1=k+(j-1) by omega];exact hc))),List.append_nil]
      refine Z9 ?_
      exact m.weak jab (hnext2 _ _ _ zO ⟨j+1,e,ys,rfl,by omega,by omega,by rw [hU,←he],by omega,by omega,hyl,by rw [hU,hyt],fun i hi=>hys i zO,exU rfl,rfl⟩)
    ·refine Z5 ?_
     obtain rfl:n=k+j:=by omega
     refine Z2 ?_;refine jiR (a:=e) rfl zq rfl zO ?_;refine k_clear rfl zq hyl zO zO ?_;refine Z5 ?_;refine jp8 (b:=e) rfl zq (.inr ⟨_,_,rfl⟩) rfl zO ?_;refine Z3 ?_;refine jad (h++[jbU bk (ys.take e++List.replicate (k+j-e) 0) junk]) rfl Tryz.func100 rfl jab ?_;refine Zs ?_
     refine ⟨_,rfl,e,he,?_⟩
     have:=own_cut (bk:=bk) (n:=k+j) (c:=c) (k:=e) (ys:=ys.take e++List.replicate (k+j-e) 0) (junk:=junk) zN hj zO
     rw [List.take_append_of_le_length zN,List.take_take,Nat.min_self,hyt] at this
     rw [hyt];exact this
   ·refine Z9 ?_
    exact m.weak jab (hnext1 _ _ _ zO ⟨k+1,rfl,by omega,by omega,fun i h1 h2=>by
     rcases Nat.lt_or_ge i k with h3|h3
     ·exact hd i h1 h3
     ·obtain rfl:i=k:=by omega
      assumption,exU rfl,rfl⟩)
  ·refine Z9 ?_;refine jad (h++[jbU bk xs junk]) rfl Tryz.func100 rfl jab ?_;refine Zs ?_
   obtain rfl:k=n:=by omega
   have hall:jdE xs k=xs:=by rw [hu,List.take_of_length_le zO]
   exact ⟨_,rfl,k,by rw [hall,hl],by rw [hall];exact joH hl hj⟩
theorem f99_c (m:Md Tryz.prog B) (h:Hp) {N:Nat} (hP:PdqC m N) (hN:N≤60000) {c:Nat} (hl:xs.length=n) (hn:n≤N):FnC m 99 #[.slice (some ⟨bk,0,none⟩) n c] (h++[jbU bk xs junk]) fun v h'=>v= .tuple [].toArray∧ ∃ys,h'=h++[jbU bk ys junk]∧Sw 0 n xs ys∧SortR ys 0 n:=by
 refine jaf Tryz.func99 rfl rfl (l:=(.slice (some ⟨bk,0,none⟩) n c)::uu10) rfl ?_
 intro cf cs K hK
 refine Z10 ?_;refine jbg rfl zq zK (n':=(n:Int)) zL ?_;refine jag rfl zq zK (fun H' hH=>f151_c m H' _ zO) ?_
 rintro v ⟨lim,rfl,hk0,hk1⟩;refine Zs ?_;refine ja7 rfl zq zK (hP h bk n c xs junk lim hl hn hk0 hk1) ?_
 rintro v h' ⟨rfl,ys,rfl,hsw,hso⟩;refine Z2 ?_;refine jdm rfl ?_;refine jad (h++[jbU bk ys junk]) rfl Tryz.func99 rfl jab ?_;refine Zs ?_
 exact ⟨rfl,ys,rfl,hsw,hso⟩
section
variable {m:Md P B}
end
def juy:List Int→List Int→Int
 |[],[]=>0
 |[],_::_=> -1
 |_::_,[]=>1
 |a::r,b::s=>if a<b then-1 else if b<a then 1 else juy r s
theorem jhp (xs:List Int) (k:Nat) (h:k<xs.length):xs.drop k=xs.getD k 0::xs.drop (k+1):=by
 rw [List.drop_eq_getElem_cons h,List.getD_eq_getElem?_getD,List.getElem?_eq_getElem h];rfl
theorem jux {k:Nat} (h1:k<xs.length) (h2:k<ys.length):juy (xs.drop k) (ys.drop k)=if xs.getD k 0<ys.getD k 0 then-1 else if ys.getD k 0<xs.getD k 0 then 1 else juy (xs.drop (k+1)) (ys.drop (k+1)):=by
 rw [jhp xs k h1,jhp ys k h2];rfl
theorem sgn_ne (h:(if a<b then (-1:Int) else if b<a then 1 else 0)≠0):(if a<b then (-1:Int) else if b<a then 1 else 0)=if a<b then-1 else if b<a then 1 else z:=by
 split
 ·rfl
 ·rename_i h1
  rw [if_neg h1] at h
  split
  ·rfl
  ·rename_i h2
   rw [if_neg h2] at h
   exact absurd rfl h
theorem sgn_eq (h:(if a<b then (-1:Int) else if b<a then 1 else 0)=0):(if a<b then (-1:Int) else if b<a then 1 else z)=z:=by
 split
 ·rename_i h1
  rw [if_pos h1] at h
  cases h
 ·rename_i h1
  rw [if_neg h1] at h
  split
  ·rename_i h2
   rw [if_pos h2] at h
   cases h
  ·rfl
theorem jmq {k:Nat} (h1:k≤xs.length) (h2:k≤ys.length) (h:xs.length=k∨ys.length=k):juy (xs.drop k) (ys.drop k)=if k<xs.length then 1 else if k<ys.length then-1 else 0:=by
 by_cases e:k<xs.length
 ·rw [if_pos e,jhp xs k e,(List.drop_eq_nil_of_le zO:ys.drop k=[])];rfl
 ·rw [if_neg e,(List.drop_eq_nil_of_le zO:xs.drop k=[])];by_cases e2:k<ys.length
  ·rw [if_pos e2,jhp ys k e2];rfl
  ·rw [if_neg e2,(List.drop_eq_nil_of_le zO:ys.drop k=[])];rfl
theorem f227_c (m:Md Tryz.prog B) (h:Hp) (x y:Int):FnC m 227 #[.int .i64 x,.int .i64 y] h fun v h'=>h'=h∧v= .int .i64 (if x<y then-1 else if y<x then 1 else 0):=by
 refine jaf Tryz.func227 rfl rfl (l:=(.int .i64 x)::(.int .i64 y)::uu18) rfl ?_
 intro cf cs K hK
 refine Z7 ?_;refine D97 ?_
 rintro v rfl;refine Z6 ?_;refine D97 ?_
 rintro v rfl;refine Z22 ?_
 refine jao rfl zq (fun hc=>?_) (fun hc=>?_)
 ·refine Z7 ?_;refine jad (h) rfl Tryz.func227 rfl jab ?_;refine Zs ?_
  exact E2
 ·refine Z8 ?_
  refine jaY rfl zq (fun hc=>?_) (fun hc=>?_);refine Z2 ?_
  rotate_left
  refine Z3 ?_
  all_goals
   refine Z5 ?_;refine jad (h) rfl Tryz.func227 rfl jab ?_;refine Zs ?_
   exact E2
theorem f210_c (m:Md Tryz.prog B) (h:Hp) {c:Nat} (rd:RdS B h 1 (.slice p n c) n (jaI xs)) (hn:n≤1000000) {n2 c2:Nat} (rd2:RdS B h 1 (.slice p2 n2 c2) n2 (jaI ys)):FnC m 210 #[.slice p n c,.slice p2 n2 c2] h fun v h'=>h'=h∧v= .int .i64 (juy xs ys):=by
 have hl:=rd.ilen
 have hl2:=rd2.ilen
 refine jaf Tryz.func210 rfl rfl (l:=(.slice p n c)::(.slice p2 n2 c2)::uu34) rfl ?_
 intro cf cs K hK
 refine Z12 ?_
 refine jai (fun nn l h'=> ∃(k:Nat),nn=n-k∧(k≤n)∧(k≤n2)∧(juy xs ys=juy (xs.drop k) (ys.drop k))∧(∃U:Nat→Value,l=((.slice p n c)::(.slice p2 n2 c2)::vw7 U 2 ((.slice p n c)::(.int .i64 (n:Int))::(.int .i64 (k:Int))::vw24 U 12 [])))∧h=h') _ ⟨0,rfl,by omega,by omega,rfl,exU rfl,rfl⟩ ?_;rintro nn l h' ⟨k,rfl,hk,hk2,he,⟨U,rfl⟩,rfl⟩ hnext;refine Z2 ?_
 refine jao rfl zq (fun hc=>?_) (fun hc=>?_)
 ·refine Z9 ?_
  obtain ⟨rd_b,rd_o,rfl⟩:=rd.ptr zO
  refine D0 ?_;refine jaW rfl zq (rd.iat k zO zO) ?_;refine Z9 ?_
  refine jcH rfl zq (fun hc=>?_) (fun hc=>?_)
  ·refine Z7 ?_;refine D117 ?_;refine Zs ?_
   exact ⟨rfl,by rw [he,jmq zO zO zO,if_pos zO]⟩
  ·refine Z7 ?_
   obtain ⟨rd2_b,rd2_o,rfl⟩:=rd2.ptr zO
   refine D0 ?_;refine jaW rfl zq (rd2.iat k zO zO) ?_;refine Z6 ?_;refine jag (Post:=fun v=>v=_) rfl zq zK (fun H' hH=>f227_c m H' _ _) ?_
   rintro v rfl;refine Z5 ?_
   have hcd:=jux (xs:=xs) (ys:=ys) (k:=k) zO zO
   refine Zs ?_
   refine jbK rfl zq (fun hc=>?_) (fun hc=>?_)
   ·refine Z8 ?_;refine D117 ?_;refine Zs ?_
    exact ⟨rfl,by rw [he,hcd];exact congrArg _ (sgn_ne hc)⟩
   ·have hcz:=hc
    refine Z8 ?_
    exact m.weak jab (hnext _ _ _ zO ⟨k+1,rfl,by omega,by omega,by rw [he,hcd,sgn_eq hcz],exU rfl,rfl⟩)
 ·refine Z11 ?_
  refine jao rfl zq (fun hc=>?_) (fun hc=>?_)
  ·refine Z7 ?_;refine D117 ?_;refine Zs ?_
   exact ⟨rfl,by rw [he,jmq zO zO zO,if_neg zO,if_pos zO]⟩
  ·refine Z8 ?_;refine D117 ?_;refine Zs ?_
   exact ⟨rfl,by rw [he,jmq zO zO zO,if_neg zO,if_neg zO]⟩
def bitN (mm k:Nat):Nat:=(mm/2^k)%2
def jb6 (mm k:Nat):List Int:=(jeT k).filter fun i=>decide (bitN mm i.toNat=1)
def w1 (o:Option Nat) (n:Nat):Nat:=match o with|none=>0|some s=>if s=2*n then 2 else 1
section
variable {m:Md P B}
theorem jfc {x:Operand} {w:Int} (a k:Nat) (ho:ops[i]?=some ⟨d,.binOp .quo t x y u,ty,pos,af,g⟩) (hw:Wt ops l g) [KHeap kd S h H] [ex:OpV l x (.int .i64 z)] [ey:OpV l y (.int .i64 w)] (hz:z=a) (hk:w=k) (h0:0<k) (ha:a≤10000000) [PutV l d (.int .i64 ((a/k:Nat):Int)) l'] (q:RegK m S ops r l' h C):RegK m S ops ((i,kd)::r) l h C:=
 RegK.rd (v:= .int .i64 ((a/k:Nat):Int)) ho hw (jbm ex.eq ey.eq zS (by
  subst hz
  subst hk
  have:(k:Int)≠0:=by omega
  have hle:=Nat.div_le_self a k
  have h64:jfx ((a/k:Nat):Int):=by generalize a/k=q at hle⊢;unfold jfx;omega
  simp only [binOp,Op.intDiv,if_neg this,←Int.ofNat_tdiv,jew h64]
  rfl)) q
end
theorem f216_c (m:Md Tryz.prog B) (h:Hp) {c:Nat} (hl:xs.length=n) (hn:n≤100000) (lo hi f:Nat) (hlo:lo≤100000) (hb:f+hi≤n) (hh:HeapF xs f (lo+1) hi):FnC m 216 #[.slice (some ⟨bk,0,none⟩) n c,.int .i64 (lo:Int),.int .i64 (hi:Int),.int .i64 (f:Int)] (h++[jbU bk xs junk]) fun v h'=>v= .tuple [].toArray∧ ∃ys,h'=h++[jbU bk ys junk]∧Sw (f+lo) (f+hi) xs ys∧HeapF ys f lo hi:=by
 refine jaf Tryz.func216 rfl rfl (l:=(.slice (some ⟨bk,0,none⟩) n c)::(.int .i64 (lo:Int))::(.int .i64 (hi:Int))::(.int .i64 (f:Int))::uu72) rfl ?_
 intro cf cs K hK
 refine Z6 ?_
 refine jai (fun nn l h'=> ∃(root:Nat) (ys:List Int),nn=100000+hi-root∧(lo≤root)∧(root≤100000)∧(Sw (f+lo) (f+hi) xs ys)∧(HeapR ys f lo hi root)∧(∃U:Nat→Value,l=((.slice (some ⟨bk,0,none⟩) n c)::(.int .i64 (lo:Int))::(.int .i64 (hi:Int))::(.int .i64 (f:Int))::vw4 U 4 ((.int .i64 (root:Int))::vw67 U 9 [])))∧h++[jbU bk ys junk]=h') _ ⟨lo,xs,rfl,by omega,by omega,.refl _,HeapR.start hh,exU rfl,rfl⟩ ?_;rintro nn l h' ⟨root,ys,rfl,hr1,hr2,hsw,hre,⟨U,rfl⟩,rfl⟩ hnext;have hyl:=hsw.length
 refine Z4 ?_;refine D23 ?_;refine Z8 ?_
 refine jcH rfl zq (fun hc=>?_) (fun hc=>?_)
 ·refine Z3 ?_;refine jdm rfl ?_;refine D113 ?_;refine Zs ?_
  first
   |exact E5
   |exact E6
 ·refine Z5 ?_;refine jar [Zp 0,Zp 1,Zp 2,Zp 3,Zp 4,Zp 5,Zp 6,Zp 7,Zp 8,Zp 9,Zp 11,Zp 12,Zp 13,Zp 14,Zp 15,Zp 16,Zr 10,Zr 17,Zk 18,Zp 19] zK zK (List.Sublist.refl _) ?_;refine Z3 ?_
  refine jao rfl zq (fun hc=>?_) (fun hc=>?_)
  ·refine Z4 ?_;refine jrz rfl rfl (by unfold jfx;omega) ?_;refine D8 ?_;refine Z3 ?_;refine jrz rfl rfl (by unfold jfx;omega) ?_;refine jrz rfl rfl (by unfold jfx;omega) ?_;refine D8 ?_;refine jaW rfl rfl (jaQ (f+(2*root+1)) zO zO) ?_;refine jaW rfl rfl (jaQ (f+(2*root+2)) zO zO) ?_;refine D15 ?_
   rintro v (⟨hc,rfl⟩|⟨hc,rfl⟩);refine Z7 ?_
   obtain ⟨ch,hce,hch,hmax⟩: ∃ch:Nat,2*(root:Int)+1+1=(ch:Int)∧(ch=2*root+1∨ch=2*root+2)∧ ∀c,(c=2*root+1∨c=2*root+2)→c<hi→ys.getD (f+c) 0≤ys.getD (f+ch) 0:=⟨2*root+2,by omega,.inr rfl,fun c h1 h2=>by
    rcases h1 with h1|h1<;>rw [h1]<;>omega⟩
   rw [hce];refine Z2 ?_
   rotate_left
   refine Zs ?_
   obtain ⟨ch,hce,hch,hmax⟩: ∃ch:Nat,2*(root:Int)+1=(ch:Int)∧(ch=2*root+1∨ch=2*root+2)∧ ∀c,(c=2*root+1∨c=2*root+2)→c<hi→ys.getD (f+c) 0≤ys.getD (f+ch) 0:=⟨2*root+1,by omega,.inl rfl,fun c h1 h2=>by
    rcases h1 with h1|h1<;>rw [h1]<;>omega⟩
   rw [hce];refine Z4 ?_
   all_goals
    refine Z2 ?_;refine D42 ?_;refine Z4 ?_;refine D0 ?_;refine Z4 ?_;refine D0 ?_;refine D105 ?_;refine D106 ?_;refine D43 ?_
    rintro v (⟨hc,rfl⟩|⟨hc,rfl⟩)
    ·refine Z6 ?_;refine D21 ?_;refine Z12 ?_;refine D0 ?_;refine Z4 ?_;refine D0 ?_;refine D106 ?_;refine D105 ?_;refine D0 ?_
     haveI hs1:=setSeg_ints (xs:=ys) (junk:=junk) (v:=ys.getD (f+ch) 0) (i:=(f:Int)+(root:Int)) (k:=f+root) zO zO
     refine joq ?_
     haveI hs2:=setSeg_ints (xs:=ys.set (f+root) (ys.getD (f+ch) 0)) (junk:=junk) (v:=ys.getD (f+root) 0) (i:=(f:Int)+(ch:Int)) (k:=f+ch) zO zN
     refine D9 ?_
     rw [jb9];refine Z6 ?_
     exact E7
    ·refine Z5 ?_;refine D113 ?_;refine Zs ?_
     first
      |exact E5
      |exact E6
  ·obtain ⟨ch,hce,hch,hmax⟩: ∃ch:Nat,2*(root:Int)+1=(ch:Int)∧(ch=2*root+1∨ch=2*root+2)∧ ∀c,(c=2*root+1∨c=2*root+2)→c<hi→ys.getD (f+c) 0≤ys.getD (f+ch) 0:=⟨2*root+1,by omega,.inl rfl,fun c h1 h2=>by
    rw [show c=2*root+1 by omega];omega⟩
   rw [hce];refine Z21 ?_;refine D42 ?_;refine Z4 ?_;refine D0 ?_;refine Z4 ?_;refine D0 ?_;refine D105 ?_;refine D106 ?_;refine D43 ?_
   rintro v (⟨hc,rfl⟩|⟨hc,rfl⟩)
   ·refine Z6 ?_;refine D21 ?_;refine Z12 ?_;refine D0 ?_;refine Z4 ?_;refine D0 ?_;refine D106 ?_;refine D105 ?_;refine D0 ?_
    haveI hs1:=setSeg_ints (xs:=ys) (junk:=junk) (v:=ys.getD (f+ch) 0) (i:=(f:Int)+(root:Int)) (k:=f+root) zO zO
    refine joq ?_
    haveI hs2:=setSeg_ints (xs:=ys.set (f+root) (ys.getD (f+ch) 0)) (junk:=junk) (v:=ys.getD (f+root) 0) (i:=(f:Int)+(ch:Int)) (k:=f+ch) zO zN
    refine D9 ?_
    rw [jb9];refine Z6 ?_
    exact E7
   ·refine Z5 ?_;refine D113 ?_;refine Zs ?_
    first
     |exact E5
     |exact E6
theorem f182_c (m:Md Tryz.prog B) (h:Hp) {c:Nat} (hl:xs.length=n) (hn:n≤100000) (a b:Nat) (hab:a<b) (hb:b≤n):FnC m 182 #[.slice (some ⟨bk,0,none⟩) n c,.int .i64 (a:Int),.int .i64 (b:Int)] (h++[jbU bk xs junk]) fun v h'=>v= .tuple [].toArray∧ ∃ys,h'=h++[jbU bk ys junk]∧Sw a b xs ys∧SortR ys a b:=by
 refine jaf Tryz.func182 rfl rfl (l:=(.slice (some ⟨bk,0,none⟩) n c)::(.int .i64 (a:Int))::(.int .i64 (b:Int))::uu53) rfl ?_
 intro cf cs K hK
 refine Z14 ?_
 obtain ⟨w,hwe⟩: ∃w:Nat,(b:Int)-(a:Int)=(w:Int):=⟨b-a,by omega⟩
 have hwn:w=b-a:=by omega
 rw [hwe];refine Z7 ?_;refine jfc (w-1) 2 rfl zq zO rfl zO zO ?_;refine Z3 ?_
 refine jai (fun nn l h'=> ∃(j:Nat) (z:Int) (ys:List Int),nn=j+1∧(z=(j:Int)-1)∧(j≤100000)∧(Sw a b xs ys)∧(HeapF ys a j w)∧(∃U:Nat→Value,l=((.slice (some ⟨bk,0,none⟩) n c)::(.int .i64 (a:Int))::(.int .i64 (b:Int))::(U 3)::(U 4)::(U 5)::(.int .i64 (a:Int))::(.int .i64 0)::(.int .i64 (w:Int))::(.int .i64 z)::vw46 U 10 []))∧h++[jbU bk ys junk]=h') _ ⟨(w-1)/2+1,_,xs,rfl,by omega,by omega,.refl _,HeapF.empty zO,exU rfl,rfl⟩ ?_;rintro nn l h' ⟨j,z,ys,rfl,hz,hj,hsw,hhf,⟨U,rfl⟩,rfl⟩ hnext1;have hyl:=hsw.length
 refine Z4 ?_
 refine jcH rfl zq (fun hc=>?_) (fun hc=>?_)
 ·refine Z5 ?_
  obtain ⟨i,rfl⟩: ∃i:Nat,z=(i:Int):=⟨z.toNat,by omega⟩
  obtain rfl:j=i+1:=by omega
  refine Z5 ?_;refine ja7 rfl zq zK (f216_c m h zO hn i w a zO zO hhf) ?_
  rintro v h' ⟨rfl,zs,rfl,hzw,hzf⟩;refine Z8 ?_
  exact m.weak jab (hnext1 _ _ _ zO ⟨i,_,zs,rfl,by omega,by omega,hsw.trans (hzw.mono zO zO),hzf,exU rfl,rfl⟩)
 ·refine Z5 ?_
  obtain rfl:j=0:=by omega
  refine Z5 ?_
  refine jai (fun nn l h'=> ∃(j:Nat) (z:Int) (us:List Int),nn=j+1∧(z=(j:Int)-1)∧(j≤w)∧(Sw a b xs us)∧(Pop us a b j)∧(∃U:Nat→Value,l=((.slice (some ⟨bk,0,none⟩) n c)::(.int .i64 (a:Int))::(.int .i64 (b:Int))::(U 3)::(U 4)::(U 5)::(.int .i64 (a:Int))::(.int .i64 0)::(U 8)::(U 9)::(.int .i64 z)::vw45 U 11 []))∧h++[jbU bk us junk]=h') _ ⟨w,_,ys,rfl,by omega,by omega,hsw,by rw [hwn];exact Pop.start (hwn▸hhf) zO,exU rfl,rfl⟩ ?_;rintro nn l h' ⟨j,z,us,rfl,hz2,hj2,hsw2,hpop,⟨U,rfl⟩,rfl⟩ hnext2;have hul:=hsw2.length
  refine Z4 ?_
  refine jcH rfl zq (fun hc=>?_) (fun hc=>?_)
  ·refine Z6 ?_
   obtain ⟨i,rfl⟩: ∃i:Nat,z=(i:Int):=⟨z.toNat,by omega⟩
   obtain rfl:j=i+1:=by omega
   refine D32 ?_;refine Z10 ?_;refine jqC ?_;refine jaW rfl zq (jaQ (a+i) zO zO) ?_;refine D72 ?_;refine D0 ?_
   haveI hs1:=setSeg_ints (xs:=us) (junk:=junk) (v:=us.getD (a+i) 0) (i:=(a:Int)) (k:=a) zO zO
   refine joq ?_
   haveI hs2:=setSeg_ints (xs:=us.set (a) (us.getD (a+i) 0)) (junk:=junk) (v:=us.getD (a) 0) (i:=(a:Int)+(i:Int)) (k:=a+i) zO zN
   refine D9 ?_
   rw [jb9];refine Z6 ?_;refine ja7 rfl zq zK (f216_c m h (by rw [jdy];omega) hn 0 i a zO zO (hpop.1.cut zO)) ?_
   rintro v h' ⟨rfl,zs,rfl,hzw,hzf⟩;refine Z8 ?_
   exact m.weak jab (hnext2 _ _ _ zO ⟨i,_,zs,rfl,by omega,by omega,(Sw.step a (a+i) ⟨by omega,by omega⟩ ⟨by omega,by omega⟩ hsw2).trans (hzw.mono zO zO),hpop.step zO zO hzw hzf,exU rfl,rfl⟩)
  ·refine Z3 ?_;refine jdm rfl ?_;refine jad (h++[jbU bk us junk]) rfl Tryz.func182 rfl jab ?_;refine Zs ?_
   obtain rfl:j=0:=by omega
   exact ⟨rfl,us,rfl,hsw2,hpop.2.1⟩
theorem f185_c (m:Md Tryz.prog B) (h:Hp) {c:Nat} (hl:xs.length=n) (hn:n≤100000) (a b:Nat) (hab:a<b) (hb:b≤n):FnC m 185 #[.slice (some ⟨bk,0,none⟩) n c,.int .i64 (a:Int),.int .i64 (b:Int)] (h++[jbU bk xs junk]) fun v h'=>v= .tuple [].toArray∧ ∃ys,h'=h++[jbU bk ys junk]∧Sw a b xs ys:=by
 refine jaf Tryz.func185 rfl rfl (l:=(.slice (some ⟨bk,0,none⟩) n c)::(.int .i64 (a:Int))::(.int .i64 (b:Int))::uu29) rfl ?_
 intro cf cs K hK
 refine Z12 ?_
 refine jai (fun nn l h'=> ∃(i j:Nat) (z:Int) (ys:List Int),nn=j+1∧(z=(j:Int)-1)∧(a≤i)∧(j≤b)∧(Sw a b xs ys)∧(∃U:Nat→Value,l=((.slice (some ⟨bk,0,none⟩) n c)::(.int .i64 (a:Int))::(.int .i64 (b:Int))::(U 3)::(U 4)::(U 5)::(.int .i64 (i:Int))::(.int .i64 z)::vw24 U 8 []))∧h++[jbU bk ys junk]=h') _ ⟨a,b,_,xs,rfl,by omega,by omega,by omega,.refl _,exU rfl,rfl⟩ ?_;rintro nn l h' ⟨i,j,z,ys,rfl,hz,hi1,hj1,hsw,⟨U,rfl⟩,rfl⟩ hnext;have hyl:=hsw.length
 refine Z5 ?_
 refine jao rfl zq (fun hc=>?_) (fun hc=>?_)
 ·refine Z5 ?_
  obtain ⟨k,rfl⟩: ∃k:Nat,z=(k:Int):=⟨z.toNat,by omega⟩
  refine D1 ?_;refine Z6 ?_;refine jqC ?_;refine jaW rfl zq (jaQ (k) zO zO) ?_;refine jaW rfl zq (jaQ (i) zO zO) ?_;refine D0 ?_
  haveI hs1:=setSeg_ints (xs:=ys) (junk:=junk) (v:=ys.getD (k) 0) (i:=(i:Int)) (k:=i) zO zO
  refine joq ?_
  haveI hs2:=setSeg_ints (xs:=ys.set (i) (ys.getD (k) 0)) (junk:=junk) (v:=ys.getD (i) 0) (i:=(k:Int)) (k:=k) zO zN
  refine D9 ?_
  rw [jb9];refine Z13 ?_
  exact m.weak jab (hnext _ _ _ zO ⟨i+1,j-1,_,jbR ys i k,rfl,by omega,by omega,by omega,.step i k ⟨by omega,by omega⟩ ⟨by omega,by omega⟩ hsw,exU rfl,rfl⟩)
 ·refine Z3 ?_;refine jdm rfl ?_;refine jad (h++[jbU bk ys junk]) rfl Tryz.func185 rfl jab ?_;refine Zs ?_
  exact ⟨rfl,ys,rfl,hsw⟩
theorem jda {m:Md P B} (C0:List Value→Hp→Prop) {b:Frame} {k:List Item} {cs:List Frame} {id:Nat} (r:List (Nat×Kd)) (hm:(P.follows .mixedOrders||!Region.departs ops)=true)
  (hok:(ordOk ops r&&jg7 P ops r)=true) (hS:S.Sublist h) (t:RegK m S ops r l h C0) (n: ∀l' h',C0 l' h'→m.R K (Gr b l' ds k cs) h'):m.R K (Gr b l ds (.code (.region id ops true)::k) cs) h:=
 jar r hm hok hS (RegK.mono (fun l' h' x=>n l' h' x) t)
theorem SortR.snoc {ys:List Int} {a i:Nat} (h:SortR ys a i) (ha:a<i) (hl:ys.getD (i-1) 0≤ys.getD i 0):SortR ys a (i+1):=fun p q h1 h2 h3=>by
 by_cases e:q=i
 ·subst e
  by_cases e2:p=q-1
  ·subst e2
   exact hl
  ·have:=h p (q-1) h1 zO zO;omega
 ·exact h p q h1 h2 zO
theorem sw_getD {a pv:Nat} (h1:a<xs.length) (h2:pv<xs.length):(jbR xs a pv).getD a 0=xs.getD pv 0:=by
 rw [jbI h1 h2];by_cases e:a=pv
 ·rw [if_pos e,e]
 ·rw [if_neg e,if_pos rfl]
theorem f189_c (m:Md Tryz.prog B) (h:Hp) {c:Nat} (hl:xs.length=n) (hn:n≤100000) (a b pv:Nat) (ha:a≤pv) (hp:pv<b) (hb:b≤n):FnC m 189 #[.slice (some ⟨bk,0,none⟩) n c,.int .i64 (a:Int),.int .i64 (b:Int),.int .i64 (pv:Int)] (h++[jbU bk xs junk]) fun v h'=> ∃(q:Nat) (t:Bool) (ys:List Int),v= .tuple [.int .i64 (q:Int),.bool t].toArray∧h'=h++[jbU bk ys junk]∧Sw a b xs ys∧a≤q∧q<b∧Cut ys a b q:=by
 refine jaf Tryz.func189 rfl rfl (l:=(.slice (some ⟨bk,0,none⟩) n c)::(.int .i64 (a:Int))::(.int .i64 (b:Int))::(.int .i64 (pv:Int))::uu164) rfl ?_
 intro cf cs K hK
 refine Z6 ?_;refine D1 ?_;refine Z6 ?_;refine jqC ?_;refine jaW rfl zq (jaQ (pv) zO zO) ?_;refine D72 ?_;refine D0 ?_
 haveI hs1:=setSeg_ints (xs:=xs) (junk:=junk) (v:=xs.getD (pv) 0) (i:=(a:Int)) (k:=a) zO zO
 refine joq ?_
 haveI hs2:=setSeg_ints (xs:=xs.set (a) (xs.getD (pv) 0)) (junk:=junk) (v:=xs.getD (a) 0) (i:=(pv:Int)) (k:=pv) zO zN
 refine D9 ?_
 rw [jb9];refine Z2 ?_
 have hsw0:Sw a b xs (jbR xs a pv):=Sw.one a pv ⟨by omega,by omega⟩ ⟨by omega,by omega⟩
 have hyl:=hsw0.length
 generalize jbR xs a pv=y0 at hsw0 hyl⊢
 refine Z10 ?_
 refine jai (fun nn l h'=> ∃(i:Nat) (z:Int),nn=b-i∧(z=(b:Int)-1)∧(a<i)∧(i≤b)∧(∀k,a<k→k<i→y0.getD k 0<y0.getD a 0)∧(∃U:Nat→Value,l=((.slice (some ⟨bk,0,none⟩) n c)::(.int .i64 (a:Int))::(.int .i64 (b:Int))::(.int .i64 (pv:Int))::vw6 U 4 ((.int .i64 (i:Int))::(.int .i64 z)::jr7 U 12 [])))∧h++[jbU bk y0 junk]=h') _ ⟨a+1,(b:Int)-1,rfl,by omega,by omega,by omega,fun k h1 h2=>by omega,exU rfl,rfl⟩ ?_;rintro nn l h' ⟨i,z,rfl,hz,hi1,hi2,hp1,⟨U,rfl⟩,rfl⟩ hnext1;refine Z2 ?_
 refine jda (fun l' h'=> ∃t:Bool,(∃U:Nat→Value,l'=((.slice (some ⟨bk,0,none⟩) n c)::(.int .i64 (a:Int))::(.int .i64 (b:Int))::(.int .i64 (pv:Int))::vw6 U 4 ((.int .i64 (i:Int))::(.int .i64 z)::vw31 U 12 ((.bool t)::jmF U 44 []))))∧h'=h++[jbU bk y0 junk]∧(t=true↔i<b∧y0.getD i 0<y0.getD a 0)) [Zp 0,Zp 1,Zp 2,Zp 3,Zp 4,Zp 5,Zp 6,Zp 8,Zp 9,Zp 10,Zr 7,Zr 11,Zk 12,Zp 13] zK zK (List.Sublist.refl _) ?_ ?_
 ·refine Z2 ?_
  refine jcn rfl zq (fun hc=>?_) (fun hc=>?_)
  ·refine Z3 ?_;refine D8 ?_;refine Z2 ?_;refine D8 ?_;refine jaW rfl rfl (jaQ (i) zO zO) ?_;refine D70 ?_;refine D15 ?_
   rintro v (⟨hc,rfl⟩|⟨hc,rfl⟩);all_goals
    refine Z3 ?_
    exact E8
  ·refine Z12 ?_
   exact E8
 ·rintro l' h' ⟨t,⟨U,rfl⟩,rfl,ht⟩;cases t
  ·have hcf: ¬(i<b∧y0.getD i 0<y0.getD a 0):=fun e=>absurd (ht.2 e) zA
   refine Z4 ?_
   have hs1:=hcf
   refine jai (fun nn l h'=> ∃(j:Nat) (z:Int),nn=j+1∧(z=(j:Int)-1)∧(i≤j)∧(j≤b)∧(∀k,j≤k→k<b→y0.getD a 0≤y0.getD k 0)∧(∃U:Nat→Value,l=((.slice (some ⟨bk,0,none⟩) n c)::(.int .i64 (a:Int))::(.int .i64 (b:Int))::(.int .i64 (pv:Int))::vw6 U 4 ((.int .i64 (i:Int))::(.int .i64 z)::jr7 U 12 [])))∧h++[jbU bk y0 junk]=h') _ ⟨b,z,rfl,by omega,by omega,by omega,fun k h1 h2=>by omega,exU rfl,rfl⟩ ?_;rintro nn l h' ⟨j,z,rfl,hz2,hj1,hj2,hp2,⟨U,rfl⟩,rfl⟩ hnext2;refine Z2 ?_
   refine jda (fun l' h'=> ∃t:Bool,(∃U:Nat→Value,l'=((.slice (some ⟨bk,0,none⟩) n c)::(.int .i64 (a:Int))::(.int .i64 (b:Int))::(.int .i64 (pv:Int))::vw6 U 4 ((.int .i64 (i:Int))::(.int .i64 z)::vw48 U 12 ((.bool t)::vw107 U 61 []))))∧h'=h++[jbU bk y0 junk]∧(t=true↔i<j∧ ¬y0.getD (j-1) 0<y0.getD a 0)) [Zp 0,Zp 1,Zp 2,Zp 3,Zp 4,Zp 5,Zp 6,Zp 8,Zp 9,Zp 10,Zr 7,Zr 11,Zk 12,Zp 13,Zp 14] zK zK (List.Sublist.refl _) ?_ ?_
   ·refine Z2 ?_
    refine jcn rfl zq (fun hc=>?_) (fun hc=>?_)
    ·refine Z3 ?_;refine D8 ?_;refine Z2 ?_;refine D8 ?_;refine jaW rfl rfl (jaQ (j-1) zO zO) ?_;refine D70 ?_;refine D15 ?_
     rintro v (⟨hc,rfl⟩|⟨hc,rfl⟩);refine Z2 ?_
     rotate_left
     refine D124 ?_
     all_goals
      refine Z2 ?_
      exact E8
    ·refine Z13 ?_
     exact E8
   ·rintro l' h' ⟨t,⟨U,rfl⟩,rfl,ht⟩;cases t
    ·have hcf: ¬(i<j∧ ¬y0.getD (j-1) 0<y0.getD a 0):=fun e=>absurd (ht.2 e) zA
     refine Z4 ?_
     have hs2:=hcf
     have hpt:Part y0 a b i (j-1):=⟨hp1,fun k h1 h2=>hp2 k zO h2⟩
     refine Z3 ?_
     refine jaY rfl zq (fun hc=>?_) (fun hc=>?_)
     ·refine Z3 ?_;refine D1 ?_;refine Z6 ?_;refine jqC ?_;refine D72 ?_;refine D88 ?_;refine D0 ?_
      haveI hs1:=setSeg_ints (xs:=y0) (junk:=junk) (v:=y0.getD (a) 0) (i:=z) (k:=j-1) zO zO
      refine joq ?_
      haveI hs2:=setSeg_ints (xs:=y0.set (j-1) (y0.getD (a) 0)) (junk:=junk) (v:=y0.getD (j-1) 0) (i:=(a:Int)) (k:=a) zO zN
      refine D9 ?_
      rw [jb9];refine Z8 ?_;refine jad (h++[jbU bk (jbR y0 (j-1) a) junk]) rfl Tryz.func189 rfl jab ?_;refine Zs ?_
      exact ⟨j-1,true,_,by rw [hz2,show (j:Int)-1=((j-1:Nat):Int) by omega],rfl,.step (j-1) a ⟨by omega,by omega⟩ ⟨by omega,by omega⟩ hsw0,by omega,by omega,hpt.cut zO zO zO zO⟩
     ·refine Z4 ?_
      have hne:i≠j-1:=fun e=>by rw [e] at hs1;omega
      refine D1 ?_;refine Z6 ?_;refine jqC ?_;refine D88 ?_;refine jaW rfl zq (jaQ (i) zO zO) ?_;refine D0 ?_
      haveI hs1:=setSeg_ints (xs:=y0) (junk:=junk) (v:=y0.getD (j-1) 0) (i:=(i:Int)) (k:=i) zO zO
      refine joq ?_
      haveI hs2:=setSeg_ints (xs:=y0.set (i) (y0.getD (j-1) 0)) (junk:=junk) (v:=y0.getD (i) 0) (i:=z) (k:=j-1) zO zN
      refine D9 ?_
      rw [jb9];refine Z15 ?_
      refine jai (fun nn l h'=> ∃(i3 j3:Nat) (z3:Int) (ys:List Int),nn=j3-i3∧(z3=(j3:Int)-1)∧(a<i3)∧(i3≤j3)∧(j3≤b)∧(Sw a b xs ys)∧(Part ys a b i3 (j3-1))∧(∃U:Nat→Value,l=((.slice (some ⟨bk,0,none⟩) n c)::(.int .i64 (a:Int))::(.int .i64 (b:Int))::(.int .i64 (pv:Int))::vw6 U 4 ((.int .i64 (i3:Int))::(.int .i64 z3)::jr7 U 12 [])))∧h++[jbU bk ys junk]=h') _ ⟨i+1,j-1,z-1,jbR y0 i (j-1),rfl,by omega,by omega,by omega,by omega,.step i (j-1) ⟨by omega,by omega⟩ ⟨by omega,by omega⟩ hsw0,hpt.swap zO zO zO zO zO zO,exU rfl,rfl⟩ ?_;rintro nn l h' ⟨i3,j3,z3,ys,rfl,hz3,hi3,hij3,hjb3,hsw3,hpt3,⟨U,rfl⟩,rfl⟩ hnext3;have hyl3:=hsw3.length
      refine Z3 ?_
      refine jai (fun nn l h'=> ∃(i4:Nat),nn=j3-i4∧(i3≤i4)∧(i4≤j3)∧(∀k,a<k→k<i4→ys.getD k 0<ys.getD a 0)∧(∃U:Nat→Value,l=((.slice (some ⟨bk,0,none⟩) n c)::(.int .i64 (a:Int))::(.int .i64 (b:Int))::(.int .i64 (pv:Int))::vw6 U 4 ((.int .i64 (i4:Int))::(.int .i64 z3)::jr7 U 12 [])))∧h++[jbU bk ys junk]=h') _ ⟨i3,rfl,by omega,by omega,hpt3.1,exU rfl,rfl⟩ ?_;rintro nn l h' ⟨i4,rfl,hi4,hij4,hp4,⟨U,rfl⟩,rfl⟩ hnext4;refine Z2 ?_
      refine jda (fun l' h'=> ∃t:Bool,(∃U:Nat→Value,l'=((.slice (some ⟨bk,0,none⟩) n c)::(.int .i64 (a:Int))::(.int .i64 (b:Int))::(.int .i64 (pv:Int))::vw6 U 4 ((.int .i64 (i4:Int))::(.int .i64 z3)::vw100 U 12 ((.bool t)::vw55 U 113 []))))∧h'=h++[jbU bk ys junk]∧(t=true↔i4<j3∧ys.getD i4 0<ys.getD a 0)) [Zp 0,Zp 1,Zp 2,Zp 3,Zp 4,Zp 5,Zp 6,Zp 8,Zp 9,Zp 10,Zr 7,Zr 11,Zk 12,Zp 13] zK zK (List.Sublist.refl _) ?_ ?_
      ·refine Z2 ?_
       refine jcn rfl zq (fun hc=>?_) (fun hc=>?_)
       ·refine Z3 ?_;refine D8 ?_;refine Z2 ?_;refine D8 ?_;refine jaW rfl rfl (jaQ (i4) zO zO) ?_;refine D70 ?_;refine D15 ?_
        rintro v (⟨hc,rfl⟩|⟨hc,rfl⟩);all_goals
         refine Z3 ?_
         exact E8
       ·refine Z12 ?_
        exact E8
      ·rintro l' h' ⟨t,⟨U,rfl⟩,rfl,ht⟩;cases t
       ·have hcf: ¬(i4<j3∧ys.getD i4 0<ys.getD a 0):=fun e=>absurd (ht.2 e) zA
        refine Z4 ?_
        have hs4:=hcf
        refine jai (fun nn l h'=> ∃(j5:Nat) (z5:Int),nn=j5+1∧(z5=(j5:Int)-1)∧(i4≤j5)∧(j5≤j3)∧(∀k,j5≤k→k<b→ys.getD a 0≤ys.getD k 0)∧(∃U:Nat→Value,l=((.slice (some ⟨bk,0,none⟩) n c)::(.int .i64 (a:Int))::(.int .i64 (b:Int))::(.int .i64 (pv:Int))::vw6 U 4 ((.int .i64 (i4:Int))::(.int .i64 z5)::jr7 U 12 [])))∧h++[jbU bk ys junk]=h') _ ⟨j3,z3,rfl,by omega,by omega,by omega,fun k h1 h2=>hpt3.2 k zO h2,exU rfl,rfl⟩ ?_;rintro nn l h' ⟨j5,z5,rfl,hz5,hj5,hjj5,hp5,⟨U,rfl⟩,rfl⟩ hnext5;refine Z2 ?_
        refine jda (fun l' h'=> ∃t:Bool,(∃U:Nat→Value,l'=((.slice (some ⟨bk,0,none⟩) n c)::(.int .i64 (a:Int))::(.int .i64 (b:Int))::(.int .i64 (pv:Int))::vw6 U 4 ((.int .i64 (i4:Int))::(.int .i64 z5)::vw117 U 12 ((.bool t)::vw38 U 130 []))))∧h'=h++[jbU bk ys junk]∧(t=true↔i4<j5∧ ¬ys.getD (j5-1) 0<ys.getD a 0)) [Zp 0,Zp 1,Zp 2,Zp 3,Zp 4,Zp 5,Zp 6,Zp 8,Zp 9,Zp 10,Zr 7,Zr 11,Zk 12,Zp 13,Zp 14] zK zK (List.Sublist.refl _) ?_ ?_
        ·refine Z2 ?_
         refine jcn rfl zq (fun hc=>?_) (fun hc=>?_)
         ·refine Z3 ?_;refine D8 ?_;refine Z2 ?_;refine D8 ?_;refine jaW rfl rfl (jaQ (j5-1) zO zO) ?_;refine D70 ?_;refine D15 ?_
          rintro v (⟨hc,rfl⟩|⟨hc,rfl⟩);refine Z2 ?_
          rotate_left
          refine D124 ?_
          all_goals
           refine Z2 ?_
           exact E8
         ·refine Z13 ?_
          exact E8
        ·rintro l' h' ⟨t,⟨U,rfl⟩,rfl,ht⟩;cases t
         ·have hcf: ¬(i4<j5∧ ¬ys.getD (j5-1) 0<ys.getD a 0):=fun e=>absurd (ht.2 e) zA
          refine Z4 ?_
          have hs5:=hcf
          have hpt5:Part ys a b i4 (j5-1):=⟨hp4,fun k h1 h2=>hp5 k zO h2⟩
          refine Z3 ?_
          refine jaY rfl zq (fun hc=>?_) (fun hc=>?_)
          ·refine Z4 ?_;refine D1 ?_;refine Z6 ?_;refine jqC ?_;refine D72 ?_;refine jaW rfl zq (jaQ (j5-1) zO zO) ?_;refine D0 ?_
           haveI hs1:=setSeg_ints (xs:=ys) (junk:=junk) (v:=ys.getD (a) 0) (i:=z5) (k:=j5-1) zO zO
           refine joq ?_
           haveI hs2:=setSeg_ints (xs:=ys.set (j5-1) (ys.getD (a) 0)) (junk:=junk) (v:=ys.getD (j5-1) 0) (i:=(a:Int)) (k:=a) zO zN
           refine D9 ?_
           rw [jb9];refine Z8 ?_;refine jad (h++[jbU bk (jbR ys (j5-1) a) junk]) rfl Tryz.func189 rfl jab ?_;refine Zs ?_
           exact ⟨j5-1,false,_,by rw [hz5,show (j5:Int)-1=((j5-1:Nat):Int) by omega],rfl,.step (j5-1) a ⟨by omega,by omega⟩ ⟨by omega,by omega⟩ hsw3,by omega,by omega,hpt5.cut zO zO zO zO⟩
          ·refine Z4 ?_
           have hne5:i4≠j5-1:=fun e=>by rw [e] at hs4;omega
           refine D1 ?_;refine Z6 ?_;refine jqC ?_;refine jaW rfl zq (jaQ (j5-1) zO zO) ?_;refine jaW rfl zq (jaQ (i4) zO zO) ?_;refine D0 ?_
           haveI hs1:=setSeg_ints (xs:=ys) (junk:=junk) (v:=ys.getD (j5-1) 0) (i:=(i4:Int)) (k:=i4) zO zO
           refine joq ?_
           haveI hs2:=setSeg_ints (xs:=ys.set (i4) (ys.getD (j5-1) 0)) (junk:=junk) (v:=ys.getD (i4) 0) (i:=z5) (k:=j5-1) zO zN
           refine D9 ?_
           rw [jb9];refine Z13 ?_
           exact m.weak jab (hnext3 _ _ _ zO ⟨i4+1,j5-1,z5-1,jbR ys i4 (j5-1),rfl,by omega,by omega,by omega,by omega,.step i4 (j5-1) ⟨by omega,by omega⟩ ⟨by omega,by omega⟩ hsw3,hpt5.swap zO zO zO zO zO zO,exU rfl,rfl⟩)
         ·have hct:=ht.1 rfl
          refine Z9 ?_
          exact m.weak jab (hnext5 _ _ _ zO ⟨j5-1,z5-1,rfl,by omega,by omega,by omega,fun k h1 h2=>by
           by_cases e:k=j5-1
           ·subst e
            omega
           ·exact hp5 k zO h2,exU rfl,rfl⟩)
       ·have hct:=ht.1 rfl
        refine Z9 ?_
        exact m.weak jab (hnext4 _ _ _ zO ⟨i4+1,rfl,by omega,by omega,fun k h1 h2=>by
         by_cases e:k=i4
         ·subst e
          exact hct.2
         ·exact hp4 k h1 zO,exU rfl,rfl⟩)
    ·have hct:=ht.1 rfl
     refine Z9 ?_
     exact m.weak jab (hnext2 _ _ _ zO ⟨j-1,z-1,rfl,by omega,by omega,by omega,fun k h1 h2=>by
      by_cases e:k=j-1
      ·subst e
       omega
      ·exact hp2 k zO h2,exU rfl,rfl⟩)
  ·have hct:=ht.1 rfl
   refine Z9 ?_
   exact m.weak jab (hnext1 _ _ _ zO ⟨i+1,z,rfl,by omega,by omega,by omega,fun k h1 h2=>by
    by_cases e:k=i
    ·subst e
     exact hct.2
    ·exact hp1 k h1 zO,exU rfl,rfl⟩)
theorem f188_c (m:Md Tryz.prog B) (h:Hp) {c:Nat} (hl:xs.length=n) (hn:n≤100000) (a b pv:Nat) (ha:a≤pv) (hp:pv<b) (hb:b≤n) (hmin: ∀k,a≤k→k<b→xs.getD pv 0≤xs.getD k 0):FnC m 188 #[.slice (some ⟨bk,0,none⟩) n c,.int .i64 (a:Int),.int .i64 (b:Int),.int .i64 (pv:Int)] (h++[jbU bk xs junk]) fun v h'=> ∃(q:Nat) (ys:List Int),v= .int .i64 (q:Int)∧h'=h++[jbU bk ys junk]∧Sw a b xs ys∧a<q∧q≤b∧SortR ys a q∧ ∀p k,a≤p→p<q→q≤k→k<b→ys.getD p 0≤ys.getD k 0:=by
 refine jaf Tryz.func188 rfl rfl (l:=(.slice (some ⟨bk,0,none⟩) n c)::(.int .i64 (a:Int))::(.int .i64 (b:Int))::(.int .i64 (pv:Int))::uu80) rfl ?_
 intro cf cs K hK
 refine Z5 ?_;refine D1 ?_;refine Z6 ?_;refine jqC ?_;refine jaW rfl zq (jaQ (pv) zO zO) ?_;refine D72 ?_;refine D0 ?_
 haveI hs1:=setSeg_ints (xs:=xs) (junk:=junk) (v:=xs.getD (pv) 0) (i:=(a:Int)) (k:=a) zO zO
 refine joq ?_
 haveI hs2:=setSeg_ints (xs:=xs.set (a) (xs.getD (pv) 0)) (junk:=junk) (v:=xs.getD (a) 0) (i:=(pv:Int)) (k:=pv) zO zN
 refine D9 ?_
 rw [jb9];refine Z2 ?_
 have hsw0:Sw a b xs (jbR xs a pv):=Sw.one a pv ⟨by omega,by omega⟩ ⟨by omega,by omega⟩
 have hyl:=hsw0.length
 have hpa:=sw_getD (xs:=xs) (a:=a) (pv:=pv) zO zO
 generalize jbR xs a pv=y0 at hsw0 hyl hpa⊢
 refine Z10 ?_
 refine jai (fun nn l h'=> ∃(i3 j3:Nat) (z3:Int) (ys:List Int),nn=j3-i3∧(z3=(j3:Int)-1)∧(a<i3)∧(i3≤j3)∧(j3≤b)∧(Sw a b xs ys)∧(Pare ys a b i3 (j3-1))∧(ys.getD a 0=xs.getD pv 0)∧(∃U:Nat→Value,l=((.slice (some ⟨bk,0,none⟩) n c)::(.int .i64 (a:Int))::(.int .i64 (b:Int))::(.int .i64 (pv:Int))::vw5 U 4 ((.int .i64 (i3:Int))::(.int .i64 z3)::vw73 U 11 [])))∧h++[jbU bk ys junk]=h') _ ⟨a+1,b,(b:Int)-1,y0,rfl,by omega,by omega,by omega,by omega,hsw0,Pare.start _ a b,hpa,exU rfl,rfl⟩ ?_;rintro nn l h' ⟨i3,j3,z3,ys,rfl,hz3,hi3,hij3,hjb3,hsw3,hpt3,hpa3,⟨U,rfl⟩,rfl⟩ hnext3;have hyl3:=hsw3.length
 refine Z3 ?_
 refine jai (fun nn l h'=> ∃(i4:Nat),nn=j3-i4∧(i3≤i4)∧(i4≤j3)∧(∀k,a≤k→k<i4→ys.getD k 0≤ys.getD a 0)∧(∃U:Nat→Value,l=((.slice (some ⟨bk,0,none⟩) n c)::(.int .i64 (a:Int))::(.int .i64 (b:Int))::(.int .i64 (pv:Int))::vw5 U 4 ((.int .i64 (i4:Int))::(.int .i64 z3)::vw73 U 11 [])))∧h++[jbU bk ys junk]=h') _ ⟨i3,rfl,by omega,by omega,hpt3.1,exU rfl,rfl⟩ ?_;rintro nn l h' ⟨i4,rfl,hi4,hij4,hp4,⟨U,rfl⟩,rfl⟩ hnext4;refine Z2 ?_
 refine jda (fun l' h'=> ∃t:Bool,(∃U:Nat→Value,l'=((.slice (some ⟨bk,0,none⟩) n c)::(.int .i64 (a:Int))::(.int .i64 (b:Int))::(.int .i64 (pv:Int))::vw5 U 4 ((.int .i64 (i4:Int))::(.int .i64 z3)::vw32 U 11 ((.bool t)::vw40 U 44 []))))∧h'=h++[jbU bk ys junk]∧(t=true↔i4<j3∧ ¬ys.getD a 0<ys.getD i4 0)) [Zp 0,Zp 1,Zp 2,Zp 3,Zp 4,Zp 5,Zp 6,Zp 8,Zp 9,Zp 10,Zr 7,Zr 11,Zk 12,Zp 13,Zp 14] zK zK (List.Sublist.refl _) ?_ ?_
 ·refine Z2 ?_
  refine jcn rfl zq (fun hc=>?_) (fun hc=>?_)
  ·refine Z3 ?_;refine D8 ?_;refine Z2 ?_;refine D8 ?_;refine D70 ?_;refine jaW rfl rfl (jaQ (i4) zO zO) ?_;refine D15 ?_
   rintro v (⟨hc,rfl⟩|⟨hc,rfl⟩);refine Z2 ?_
   rotate_left
   refine D124 ?_
   all_goals
    refine Z2 ?_
    exact E8
  ·refine Z13 ?_
   exact E8
 ·rintro l' h' ⟨t,⟨U,rfl⟩,rfl,ht⟩;cases t
  ·have hcf: ¬(i4<j3∧ ¬ys.getD a 0<ys.getD i4 0):=fun e=>absurd (ht.2 e) zA
   refine Z4 ?_
   have hs4:=hcf
   refine jai (fun nn l h'=> ∃(j5:Nat) (z5:Int),nn=j5+1∧(z5=(j5:Int)-1)∧(i4≤j5)∧(j5≤j3)∧(∀k,j5≤k→k<b→ys.getD a 0<ys.getD k 0)∧(∃U:Nat→Value,l=((.slice (some ⟨bk,0,none⟩) n c)::(.int .i64 (a:Int))::(.int .i64 (b:Int))::(.int .i64 (pv:Int))::vw5 U 4 ((.int .i64 (i4:Int))::(.int .i64 z5)::vw73 U 11 [])))∧h++[jbU bk ys junk]=h') _ ⟨j3,z3,rfl,by omega,by omega,by omega,fun k h1 h2=>hpt3.2 k zO h2,exU rfl,rfl⟩ ?_;rintro nn l h' ⟨j5,z5,rfl,hz5,hj5,hjj5,hp5,⟨U,rfl⟩,rfl⟩ hnext5;refine Z2 ?_
   refine jda (fun l' h'=> ∃t:Bool,(∃U:Nat→Value,l'=((.slice (some ⟨bk,0,none⟩) n c)::(.int .i64 (a:Int))::(.int .i64 (b:Int))::(.int .i64 (pv:Int))::vw5 U 4 ((.int .i64 (i4:Int))::(.int .i64 z5)::vw48 U 11 ((.bool t)::vw24 U 60 []))))∧h'=h++[jbU bk ys junk]∧(t=true↔i4<j5∧ys.getD a 0<ys.getD (j5-1) 0)) [Zp 0,Zp 1,Zp 2,Zp 3,Zp 4,Zp 5,Zp 6,Zp 8,Zp 9,Zp 10,Zr 7,Zr 11,Zk 12,Zp 13] zK zK (List.Sublist.refl _) ?_ ?_
   ·refine Z2 ?_
    refine jcn rfl zq (fun hc=>?_) (fun hc=>?_)
    ·refine Z3 ?_;refine D8 ?_;refine Z2 ?_;refine D8 ?_;refine D70 ?_;refine jaW rfl rfl (jaQ (j5-1) zO zO) ?_;refine D15 ?_
     rintro v (⟨hc,rfl⟩|⟨hc,rfl⟩);all_goals
      refine Z3 ?_
      exact E8
    ·refine Z12 ?_
     exact E8
   ·rintro l' h' ⟨t,⟨U,rfl⟩,rfl,ht⟩;cases t
    ·have hcf: ¬(i4<j5∧ys.getD a 0<ys.getD (j5-1) 0):=fun e=>absurd (ht.2 e) zA
     refine Z4 ?_
     have hs5:=hcf
     have hpt5:Pare ys a b i4 (j5-1):=⟨hp4,fun k h1 h2=>hp5 k zO h2⟩
     refine Z3 ?_
     refine jaY rfl zq (fun hc=>?_) (fun hc=>?_)
     ·refine Z9 ?_;refine jad (h++[jbU bk ys junk]) rfl Tryz.func188 rfl jab ?_;refine Zs ?_
      have hall:=hsw3.all (p:=fun v=>xs.getD pv 0≤v) zO hmin
      have hij5:i4=j5:=by omega
      exact ⟨i4,ys,rfl,rfl,hsw3,by omega,by omega,fun p q h1 h2 h3=>by have:=hp4 p h1 zO;have:=hall q zO zO;omega,fun p k h1 h2 h3 h4=>by have:=hp4 p h1 h2;have:=hp5 k zO h4;omega⟩
     ·refine Z4 ?_
      have hne5:i4≠j5-1:=fun e=>by rw [e] at hs4;omega
      refine D1 ?_;refine Z6 ?_;refine jqC ?_;refine jaW rfl zq (jaQ (j5-1) zO zO) ?_;refine jaW rfl zq (jaQ (i4) zO zO) ?_;refine D0 ?_
      haveI hs1:=setSeg_ints (xs:=ys) (junk:=junk) (v:=ys.getD (j5-1) 0) (i:=(i4:Int)) (k:=i4) zO zO
      refine joq ?_
      haveI hs2:=setSeg_ints (xs:=ys.set (i4) (ys.getD (j5-1) 0)) (junk:=junk) (v:=ys.getD (i4) 0) (i:=z5) (k:=j5-1) zO zN
      refine D9 ?_
      rw [jb9];refine Z13 ?_
      exact m.weak jab (hnext3 _ _ _ zO ⟨i4+1,j5-1,z5-1,jbR ys i4 (j5-1),rfl,by omega,by omega,by omega,by omega,.step i4 (j5-1) ⟨by omega,by omega⟩ ⟨by omega,by omega⟩ hsw3,hpt5.swap zO zO zO zO zO zO,by rw [jbI zO zO,if_neg zO,if_neg zO];exact hpa3,exU rfl,rfl⟩)
    ·have hct:=ht.1 rfl
     refine Z9 ?_
     exact m.weak jab (hnext5 _ _ _ zO ⟨j5-1,z5-1,rfl,by omega,by omega,by omega,fun k h1 h2=>by
      by_cases e:k=j5-1
      ·subst e
       omega
      ·exact hp5 k zO h2,exU rfl,rfl⟩)
  ·have hct:=ht.1 rfl
   refine Z9 ?_
   exact m.weak jab (hnext4 _ _ _ zO ⟨i4+1,rfl,by omega,by omega,fun k h1 h2=>by
    by_cases e:k=i4
    ·subst e
     omega
    ·exact hp4 k h1 zO,exU rfl,rfl⟩)
end
section
theorem jf7 {m:Md P B} (C:List Value→Hp→Prop) {a b2:Code} {b:Frame} {k:List Item} {cs:List Frame}
  (t:m.R (fun g' h'=>(∃l',g'=Gr b l' ds (.code b2::k) cs∧C l' h')∨m.R K g' h') (Gr b l ds (.code a:: .code b2::k) cs) h) (n: ∀l' h',C l' h'→m.R K (Gr b l' ds (.code b2::k) cs) h'):m.R K (Gr b l ds (.code (.seq a b2)::k) cs) h:=
 jcX (m.bind t fun g' h' x=>by
  rcases x with ⟨l',e,c⟩|x
  ·rw [e];exact n l' h' c
  ·exact x)
theorem SortR.swapOut {a c:Nat} (h:SortR ys a c) (hi:c≤i) (hj:c≤j) (h1:i<ys.length) (h2:j<ys.length):SortR (jbR ys i j) a c:=fun p q e1 e2 e3=>by
 rw [jbI h1 h2,jbI h1 h2,if_neg zO,if_neg zO,if_neg zO,if_neg zO];exact h p q e1 e2 e3
theorem f186_c (m:Md Tryz.prog B) (h:Hp) {c:Nat} (hl:xs.length=n) (hn:n≤100000) (a b:Nat) (hab:a<b) (hb:b≤n) (hlow:Low xs a b):FnC m 186 #[.slice (some ⟨bk,0,none⟩) n c,.int .i64 (a:Int),.int .i64 (b:Int)] (h++[jbU bk xs junk]) fun v h'=> ∃(t:Bool) (ys:List Int),v= .bool t∧h'=h++[jbU bk ys junk]∧Sw a b xs ys∧(t=true→SortR ys a b):=by
 refine jaf Tryz.func186 rfl rfl (l:=(.slice (some ⟨bk,0,none⟩) n c)::(.int .i64 (a:Int))::(.int .i64 (b:Int))::jr9) rfl ?_
 intro cf cs K hK
 refine Z16 ?_
 refine jai (fun nn l h'=> ∃(cnt i:Nat) (ys:List Int),nn=5-cnt∧(cnt≤5)∧(a<i)∧(i≤b)∧(Sw a b xs ys)∧(SortR ys a i)∧(∃U:Nat→Value,l=((.slice (some ⟨bk,0,none⟩) n c)::(.int .i64 (a:Int))::(.int .i64 (b:Int))::vw4 U 3 ((.int .i64 (i:Int))::(.int .i64 (cnt:Int))::jmF U 9 [])))∧h++[jbU bk ys junk]=h') _ ⟨0,a+1,xs,rfl,by omega,by omega,by omega,.refl _,fun p q h1 h2 h3=>by omega,exU rfl,rfl⟩ ?_;rintro nn l h' ⟨cnt,i,ys,rfl,hcnt,hi1,hi2,hsw,hso,⟨U,rfl⟩,rfl⟩ hnext1;have hyl:=hsw.length
 refine Z4 ?_
 refine jao rfl zq (fun hc=>?_) (fun hc=>?_)
 ·refine Z3 ?_
  refine jf7 (fun l' h'=> ∃(i1:Nat) (vs:List Int),a<i1∧i1≤b∧Sw a b xs vs∧SortR vs a i1∧(∃U:Nat→Value,l'=((.slice (some ⟨bk,0,none⟩) n c)::(.int .i64 (a:Int))::(.int .i64 (b:Int))::vw4 U 3 ((.int .i64 (i1:Int))::(.int .i64 (cnt:Int))::jmF U 9 [])))∧h++[jbU bk vs junk]=h') ?_ ?_
  ·refine Z3 ?_
   refine jai (fun nn l h'=> ∃(i1:Nat),nn=b-i1∧(a<i1)∧(i1≤b)∧(SortR ys a i1)∧(∃U:Nat→Value,l=((.slice (some ⟨bk,0,none⟩) n c)::(.int .i64 (a:Int))::(.int .i64 (b:Int))::vw4 U 3 ((.int .i64 (i1:Int))::(.int .i64 (cnt:Int))::jmF U 9 [])))∧h++[jbU bk ys junk]=h') _ ⟨i,rfl,by omega,by omega,hso,exU rfl,rfl⟩ ?_;rintro nn l h' ⟨i1,rfl,hi3,hi4,hso2,⟨U,rfl⟩,rfl⟩ hnext2;refine Z2 ?_
   refine jda (fun l' h'=> ∃t:Bool,(∃U:Nat→Value,l'=((.slice (some ⟨bk,0,none⟩) n c)::(.int .i64 (a:Int))::(.int .i64 (b:Int))::vw4 U 3 ((.int .i64 (i1:Int))::(.int .i64 (cnt:Int))::vw23 U 9 ((.bool t)::vw100 U 33 []))))∧h'=h++[jbU bk ys junk]∧(t=true↔i1<b∧ ¬ys.getD i1 0<ys.getD (i1-1) 0)) [Zp 0,Zp 1,Zp 2,Zp 3,Zp 4,Zp 5,Zp 6,Zp 8,Zp 9,Zp 10,Zp 11,Zr 7,Zr 12,Zk 13,Zp 14,Zp 15] zK zK (List.Sublist.refl _) ?_ ?_
   ·refine Z2 ?_
    refine jao rfl zq (fun hc=>?_) (fun hc=>?_)
    ·refine Z3 ?_;refine D8 ?_;refine Z2 ?_;refine D95 ?_;refine D8 ?_;refine jaW rfl rfl (jaQ (i1) zO zO) ?_;refine jaW rfl rfl (jaQ (i1-1) zO zO) ?_;refine D15 ?_
     rintro v (⟨hc,rfl⟩|⟨hc,rfl⟩);refine Z2 ?_
     rotate_left
     refine D124 ?_
     all_goals
      refine Z2 ?_
      exact E8
    ·refine Z14 ?_
     exact E8
   ·rintro l' h' ⟨t,⟨U,rfl⟩,rfl,ht⟩;cases t
    ·have hcf: ¬(i1<b∧ ¬ys.getD i1 0<ys.getD (i1-1) 0):=fun e=>absurd (ht.2 e) zA
     refine Z7 ?_
     refine jaS rfl zq (fun hc=>?_) (fun hc=>?_)
     ·refine Z6 ?_
      refine Md.stop _ (.inr ?_)
      refine Zs ?_;refine D114 ?_;refine Zs ?_
      exact E10
     ·refine Z9 ?_
      refine jao rfl zq (fun hc=>?_) (fun hc=>?_)
      ·refine Z6 ?_
       refine Md.stop _ (.inr ?_)
       refine Zs ?_;refine D114 ?_;refine Zs ?_
       exact E10
      ·refine Z4 ?_;refine D11 ?_;refine Z8 ?_;refine jqC ?_;refine jaW rfl zq (jaQ (i1-1) zO zO) ?_;refine jaW rfl zq (jaQ (i1) zO zO) ?_;refine D0 ?_
       haveI hs1:=setSeg_ints (xs:=ys) (junk:=junk) (v:=ys.getD (i1-1) 0) (i:=(i1:Int)) (k:=i1) zO zO
       refine joq ?_
       haveI hs2:=setSeg_ints (xs:=ys.set (i1) (ys.getD (i1-1) 0)) (junk:=junk) (v:=ys.getD (i1) 0) (i:=(i1:Int)-1) (k:=i1-1) zO zN
       refine D9 ?_
       rw [jb9];refine Zs ?_
       refine jf7 (fun l' h'=> ∃us:List Int,Sw a b xs us∧SortR us a i1∧(∃U:Nat→Value,l'=((.slice (some ⟨bk,0,none⟩) n c)::(.int .i64 (a:Int))::(.int .i64 (b:Int))::vw4 U 3 ((.int .i64 (i1:Int))::(.int .i64 (cnt:Int))::jmF U 9 [])))∧h++[jbU bk us junk]=h') ?_ ?_
       ·refine Zs ?_
        have hswy:Sw a b xs (jbR ys i1 (i1-1)):= .step i1 (i1-1) ⟨by omega,by omega⟩ ⟨by omega,by omega⟩ hsw
        have hsoy:SortR (jbR ys i1 (i1-1)) a (i1-1):=SortR.swapOut (fun p q h1 h2 h3=>hso2 p q h1 h2 zO) zO zO zO zO
        generalize jbR ys i1 (i1-1)=y1 at hswy hsoy⊢
        refine Z4 ?_
        refine jcH rfl zq (fun hc=>?_) (fun hc=>?_)
        ·refine Z9 ?_
         refine jai (fun nn l h'=> ∃(j:Nat) (z:Int) (zs:List Int),nn=j+1∧(z=(j:Int))∧(a≤j)∧(j≤i1-1)∧(Sw a b xs zs)∧(Ins zs a (i1-1) j)∧(∃U:Nat→Value,l=((.slice (some ⟨bk,0,none⟩) n c)::(.int .i64 (a:Int))::(.int .i64 (b:Int))::vw4 U 3 ((.int .i64 (i1:Int))::(.int .i64 (cnt:Int))::(.int .i64 z)::vw123 U 10 [])))∧h++[jbU bk zs junk]=h') _ ⟨i1-1,(i1:Int)-1,y1,rfl,by omega,by omega,by omega,hswy,Ins.start hsoy,exU rfl,rfl⟩ ?_;rintro nn l h' ⟨j,z,zs,rfl,hz,hj1,hj2,hzw,hin,⟨U,rfl⟩,rfl⟩ hnext3;have hzl:=hzw.length
         refine Z4 ?_
         refine jcH rfl zq (fun hc=>?_) (fun hc=>?_)
         ·refine Z7 ?_
          refine jda (fun l' h'=> ∃t:Bool,(∃U:Nat→Value,l'=((.slice (some ⟨bk,0,none⟩) n c)::(.int .i64 (a:Int))::(.int .i64 (b:Int))::vw4 U 3 ((.int .i64 (i1:Int))::(.int .i64 (cnt:Int))::(.int .i64 z)::vw68 U 10 ((.bool t)::vw54 U 79 []))))∧h'=h++[jbU bk zs junk]∧(t=true↔ ¬zs.getD j 0<zs.getD (j-1) 0)) [Zp 0,Zp 1,Zp 2,Zp 4,Zp 5,Zp 6,Zp 7,Zr 3,Zr 8,Zk 9,Zp 10] zK zK (List.Sublist.refl _) ?_ ?_
          ·refine D123 ?_;refine Z3 ?_;refine D0 ?_;refine jaW rfl zq (jaQ (j) zO zO) ?_;refine D88 ?_;refine D43 ?_
           rintro v (⟨hc,rfl⟩|⟨hc,rfl⟩);refine Z2 ?_
           rotate_left
           refine Z2 ?_
           all_goals
            refine Zs ?_
            exact E8
          ·rintro l' h' ⟨t,⟨U,rfl⟩,rfl,ht⟩;cases t
           ·have hcf: ¬(¬zs.getD j 0<zs.getD (j-1) 0):=fun e=>absurd (ht.2 e) zA
            refine Z2 ?_
            have haj:a<j:=by
             rcases Nat.lt_or_ge a j with h0|h0
             ·exact h0
             ·rcases hlow.sw hzw zO with h1|h1
              ·omega
              ·have:=h1 j zO zO
               rw [show a-1=j-1 by omega] at this
               omega
            refine D11 ?_;refine Z8 ?_;refine jqC ?_;refine D88 ?_;refine jaW rfl zq (jaQ (j) zO zO) ?_;refine D0 ?_
            haveI hs1:=setSeg_ints (xs:=zs) (junk:=junk) (v:=zs.getD (j-1) 0) (i:=z) (k:=j) zO zO
            refine joq ?_
            haveI hs2:=setSeg_ints (xs:=zs.set (j) (zs.getD (j-1) 0)) (junk:=junk) (v:=zs.getD (j) 0) (i:=z-1) (k:=j-1) zO zN
            refine D9 ?_
            rw [jb9];refine Z7 ?_
            exact m.weak jab (hnext3 _ _ _ zO ⟨j-1,z-1,jbR zs j (j-1),rfl,by omega,by omega,by omega,.step j (j-1) ⟨by omega,by omega⟩ ⟨by omega,by omega⟩ hzw,hin.step haj zO zO zO,exU rfl,rfl⟩)
           ·have hct:=ht.1 rfl
            refine Z2 ?_
            refine Md.stop _ (.inl ⟨_,rfl,?_⟩)
            first
             |exact E12
             |exact E13
         ·refine Z3 ?_
          refine Md.stop _ (.inl ⟨_,rfl,?_⟩)
          first
           |exact E12
           |exact E13
        ·refine Z3 ?_
         refine Md.stop _ (.inl ⟨_,rfl,?_⟩)
         first
          |exact E12
          |exact E13
       ·rintro l' h' ⟨us,hsw4,hso4,⟨U,rfl⟩,rfl⟩;have hul:=hsw4.length
        refine Z5 ?_
        refine jcH rfl zq (fun hc=>?_) (fun hc=>?_)
        ·refine Z9 ?_
         refine jai (fun nn l h'=> ∃(j2:Nat) (vs:List Int),nn=b-j2∧(i1+1≤j2)∧(j2≤b)∧(Sw a b xs vs)∧(SortR vs a i1)∧(∃U:Nat→Value,l=((.slice (some ⟨bk,0,none⟩) n c)::(.int .i64 (a:Int))::(.int .i64 (b:Int))::vw4 U 3 ((.int .i64 (i1:Int))::(.int .i64 (cnt:Int))::(U 9)::(.int .i64 (j2:Int))::vw122 U 11 [])))∧h++[jbU bk vs junk]=h') _ ⟨i1+1,us,rfl,by omega,by omega,hsw4,hso4,exU rfl,rfl⟩ ?_;rintro nn l h' ⟨j2,vs,rfl,hj3,hj4,hvw,hvo,⟨U,rfl⟩,rfl⟩ hnext4;have hvl:=hvw.length
         refine Z5 ?_
         refine jao rfl zq (fun hc=>?_) (fun hc=>?_)
         ·refine Z7 ?_
          refine jda (fun l' h'=> ∃t:Bool,(∃U:Nat→Value,l'=((.slice (some ⟨bk,0,none⟩) n c)::(.int .i64 (a:Int))::(.int .i64 (b:Int))::vw4 U 3 ((.int .i64 (i1:Int))::(.int .i64 (cnt:Int))::(U 9)::(.int .i64 (j2:Int))::vw105 U 11 ((.bool t)::vw16 U 117 []))))∧h'=h++[jbU bk vs junk]∧(t=true↔ ¬vs.getD j2 0<vs.getD (j2-1) 0)) [Zp 0,Zp 1,Zp 2,Zp 4,Zp 5,Zp 6,Zp 7,Zr 3,Zr 8,Zk 9,Zp 10] zK zK (List.Sublist.refl _) ?_ ?_
          ·refine D123 ?_;refine Z3 ?_;refine D0 ?_;refine jaW rfl zq (jaQ (j2) zO zO) ?_;refine jaW rfl zq (jaQ (j2-1) zO zO) ?_;refine D43 ?_
           rintro v (⟨hc,rfl⟩|⟨hc,rfl⟩);refine Z2 ?_
           rotate_left
           refine Z2 ?_
           all_goals
            refine Zs ?_
            exact E8
          ·rintro l' h' ⟨t,⟨U,rfl⟩,rfl,ht⟩;cases t
           ·have hcf: ¬(¬vs.getD j2 0<vs.getD (j2-1) 0):=fun e=>absurd (ht.2 e) zA
            refine Z2 ?_;refine D11 ?_;refine Z8 ?_;refine jqC ?_;refine jaW rfl zq (jaQ (j2-1) zO zO) ?_;refine jaW rfl zq (jaQ (j2) zO zO) ?_;refine D0 ?_
            haveI hs1:=setSeg_ints (xs:=vs) (junk:=junk) (v:=vs.getD (j2-1) 0) (i:=(j2:Int)) (k:=j2) zO zO
            refine joq ?_
            haveI hs2:=setSeg_ints (xs:=vs.set (j2) (vs.getD (j2-1) 0)) (junk:=junk) (v:=vs.getD (j2) 0) (i:=(j2:Int)-1) (k:=j2-1) zO zN
            refine D9 ?_
            rw [jb9];refine Z7 ?_
            exact m.weak jab (hnext4 _ _ _ zO ⟨j2+1,jbR vs j2 (j2-1),rfl,by omega,by omega,.step j2 (j2-1) ⟨by omega,by omega⟩ ⟨by omega,by omega⟩ hvw,SortR.swapOut hvo zO zO zO zO,exU rfl,rfl⟩)
           ·have hct:=ht.1 rfl
            refine Z3 ?_
            refine Md.stop _ (.inl ⟨_,rfl,?_⟩)
            exact E14
         ·refine Z4 ?_
          refine Md.stop _ (.inl ⟨_,rfl,?_⟩)
          exact E14
        ·refine Z4 ?_
         refine Md.stop _ (.inl ⟨_,rfl,?_⟩)
         exact E14
    ·have hct:=ht.1 rfl
     refine Z9 ?_
     exact m.weak jab (hnext2 _ _ _ zO ⟨i1+1,rfl,by omega,by omega,SortR.snoc hso2 zO zO,exU rfl,rfl⟩)
  ·rintro l' h' ⟨i1,vs,hx1,hx2,hvw,hvo,⟨U,rfl⟩,rfl⟩;refine Z5 ?_
   exact m.weak jab (hnext1 _ _ _ zO ⟨cnt+1,i1,vs,rfl,by omega,by omega,by omega,hvw,hvo,exU rfl,rfl⟩)
 ·refine Z8 ?_;refine D114 ?_;refine Zs ?_
  exact E10
section
variable {m:Md P B}
def tabB (s:ByteArray):Bool:=(List.range 256).all fun j=>match s.data[j]? with|some b=>decide (j=0∨2^b.toNat≤2*j)|none=>true
theorem k_ixT {x:Operand} {s:ByteArray} (ho:ops[i]?=some ⟨d,.index t x y,ty,pos,af,g⟩) (hw:Wt ops l g) [KHeap kd S h H] [ex:OpV l x (.string s)] [ey:OpV l y (.int k (j:Int))] (ht:P.underlying t=some .string) (hs:s.size=256) (hT:tabB s=true) (h1:j<256)
  (q: ∀b:UInt8,(j=0∨2^b.toNat≤2*j)→RegK m S ops r (put l d (.int .u8 b.toNat)) h C):RegK m S ops ((i,kd)::r) l h C:=by
 have hlt:j<s.size:=by omega
 have hb:=List.all_eq_true.1 hT j (List.mem_range.2 h1)
 have hg:s.data[j]?=some (s[j]'hlt):=by rw [Array.getElem?_eq_getElem (show j<s.data.size from hlt)];rfl
 rw [hg] at hb
 refine RegK.rd (v:= .int .u8 (s[j]'hlt).toNat) (l':=put l d _) ho hw ?_ (p:=⟨rfl⟩) (q _ (of_decide_eq_true hb))
 simp only [execOp,ex.eq,ey.eq]
 refine Reads.value ?_
 unfold Instr.index
 refine Reads.bind (a:=(k,(j:Int))) (Reads.pure _) ?_;refine Reads.bind (jaj ht).reads ?_
 have h0:(0:Int)≤(j:Int):=by omega
 simp only [h0,if_true,Int.toNat_natCast]
 have:s[j]?=some (s[j]'hlt):=by rw [getElem?_pos s j hlt]
 simp only [this]
 exact Reads.pure _
theorem wrap64 (n:Int):0≤IntKind.wrap .u64 n∧IntKind.wrap .u64 n<18446744073709551616:=by
 unfold IntKind.wrap
 simp [IntKind.bits,IntKind.signed]
 omega
theorem jtF {x:Operand} (ho:ops[i]?=some ⟨d,.binOp .xor t x y u,ty,pos,af,g⟩) (hw:Wt ops l g) [KHeap kd S h H] [ex:OpV l x (.int .u64 a)] [ey:OpV l y (.int .u64 b)]
  (q: ∀v:Int,0≤v∧v<18446744073709551616→RegK m S ops r (put l d (.int .u64 v)) h C):RegK m S ops ((i,kd)::r) l h C:=
 RegK.rd (v:= .int .u64 (IntKind.wrap .u64 ((BitVec.ofInt 64 a^^^BitVec.ofInt 64 b).toNat:Int))) (l':=put l d _) (p:=⟨rfl⟩) ho hw (jbm ex.eq ey.eq zS rfl) (q _ (wrap64 _))
theorem k_andU {x:Operand} (ho:ops[i]?=some ⟨d,.binOp .and t x y u,ty,pos,af,g⟩) (hw:Wt ops l g) [KHeap kd S h H] [ex:OpV l x (.int .u64 a)] [ey:OpV l y (.int .u64 b)] (hb:0≤b∧b<18446744073709551616)
  (q: ∀v:Int,0≤v∧v≤b→RegK m S ops r (put l d (.int .u64 v)) h C):RegK m S ops ((i,kd)::r) l h C:=
 RegK.rd (v:= .int .u64 (IntKind.wrap .u64 ((BitVec.ofInt 64 a&&&BitVec.ofInt 64 b).toNat:Int))) (l':=put l d _) (p:=⟨rfl⟩) ho hw (jbm ex.eq ey.eq zS rfl) (q _ ⟨(wrap64 _).1,by
  have h1:(BitVec.ofInt 64 a&&&BitVec.ofInt 64 b).toNat≤(BitVec.ofInt 64 b).toNat:=by rw [BitVec.toNat_and];exact Nat.and_le_right
  have h2:((BitVec.ofInt 64 b).toNat:Int)=b:=by
   rw [BitVec.toNat_ofInt,Int.toNat_of_nonneg (Int.emod_nonneg _ zA)];exact Int.emod_eq_of_lt hb.1 hb.2
  generalize (BitVec.ofInt 64 a&&&BitVec.ofInt 64 b).toNat=z at h1
  unfold IntKind.wrap
  simp [IntKind.bits,IntKind.signed]
  omega⟩)
theorem jtG {x:Operand} (ho:ops[i]?=some ⟨d,.binOp .shl t x y u,ty,pos,af,g⟩) (hw:Wt ops l g) [KHeap kd S h H] [ex:OpV l x (.int .u64 a)] [ey:OpV l y (.int k' b)] (h0:0≤b)
  (q: ∀v:Int,v=IntKind.wrap .u64 (a*2^(min b.toNat 64))→RegK m S ops r (put l d (.int .u64 v)) h C):RegK m S ops ((i,kd)::r) l h C:=
 RegK.rd (v:= .int .u64 (IntKind.wrap .u64 (a*2^(min b.toNat 64)))) (l':=put l d _) (p:=⟨rfl⟩) ho hw (by
  simp only [execOp,ex.eq,ey.eq]
  refine Reads.value (Reads.bind (a:=()) (Reads.pure _) ?_)
  show Reads P B (Op.shift .shl .u64 a k' b) H _
  unfold Op.shift
  rw [if_neg zO];exact Reads.pure _) (q _ rfl)
theorem k_shrU {x:Operand} (ho:ops[i]?=some ⟨d,.binOp .shr t x y u,ty,pos,af,g⟩) (hw:Wt ops l g) [KHeap kd S h H] [ex:OpV l x (.int .u64 a)] [ey:OpV l y (.int k' b)] (h0:0≤b)
  (q: ∀v:Int,RegK m S ops r (put l d (.int .u64 v)) h C):RegK m S ops ((i,kd)::r) l h C:=
 RegK.rd (v:= .int .u64 (a.fdiv (2^(min b.toNat 64)))) (l':=put l d _) (p:=⟨rfl⟩) ho hw (by
  simp only [execOp,ex.eq,ey.eq]
  refine Reads.value (Reads.bind (a:=()) (Reads.pure _) ?_)
  show Reads P B (Op.shift .shr .u64 a k' b) H _
  unfold Op.shift
  rw [if_neg zO];exact Reads.pure _) (q _)
theorem k_nilC {x:Operand} {a:Addr} (ho:ops[i]?=some ⟨d,.nilCheck x,ty,pos,af,g⟩) (hw:Wt ops l g) [KHeap kd S h H] [ex:OpV l x (.pointer (some a))] [PutV l d (.pointer (some a)) l'] (q:RegK m S ops r l' h C):RegK m S ops ((i,kd)::r) l h C:=
 RegK.rd (v:= .pointer (some a)) ho hw (by
  simp only [execOp,ex.eq]
  exact Reads.pure _) q
end
theorem f191_l (m:Md Tryz.prog B) (h:Hp) (x:Nat) (h1:1≤x) (hx:x<65536):FnC m 191 #[.int .u64 (x:Int)] h fun v h'=>h'=h∧ ∃k:Nat,v= .int .i64 (k:Int)∧2^k≤2*x∧k≤17:=by
 refine jaf Tryz.func191 rfl rfl (l:=(.int .u64 (x:Int))::jpn) rfl ?_
 intro cf cs K hK
 refine Z8 ?_
 refine jcH rfl zq (fun hc=>?_) (fun hc=>?_)
 ·exfalso
  omega
 ·refine Z7 ?_
  refine jcH rfl zq (fun hc=>?_) (fun hc=>?_)
  ·exfalso
   omega
  ·refine Z7 ?_
   refine jcH rfl zq (fun hc=>?_) (fun hc=>?_);refine Z5 ?_
   have hq:(x:Int).fdiv (2^(min (8:Int).toNat IntKind.u64.bits))=((x/256:Nat):Int):=by
    rw [Int.fdiv_eq_ediv_of_nonneg _ zA];rfl
   refine k_shr ((x/256:Nat):Int) rfl zq zA hq ?_;refine Z7 ?_;rotate_left
   refine Z3 ?_
   all_goals
    refine Z4 ?_
    first
     |refine jbg rfl zq zK (n':=(x:Int)) zL ?_
     |refine jbg rfl zq zK (n':=((x/256:Nat):Int)) zL ?_
    refine k_ixT rfl zq zK zK zK zO (fun b8 hb8=>jae ?_);refine jbg rfl zq zK (n':=(b8.toNat:Int)) (by have:=b8.toNat_lt;unfold IntKind.wrap;simp [IntKind.bits,IntKind.signed];omega) ?_;have hb9:=b8.toNat_lt
    refine Z4 ?_;refine jad (h) rfl Tryz.func191 rfl jab ?_;refine Zs ?_
    have h2:=hb8.resolve_left zO
    have key: ∀k:Nat,2^k≤2*x→k≤17:=fun k hk=>by
     have h3:2^k<2^17:=by
                     have:(2:Nat)^17=131072:=by decide
                     omega
     have:=(Nat.pow_lt_pow_iff_right (by decide:1<2)).1 h3
     omega
    first
     |exact ⟨rfl,b8.toNat+8,by first|rfl|(congr 1;omega),by rw [Nat.pow_add];omega,key _ (by rw [Nat.pow_add];omega)⟩
     |exact ⟨rfl,b8.toNat,by first|rfl|(congr 1;omega),h2,key _ h2⟩
theorem f151_l (m:Md Tryz.prog B) (h:Hp) (x:Nat) (h1:1≤x) (hx:x<65536):FnC m 151 #[.int .u64 (x:Int)] h fun v h'=>h'=h∧ ∃k:Nat,v= .int .i64 (k:Int)∧2^k≤2*x∧k≤17:=by
 refine jaf Tryz.func151 rfl rfl (l:=(.int .u64 (x:Int))::uu7) rfl ?_
 intro cf cs K hK
 refine Z10 ?_;refine jag rfl zq zK (fun H' hH=>f191_l m H' x h1 hx) ?_
 rintro v ⟨k,rfl,hk0,hk1⟩;refine Z4 ?_;refine jad (h) rfl Tryz.func151 rfl jab ?_;refine Zs ?_
 exact ⟨rfl,k,rfl,hk0,hk1⟩
theorem f217_c (m:Md Tryz.prog B) (h:Hp) (x:Nat) (h1:1≤x) (hx:x<65536):FnC m 217 #[.int .i64 (x:Int)] h fun v h'=>h'=h∧ ∃M:Int,v= .int .u64 M∧1≤M∧M≤2*x:=by
 refine jaf Tryz.func217 rfl rfl (l:=(.int .i64 (x:Int))::uu6) rfl ?_
 intro cf cs K hK
 refine Z7 ?_;refine jbg rfl zq zK (n':=(x:Int)) zL ?_;refine jag rfl zq zK (fun H' hH=>f151_l m H' x h1 hx) ?_
 rintro v ⟨k,rfl,hk0,hk1⟩;refine Zs ?_
 refine jtG rfl zq zO (fun M hM=>jae ?_);refine Z3 ?_;refine jad (h) rfl Tryz.func217 rfl jab ?_;refine Zs ?_
 have hM2:M=((2^k:Nat):Int):=by
  rw [hM,Int.toNat_natCast,Nat.min_eq_left zO,Int.one_mul];unfold IntKind.wrap
  have hk3:2^k≤2*65536:=by omega
  have e:(2:Int)^k=((2^k:Nat):Int):=by push_cast;rfl
  rw [e];generalize 2^k=w at hk3⊢
  simp [IntKind.bits,IntKind.signed]
  omega
 have h2:=Nat.one_le_two_pow (n:=k)
 exact ⟨rfl,M,rfl,by omega,by omega⟩
theorem f218_c (m:Md Tryz.prog B) (h:Hp) (q:Nat) (r0:Int):FnC m 218 #[.pointer (some ⟨q,0,none⟩)] (h++[⟨true,q,.cells [.int .u64 r0].toArray 255 (0,0)⟩]) fun v h'=> ∃r1:Int,v= .int .u64 r1∧h'=h++[⟨true,q,.cells [.int .u64 r1].toArray 255 (0,0)⟩]∧0≤r1∧r1<18446744073709551616:=by
 refine jaf Tryz.func218 rfl rfl (l:=(.pointer (some ⟨q,0,none⟩))::uu32) rfl ?_
 intro cf cs K hK
 refine Z5 ?_;refine D38 ?_;refine Z6 ?_
 refine jtG rfl zq zA (fun s1 _=>jae ?_);refine jtF rfl zq (fun x1 hx1=>jae ?_);refine Zs ?_;refine D9 ?_;refine Z2 ?_;refine D38 ?_;refine Z6 ?_
 refine k_shrU rfl zq zA (fun s2=>jae ?_);refine jtF rfl zq (fun x2 hx2=>jae ?_);refine Zs ?_;refine D9 ?_;refine Z2 ?_;refine D38 ?_;refine Z6 ?_
 refine jtG rfl zq zA (fun s3 _=>jae ?_);refine jtF rfl zq (fun x3 hx3=>jae ?_);refine Zs ?_;refine D9 ?_;refine Z9 ?_;refine jad (h++[⟨true,q,.cells [.int .u64 x3].toArray 255 (0,0)⟩]) rfl Tryz.func218 rfl jab ?_;refine Zs ?_
 exact ⟨x3,rfl,rfl,hx3.1,hx3.2⟩
section
variable {m:Md P B}
theorem k_subU {x:Operand} (ho:ops[i]?=some ⟨d,.binOp .sub t x y u,ty,pos,af,g⟩) (hw:Wt ops l g) [KHeap kd S h H] [ex:OpV l x (.int .u64 a)] [ey:OpV l y (.int .u64 b)] (hr:0≤a-b∧a-b<18446744073709551616) [PutV l d (.int .u64 (a-b)) l']
  (n:RegK m S ops r l' h C):RegK m S ops ((i,kd)::r) l h C:=
 RegK.rd (v:= .int .u64 (a-b)) ho hw (jbm ex.eq ey.eq zS (by
  have:IntKind.wrap .u64 (a-b)=a-b:=by
   unfold IntKind.wrap
   simp [IntKind.bits,IntKind.signed]
   omega
  simp [binOp,Op.intArith,this]
  rfl)) n
end
theorem f183_c (m:Md Tryz.prog B) (h:Hp) {c:Nat} (hl:xs.length=n) (hn:n≤100000) (hn6:n≤60000) (a b:Nat) (hab:a+12<b) (hb:b≤n):FnC m 183 #[.slice (some ⟨bk,0,none⟩) n c,.int .i64 (a:Int),.int .i64 (b:Int)] (h++[jbU bk xs junk]) fun v h'=>v= .tuple [].toArray∧ ∃ys,h'=h++[jbU bk ys junk]∧Sw a b xs ys:=by
 refine jaf Tryz.func183 rfl rfl (l:=(.slice (some ⟨bk,0,none⟩) n c)::(.int .i64 (a:Int))::(.int .i64 (b:Int))::uu62) rfl ?_
 intro cf cs K hK
 refine Z5 ?_
 obtain ⟨w,hwe⟩: ∃w:Nat,(b:Int)-(a:Int)=(w:Int):=⟨b-a,by omega⟩
 have hwn:w=b-a:=by omega
 rw [hwe];refine Z5 ?_
 refine jcH rfl zq (fun hc=>?_) (fun hc=>?_)
 ·refine Z5 ?_;refine jbg rfl zq zK (n':=(w:Int)) zL ?_
  refine jax rfl zq (fun q7=>jau (jae ?_));refine D9 ?_;refine Z4 ?_;refine jag rfl zq zK (fun H' hH=>f217_c m H' w zO zO) ?_
  rintro v ⟨M,rfl,hM1,hM2⟩;refine Z7 ?_;refine D96 ?_;refine D23 ?_;refine Z5 ?_
  refine jai (fun nn l h'=> ∃(e:Nat) (z rr:Int) (ys:List Int),nn=100000-e∧(z=(e:Int))∧(a≤e)∧(e≤a+w/4*2+2)∧(Sw a b xs ys)∧(∃U:Nat→Value,l=((.slice (some ⟨bk,0,none⟩) n c)::(.int .i64 (a:Int))::(.int .i64 (b:Int))::(U 3)::(U 4)::(U 5)::(.int .i64 (w:Int))::(.pointer (some ⟨q7,0,none⟩))::(.int .u64 M)::(.int .i64 z)::vw55 U 10 []))∧h++[jbU bk ys junk,⟨true,q7,.cells [.int .u64 rr].toArray 255 (0,0)⟩]=h') _ ⟨a+w/4*2-1,_,(w:Int),xs,rfl,by omega,by omega,by omega,.refl _,exU rfl,rfl⟩ ?_;rintro nn l h' ⟨e,z,rr,ys,rfl,hz,he1,he2,hsw,⟨U,rfl⟩,rfl⟩ hnext;have hyl:=hsw.length
  refine Z6 ?_;refine D96 ?_;refine D23 ?_;refine Z2 ?_
  refine jcn rfl zq (fun hc=>?_) (fun hc=>?_)
  ·refine Z7 ?_;refine ja7 (Post:=fun v h'=> ∃r1:Int,v= .int .u64 r1∧h'=h++[jbU bk ys junk,⟨true,q7,.cells [.int .u64 r1].toArray 255 (0,0)⟩]∧0≤r1∧r1<18446744073709551616) rfl zq zK (by have:=f218_c m (h++[jbU bk ys junk]) q7 rr;simpa [List.append_assoc] using this) ?_
   rintro v h' ⟨r1,rfl,rfl,hr1,hr2⟩;refine Z2 ?_;refine k_subU rfl zq zO ?_
   refine k_andU rfl zq zO (fun v7 hv7=>jae ?_);refine jbg rfl zq zK (n':=v7) zL ?_;refine Z7 ?_;refine jcH rfl zq (fun hc=>?_) (fun hc=>?_);refine Z6 ?_
   obtain ⟨o,hoe,how⟩: ∃o:Nat,v7-(w:Int)=(o:Int)∧o<w:=⟨(v7-w).toNat,by omega,by omega⟩
   rw [hoe];refine Z2 ?_
   rotate_left
   obtain ⟨o,hoe,how⟩: ∃o:Nat,v7=(o:Int)∧o<w:=⟨v7.toNat,by omega,by omega⟩
   rw [hoe];refine Z3 ?_
   all_goals
    refine D32 ?_;refine Z10 ?_;refine jqC ?_;refine jaW rfl zq (jaQ (a+o) zO zO) ?_;refine jaW rfl zq (jaQ (e) zO zO) ?_;refine D0 ?_
    haveI hs1:=setSeg_ints (xs:=ys) (junk:=junk) (v:=ys.getD (a+o) 0) (i:=z) (k:=e) zO zO
    refine joq ?_
    haveI hs2:=setSeg_ints (xs:=ys.set (e) (ys.getD (a+o) 0)) (junk:=junk) (v:=ys.getD (e) 0) (i:=(a:Int)+(o:Int)) (k:=a+o) zO zN
    refine D9 ?_
    rw [jb9];refine Z7 ?_
    exact m.weak jab (hnext _ _ _ zO ⟨e+1,z+1,r1,_,rfl,by omega,by omega,by omega,.step e (a+o) ⟨by omega,by omega⟩ ⟨by omega,by omega⟩ hsw,exU rfl,rfl⟩)
  ·refine Z3 ?_;refine jdm rfl ?_;refine jad (h++[jbU bk ys junk]) rfl Tryz.func183 rfl jab ?_;refine Zs ?_
   exact ⟨rfl,ys,rfl,hsw⟩
 ·exfalso
  omega
theorem f231_c (m:Md Tryz.prog B) (h:Hp) {c:Nat} (hl:xs.length=n) (hn:n≤100000) (a b q:Nat) (s:Int) (hs:0≤s∧s≤1000) (ha:a<n) (hb:b<n):FnC m 231 #[.slice (some ⟨bk,0,none⟩) n c,.int .i64 (a:Int),.int .i64 (b:Int),.pointer (some ⟨q,0,none⟩)] (h++[jbU bk xs junk,⟨true,q,.cells [.int .i64 s].toArray 3 (0,0)⟩]) fun v h'=> ∃(s1:Int) (x y:Nat),v= .tuple [.int .i64 (x:Int),.int .i64 (y:Int)].toArray∧h'=h++[jbU bk xs junk,⟨true,q,.cells [.int .i64 s1].toArray 3 (0,0)⟩]∧s≤s1∧s1≤s+1∧((x=a∧y=b)∨(x=b∧y=a)):=by
 refine jaf Tryz.func231 rfl rfl (l:=(.slice (some ⟨bk,0,none⟩) n c)::(.int .i64 (a:Int))::(.int .i64 (b:Int))::(.pointer (some ⟨q,0,none⟩))::jpn) rfl ?_
 intro cf cs K hK
 refine Z7 ?_;refine jar [Zp 0,Zp 1,Zp 2,Zp 4,Zp 5,Zp 6,Zr 3,Zr 7,Zk 8] zK zK (List.Sublist.refl _) ?_;refine D123 ?_;refine D123 ?_;refine jaW rfl zq (jaQ (b) zO zO) ?_;refine D72 ?_;refine D43 ?_
 rintro v (⟨hc,rfl⟩|⟨hc,rfl⟩)
 ·refine Z10 ?_;refine D9 ?_;refine Z9 ?_;refine jad (h++[jbU bk xs junk,⟨true,q,.cells [.int .i64 (s+1)].toArray 3 (0,0)⟩]) rfl Tryz.func231 rfl jab ?_;refine Zs ?_
  exact ⟨s+1,b,a,rfl,rfl,by omega,by omega,.inr ⟨rfl,rfl⟩⟩
 ·refine Z12 ?_;refine jad (h++[jbU bk xs junk,⟨true,q,.cells [.int .i64 s].toArray 3 (0,0)⟩]) rfl Tryz.func231 rfl jab ?_;refine Zs ?_
  exact ⟨s,a,b,rfl,rfl,by omega,by omega,.inl ⟨rfl,rfl⟩⟩
theorem f220_c (m:Md Tryz.prog B) (h:Hp) {c:Nat} (hl:xs.length=n) (hn:n≤100000) (a b c0 q:Nat) (s:Int) (hs:0≤s∧s≤900) (ha:a<n) (hb:b<n) (hc:c0<n):FnC m 220 #[.slice (some ⟨bk,0,none⟩) n c,.int .i64 (a:Int),.int .i64 (b:Int),.int .i64 (c0:Int),.pointer (some ⟨q,0,none⟩)] (h++[jbU bk xs junk,⟨true,q,.cells [.int .i64 s].toArray 3 (0,0)⟩]) fun v h'=> ∃(s1:Int) (y:Nat),v= .int .i64 (y:Int)∧h'=h++[jbU bk xs junk,⟨true,q,.cells [.int .i64 s1].toArray 3 (0,0)⟩]∧s≤s1∧s1≤s+3∧(y=a∨y=b∨y=c0):=by
 refine jaf Tryz.func220 rfl rfl (l:=(.slice (some ⟨bk,0,none⟩) n c)::(.int .i64 (a:Int))::(.int .i64 (b:Int))::(.int .i64 (c0:Int))::(.pointer (some ⟨q,0,none⟩))::uu31) rfl ?_
 intro cf cs K hK
 refine Z10 ?_;refine ja7 rfl zq zK (f231_c m h hl hn a b q s zO zO zO) ?_
 rintro v h' ⟨s1,x1,y1,rfl,rfl,hs1a,hs1b,hxy1⟩;refine Z13 ?_;refine ja7 rfl zq zK (f231_c m h hl hn y1 c0 q s1 zO zO zO) ?_
 rintro v h' ⟨s2,x2,y2,rfl,rfl,hs2a,hs2b,hxy2⟩;refine Z13 ?_;refine ja7 rfl zq zK (f231_c m h hl hn x1 x2 q s2 zO zO zO) ?_
 rintro v h' ⟨s3,x3,y3,rfl,rfl,hs3a,hs3b,hxy3⟩;refine Z13 ?_;refine jad (h++[jbU bk xs junk,⟨true,q,.cells [.int .i64 s3].toArray 3 (0,0)⟩]) rfl Tryz.func220 rfl jab ?_;refine Zs ?_
 exact ⟨s3,y3,rfl,rfl,by omega,by omega,by omega⟩
theorem f219_c (m:Md Tryz.prog B) (h:Hp) {c:Nat} (hl:xs.length=n) (hn:n≤100000) (a q:Nat) (s:Int) (hs:0≤s∧s≤900) (ha:1≤a) (hb:a+1<n):FnC m 219 #[.slice (some ⟨bk,0,none⟩) n c,.int .i64 (a:Int),.pointer (some ⟨q,0,none⟩)] (h++[jbU bk xs junk,⟨true,q,.cells [.int .i64 s].toArray 3 (0,0)⟩]) fun v h'=> ∃(s1:Int) (y:Nat),v= .int .i64 (y:Int)∧h'=h++[jbU bk xs junk,⟨true,q,.cells [.int .i64 s1].toArray 3 (0,0)⟩]∧s≤s1∧s1≤s+3∧(a-1≤y∧y≤a+1):=by
 refine jaf Tryz.func219 rfl rfl (l:=(.slice (some ⟨bk,0,none⟩) n c)::(.int .i64 (a:Int))::(.pointer (some ⟨q,0,none⟩))::uu12) rfl ?_
 intro cf cs K hK
 refine Z12 ?_
 rw [show (a:Int)-1=((a-1:Nat):Int) by omega,show (a:Int)+1=((a+1:Nat):Int) by omega];refine Zs ?_;refine ja7 rfl zq zK (f220_c m h hl hn (a-1) a (a+1) q s hs zO zO zO) ?_
 rintro v h' ⟨s1,y,rfl,rfl,hs1,hs2,hy⟩;refine Z4 ?_;refine jad (h++[jbU bk xs junk,⟨true,q,.cells [.int .i64 s1].toArray 3 (0,0)⟩]) rfl Tryz.func219 rfl jab ?_;refine Zs ?_
 exact ⟨s1,y,rfl,rfl,hs1,hs2,by omega⟩
theorem f184_c (m:Md Tryz.prog B) (h:Hp) {c:Nat} (hl:xs.length=n) (hn:n≤100000) (a b:Nat) (hab:a+12<b) (hb:b≤n):FnC m 184 #[.slice (some ⟨bk,0,none⟩) n c,.int .i64 (a:Int),.int .i64 (b:Int)] (h++[jbU bk xs junk]) fun v h'=> ∃(p:Nat) (k:Int),v= .tuple [.int .i64 (p:Int),.int .i64 k].toArray∧h'=h++[jbU bk xs junk]∧a≤p∧p<b:=by
 refine jaf Tryz.func184 rfl rfl (l:=(.slice (some ⟨bk,0,none⟩) n c)::(.int .i64 (a:Int))::(.int .i64 (b:Int))::uu54) rfl ?_
 intro cf cs K hK
 refine Z10 ?_
 obtain ⟨w,hwe⟩: ∃w:Nat,(b:Int)-(a:Int)=(w:Int):=⟨b-a,by omega⟩
 have hwn:w=b-a:=by omega
 rw [hwe];refine Z4 ?_
 refine jax rfl zq (fun q9=>jau (jae ?_));refine Z5 ?_;refine D96 ?_;refine D23 ?_;refine Zs ?_
 obtain ⟨i0,hi0⟩: ∃x:Nat,(a:Int)+((w/4:Nat):Int)*1=(x:Int):=⟨a+w/4*1,by push_cast;rfl⟩
 have hi0n:i0=a+w/4*1:=by omega
 rw [hi0];refine Z6 ?_;refine D96 ?_;refine D23 ?_;refine Zs ?_
 obtain ⟨j0,hj0⟩: ∃x:Nat,(a:Int)+((w/4:Nat):Int)*2=(x:Int):=⟨a+w/4*2,by push_cast;rfl⟩
 have hj0n:j0=a+w/4*2:=by omega
 rw [hj0];refine Z6 ?_;refine D96 ?_;refine D23 ?_;refine Zs ?_
 obtain ⟨k0,hk0⟩: ∃x:Nat,(a:Int)+((w/4:Nat):Int)*3=(x:Int):=⟨a+w/4*3,by push_cast;rfl⟩
 have hk0n:k0=a+w/4*3:=by omega
 rw [hk0];refine Z6 ?_
 refine jcH rfl zq (fun hc=>?_) (fun hc=>?_)
 ·refine Z6 ?_
  refine jcH rfl zq (fun hc=>?_) (fun hc=>?_);refine Z6 ?_;refine ja7 rfl zq zK (f219_c m h hl hn i0 q9 0 zO zO zO) ?_
  rintro v h' ⟨s1,y1,rfl,rfl,hs1a,hs1b,hy1⟩;refine Z7 ?_;refine ja7 rfl zq zK (f219_c m h hl hn j0 q9 s1 zO zO zO) ?_
  rintro v h' ⟨s2,y2,rfl,rfl,hs2a,hs2b,hy2⟩;refine Z6 ?_;refine ja7 rfl zq zK (f219_c m h hl hn k0 q9 s2 zO zO zO) ?_
  rintro v h' ⟨s3,y3,rfl,rfl,hs3a,hs3b,hy3⟩;refine Z3 ?_
  rotate_left
  refine Z3 ?_
  all_goals
   refine Z5 ?_;refine ja7 rfl zq zK (f220_c m h hl hn _ _ _ q9 _ zO zO zO zO) ?_
   rintro v h' ⟨s4,p,rfl,rfl,hs4a,hs4b,hp⟩;refine Z10 ?_
   refine jaS rfl zq (fun hc=>?_) (fun hc=>?_)
   ·refine Z10 ?_;refine jad (h++[jbU bk xs junk]) rfl Tryz.func184 rfl jab ?_;refine Zs ?_
    exact ⟨p,_,rfl,rfl,by omega,by omega⟩
   ·refine Z5 ?_
    refine jaS rfl zq (fun hc=>?_) (fun hc=>?_);refine Z3 ?_
    rotate_left
    refine Z3 ?_
    all_goals
     refine Z7 ?_;refine jad (h++[jbU bk xs junk]) rfl Tryz.func184 rfl jab ?_;refine Zs ?_
     exact ⟨p,_,rfl,rfl,by omega,by omega⟩
 ·exfalso
  omega
end
section
def Out (ys:List Int) (a b a1 b1:Nat):Prop:= ∀p q,a≤p→p<q→q<b→(p<a1∨b1≤q)→ys.getD p 0≤ys.getD q 0
theorem Out.sw {zs:List Int} {a b:Nat} (h:Out ys a b a1 b1) (s:Sw a1 b1 ys zs) (hb:b1≤b) (hl:b≤ys.length) (ha:a≤a1):Out zs a b a1 b1:=fun p q h1 h2 h3 h4=>by
 by_cases e1:p<a1
 ·rw [s.out zO (.inl e1)];by_cases e2:a1≤q∧q<b1
  ·exact s.all (p:=fun v=>ys.getD p 0≤v) zO (fun k h5 h6=>h p k h1 zO zO (.inl e1)) q e2.1 e2.2
  ·rw [s.out zO zO];exact h p q h1 h2 h3 (.inl e1)
 ·have e3:b1≤q:=by omega
  rw [s.out (k:=q) zO (.inr e3)];by_cases e2:p<b1
  ·exact s.all (p:=fun v=>v≤ys.getD q 0) zO (fun k h5 h6=>h k q zO zO h3 (.inr e3)) p zO e2
  ·rw [s.out zO (.inr zO)];exact h p q h1 h2 h3 (.inr e3)
theorem Out.all {a b:Nat} (h:Out ys a b a1 b1) (hs:SortR ys a1 b1):SortR ys a b:=fun p q h1 h2 h3=>by
 by_cases e:p<a1∨b1≤q
 ·exact h p q h1 h2 h3 e
 ·exact hs p q zO h2 zO
theorem Out.left {ys:List Int} {a b a1 b1 q0:Nat} (h:Out ys a b a1 b1) (hc:Cut ys a1 b1 q0) (hs:SortR ys a1 q0):Out ys a b (q0+1) b1:=fun p q h1 h2 h3 h4=>by
 by_cases e:p<a1∨b1≤q
 ·exact h p q h1 h2 h3 e
 ·by_cases e1:q<q0
  ·exact hs p q zO h2 e1
  ·by_cases e2:q=q0
   ·subst e2
    exact hc.1 p zO h2
   ·have h5:=hc.2 q zO zO
    by_cases e3:p=q0
    ·subst e3
     exact h5
    ·have:=hc.1 p zO zO;omega
theorem Out.right {a b q0:Nat} (h:Out ys a b a1 b1) (hc:Cut ys a1 b1 q0) (hs:SortR ys (q0+1) b1):Out ys a b a1 q0:=fun p q h1 h2 h3 h4=>by
 by_cases e:p<a1∨b1≤q
 ·exact h p q h1 h2 h3 e
 ·by_cases e1:q0<p
  ·exact hs p q zO h2 zO
  ·by_cases e2:p=q0
   ·subst e2
    exact hc.2 q h2 zO
   ·have h5:=hc.1 p zO zO
    by_cases e3:q=q0
    ·subst e3
     exact h5
    ·have:=hc.2 q zO zO;omega
theorem Out.equal {a b q0:Nat} (h:Out ys a b a1 b1) (hs:SortR ys a1 q0) (hx: ∀p k,a1≤p→p<q0→q0≤k→k<b1→ys.getD p 0≤ys.getD k 0):Out ys a b q0 b1:=fun p q h1 h2 h3 h4=>by
 by_cases e:p<a1∨b1≤q
 ·exact h p q h1 h2 h3 e
 ·by_cases e1:q<q0
  ·exact hs p q zO h2 e1
  ·exact hx p q zO zO zO zO
theorem low_of {a b:Nat} (h:Low xs a b) (s:Sw a b xs ys) (o:Out ys a b a1 b1) (ha:a≤a1) (hb:b1≤b) (hl:b≤xs.length):Low ys a1 b1:=by
 by_cases e:a=a1
 ·subst e
  rcases h.sw s hl with h1|h1
  ·exact .inl h1
  ·exact .inr fun k hk1 hk2=>h1 k hk1 zO
 ·exact .inr fun k hk1 hk2=>o (a1-1) k zO zO zO (.inl zO)
def PdqP {B:Array Obj} (m:Md Tryz.prog B) (N:Nat):Prop:= ∀(h:Hp) (bk n c:Nat) (xs:List Int) (junk:List Value) (lim:Int) (a b:Nat),xs.length=n→n≤60000→0≤lim→lim≤1000→a≤b→b≤n→b-a≤N→Low xs a b→
 FnC m 150 #[.slice (some ⟨bk,0,none⟩) n c,.int .i64 (a:Int),.int .i64 (b:Int),.int .i64 lim] (h++[jbU bk xs junk]) fun v h'=>v= .tuple [].toArray∧ ∃ys,h'=h++[jbU bk ys junk]∧Sw a b xs ys∧SortR ys a b
theorem f150_i (m:Md Tryz.prog B) (N:Nat) (IH: ∀M,M<N→PdqP m M):PdqP m N:=by
 intro h bk n c xs junk lim a b hl hn hk0 hk1 hab hb hN hlow
 refine jaf Tryz.func150 rfl rfl (l:=(.slice (some ⟨bk,0,none⟩) n c)::(.int .i64 (a:Int))::(.int .i64 (b:Int))::(.int .i64 lim)::jr9) rfl ?_
 intro cf cs K hK
 refine Z9 ?_
 refine jai (fun nn l h'=> ∃(a1 b1:Nat) (lim1:Int) (w1 w2:Bool) (ys:List Int),nn=b1-a1+0∧(a≤a1)∧(a1≤b1)∧(b1≤b)∧(0≤lim1)∧(lim1≤1000)∧(Sw a b xs ys)∧(Out ys a b a1 b1)∧(∃U:Nat→Value,l=((.slice (some ⟨bk,0,none⟩) n c)::(.int .i64 (a1:Int))::(.int .i64 (b1:Int))::(.int .i64 lim1)::vw4 U 4 ((.bool w1)::(.bool w2)::jmF U 10 [])))∧h++[jbU bk ys junk]=h') _ ⟨a,b,lim,true,true,xs,rfl,by omega,by omega,by omega,by omega,by omega,.refl _,fun p q h1 h2 h3 h4=>by omega,exU rfl,rfl⟩ ?_;rintro nn l h' ⟨a1,b1,lim1,w1,w2,ys,rfl,ha1,hab1,hb1,hl0,hl1,hsw,hou,⟨U,rfl⟩,rfl⟩ hnext;have hyl:=hsw.length
 have hlo:=low_of hlow hsw hou ha1 hb1 zO
 refine Z12 ?_
 refine jcn rfl zq (fun hc=>?_) (fun hc=>?_)
 ·refine Z7 ?_;refine ja7 rfl zq zK (f181_c m h zO zO a1 b1 zO zO) ?_
  rintro v h' ⟨rfl,zs,rfl,hzw,hzs⟩;refine Z3 ?_;refine jad (h++[jbU bk zs junk]) rfl Tryz.func150 rfl jab ?_;refine Zs ?_
  exact ⟨rfl,zs,rfl,hsw.trans (hzw.mono ha1 hb1),(hou.sw hzw hb1 zO ha1).all hzs⟩
 ·refine Z7 ?_
  refine jaS rfl zq (fun hc=>?_) (fun hc=>?_)
  ·refine Z7 ?_;refine ja7 rfl zq zK (f182_c m h zO zO a1 b1 zO zO) ?_
   rintro v h' ⟨rfl,zs,rfl,hzw,hzs⟩;refine Z3 ?_;refine jad (h++[jbU bk zs junk]) rfl Tryz.func150 rfl jab ?_;refine Zs ?_
   exact ⟨rfl,zs,rfl,hsw.trans (hzw.mono ha1 hb1),(hou.sw hzw hb1 zO ha1).all hzs⟩
  ·refine Z3 ?_
   refine jf7 (fun l' h'=> ∃(lim2:Int) (y1:List Int),(0≤lim2)∧(lim2≤1000)∧(Sw a1 b1 ys y1)∧(∃U:Nat→Value,l'=((.slice (some ⟨bk,0,none⟩) n c)::(.int .i64 (a1:Int))::(.int .i64 (b1:Int))::(.int .i64 lim2)::vw4 U 4 ((.bool w1)::(.bool w2)::(.int .i64 ((b1:Int)-(a1:Int)))::vw123 U 11 [])))∧h++[jbU bk y1 junk]=h') ?_ ?_
   ·refine Z3 ?_;refine k_not rfl zq ?_;refine Zs ?_
    refine jcS (fun hc=>?_) (fun hc=>?_)
    ·first|replace hc:=of_decide_eq_true hc|replace hc:=of_decide_eq_false hc|skip
     refine Z5 ?_;refine ja7 rfl zq zK (f183_c m h zO zO zO a1 b1 zO zO) ?_
     rintro v h' ⟨rfl,zb,rfl,hbw⟩;refine Z7 ?_
     refine Md.stop _ (.inl ⟨_,rfl,?_⟩)
     first|exact ⟨_,_,by omega,by omega,by first|exact hbw|exact .refl _,exU rfl,rfl⟩
    ·first|replace hc:=of_decide_eq_true hc|replace hc:=of_decide_eq_false hc|skip
     refine Zs ?_
     refine Md.stop _ (.inl ⟨_,rfl,?_⟩)
     first|exact ⟨_,_,by omega,by omega,by first|exact hbw|exact .refl _,exU rfl,rfl⟩
   ·rintro l' h' ⟨lim2,y1,hl2,hl3,hs1,⟨U,rfl⟩,rfl⟩;have hy1:=hs1.length
    refine Z5 ?_;refine ja7 rfl zq zK (f184_c m h (xs:=y1) zO zO a1 b1 zO zO) ?_
    rintro v h' ⟨p,hint,rfl,rfl,hp1,hp2⟩;refine Z7 ?_
    refine jf7 (fun l' h'=> ∃(p:Nat) (hint:Int) (y2:List Int),(a1≤p)∧(p<b1)∧(Sw a1 b1 ys y2)∧(∃U:Nat→Value,l'=((.slice (some ⟨bk,0,none⟩) n c)::(.int .i64 (a1:Int))::(.int .i64 (b1:Int))::(.int .i64 lim2)::vw4 U 4 ((.bool w1)::(.bool w2)::(.int .i64 ((b1:Int)-(a1:Int)))::(.int .i64 (p:Int))::(.int .i64 hint)::vw121 U 13 [])))∧h++[jbU bk y2 junk]=h') ?_ ?_
    ·refine Z3 ?_
     refine jaS rfl zq (fun hc=>?_) (fun hc=>?_)
     ·refine Z7 ?_;refine ja7 rfl zq zK (f185_c m h (xs:=y1) zO zO a1 b1 zO zO) ?_
      rintro v h' ⟨rfl,zr,rfl,hrw⟩;refine Z10 ?_
      obtain ⟨p,hpe,hp1,hp2⟩: ∃p2:Nat,(b1:Int)-1-((p:Int)-(a1:Int))=(p2:Int)∧a1≤p2∧p2<b1:=⟨((b1:Int)-1-((p:Int)-(a1:Int))).toNat,by omega,by omega,by omega⟩
      rw [hpe];refine Z5 ?_
      refine Md.stop _ (.inl ⟨_,rfl,?_⟩)
      exact E15
     ·refine Z3 ?_
      refine Md.stop _ (.inl ⟨_,rfl,?_⟩)
      exact E15
    ·rintro l' h' ⟨p,hint,y2,hp1,hp2,hs2,⟨U,rfl⟩,rfl⟩;have hy2:=hs2.length
     refine jf7 (fun l' h'=> ∃(y3:List Int),(Sw a1 b1 ys y3)∧(∃U:Nat→Value,l'=((.slice (some ⟨bk,0,none⟩) n c)::(.int .i64 (a1:Int))::(.int .i64 (b1:Int))::(.int .i64 lim2)::vw4 U 4 ((.bool w1)::(.bool w2)::(.int .i64 ((b1:Int)-(a1:Int)))::(.int .i64 (p:Int))::vw122 U 12 [])))∧h++[jbU bk y3 junk]=h') ?_ ?_
     ·refine Zs ?_
      rcases w1 with _|_
      ·refine Z12 ?_
       refine Md.stop _ (.inl ⟨_,rfl,?_⟩)
       exact E16
      ·rcases w2 with _|_
       ·refine Z12 ?_
        refine Md.stop _ (.inl ⟨_,rfl,?_⟩)
        exact E16
       ·refine Z7 ?_
        refine jaS rfl rfl (fun hc=>?_) (fun hc=>?_)
        ·refine Z8 ?_;refine ja7 rfl zq zK (f186_c m h (xs:=y2) zO zO a1 b1 zO zO (hlo.sw hs2 zO)) ?_
         rintro v h' ⟨t168,zi,rfl,rfl,hiw,his⟩;refine Z2 ?_
         refine jcS (fun hc=>?_) (fun hc=>?_)
         ·first|replace hc:=of_decide_eq_true hc|replace hc:=of_decide_eq_false hc|skip
          refine Md.stop _ (.inr ?_)
          refine Zs ?_;refine jad (h++[jbU bk zi junk]) rfl Tryz.func150 rfl jab ?_;refine Zs ?_
          exact ⟨rfl,zi,rfl,hsw.trans ((hs2.trans hiw).mono ha1 hb1),((hou.sw hs2 hb1 zO ha1).sw hiw hb1 zO ha1).all (his zD)⟩
         ·first|replace hc:=of_decide_eq_true hc|replace hc:=of_decide_eq_false hc|skip
          refine Zs ?_
          refine Md.stop _ (.inl ⟨_,rfl,?_⟩)
          exact E16
        ·refine Z4 ?_
         refine Md.stop _ (.inl ⟨_,rfl,?_⟩)
         exact E16
     ·rintro l' h' ⟨y3,hs3,⟨U,rfl⟩,rfl⟩;have hy3:=hs3.length
      have hlo3:=hlo.sw hs3 zO
      refine jf7 (fun l' h'=> ∃(y4:List Int),(Sw a1 b1 ys y4)∧(∃U:Nat→Value,l'=((.slice (some ⟨bk,0,none⟩) n c)::(.int .i64 (a1:Int))::(.int .i64 (b1:Int))::(.int .i64 lim2)::vw4 U 4 ((.bool w1)::(.bool w2)::(.int .i64 ((b1:Int)-(a1:Int)))::(.int .i64 (p:Int))::vw122 U 12 [])))∧h++[jbU bk y4 junk]=h') ?_ ?_
      ·refine Zs ?_;refine jar [Zp 0,Zp 1,Zp 2,Zp 3,Zp 4,Zp 5,Zp 6,Zp 8,Zp 9,Zp 10,Zr 7,Zr 11,Zk 12,Zp 13,Zp 14] zK zK (List.Sublist.refl _) ?_;refine Zs ?_
       refine jaY rfl zq (fun hc=>?_) (fun hc=>?_)
       ·refine Z3 ?_;refine D95 ?_;refine D8 ?_;refine Z2 ?_;refine D8 ?_;refine jaW rfl rfl (jaQ (a1-1) zO zO) ?_;refine jaW rfl rfl (jaQ p zO zO) ?_;refine D15 ?_
        rintro v (⟨hc,rfl⟩|⟨hc,rfl⟩)
        ·refine Z6 ?_
         refine Md.stop _ (.inl ⟨_,rfl,?_⟩)
         exact ⟨_,hs3,exU rfl,rfl⟩
        ·refine D124 ?_;refine Z9 ?_
         refine ja7 rfl zq zK (f188_c m h (xs:=y3) zO zO a1 b1 p zO zO zO (fun k hk1 hk2=>by
          rcases hlo3 with e|e
          ·omega
          ·have:=e k hk1 hk2;omega)) ?_
         rintro v h' ⟨q,zs,rfl,rfl,hzw,hq1,hq2,hzs,hzx⟩;refine Z8 ?_
         refine Md.stop _ (.inr ?_)
         refine Zs ?_
         exact m.weak jab (hnext _ _ _ zO ⟨q,b1,lim2,w1,w2,zs,rfl,by omega,by omega,by omega,by omega,by omega,(hsw.trans (hs3.mono ha1 hb1)).trans (hzw.mono ha1 hb1),((hou.sw hs3 hb1 zO ha1).sw hzw hb1 zO ha1).equal hzs hzx,exU rfl,rfl⟩)
       ·refine Z16 ?_
        refine Md.stop _ (.inl ⟨_,rfl,?_⟩)
        exact ⟨_,hs3,exU rfl,rfl⟩
      ·rintro l' h' ⟨y4,hs4,⟨U,rfl⟩,rfl⟩;have hy4:=hs4.length
       have hlo4:=hlo.sw hs4 zO
       refine Z6 ?_;refine ja7 rfl zq zK (f189_c m h (xs:=y4) zO zO a1 b1 p zO zO zO) ?_
       rintro v h' ⟨q,t171,zs,rfl,rfl,hzw,hq1,hq2,hcut⟩;refine Zs ?_
       have hzl:=hzw.length
       have hlo5:=hlo4.sw hzw zO
       refine Z25 ?_;refine jfc (b1-a1) 8 rfl zq zO rfl zO zO ?_;refine Z6 ?_
       refine jao rfl zq (fun hc=>?_) (fun hc=>?_)
       ·refine Z6 ?_;refine jry rfl zq ?_;refine Z8 ?_;refine ja7 rfl zq zK (IH (b1-a1-1) zO h bk n c zs junk lim2 a1 q zO hn hl2 hl3 zO zO zO (hlo5.imp id fun e k h1 h2=>e k h1 zO)) ?_
        rintro v h' ⟨rfl,us,rfl,huw,hus⟩;refine Z8 ?_
        exact m.weak jab (hnext _ _ _ zO ⟨q+1,b1,lim2,_,_,us,rfl,by omega,by omega,by omega,by omega,by omega,((hsw.trans (hs4.mono ha1 hb1)).trans (hzw.mono ha1 hb1)).trans (huw.mono ha1 zO),(((hou.sw hs4 hb1 zO ha1).sw hzw hb1 zO ha1).sw (huw.mono (Nat.le_refl _) zO) hb1 zO ha1).left (hcut.swL huw zO zO) hus,exU rfl,rfl⟩)
       ·refine Z6 ?_;refine jry rfl zq ?_;refine Z9 ?_
        rw [show (q:Int)+1=((q+1:Nat):Int) by omega];refine ja7 rfl zq zK (IH (b1-a1-1) zO h bk n c zs junk lim2 (q+1) b1 zO hn hl2 hl3 zO zO zO (.inr fun k h1 h2=>by rw [Nat.add_sub_cancel];exact hcut.2 k zO h2)) ?_;rintro v h' ⟨rfl,us,rfl,huw,hus⟩;refine Z7 ?_
        exact m.weak jab (hnext _ _ _ zO ⟨a1,q,lim2,_,_,us,rfl,by omega,by omega,by omega,by omega,by omega,((hsw.trans (hs4.mono ha1 hb1)).trans (hzw.mono ha1 hb1)).trans (huw.mono zO hb1),(((hou.sw hs4 hb1 zO ha1).sw hzw hb1 zO ha1).sw (huw.mono zO (Nat.le_refl _)) hb1 zO ha1).right (hcut.swR huw zO) hus,exU rfl,rfl⟩)
theorem pdq_all (m:Md Tryz.prog B) (N:Nat):PdqP m N:=Nat.strongRecOn N fun n ih=>f150_i m n ih
theorem f150_all (m:Md Tryz.prog B):PdqC m 60000:=fun h bk n c xs junk lim hl hn h0 h1=>pdq_all m n h bk n c xs junk lim 0 n hl hn h0 h1 zO (Nat.le_refl _) zO (.inl rfl)
class Off (h new:Hp) (F:outParam Hp):Prop where
 perm:h.Perm (F++new)
instance (priority:=2000) {A new:Hp}:Off (A++new) new A:=⟨List.Perm.refl _⟩
instance (priority:=1000) {A new:Hp} [o:Off A new F]:Off (A++X) new (F++X):=⟨by
 refine (o.perm.append_right X).trans ?_
 rw [List.append_assoc,List.append_assoc];exact List.Perm.append_left F List.perm_append_comm⟩
section
variable {m:Md P B}
theorem jbL {t t2 t3 e k by' q c:Nat} {x:Operand} {s:Value} {rw:Bool} {f:Nat×Nat} {ys:List Value} {new:Hp} (ho:ops[i]?=some ⟨d,.call ⟨.builtin .append,[x,y].toArray,#[t,t2]⟩,ty,pos,af,g⟩) (hg:Wt ops l g)
  [ex:OpV l x s] [ey:OpV l y (.slice (some ⟨q,0,none⟩) mm c)] [SliceT P t e k] [SliceT P t2 e k] [ElemT P e k by'] [hh:Has h q rw (.cells ys.toArray t3 f)] [on:Ones ys] (hy:ys.length=mm*k) (o:OwnS e k s n cs new) [w:Off h new F] (hk:kd= .free∨(kd= .keep∧S.Sublist F)) (hb:2*(n+mm)*by'≤2^48) (hmax:n+mm≤2^62)
  (cc: ∀v' new',OwnS e k v' (n+mm) (cs++ys) new'→RegK m S ops r (put l d v') (F++new') C):RegK m S ops ((i,kd)::r) l h C:=
 k_app ho hg (Weak.perm w.perm) o (jgF hy) on.one hk hb hmax cc
end
theorem jf2 {F1 F2 M L:Hp} [a:Off h' L F1] [b:Off F1 M F2] [s:SubH H F2]:Weak B h' (H++M++L):=
 (Weak.perm a.perm).trans (((Weak.perm b.perm).trans ((Weak.sub s.sub).apps M)).apps L)
theorem setSeg_ints {j:Int} (a:Int) (hj:j=i) (hi:i<xs.length):SetSeg (jaI xs++junk) (0+j.toNat*1) [.int .i64 a] (jaI (xs.set i a)++junk):=by
 subst hj
 have hl:(jaI xs).length=xs.length:=List.length_map ..
 refine ⟨?_,by rw [Int.toNat_natCast,List.length_append,hl];simp only [List.length_cons,List.length_nil];omega⟩
 rw [Int.toNat_natCast,Nat.zero_add,Nat.mul_one,List.take_append_of_le_length zO,List.drop_append_of_le_length (by simp only [List.length_cons,List.length_nil];omega),←jjM,←jtX,List.set_eq_take_append_cons_drop,if_pos hi,jcx];simp [jaI]
theorem jtk {A new:Hp} (o:X.Perm (F++new)):(A++X).Perm ((A++F)++new):=by
 rw [List.append_assoc];exact List.Perm.append_left A o
instance (priority:=900) {A new:Hp} [o:Off X new F]:Off (A++X) new (A++F):=⟨jtk o.perm⟩
instance {x:Chunk} {l:Hp}:Off (x::l) [x] l:=⟨by
 have:=List.perm_append_comm (l₁:=[x]) (l₂:=l)
 exact this⟩
instance (priority:=900) {y:Chunk} {l new:Hp} [o:Off l new F]:Off (y::l) new (y::F):=⟨o.perm.cons y⟩
section
variable {m:Md P B}
theorem jqc {t t2 e k by':Nat} {x:Operand} {s u:Value} {ys:List Value} {new:Hp} (ho:ops[i]?=some ⟨d,.call ⟨.builtin .append,[x,y].toArray,#[t,t2]⟩,ty,pos,af,g⟩) (hg:Wt ops l g)
  [ex:OpV l x s] [ey:OpV l y u] [SliceT P t e k] [SliceT P t2 e k] [ElemT P e k by'] (o:OwnS e k s n cs new) (rx:RdS B h k u mm ys) (h1: ∀u∈ys,u.oneCell'=true) [w:Off h new F] (hk:kd= .free∨(kd= .keep∧S.Sublist F)) (hb:2*(n+mm)*by'≤2^48) (hmax:n+mm≤2^62)
  (c: ∀v' new',OwnS e k v' (n+mm) (cs++ys) new'→RegK m S ops r (put l d v') (F++new') C):RegK m S ops ((i,kd)::r) l h C:=
 k_app ho hg (Weak.perm w.perm) o rx h1 hk hb hmax c
end
end
section
theorem f117_c (m:Md Tryz.prog B) (h:Hp) (x lo hi:Int):FnC m 117 #[.int .i64 x,.int .i64 lo,.int .i64 hi] h fun v h'=>h'=h∧IsB (lo≤x∧x≤hi) v:=by
 refine jaf Tryz.func117 rfl rfl (l:=(.int .i64 x)::(.int .i64 lo)::(.int .i64 hi)::uu12) rfl ?_
 intro cf cs K hK
 refine Z8 ?_
 refine jcn rfl zq (fun hc=>?_) (fun hc=>?_)
 ·refine Z3 ?_
  refine jcn rfl rfl (fun hc=>?_) (fun hc=>?_);all_goals
   refine Z4 ?_;refine jad (h) rfl Tryz.func117 rfl jab ?_;refine Zs ?_
   exact E0
 ·refine Z8 ?_;refine jad (h) rfl Tryz.func117 rfl jab ?_;refine Zs ?_
  exact E0
def partsI (n:Int):List Int:=[n/96,n/8%12,n%8]
abbrev p3V (v:List Int):Value:= .agg [.int .i64 (v.getD 0 0),.int .i64 (v.getD 1 0),.int .i64 (v.getD 2 0)].toArray
theorem f118_c (m:Md Tryz.prog B) (h:Hp) (n:Nat) (hn:n<960):FnC m 118 #[.int .i64 (n:Int)] h fun v h'=>h'=h∧v=p3V (partsI n):=by
 refine jaf Tryz.func118 rfl rfl (l:=(.int .i64 (n:Int))::uu10) rfl ?_
 intro cf cs K hK
 refine Z2 ?_
 refine jax rfl zq (fun q2=>jau (jae ?_));refine Z4 ?_;refine jfc n 96 rfl zq rfl rfl zO zO ?_;refine Zs ?_;refine jfc n 8 rfl zq rfl rfl zO zO ?_;refine jcp (a:=n/8) (b:=12) rfl zq zO ?_;refine Zs ?_;refine jcp (a:=n) (b:=8) rfl zq zO ?_;refine k_bldA rfl zq rfl ?_;refine D6 ?_;refine Z2 ?_;refine jad (h) rfl Tryz.func118 rfl jab ?_;refine Zs ?_
 exact ⟨rfl,rfl⟩
section
variable {m:Md P B}
theorem k_andV {x:Operand} (v:Int) (ho:ops[i]?=some ⟨d,.binOp .and t x y u,ty,pos,af,g⟩) (hw:Wt ops l g) [KHeap kd S h H] [ex:OpV l x (.int k a)] [ey:OpV l y (.int k b)] (hv:bAnd k a b=v) [PutV l d (.int k v) l'] (n:RegK m S ops r l' h C):RegK m S ops ((i,kd)::r) l h C:=
 RegK.rd (v:= .int k v) ho hw (jbm ex.eq ey.eq zS (jgs hv)) n
theorem k_orV {x:Operand} (v:Int) (ho:ops[i]?=some ⟨d,.binOp .or t x y u,ty,pos,af,g⟩) (hw:Wt ops l g) [KHeap kd S h H] [ex:OpV l x (.int k a)] [ey:OpV l y (.int k b)] (hv:bOr k a b=v) [PutV l d (.int k v) l'] (n:RegK m S ops r l' h C):RegK m S ops ((i,kd)::r) l h C:=
 RegK.rd (v:= .int k v) ho hw (jbm ex.eq ey.eq zS (op_or hv)) n
theorem k_subV {x:Operand} (v:Int) (ho:ops[i]?=some ⟨d,.binOp .sub t x y u,ty,pos,af,g⟩) (hw:Wt ops l g) [KHeap kd S h H] [ex:OpV l x (.int k a)] [ey:OpV l y (.int k b)] (hv:k.wrap (a-b)=v) [PutV l d (.int k v) l'] (n:RegK m S ops r l' h C):RegK m S ops ((i,kd)::r) l h C:=
 RegK.rd (v:= .int k v) ho hw (jbm ex.eq ey.eq zS (op_sub hv)) n
theorem k_eqlV {x:Operand} (v:Bool) (ho:ops[i]?=some ⟨d,.binOp .eql t x y u,ty,pos,af,g⟩) (hw:Wt ops l g) [KHeap kd S h H] [ex:OpV l x (.int k a)] [ey:OpV l y (.int k b)] (hv:decide (a=b)=v) [PutV l d (.bool v) l'] (n:RegK m S ops r l' h C):RegK m S ops ((i,kd)::r) l h C:=
 RegK.rd (v:= .bool v) ho hw (jbm ex.eq ey.eq zS (jik hv)) n
end
theorem shr_nat (s:Nat) (hi:i<64):(s:Int).fdiv (2^(min (i:Int).toNat IntKind.u64.bits))=((s/2^i:Nat):Int):=by
 rw [Int.toNat_natCast,show min i IntKind.u64.bits=i from Nat.min_eq_left (by show i≤64;omega)];rw [show ((2:Int)^i)=((2^i:Nat):Int) by simp,Int.fdiv_eq_ediv_of_nonneg _ (Int.natCast_nonneg _)];rfl
theorem and_one (n:Nat) (hn:n<4096):bAnd .u64 (n:Int) 1=((n%2:Nat):Int):=by
 have h:((List.range 4096).all fun n=>bAnd .u64 (n:Int) 1==((n%2:Nat):Int))=true:=by kernel_rfl
 simpa using List.all_eq_true.1 h n (List.mem_range.2 hn)
theorem bit_dec (s i:Nat):decide (((s/2^i%2:Nat):Int)=1)=s.testBit i:=by
 rw [Nat.testBit_eq_decide_div_mod_eq];by_cases h:s/2^i%2=1
 ·simp [h]
 ·simp only [h,decide_false]
  exact decide_eq_false zO
theorem f98_c (m:Md Tryz.prog B) (h:Hp) (s i:Nat) (hs:s<4096) (hi:i<12):FnC m 98 #[.int .u64 (s:Int),.int .i64 (i:Int)] h fun v h'=>h'=h∧v= .bool (s.testBit i):=by
 refine jaf Tryz.func98 rfl rfl (l:=(.int .u64 (s:Int))::(.int .i64 (i:Int))::uu8) rfl ?_
 intro cf cs K hK
 refine Z8 ?_;refine k_shr ((s/2^i:Nat):Int) rfl zq zO (shr_nat s zO) ?_;refine k_andV ((s/2^i%2:Nat):Int) rfl zq (and_one _ (Nat.lt_of_le_of_lt (Nat.div_le_self _ _) zO)) ?_;refine k_eqlV (s.testBit i) rfl zq (bit_dec s i) ?_;refine Z3 ?_;refine jad (h) rfl Tryz.func98 rfl jab ?_;refine Zs ?_
 exact ⟨rfl,rfl⟩
theorem jlr (n:Nat) (hn:n<2^64):IntKind.u64.wrap (n:Int)=(n:Int):=by
 unfold IntKind.wrap
 simp [IntKind.bits,IntKind.signed]
 omega
theorem or_nat (a b:Nat) (ha:a<2^64) (hb:b<2^64):bOr .u64 (a:Int) (b:Int)=((a|||b:Nat):Int):=by
 unfold bOr
 have e:(BitVec.ofInt IntKind.u64.bits (a:Int)|||BitVec.ofInt IntKind.u64.bits (b:Int)).toNat=a|||b:=by
  rw [BitVec.toNat_or,BitVec.ofInt_natCast,BitVec.ofInt_natCast,BitVec.toNat_ofNat,BitVec.toNat_ofNat];rw [show IntKind.u64.bits=64 from rfl,Nat.mod_eq_of_lt ha,Nat.mod_eq_of_lt hb]
 rw [e];exact jlr _ (Nat.or_lt_two_pow ha hb)
theorem jsF (i:Nat) (hi:i<64):IntKind.u64.wrap ((1:Int)*2^(min (i:Int).toNat IntKind.u64.bits))=((2^i:Nat):Int):=by
 rw [Int.toNat_natCast,show min i IntKind.u64.bits=i from Nat.min_eq_left (by show i≤64;omega),Int.one_mul];rw [show ((2:Int)^i)=((2^i:Nat):Int) by simp];exact jlr _ (Nat.pow_lt_pow_right zO hi)
theorem f106_c (m:Md Tryz.prog B) (h:Hp) (n:Nat) (hn:n≤12):FnC m 106 #[.int .i64 (n:Int)] h fun v h'=>h'=h∧v= .int .u64 ((2^n-1:Nat):Int):=by
 refine jaf Tryz.func106 rfl rfl (l:=[.int .i64 (n:Int),undef,undef,undef,undef,undef]) rfl ?_
 intro cf cs K hK
 refine Z7 ?_;refine k_shl ((2^n:Nat):Int) rfl zq zO (jsF n zO) ?_;refine k_subV ((2^n-1:Nat):Int) rfl zq (by have:=Nat.pow_le_pow_right (n:=2) zO hn;have:=Nat.pow_pos (n:=n) (show 0<2 by omega);rw [show ((2^n:Nat):Int)-1=((2^n-1:Nat):Int) by omega];exact jlr _ zO) ?_;refine Z3 ?_;refine jad (h) rfl Tryz.func106 rfl jab ?_;refine Zs ?_
 exact ⟨rfl,rfl⟩
theorem f135_c (m:Md Tryz.prog B) (h:Hp) (s i:Nat) (hs:s<4096) (hi:i<12):FnC m 135 #[.int .u64 (s:Int),.int .i64 (i:Int)] h fun v h'=>h'=h∧v= .int .u64 ((s|||2^i:Nat):Int):=by
 refine jaf Tryz.func135 rfl rfl (l:=(.int .u64 (s:Int))::(.int .i64 (i:Int))::uu7) rfl ?_
 intro cf cs K hK
 refine Z8 ?_;refine k_shl ((2^i:Nat):Int) rfl zq zO (jsF i zO) ?_;refine k_orV ((s|||2^i:Nat):Int) rfl zq (or_nat _ _ zO (Nat.pow_lt_pow_right zO zO)) ?_;refine Z3 ?_;refine jad (h) rfl Tryz.func135 rfl jab ?_;refine Zs ?_
 exact ⟨rfl,rfl⟩
end
section
class LaidO (B:Array Obj):Prop where
 halves: ∃t f,B[0]?=some (.cells [str [119,97,116,101,114],.bool false,.func (.func 261) #[] #[],str [98,117,116,116],.bool true,.func (.func 262) #[] #[]].toArray t f)
 mosts: ∃t f,B[1]?=some (.cells [.int .i64 9,.int .i64 11,.int .i64 7].toArray t f)
variable [LaidO B]
theorem jgL [x:LaidO B]:RdN B h 0 0 [str [119,97,116,101,114],.bool false,.func (.func 261) #[] #[],str [98,117,116,116],.bool true,.func (.func 262) #[] #[]]:=fun j hj=>by
 obtain ⟨t,f,e⟩:=x.halves
 refine Rd.base rfl e ?_
 rw [Nat.zero_add,List.getElem?_toArray,List.getD_eq_getElem?_getD,List.getElem?_eq_getElem hj];rfl
theorem jru [x:LaidO B]:RdN B h 1 0 [.int .i64 9,.int .i64 11,.int .i64 7]:=fun j hj=>by
 obtain ⟨t,f,e⟩:=x.mosts
 refine Rd.base rfl e ?_
 rw [Nat.zero_add,List.getElem?_toArray,List.getD_eq_getElem?_getD,List.getElem?_eq_getElem hj];rfl
theorem most_at [LaidO B] (k:Nat) (hk:k<3):Rd B h ⟨1,k,none⟩ (.int .i64 (mosts.getD k 0)):=by
 have:=jru (B:=B) (h:=h) k hk
 rw [Nat.zero_add] at this
 rcases (by omega:k=0∨k=1∨k=2) with rfl|rfl|rfl<;>exact this
end
end Go.Proofs
