/- A part of the proof of a law: my own separation logic over the machine, and walks of the program. Condition of each theorem: as its statement says. -/
import Derived.Test.YtggpepeiedkbbaaGreatDoorVLOfewest5
set_option linter.all false
namespace Go.Lo
open Go.Conc (G)
structure Wr (B:Prop):Prop where
  g:B
section
variable {A B:Prop}
theorem Zs (b:B) (h:Wr B→A:=by intro zx;(first|refine mq rfl ?_|refine k_off rfl rfl ?_|refine k_mv rfl rfl ?_|(first|refine k_fa0 rfl zq ?_|refine k_fa rfl zq ?_)|refine k_ldh rfl zq ?_|refine k_ldA rfl zq ?_|refine k_add rfl zq zL ?_|refine k_as rfl zq ?_|refine k_len rfl zq ?_|refine k_ext1 rfl zq ?_|refine k_ext0 rfl zq ?_|refine k_ixa rfl zq zO zO ?_|(first|refine k_fa0 rfl rfl ?_|refine k_fa rfl rfl ?_)|refine k_ixa rfl rfl zO zO ?_|refine k_sub rfl zq zL ?_|refine k_ldh rfl rfl ?_|refine k_len rfl rfl ?_|refine k_sub rfl rfl zL ?_|refine k_ldA rfl rfl ?_|refine k_ext2 rfl zq ?_|refine k_fld rfl zq ?_);exact zx.g):A:=h ⟨b⟩
theorem Z2 (b:B) (h:Wr B→A:=by intro zx;(iterate 2 (refine Zs ?_));exact zx.g):A:=h ⟨b⟩
theorem Z3 (b:B) (h:Wr B→A:=by intro zx;(iterate 3 (refine Zs ?_));exact zx.g):A:=h ⟨b⟩
theorem Z4 (b:B) (h:Wr B→A:=by intro zx;(iterate 4 (refine Zs ?_));exact zx.g):A:=h ⟨b⟩
theorem Z5 (b:B) (h:Wr B→A:=by intro zx;(iterate 5 (refine Zs ?_));exact zx.g):A:=h ⟨b⟩
theorem Z6 (b:B) (h:Wr B→A:=by intro zx;(iterate 6 (refine Zs ?_));exact zx.g):A:=h ⟨b⟩
theorem Z7 (b:B) (h:Wr B→A:=by intro zx;(iterate 7 (refine Zs ?_));exact zx.g):A:=h ⟨b⟩
theorem Z8 (b:B) (h:Wr B→A:=by intro zx;(iterate 8 (refine Zs ?_));exact zx.g):A:=h ⟨b⟩
theorem Z9 (b:B) (h:Wr B→A:=by intro zx;(iterate 9 (refine Zs ?_));exact zx.g):A:=h ⟨b⟩
theorem Z10 (b:B) (h:Wr B→A:=by intro zx;(iterate 10 (refine Zs ?_));exact zx.g):A:=h ⟨b⟩
theorem Z11 (b:B) (h:Wr B→A:=by intro zx;(iterate 11 (refine Zs ?_));exact zx.g):A:=h ⟨b⟩
theorem Z12 (b:B) (h:Wr B→A:=by intro zx;(iterate 12 (refine Zs ?_));exact zx.g):A:=h ⟨b⟩
theorem Z13 (b:B) (h:Wr B→A:=by intro zx;(iterate 13 (refine Zs ?_));exact zx.g):A:=h ⟨b⟩
theorem Z19 (b:B) (h:Wr B→A:=by intro zx;(iterate 19 (refine Zs ?_));exact zx.g):A:=h ⟨b⟩
theorem D0 (b:B) (h:Wr B→A:=by intro zx;refine aq rfl ?_;exact zx.g):A:=h ⟨b⟩
theorem D1 (b:B) (h:Wr B→A:=by intro zx;refine k_nil ?_;exact zx.g):A:=h ⟨b⟩
theorem D2 (b:B) (h:Wr B→A:=by intro zx;refine jb0 ?_;exact zx.g):A:=h ⟨b⟩
theorem D3 (b:B) (h:Wr B→A:=by intro zx;refine m.weak (h':=h++[⟨true,q1,.cells (tbL b ps ns ks pw nw cw pb nb cb).toArray 25 (0,0)⟩,⟨true,qm,mapC (accC b i k (j+1))⟩,⟨true,q18,.cells (shC (tbL b ps ns ks pw nw cw pb nb cb) (.slice p9 (accC b i k (j+1)).length c9) (.map (some qm)) (la3.set (accC b i k j).length x.ln.lat) (cl3.set (accC b i k j).length (.slice p80 (meaS (x.ln.figs.getD j [])).length c80))).toArray 132 (0,0)⟩]++[⟨true,q5,.cells [str (hwS i),.bool (decide (i=1)),.func (.func (261+i)) #[] #[]].toArray 184 (0,0)⟩]++[⟨true,q7,.cells [.int .i64 x.ln.lat,.slice x.p x.ln.figs.length x.c].toArray 121 (0,0)⟩]++n9++(M3++n80)) jdV ?_;exact zx.g):A:=h ⟨b⟩
theorem D4 (b:B) (h:Wr B→A:=by intro zx;refine run_ret rfl ?_;exact zx.g):A:=h ⟨b⟩
theorem D5 (b:B) (h:Wr B→A:=by intro zx;refine hK _ _ ?_;exact zx.g):A:=h ⟨b⟩
theorem D6 (b:B) (h:Wr B→A:=by intro zx;refine run_no ?_;exact zx.g):A:=h ⟨b⟩
theorem D7 (b:B) (h:Wr B→A:=by intro zx;refine run_skip ?_;exact zx.g):A:=h ⟨b⟩
theorem D8 (b:B) (h:Wr B→A:=by intro zx;refine run_yes ?_;exact zx.g):A:=h ⟨b⟩
theorem D9 (b:B) (h:Wr B→A:=by intro zx;refine jad ?_;exact zx.g):A:=h ⟨b⟩
theorem D10 (b:B) (h:Wr B→A:=by intro zx;refine joD rfl zq ?_;exact zx.g):A:=h ⟨b⟩
theorem D11 (b:B) (h:Wr B→A:=by intro zx;refine jn6 ?_;exact zx.g):A:=h ⟨b⟩
theorem D12 (b:B) (h:Wr B→A:=by intro zx;refine jkW ?_;exact zx.g):A:=h ⟨b⟩
theorem D13 (b:B) (h:Wr B→A:=by intro zx;refine joC rfl zq ?_;exact zx.g):A:=h ⟨b⟩
theorem D14 (b:B) (h:Wr B→A:=by intro zx;refine i_mv rfl zq ?_;exact zx.g):A:=h ⟨b⟩
theorem D15 (b:B) (h:Wr B→A:=by intro zx;refine jkh ?_;exact zx.g):A:=h ⟨b⟩
theorem D16 (b:B) (h:Wr B→A:=by intro zx;refine jaS rfl zq zK (Post:=fun v nz=>jf2 B b (tbL b ps ns ks pw nw cw pb nb cb) (jaZ b (ownP b st x)) nz v) (fun H' hH=>f88_c m H' (ra.keeps (sq hH)) callB145 (fun hk K q hKs hs=>by simpa [ownP,hsl] using f145_c m K hs hsl hns ((rd_has (q:=qs)).keeps (hH.trans hKs)) ((rd_has (q:=qa)).keeps (hH.trans hKs)))) ?_;exact zx.g):A:=h ⟨b⟩
theorem D17 (b:B) (h:Wr B→A:=by intro zx;refine jaS rfl zq zK (Post:=fun w new=>OwnS 3 1 w (meaP (jar (x.ln.figs.getD j []))).length (ints (meaP (jar (x.ln.figs.getD j [])))) new) (fun H' hH=>f120_c m H' (jaW _)) ?_;exact zx.g):A:=h ⟨b⟩
theorem D18 (b:B) (h:Wr B→A:=by intro zx;refine jaS rfl zq zK (Post:=fun v nz=> ∃q q',nz=[⟨true,q,.cells [.int .i64 st].toArray 3 (0,0)⟩,⟨true,q',.cells [.int .i64 x].toArray 3 (0,0)⟩]∧v= .func (.func 145) #[] [.pointer (some ⟨q,0,none⟩),.pointer (some ⟨q',0,none⟩)].toArray) (fun H' hH=>f89_c m H' st x) ?_;exact zx.g):A:=h ⟨b⟩
theorem D19 (b:B) (h:Wr B→A:=by intro zx;refine jdl rfl zq (by first|rfl|assumption) zO zO ?_;exact zx.g):A:=h ⟨b⟩
theorem D20 (b:B) (h:Wr B→A:=by intro zx;refine i_region rfl ?_;exact zx.g):A:=h ⟨b⟩
theorem D21 (b:B) (h:Wr B→A:=by intro zx;refine jaS rfl zq zK (Post:=fun v nz=>jf2 B b (tbL b ps ns ks pw nw cw pb nb cb) (jaZ b (ownC b c)) nz v) (fun H' hH=>f88_c m H' (ra.keeps (sq hH)) jmr (fun hk K q hKs hs=>by simpa [ownC] using f149_c m K hs (c:=c) (RdN.keepsN (jlL (q:=qs)) (hH.trans hKs)))) ?_;exact zx.g):A:=h ⟨b⟩
theorem D22 (b:B) (h:Wr B→A:=by intro zx;refine jkb rfl zq rfl ?_;exact zx.g):A:=h ⟨b⟩
theorem D23 (b:B) (h:Wr B→A:=by intro zx;refine run_exit rfl ?_;exact zx.g):A:=h ⟨b⟩
theorem D24 (b:B) (h:Wr B→A:=by intro zx;refine i_seq ?_;exact zx.g):A:=h ⟨b⟩
theorem D25 (b:B) (h:Wr B→A:=by intro zx;refine jaS rfl zq zK (Post:=fun v nz=> ∃q,nz=[⟨true,q,.cells (ceL c).toArray 37 (0,0)⟩]∧v= .func (.func 149) #[] [.pointer (some ⟨q,0,none⟩)].toArray) (fun H' hH=>f97_c m H' c) ?_;exact zx.g):A:=h ⟨b⟩
theorem D26 (b:B) (h:Wr B→A:=by intro zx;refine jac (((h0++[⟨true,qy,.cells [yv].toArray 220 (0,0)⟩,⟨true,qn,.cells [.func (.func 180) #[] [.pointer (some ⟨qx,0,none⟩),.pointer (some ⟨qy,0,none⟩),.pointer (some ⟨qm,0,none⟩),.pointer (some ⟨qn,0,none⟩),.pointer (some ⟨qc,0,none⟩)].toArray].toArray 221 (0,0)⟩])++X)++R2) rfl Tryz.func180 rfl jaa ?_;exact zx.g):A:=h ⟨b⟩
theorem D27 (b:B) (h:Wr B→A:=by intro zx;refine k_st1 rfl zq ?_;exact zx.g):A:=h ⟨b⟩
theorem D28 (b:B) (h:Wr B→A:=by intro zx;refine i_off rfl rfl ?_;exact zx.g):A:=h ⟨b⟩
theorem D29 (b:B) (h:Wr B→A:=by intro zx;refine jdl rfl zq rfl zO zO ?_;exact zx.g):A:=h ⟨b⟩
theorem D30 (b:B) (h:Wr B→A:=by intro zx;refine ji5 (c:=(⟨decide (i=1),(k:Int),(j:Int)⟩:Ce)) (cs:=(accC b i k j)) rfl zq rfl ?_;exact zx.g):A:=h ⟨b⟩
theorem D31 (b:B) (h:Wr B→A:=by intro zx;refine jaq [(0,.pure),(1,.pure),(2,.pure),(3,.pure),(4,.pure),(6,.pure),(7,.pure),(8,.pure),(9,.pure),(10,.pure),(5,.read),(11,.read),(12,.pure),(13,.pure),(14,.pure),(15,.pure),(16,.pure),(17,.pure),(18,.pure),(19,.pure),(20,.pure),(21,.pure),(22,.pure),(23,.pure),(25,.pure),(26,.pure),(27,.pure),(28,.pure),(29,.pure),(24,.read),(30,.read),(31,.pure),(32,.pure),(33,.pure),(34,.pure),(35,.pure),(36,.pure),(37,.pure),(38,.pure)] zK zK (List.Sublist.refl _) ?_;exact zx.g):A:=h ⟨b⟩
theorem D32 (b:B) (h:Wr B→A:=by intro zx;refine jac (h) rfl Tryz.func176 rfl jaa ?_;exact zx.g):A:=h ⟨b⟩
theorem D33 (b:B) (h:Wr B→A:=by intro zx;(first|refine i_fa0 rfl zq ?_|refine i_fa rfl zq ?_);exact zx.g):A:=h ⟨b⟩
theorem D34 (b:B) (h:Wr B→A:=by intro zx;refine k_ld (v:= .slice (lps.getD i default).p (lps.getD i default).ln.figs.length (lps.getD i default).c) rfl zq (rl.fat i 1 zO zO rfl) ?_;exact zx.g):A:=h ⟨b⟩
theorem D35 (b:B) (h:Wr B→A:=by intro zx;refine jd9 (w:=[0,0,0]) rfl zq rfl zN ?_;exact zx.g):A:=h ⟨b⟩
theorem D36 (b:B) (h:Wr B→A:=by intro zx;refine jaS rfl zq zK (Post:=fun v nz=> ∃q,v= .pointer (some ⟨q,0,none⟩)∧Sheet B nz b q (tbL b ps ns ks pw nw cw pb nb cb)) (fun H' hH=>f95_r m H' (ra.keeps (sq hH)) hk) ?_;exact zx.g):A:=h ⟨b⟩
theorem D37 (b:B) (h:Wr B→A:=by intro zx;refine jio rfl rfl zA ?_;exact zx.g):A:=h ⟨b⟩
theorem D38 (b:B) (h:Wr B→A:=by intro zx;refine jl7 rfl zq ?_;exact zx.g):A:=h ⟨b⟩
theorem D39 (b:B) (h:Wr B→A:=by intro zx;refine jac (h) rfl Tryz.func119 rfl jaa ?_;exact zx.g):A:=h ⟨b⟩
theorem D40 (b:B) (h:Wr B→A:=by intro zx;refine jea rfl zq ?_;exact zx.g):A:=h ⟨b⟩
theorem D41 (b:B) (h:Wr B→A:=by intro zx;refine jbX (v:= .bool false) rfl zq zA (joo zA) ?_;exact zx.g):A:=h ⟨b⟩
theorem D42 (b:B) (h:Wr B→A:=by intro zx;refine jac (((h0++[⟨true,qy,.cells [yv].toArray 220 (0,0)⟩,⟨true,qn,.cells [.func (.func 180) #[] [.pointer (some ⟨qx,0,none⟩),.pointer (some ⟨qy,0,none⟩),.pointer (some ⟨qm,0,none⟩),.pointer (some ⟨qn,0,none⟩),.pointer (some ⟨qc,0,none⟩)].toArray].toArray 221 (0,0)⟩])++X)++R1) rfl Tryz.func180 rfl jaa ?_;exact zx.g):A:=h ⟨b⟩
theorem D43 (b:B) (h:Wr B→A:=by intro zx;refine i_as rfl zq ?_;exact zx.g):A:=h ⟨b⟩
theorem D44 (b:B) (h:Wr B→A:=by intro zx;refine jac (((h0++[⟨true,qy,.cells [yv].toArray 220 (0,0)⟩,⟨true,qn,.cells [.func (.func 180) #[] [.pointer (some ⟨qx,0,none⟩),.pointer (some ⟨qy,0,none⟩),.pointer (some ⟨qm,0,none⟩),.pointer (some ⟨qn,0,none⟩),.pointer (some ⟨qc,0,none⟩)].toArray].toArray 221 (0,0)⟩])++X)++R) rfl Tryz.func180 rfl jaa ?_;exact zx.g):A:=h ⟨b⟩
theorem D45 (b:B) (h:Wr B→A:=by intro zx;refine joD rfl rfl ?_;exact zx.g):A:=h ⟨b⟩
theorem D46 (b:B) (h:Wr B→A:=by intro zx;refine jaj (Post:=fun v=>IsB _ v) rfl zq zK (fun H' hH=>f117_c _ H' _ _ _) ?_;exact zx.g):A:=h ⟨b⟩
theorem D47 (b:B) (h:Wr B→A:=by intro zx;refine jaj (Post:=fun v=>IsB _ v) rfl zq zK (fun H' hH=>f117_c m H' _ _ _) ?_;exact zx.g):A:=h ⟨b⟩
theorem D48 (b:B) (h:Wr B→A:=by intro zx;refine k_ld rfl rfl ((sh.latI (i:=k) zO).keeps SubH.sub) ?_;exact zx.g):A:=h ⟨b⟩
theorem D49 (b:B) (h:Wr B→A:=by intro zx;refine jac (h) rfl Tryz.func166 rfl jaa ?_;exact zx.g):A:=h ⟨b⟩
theorem D50 (b:B) (h:Wr B→A:=by intro zx;refine m.weak (h':=h++[⟨true,q2,.cells (tbL b ps ns ks pw nw cw pb nb cb).toArray 25 (0,0)⟩,⟨true,q3,.cells (ceL c).toArray 37 (0,0)⟩]++[⟨true,qs,.cells (ceL c).toArray 37 (0,0)⟩]++n8++[⟨true,q6,.cells [.pointer (some ⟨q9,0,none⟩),.slice p8 (jaf b).length c8].toArray 112 (0,0)⟩]) jeh ?_;exact zx.g):A:=h ⟨b⟩
theorem D51 (b:B) (h:Wr B→A:=by intro zx;refine jgh (c:=(jaE s).getD i 0) rfl zq und9 zO (jkl zO) ?_;exact zx.g):A:=h ⟨b⟩
theorem D52 (b:B) (h:Wr B→A:=by intro zx;refine jdS (n':=(ru:Int)) rfl zq zK (jc3 zL) ?_;exact zx.g):A:=h ⟨b⟩
theorem D53 (b:B) (h:Wr B→A:=by intro zx;refine jaS rfl zq zK (Post:=fun v nw=>OwnS 136 13 v (jaf b).length (encs (jaf b)) nw) (fun H' hH=>f96_c m H' (sh.keeps (List.Sublist.trans zX hH)) hk) ?_;exact zx.g):A:=h ⟨b⟩
theorem D54 (b:B) (h:Wr B→A:=by intro zx;refine jaj (Post:=fun v=> ∃x:Lp,v=lpV x∧x.ln=jbs b ⟨bt,li,st⟩∧x.ln.figs.length≤x.c∧(0<x.ln.figs.length→RdS B h 1 (.slice x.p x.ln.figs.length x.c) x.ln.figs.length (encs x.ln.figs))) rfl zq zK (fun H' hH=>f94_c m (sq hH) rd zO zO) ?_;exact zx.g):A:=h ⟨b⟩
theorem D55 (b:B) (h:Wr B→A:=by intro zx;refine jcC rfl zq (jaW _).len ?_;exact zx.g):A:=h ⟨b⟩
theorem D56 (b:B) (h:Wr B→A:=by intro zx;refine DrawT.leaf [(0,.pure),(2,.pure),(4,.pure),(9,.pure),(11,.pure),(1,.read),(3,.read),(5,.pure),(6,.pure),(7,.read),(10,.read),(12,.pure),(13,.pure),(14,.read),(8,.keep),(15,.keep),(16,.pure),(17,.keep),(18,.keep),(19,.pure),(20,.free)] zK ?_;exact zx.g):A:=h ⟨b⟩
theorem D57 (b:B) (h:Wr B→A:=by intro zx;refine jaq [(0,.pure),(1,.pure),(2,.pure),(4,.pure),(7,.pure),(8,.pure),(9,.pure),(11,.pure),(3,.read),(5,.pure),(6,.read),(10,.read),(12,.pure),(13,.read),(14,.alloc),(15,.alloc),(16,.keep),(17,.free)] zK zK (List.Sublist.refl _) ?_;exact zx.g):A:=h ⟨b⟩
theorem D58 (b:B) (h:Wr B→A:=by intro zx;refine k_bld rfl zq ?_;exact zx.g):A:=h ⟨b⟩
theorem D59 (b:B) (h:Wr B→A:=by intro zx;refine jaj (Post:=fun v=>IsB _ v) rfl zq zK (fun H' hH=>f57_c m H' _ _ _) ?_;exact zx.g):A:=h ⟨b⟩
theorem D60 (b:B) (h:Wr B→A:=by intro zx;refine jl5 rfl zq und9 ?_;exact zx.g):A:=h ⟨b⟩
theorem D61 (b:B) (h:Wr B→A:=by intro zx;refine joC rfl rfl ?_;exact zx.g):A:=h ⟨b⟩
theorem D62 (b:B) (h:Wr B→A:=by intro zx;refine k_ld rfl rfl ((sh.latI (i:=i) zO).keeps SubH.sub) ?_;exact zx.g):A:=h ⟨b⟩
theorem D63 (b:B) (h:Wr B→A:=by intro zx;refine jaq [(0,.pure),(1,.pure),(6,.pure),(2,.read),(3,.pure),(4,.pure),(5,.read),(7,.read),(8,.pure),(9,.read),(10,.keep),(11,.pure),(12,.pure),(13,.pure),(14,.free)] zK zK (List.Sublist.refl _) ?_;exact zx.g):A:=h ⟨b⟩
theorem D64 (b:B) (h:Wr B→A:=by intro zx;refine jd9 rfl zq (jaW _).len (by rw [(jaW _).len];rfl) ?_;exact zx.g):A:=h ⟨b⟩
theorem D65 (b:B) (h:Wr B→A:=by intro zx;refine jne rfl zq ?_;exact zx.g):A:=h ⟨b⟩
theorem D66 (b:B) (h:Wr B→A:=by intro zx;refine jdl rfl zq hfp zO zO ?_;exact zx.g):A:=h ⟨b⟩
theorem D67 (b:B) (h:Wr B→A:=by intro zx;refine jaj (Post:=fun v=>IsB _ v) rfl zq zK (fun H' hH=>f172_c m H' _) ?_;exact zx.g):A:=h ⟨b⟩
theorem D68 (b:B) (h:Wr B→A:=by intro zx;refine jaq [(0,.pure),(1,.pure),(3,.pure),(4,.pure),(2,.read),(5,.read),(6,.pure)] zK zK (List.Sublist.refl _) ?_;exact zx.g):A:=h ⟨b⟩
theorem D69 (b:B) (h:Wr B→A:=by intro zx;refine k_ld (v:= .slice (lps.getD i default).p (lps.getD i default).ln.figs.length (lps.getD i default).c) rfl zq (rl2.fat i 1 zO zO rfl) ?_;exact zx.g):A:=h ⟨b⟩
theorem D70 (b:B) (h:Wr B→A:=by intro zx;refine jcU (vs:=[.int .i64 (lps.getD li.toNat default).ln.lat,.slice (lps.getD li.toNat default).p (lps.getD li.toNat default).ln.figs.length (lps.getD li.toNat default).c]) rfl zq rfl (rlg.eat li.toNat zO zO) ?_;exact zx.g):A:=h ⟨b⟩
theorem D71 (b:B) (h:Wr B→A:=by intro zx;refine jdS (n':=(((jaE s).getD i 0).toNat:Int)) rfl zq zK (jc3 zL) ?_;exact zx.g):A:=h ⟨b⟩
theorem D72 (b:B) (h:Wr B→A:=by intro zx;refine jaq [(0,.pure),(1,.pure),(3,.pure),(8,.pure),(10,.pure),(2,.read),(4,.read),(5,.pure),(6,.pure),(7,.read),(9,.read),(11,.pure),(12,.free)] zK zK (List.Sublist.refl _) ?_;exact zx.g):A:=h ⟨b⟩
theorem D73 (b:B) (h:Wr B→A:=by intro zx;refine k_mul rfl zq zL ?_;exact zx.g):A:=h ⟨b⟩
theorem D74 (b:B) (h:Wr B→A:=by intro zx;refine k_bldZ rfl zq ?_;exact zx.g):A:=h ⟨b⟩
theorem D75 (b:B) (h:Wr B→A:=by intro zx;refine jcU (vs:=[.bool (cdOf b ((jab b).getD i default)).butt,.int .i64 ((jab b).getD i default).line,.int .i64 (cdOf b ((jab b).getD i default)).st]) rfl zq rfl ((hpc▸hcr).eat i zO zO) ?_;exact zx.g):A:=h ⟨b⟩
theorem D76 (b:B) (h:Wr B→A:=by intro zx;refine jcU (vs:=[.bool (cdOf b ((jab b).getD k default)).butt,.int .i64 ((jab b).getD k default).line,.int .i64 (cdOf b ((jab b).getD k default)).st]) rfl zq rfl ((hpc▸hcr).eat k zO zO) ?_;exact zx.g):A:=h ⟨b⟩
theorem D77 (b:B) (h:Wr B→A:=by intro zx;refine jaj (Post:=fun v=>v= .tuple [.agg (ints (wasP b c f)).toArray,.agg (ints (nowP b c f)).toArray,.int .i64 (figS b c f)].toArray) rfl zq zK (fun H' hH=>f109_c m H' (ra.keeps (sq hH)) c f hf) ?_;exact zx.g):A:=h ⟨b⟩
theorem D78 (b:B) (h:Wr B→A:=by intro zx;refine jaj (Post:=fun v=>v=_) rfl zq zK (fun H' hH=>f65_r m H' (ra.keeps (sq hH))) ?_;exact zx.g):A:=h ⟨b⟩
theorem D79 (b:B) (h:Wr B→A:=by intro zx;refine jaS (Post:=fun v nz=> ∃q,v= .pointer (some ⟨q,0,none⟩)∧Sheet B nz b q (tbL b ps ns ks pw nw cw pb nb cb)) rfl zq zK (fun H' hH=>f95_r _ H' (ra.keeps (sq hH)) hk) ?_;exact zx.g):A:=h ⟨b⟩
theorem D80 (b:B) (h:Wr B→A:=by intro zx;refine i_pickF rfl zq ?_;exact zx.g):A:=h ⟨b⟩
theorem D81 (b:B) (h:Wr B→A:=by intro zx;refine jbl [(0,.free),(1,.free),(2,.free),(3,.free),(4,.free),(5,.free),(6,.free),(7,.free),(8,.free),(9,.free),(10,.free),(11,.free)] zK zK ?_;exact zx.g):A:=h ⟨b⟩
theorem D82 (b:B) (h:Wr B→A:=by intro zx;refine jcU (vs:=[.int .i64 (lps.getD k default).ln.lat,.slice (lps.getD k default).p (lps.getD k default).ln.figs.length (lps.getD k default).c]) rfl zq rfl (rl.eat k zO zO) ?_;exact zx.g):A:=h ⟨b⟩
theorem D83 (b:B) (h:Wr B→A:=by intro zx;refine jac (h) rfl Tryz.func170 rfl jaa ?_;exact zx.g):A:=h ⟨b⟩
theorem D84 (b:B) (h:Wr B→A:=by intro zx;refine jac (h) rfl Tryz.func125 rfl jaa ?_;exact zx.g):A:=h ⟨b⟩
theorem D85 (b:B) (h:Wr B→A:=by intro zx;refine jaq [(0,.pure),(1,.pure),(2,.pure),(4,.pure),(5,.pure),(6,.pure),(7,.pure),(3,.read),(8,.read),(9,.pure)] zK zK (List.Sublist.refl _) ?_;exact zx.g):A:=h ⟨b⟩
theorem D86 (b:B) (h:Wr B→A:=by intro zx;refine jaq [(0,.pure),(1,.pure),(2,.pure),(3,.pure),(6,.pure),(4,.read),(5,.pure),(7,.read),(8,.pure),(9,.pure)] zK zK (List.Sublist.refl _) ?_;exact zx.g):A:=h ⟨b⟩
theorem D87 (b:B) (h:Wr B→A:=by intro zx;refine jaq [(4,.pure),(0,.read),(1,.read),(5,.read),(2,.keep),(3,.pure),(6,.pure),(7,.keep),(8,.pure),(9,.pure)] zK zK (List.Sublist.refl _) ?_;exact zx.g):A:=h ⟨b⟩
theorem D88 (b:B) (h:Wr B→A:=by intro zx;refine jaq [(0,.pure),(1,.pure),(3,.pure),(4,.pure),(2,.read),(5,.read),(6,.keep),(7,.pure),(8,.pure),(9,.free)] zK zK (List.Sublist.refl _) ?_;exact zx.g):A:=h ⟨b⟩
theorem D89 (b:B) (h:Wr B→A:=by intro zx;refine jdl rfl zq hzp zO zO ?_;exact zx.g):A:=h ⟨b⟩
theorem D90 (b:B) (h:Wr B→A:=by intro zx;refine jdl rfl zq hrp zO zO ?_;exact zx.g):A:=h ⟨b⟩
theorem D91 (b:B) (h:Wr B→A:=by intro zx;refine k_ld rfl zq (hcv.keeps SubH.sub) ?_;exact zx.g):A:=h ⟨b⟩
theorem D92 (b:B) (h:Wr B→A:=by intro zx;refine jaq (S:=[⟨true,q7,.cells (ints (jar f)).toArray 145 (0,0)⟩]) [(1,.read),(0,.keep),(2,.keep),(3,.free),(4,.pure)] zK zK SubH.sub ?_;exact zx.g):A:=h ⟨b⟩
theorem D93 (b:B) (h:Wr B→A:=by intro zx;refine k_mul rfl zq (by rcases sgn_or s with e|e<;>rw [e]<;>unfold In64<;>omega) ?_;exact zx.g):A:=h ⟨b⟩
theorem D94 (b:B) (h:Wr B→A:=by intro zx;refine jaq [(0,.pure),(1,.pure),(2,.pure),(4,.pure),(5,.pure),(6,.pure),(3,.read),(7,.read),(8,.pure)] zK zK (List.Sublist.refl _) ?_;exact zx.g):A:=h ⟨b⟩
theorem D95 (b:B) (h:Wr B→A:=by intro zx;refine jae Tryz.func176 rfl rfl (l:=(.pointer (some ⟨q,0,none⟩))::(.int .i64 (i:Int))::(.int .i64 (k:Int))::(.int .i64 mi)::(.int .i64 mk)::uu119) rfl ?_;exact zx.g):A:=h ⟨b⟩
theorem D96 (b:B) (h:Wr B→A:=by intro zx;refine k_ld (v:= .slice ((lw++lb).getD k default).p ((lw++lb).getD k default).ln.figs.length ((lw++lb).getD k default).c) rfl zq (r64.fat k 1 zO zO rfl) ?_;exact zx.g):A:=h ⟨b⟩
theorem D97 (b:B) (h:Wr B→A:=by intro zx;refine jaj (Post:=fun v=>v= .tuple [.agg (ints (jar (figT b c))).toArray,.bool (jaY (figT b c))].toArray) rfl zq zK (fun H' hH=>f119_c m H' _ hf2) ?_;exact zx.g):A:=h ⟨b⟩
theorem D98 (b:B) (h:Wr B→A:=by intro zx;refine jaS rfl zq zK (Post:=fun v nw=> ∃ps pw pb,v=tbV exT ps 2 2 pw 2 2 pb 1 1∧RawTb B nw exT ps 2 2 pw 2 2 pb 1 1) (fun H' hH=>f87_c _ H') ?_;exact zx.g):A:=h ⟨b⟩
theorem D99 (b:B) (h:Wr B→A:=by intro zx;refine DrawT.leaf [(1,.pure),(2,.pure),(0,.read),(3,.keep),(4,.keep),(5,.pure),(6,.pure),(7,.pure),(8,.alloc),(9,.free),(10,.pure)] zK ?_;exact zx.g):A:=h ⟨b⟩
theorem D100 (b:B) (h:Wr B→A:=by intro zx;refine DrawT.leaf [(1,.pure),(2,.pure),(0,.read),(3,.keep),(8,.alloc),(4,.keep),(5,.pure),(6,.pure),(7,.pure),(9,.free),(10,.pure)] zK ?_;exact zx.g):A:=h ⟨b⟩
theorem D101 (b:B) (h:Wr B→A:=by intro zx;refine DrawT.leaf [(1,.pure),(2,.pure),(0,.read),(8,.alloc),(3,.keep),(4,.keep),(5,.pure),(6,.pure),(7,.pure),(9,.free),(10,.pure)] zK ?_;exact zx.g):A:=h ⟨b⟩
theorem D102 (b:B) (h:Wr B→A:=by intro zx;refine k_ld rfl zq ((sh.latI (i:=i) zO).keeps SubH.sub) ?_;exact zx.g):A:=h ⟨b⟩
theorem D103 (b:B) (h:Wr B→A:=by intro zx;refine jac (h) rfl Tryz.func66 rfl jaa ?_;exact zx.g):A:=h ⟨b⟩
theorem D104 (b:B) (h:Wr B→A:=by intro zx;refine jaj (Post:=fun v=>v= .int .u64 ((jbA x|||2^x.length:Nat):Int)) rfl zq zK (fun H' hH=>f135_c m H' (jbA x) x.length hbs hx12) ?_;exact zx.g):A:=h ⟨b⟩
theorem D105 (b:B) (h:Wr B→A:=by intro zx;refine jd9 rfl zq (jaW _).len (by rw [List.length_map,(jaW _).len]) ?_;exact zx.g):A:=h ⟨b⟩
theorem D106 (b:B) (h:Wr B→A:=by intro zx;refine jaS rfl zq zK (Post:=fun v nz=>OwnS 9 1 v x.ln.figs.length (encs x.ln.figs) nz) (fun H' hH=>f162_c m H' (rdf.keeps (sq hH)) zO) ?_;exact zx.g):A:=h ⟨b⟩
theorem D107 (b:B) (h:Wr B→A:=by intro zx;refine jci rfl Tryz.func153 (jcf rfl) ?_;exact zx.g):A:=h ⟨b⟩
theorem D108 (b:B) (h:Wr B→A:=by intro zx;refine joK rfl rfl k zO zO ?_;exact zx.g):A:=h ⟨b⟩
theorem D109 (b:B) (h:Wr B→A:=by intro zx;refine k_ld rfl zq (rd.iat k zO zO) ?_;exact zx.g):A:=h ⟨b⟩
theorem D110 (b:B) (h:Wr B→A:=by intro zx;refine jcU (vs:=boL ((jaf b).getD j [])) rfl zq (jaC _) (rdB'.eat j zO zO) ?_;exact zx.g):A:=h ⟨b⟩
theorem D111 (b:B) (h:Wr B→A:=by intro zx;refine DrawT.leaf [(0,.read),(1,.read),(2,.keep),(3,.keep),(4,.pure),(5,.pure),(6,.pure),(7,.alloc),(8,.free),(9,.pure)] zK ?_;exact zx.g):A:=h ⟨b⟩
theorem D112 (b:B) (h:Wr B→A:=by intro zx;refine DrawT.leaf [(0,.read),(1,.read),(2,.keep),(7,.alloc),(3,.keep),(4,.pure),(5,.pure),(6,.pure),(8,.free),(9,.pure)] zK ?_;exact zx.g):A:=h ⟨b⟩
theorem D113 (b:B) (h:Wr B→A:=by intro zx;refine DrawT.leaf [(0,.read),(1,.read),(7,.alloc),(2,.keep),(3,.keep),(4,.pure),(5,.pure),(6,.pure),(8,.free),(9,.pure)] zK ?_;exact zx.g):A:=h ⟨b⟩
theorem D114 (b:B) (h:Wr B→A:=by intro zx;refine i_pickT rfl zq ?_;exact zx.g):A:=h ⟨b⟩
theorem D115 (b:B) (h:Wr B→A:=by intro zx;refine jfi (Post:=fun v=>v= .pointer (some ⟨q1,2+i,none⟩)) rfl zq (jht i zO) (fun H' hH=>jo1 m H' q1 i zO) ?_;exact zx.g):A:=h ⟨b⟩
theorem D116 (b:B) (h:Wr B→A:=by intro zx;refine jdl rfl rfl (by first|rfl|assumption) zO zO ?_;exact zx.g):A:=h ⟨b⟩
theorem D117 (b:B) (h:Wr B→A:=by intro zx;refine jbX (v:= .bool false) rfl rfl zA (jj4 zA) ?_;exact zx.g):A:=h ⟨b⟩
theorem D118 (b:B) (h:Wr B→A:=by intro zx;refine jaj (Post:=fun v=>IsB _ v) rfl rfl zK (fun H' hH=>f57_c m H' _ _ _) ?_;exact zx.g):A:=h ⟨b⟩
theorem D119 (b:B) (h:Wr B→A:=by intro zx;refine jac (h) rfl Tryz.func123 rfl jaa ?_;exact zx.g):A:=h ⟨b⟩
theorem D120 (b:B) (h:Wr B→A:=by intro zx;refine jaj (Post:=fun v=>v= .int .u64 ((2^(jab b).length-1:Nat):Int)) rfl zq zK (fun H' hH=>f106_c _ H' _ h12) ?_;exact zx.g):A:=h ⟨b⟩
theorem D121 (b:B) (h:Wr B→A:=by intro zx;refine jac (h) rfl Tryz.func27 rfl jaa ?_;exact zx.g):A:=h ⟨b⟩
theorem D122 (b:B) (h:Wr B→A:=by intro zx;refine jdl rfl zq hpc zO zO ?_;exact zx.g):A:=h ⟨b⟩
theorem D123 (b:B) (h:Wr B→A:=by intro zx;refine jac (h) rfl Tryz.func19 rfl jaa ?_;exact zx.g):A:=h ⟨b⟩
theorem D124 (b:B) (h:Wr B→A:=by intro zx;refine jaj (Post:=fun v=>v=_) rfl zq zK (fun H' hH=>f221_c m H' _) ?_;exact zx.g):A:=h ⟨b⟩
theorem D125 (b:B) (h:Wr B→A:=by intro zx;refine jeb Tryz.func201 rfl rfl (l:=(.pointer (some ⟨C.wg,0,none⟩))::uu6) rfl ?_;exact zx.g):A:=h ⟨b⟩
theorem D126 (b:B) (h:Wr B→A:=by intro zx;refine k_ld rfl zq (rdg.sat k zO zO) ?_;exact zx.g):A:=h ⟨b⟩
theorem D127 (b:B) (h:Wr B→A:=by intro zx;refine jbX (v:= .bool false) rfl zq zA (jlV (decide_eq_false zO)) ?_;exact zx.g):A:=h ⟨b⟩
theorem D128 (b:B) (h:Wr B→A:=by intro zx;refine jbX (v:= .bool true) rfl zq zA (jj4 (decide_eq_true zO)) ?_;exact zx.g):A:=h ⟨b⟩
theorem D129 (b:B) (h:Wr B→A:=by intro zx;refine jaq [(0,.read),(1,.read),(3,.read),(2,.keep),(4,.pure)] zK zK (List.Sublist.refl _) ?_;exact zx.g):A:=h ⟨b⟩
theorem D130 (b:B) (h:Wr B→A:=by intro zx;refine i_cal rfl zq zK ?_;exact zx.g):A:=h ⟨b⟩
theorem D131 (b:B) (h:Wr B→A:=by intro zx;refine (Md.starC Tryz.prog B).weak (h':=ro h) (by simpa using jnw (B:=B) h []) ?_;exact zx.g):A:=h ⟨b⟩
theorem D132 (b:B) (h:Wr B→A:=by intro zx;refine jac (h) rfl Tryz.func121 rfl jaa ?_;exact zx.g):A:=h ⟨b⟩
theorem D133 (b:B) (h:Wr B→A:=by intro zx;refine jac (h) rfl Tryz.func109 rfl jaa ?_;exact zx.g):A:=h ⟨b⟩
theorem D134 (b:B) (h:Wr B→A:=by intro zx;refine k_ld (v:= .int .i64 (lps.getD (i-1) default).ln.lat) rfl rfl (rl.fat (i-1) 0 zO zO rfl) ?_;exact zx.g):A:=h ⟨b⟩
theorem D135 (b:B) (h:Wr B→A:=by intro zx;refine jgh (c:=s.getD i 0) rfl rfl und9 zO (jkl zO) ?_;exact zx.g):A:=h ⟨b⟩
theorem D136 (b:B) (h:Wr B→A:=by intro zx;refine k_ld rfl zq (rd2.iat k zO zO) ?_;exact zx.g):A:=h ⟨b⟩
theorem D137 (b:B) (h:Wr B→A:=by intro zx;refine jci rfl Tryz.func201 (jbk rfl) ?_;exact zx.g):A:=h ⟨b⟩
theorem D138 (b:B) (h:Wr B→A:=by intro zx;refine jbX (v:= .bool true) rfl zq zA (joo zA) ?_;exact zx.g):A:=h ⟨b⟩
theorem D139 (b:B) (h:Wr B→A:=by intro zx;refine jnu rfl zq ⟨rfl,.inl rfl⟩ uptrW.1 uptrW.2.1 uptrW.2.2 ?_;exact zx.g):A:=h ⟨b⟩
theorem D140 (b:B) (h:Wr B→A:=by intro zx;refine jg1 [(0,.free)] [1] zK zK ?_;exact zx.g):A:=h ⟨b⟩
theorem D141 (b:B) (h:Wr B→A:=by intro zx;refine k_ld rfl zq (rx.keeps SubH.sub) ?_;exact zx.g):A:=h ⟨b⟩
theorem D142 (b:B) (h:Wr B→A:=by intro zx;refine jac (h) rfl Tryz.func107 rfl jaa ?_;exact zx.g):A:=h ⟨b⟩
theorem D143 (b:B) (h:Wr B→A:=by intro zx;refine jac (h) rfl Tryz.func210 rfl jaa ?_;exact zx.g):A:=h ⟨b⟩
theorem D144 (b:B) (h:Wr B→A:=by intro zx;refine jac (H) rfl Tryz.func94 rfl jaa ?_;exact zx.g):A:=h ⟨b⟩
theorem D145 (b:B) (h:Wr B→A:=by intro zx;refine jdl rfl zq hyp zO zO ?_;exact zx.g):A:=h ⟨b⟩
theorem D146 (b:B) (h:Wr B→A:=by intro zx;refine D0 ?_;refine D4 ?_;exact zx.g):A:=h ⟨b⟩
theorem D147 (b:B) (h:Wr B→A:=by intro zx;refine D1 ?_;refine D6 ?_;exact zx.g):A:=h ⟨b⟩
theorem D148 (b:B) (h:Wr B→A:=by intro zx;refine D1 ?_;refine D8 ?_;exact zx.g):A:=h ⟨b⟩
theorem D149 (b:B) (h:Wr B→A:=by intro zx;refine D147 ?_;refine D7 ?_;exact zx.g):A:=h ⟨b⟩
theorem D150 (b:B) (h:Wr B→A:=by intro zx;refine D0 ?_;refine D2 ?_;exact zx.g):A:=h ⟨b⟩
theorem D151 (b:B) (h:Wr B→A:=by intro zx;refine D1 ?_;refine D2 ?_;exact zx.g):A:=h ⟨b⟩
theorem D152 (b:B) (h:Wr B→A:=by intro zx;refine rs2 ?_;refine Zs ?_;exact zx.g):A:=h ⟨b⟩
theorem D153 (b:B) (h:Wr B→A:=by intro zx;refine rs1 ?_;refine D146 ?_;exact zx.g):A:=h ⟨b⟩
theorem D154 (b:B) (h:Wr B→A:=by intro zx;refine D24 ?_;refine D20 ?_;exact zx.g):A:=h ⟨b⟩
theorem D155 (b:B) (h:Wr B→A:=by intro zx;refine Z2 ?_;refine D1 ?_;exact zx.g):A:=h ⟨b⟩
theorem D156 (b:B) (h:Wr B→A:=by intro zx;refine rr2 ?_;refine D155 ?_;exact zx.g):A:=h ⟨b⟩
theorem D157 (b:B) (h:Wr B→A:=by intro zx;refine D2 ?_;refine D11 ?_;exact zx.g):A:=h ⟨b⟩
theorem D158 (b:B) (h:Wr B→A:=by intro zx;refine D7 ?_;refine D157 ?_;exact zx.g):A:=h ⟨b⟩
theorem D159 (b:B) (h:Wr B→A:=by intro zx;refine D12 ?_;refine D156 ?_;exact zx.g):A:=h ⟨b⟩
theorem D160 (b:B) (h:Wr B→A:=by intro zx;refine D154 ?_;refine D14 ?_;exact zx.g):A:=h ⟨b⟩
theorem D161 (b:B) (h:Wr B→A:=by intro zx;refine rs1 ?_;refine D150 ?_;exact zx.g):A:=h ⟨b⟩
theorem D162 (b:B) (h:Wr B→A:=by intro zx;refine rs1 ?_;refine D0 ?_;exact zx.g):A:=h ⟨b⟩
theorem D163 (b:B) (h:Wr B→A:=by intro zx;refine Z2 ?_;refine D0 ?_;exact zx.g):A:=h ⟨b⟩
theorem D164 (b:B) (h:Wr B→A:=by intro zx;refine rr3 ?_;refine D163 ?_;exact zx.g):A:=h ⟨b⟩
theorem D165 (b:B) (h:Wr B→A:=by intro zx;refine D149 ?_;refine D2 ?_;exact zx.g):A:=h ⟨b⟩
theorem D166 (b:B) (h:Wr B→A:=by intro zx;refine D148 ?_;refine D153 ?_;exact zx.g):A:=h ⟨b⟩
theorem D167 (b:B) (h:Wr B→A:=by intro zx;refine D152 ?_;refine D146 ?_;exact zx.g):A:=h ⟨b⟩
theorem D168 (b:B) (h:Wr B→A:=by intro zx;refine D158 ?_;refine D2 ?_;exact zx.g):A:=h ⟨b⟩
theorem D169 (b:B) (h:Wr B→A:=by intro zx;refine D0 ?_;refine D6 ?_;exact zx.g):A:=h ⟨b⟩
theorem D170 (b:B) (h:Wr B→A:=by intro zx;refine i_else ?_;refine i_skip ?_;exact zx.g):A:=h ⟨b⟩
theorem D171 (b:B) (h:Wr B→A:=by intro zx;refine D12 ?_;refine D164 ?_;exact zx.g):A:=h ⟨b⟩
theorem D172 (b:B) (h:Wr B→A:=by intro zx;refine D147 ?_;refine D23 ?_;exact zx.g):A:=h ⟨b⟩
theorem D173 (b:B) (h:Wr B→A:=by intro zx;refine D151 ?_;refine D8 ?_;exact zx.g):A:=h ⟨b⟩
theorem D174 (b:B) (h:Wr B→A:=by intro zx;refine D151 ?_;refine D6 ?_;exact zx.g):A:=h ⟨b⟩
theorem D175 (b:B) (h:Wr B→A:=by intro zx;refine D174 ?_;refine D23 ?_;exact zx.g):A:=h ⟨b⟩
theorem D176 (b:B) (h:Wr B→A:=by intro zx;refine D43 ?_;refine D15 ?_;exact zx.g):A:=h ⟨b⟩
theorem D177 (b:B) (h:Wr B→A:=by intro zx;refine D24 ?_;refine D160 ?_;exact zx.g):A:=h ⟨b⟩
theorem D178 (b:B) (h:Wr B→A:=by intro zx;refine D148 ?_;refine D167 ?_;exact zx.g):A:=h ⟨b⟩
theorem D179 (b:B) (h:Wr B→A:=by intro zx;refine D10 ?_;refine D146 ?_;exact zx.g):A:=h ⟨b⟩
theorem D180 (b:B) (h:Wr B→A:=by intro zx;refine D162 ?_;refine D11 ?_;exact zx.g):A:=h ⟨b⟩
theorem D181 (b:B) (h:Wr B→A:=by intro zx;refine D27 ?_;refine D1 ?_;exact zx.g):A:=h ⟨b⟩
theorem D182 (b:B) (h:Wr B→A:=by intro zx;refine D1 ?_;refine D11 ?_;exact zx.g):A:=h ⟨b⟩
theorem D183 (b:B) (h:Wr B→A:=by intro zx;refine D15 ?_;refine D170 ?_;exact zx.g):A:=h ⟨b⟩
theorem D184 (b:B) (h:Wr B→A:=by intro zx;refine D10 ?_;refine Z2 ?_;exact zx.g):A:=h ⟨b⟩
theorem D185 (b:B) (h:Wr B→A:=by intro zx;refine D28 ?_;refine D28 ?_;exact zx.g):A:=h ⟨b⟩
theorem D186 (b:B) (h:Wr B→A:=by intro zx;refine rs3 ?_;refine Zs ?_;exact zx.g):A:=h ⟨b⟩
theorem D187 (b:B) (h:Wr B→A:=by intro zx;refine D10 ?_;refine D149 ?_;exact zx.g):A:=h ⟨b⟩
theorem D188 (b:B) (h:Wr B→A:=by intro zx;refine D37 ?_;refine D184 ?_;exact zx.g):A:=h ⟨b⟩
theorem D189 (b:B) (h:Wr B→A:=by intro zx;refine D9 ?_;refine D38 ?_;exact zx.g):A:=h ⟨b⟩
theorem D190 (b:B) (h:Wr B→A:=by intro zx;refine D148 ?_;refine D168 ?_;exact zx.g):A:=h ⟨b⟩
theorem D191 (b:B) (h:Wr B→A:=by intro zx;refine D173 ?_;refine D168 ?_;exact zx.g):A:=h ⟨b⟩
theorem D192 (b:B) (h:Wr B→A:=by intro zx;refine D9 ?_;refine D40 ?_;exact zx.g):A:=h ⟨b⟩
theorem D193 (b:B) (h:Wr B→A:=by intro zx;refine D32 ?_;refine D5 ?_;exact zx.g):A:=h ⟨b⟩
theorem D194 (b:B) (h:Wr B→A:=by intro zx;refine D22 ?_;refine D1 ?_;exact zx.g):A:=h ⟨b⟩
theorem D195 (b:B) (h:Wr B→A:=by intro zx;refine Zs ?_;refine D146 ?_;exact zx.g):A:=h ⟨b⟩
theorem D196 (b:B) (h:Wr B→A:=by intro zx;refine rs4 ?_;refine Z3 ?_;exact zx.g):A:=h ⟨b⟩
theorem D197 (b:B) (h:Wr B→A:=by intro zx;refine rs7 ?_;refine Zs ?_;exact zx.g):A:=h ⟨b⟩
theorem D198 (b:B) (h:Wr B→A:=by intro zx;refine D14 ?_;refine D185 ?_;exact zx.g):A:=h ⟨b⟩
theorem D199 (b:B) (h:Wr B→A:=by intro zx;refine D0 ?_;refine D152 ?_;exact zx.g):A:=h ⟨b⟩
theorem D200 (b:B) (h:Wr B→A:=by intro zx;refine D179 ?_;refine D193 ?_;exact zx.g):A:=h ⟨b⟩
theorem D201 (b:B) (h:Wr B→A:=by intro zx;refine D22 ?_;refine D146 ?_;exact zx.g):A:=h ⟨b⟩
theorem D202 (b:B) (h:Wr B→A:=by intro zx;refine D65 ?_;refine D33 ?_;exact zx.g):A:=h ⟨b⟩
theorem D203 (b:B) (h:Wr B→A:=by intro zx;refine rs3 ?_;refine Z2 ?_;exact zx.g):A:=h ⟨b⟩
theorem D204 (b:B) (h:Wr B→A:=by intro zx;refine D0 ?_;refine D8 ?_;exact zx.g):A:=h ⟨b⟩
theorem D205 (b:B) (h:Wr B→A:=by intro zx;refine D173 ?_;refine D158 ?_;exact zx.g):A:=h ⟨b⟩
theorem D206 (b:B) (h:Wr B→A:=by intro zx;refine rr2 ?_;refine Zs ?_;exact zx.g):A:=h ⟨b⟩
theorem D207 (b:B) (h:Wr B→A:=by intro zx;refine D9 ?_;refine Z4 ?_;exact zx.g):A:=h ⟨b⟩
theorem D208 (b:B) (h:Wr B→A:=by intro zx;refine D10 ?_;refine D169 ?_;exact zx.g):A:=h ⟨b⟩
theorem D209 (b:B) (h:Wr B→A:=by intro zx;refine D13 ?_;refine D166 ?_;exact zx.g):A:=h ⟨b⟩
theorem D210 (b:B) (h:Wr B→A:=by intro zx;refine D181 ?_;refine D159 ?_;exact zx.g):A:=h ⟨b⟩
theorem D211 (b:B) (h:Wr B→A:=by intro zx;refine k_subW (z:=(ru:Int)-48) rfl zq zW ?_;refine jdS (n':=(ru:Int)-48) rfl zq zK (jc3 zL) ?_;exact zx.g):A:=h ⟨b⟩
theorem D212 (b:B) (h:Wr B→A:=by intro zx;refine rs4 ?_;refine Z2 ?_;exact zx.g):A:=h ⟨b⟩
theorem D213 (b:B) (h:Wr B→A:=by intro zx;refine D39 ?_;refine D5 ?_;exact zx.g):A:=h ⟨b⟩
theorem D214 (b:B) (h:Wr B→A:=by intro zx;refine D35 ?_;refine D146 ?_;exact zx.g):A:=h ⟨b⟩
theorem D215 (b:B) (h:Wr B→A:=by intro zx;refine D74 ?_;refine D214 ?_;exact zx.g):A:=h ⟨b⟩
theorem D216 (b:B) (h:Wr B→A:=by intro zx;refine rs3 ?_;refine D215 ?_;exact zx.g):A:=h ⟨b⟩
theorem D217 (b:B) (h:Wr B→A:=by intro zx;refine D161 ?_;refine D180 ?_;exact zx.g):A:=h ⟨b⟩
theorem D218 (b:B) (h:Wr B→A:=by intro zx;refine D150 ?_;refine D152 ?_;exact zx.g):A:=h ⟨b⟩
theorem D219 (b:B) (h:Wr B→A:=by intro zx;refine D160 ?_;refine D202 ?_;exact zx.g):A:=h ⟨b⟩
theorem D220 (b:B) (h:Wr B→A:=by intro zx;refine D9 ?_;refine D146 ?_;exact zx.g):A:=h ⟨b⟩
theorem D221 (b:B) (h:Wr B→A:=by intro zx;refine rs4 ?_;refine Zs ?_;exact zx.g):A:=h ⟨b⟩
theorem D222 (b:B) (h:Wr B→A:=by intro zx;refine D13 ?_;refine D146 ?_;exact zx.g):A:=h ⟨b⟩
theorem D223 (b:B) (h:Wr B→A:=by intro zx;refine D13 ?_;refine D148 ?_;exact zx.g):A:=h ⟨b⟩
theorem D224 (b:B) (h:Wr B→A:=by intro zx;refine D80 ?_;refine D183 ?_;exact zx.g):A:=h ⟨b⟩
theorem D225 (b:B) (h:Wr B→A:=by intro zx;refine D149 ?_;refine D159 ?_;exact zx.g):A:=h ⟨b⟩
theorem D226 (b:B) (h:Wr B→A:=by intro zx;refine jfQ (v:= .int .u64 (v:Int)) rfl zq (.inr rfl) (jlU zA (jcp v 0 hv70 zO).hi) ?_;refine jec rfl zq zK (jcp v 0 hv70 zO).hi32 ?_;exact zx.g):A:=h ⟨b⟩
theorem D227 (b:B) (h:Wr B→A:=by intro zx;refine joK rfl zq k zO zN ?_;refine k_ld rfl zq (most_atI k zO) ?_;exact zx.g):A:=h ⟨b⟩
theorem D228 (b:B) (h:Wr B→A:=by intro zx;refine D49 ?_;refine D5 ?_;exact zx.g):A:=h ⟨b⟩
theorem D229 (b:B) (h:Wr B→A:=by intro zx;refine D9 ?_;refine jl7 rfl rfl ?_;exact zx.g):A:=h ⟨b⟩
theorem D230 (b:B) (h:Wr B→A:=by intro zx;refine D176 ?_;refine jkg rfl ?_;exact zx.g):A:=h ⟨b⟩
theorem D231 (b:B) (h:Wr B→A:=by intro zx;refine D149 ?_;refine D171 ?_;exact zx.g):A:=h ⟨b⟩
theorem D232 (b:B) (h:Wr B→A:=by intro zx;refine D148 ?_;refine D158 ?_;exact zx.g):A:=h ⟨b⟩
theorem D233 (b:B) (h:Wr B→A:=by intro zx;refine D204 ?_;refine D153 ?_;exact zx.g):A:=h ⟨b⟩
theorem D234 (b:B) (h:Wr B→A:=by intro zx;refine jbX (v:= .int .u64 0) rfl zq zA (jeE ((jcp v 0 hv70 zO).lo)) ?_;refine jec rfl zq zK (jcp v 0 hv70 zO).lo32 ?_;exact zx.g):A:=h ⟨b⟩
theorem D235 (b:B) (h:Wr B→A:=by intro zx;refine D9 ?_;refine D199 ?_;exact zx.g):A:=h ⟨b⟩
theorem D236 (b:B) (h:Wr B→A:=by intro zx;refine D13 ?_;refine D169 ?_;exact zx.g):A:=h ⟨b⟩
theorem D237 (b:B) (h:Wr B→A:=by intro zx;refine D15 ?_;refine i_if ?_;exact zx.g):A:=h ⟨b⟩
theorem D238 (b:B) (h:Wr B→A:=by intro zx;refine D178 ?_;refine D228 ?_;exact zx.g):A:=h ⟨b⟩
theorem D239 (b:B) (h:Wr B→A:=by intro zx;refine jd9 rfl zq (jdW b c f).len (by rw [(jdW b c f).len];rfl) ?_;refine jd9 rfl zq (jd5 b c f).len (by rw [(jd5 b c f).len];rfl) ?_;exact zx.g):A:=h ⟨b⟩
theorem D240 (b:B) (h:Wr B→A:=by intro zx;refine D188 ?_;refine D188 ?_;exact zx.g):A:=h ⟨b⟩
theorem D241 (b:B) (h:Wr B→A:=by intro zx;refine rs5 ?_;refine Z2 ?_;exact zx.g):A:=h ⟨b⟩
theorem D242 (b:B) (h:Wr B→A:=by intro zx;refine Zs ?_;refine D27 ?_;exact zx.g):A:=h ⟨b⟩
theorem D243 (b:B) (h:Wr B→A:=by intro zx;refine Zs ?_;refine D182 ?_;exact zx.g):A:=h ⟨b⟩
theorem D244 (b:B) (h:Wr B→A:=by intro zx;refine D20 ?_;refine D14 ?_;exact zx.g):A:=h ⟨b⟩
theorem D245 (b:B) (h:Wr B→A:=by intro zx;refine k_stI rfl zq k zO zO ?_;refine D1 ?_;exact zx.g):A:=h ⟨b⟩
end
end Go.Lo
namespace Go.Lo
theorem E0 {A:Prop} (h:A:=by first|exact ⟨rfl,IsB.yes zO⟩|exact ⟨rfl,IsB.no zO⟩):A:=h
theorem E1 {A:Prop} (h:A:=by first|exact ⟨rfl,IsB.yes (by rw [he,List.drop_eq_nil_of_le zO,jcl ys k zO];rfl)⟩|exact ⟨rfl,IsB.no (by rw [he,show ys.drop k=[] from List.drop_eq_nil_of_le zO];cases xs.drop k<;>simp [ja5])⟩):A:=h
theorem E2 {A:Prop} (h:A:=by exact ⟨rfl,IsB.no (by rw [he,show ys.drop k=[] from List.drop_eq_nil_of_le zO];cases xs.drop k<;>simp [ja5])⟩):A:=h
theorem E3 {A:Prop} (h:A:=by first|exact ⟨rfl,IsB.yes (.inl zO)⟩|exact ⟨rfl,IsB.yes (.inr ⟨by omega,by assumption⟩)⟩|exact ⟨rfl,IsB.no (by rintro (h1|⟨h1,h2⟩)<;>first|omega|contradiction)⟩):A:=h
theorem E4 {A:Prop} (h:A:=by exact ⟨rfl,IsB.yes (.inr ⟨by omega,by assumption⟩)⟩):A:=h
theorem E5 {A:Prop} (h:A:=by exact ⟨rfl,IsB.no (by rintro (h1|⟨h1,h2⟩)<;>first|omega|contradiction)⟩):A:=h
theorem E6 {A:Prop} (h:A:=by exact m.weak jaa (hnext1 _ _ _ zO ⟨i+1,zs,rfl,by omega,by omega,hzw,hin.stop zO zO zO,exU rfl,rfl⟩)):A:=h
theorem E7 {A:Prop} (h:A:=by first|exact ⟨rfl,by rw [if_pos zO]⟩|exact ⟨rfl,by rw [if_neg zO,if_pos zO]⟩|exact ⟨rfl,by rw [if_neg zO,if_neg zO]⟩):A:=h
theorem E8 {A:Prop} (h:A:=by exact ⟨rfl,by rw [if_neg zO,if_pos zO]⟩):A:=h
theorem E9 {A:Prop} (h:A:=by exact ⟨rfl,by rw [if_neg zO,if_neg zO]⟩):A:=h
theorem E10 {A:Prop} (h:A:=by exact m.weak jaa (hnext _ _ _ zO ⟨k+1,rfl,by omega,exU rfl,rfl⟩)):A:=h
theorem E11 {A:Prop} (h:A:=by exact m.weak jaa (hnext _ _ _ zO ⟨p+1,k,n+1,v.set k (10*v.getD k 0+((ru:Int)-48)),rfl,by rw [←hrd,hdr,hru];exact (jiV zO (by rw [←hru];omega)).symm,by simpa using hv3,hk2,by omega,by omega,jgX (by rw [jbd zO] at hc;omega) hvb,fun j hj=>by rw [set_other zO];exact hvz j zO,exU rfl,rfl⟩)):A:=h
theorem E12 {A:Prop} (h:A:=by exact m.weak jaa (hnext _ _ _ zO ⟨k+1,wp,wc,M,rfl,by omega,by rw [hks];exact how,exU rfl,rfl⟩)):A:=h
theorem E13 {A:Prop} (h:A:=by exact ⟨rfl,_,rfl,by unfold In64;omega,⟨fun _=>hse▸jak (l:=ss) zO,fun _=>by omega⟩⟩):A:=h
theorem E14 {A:Prop} (h:A:=by first|exact (jcv zD).symm|exact (jcu zD zD).symm):A:=h
theorem E15 {A:Prop} (h:A:=by exact (jbC zO ⟨_,by rw [jaG zO,jaR _ _ zO],by omega⟩).symm):A:=h
theorem E16 {A:Prop} (h:A:=by exact (jbE zO hnu zO).symm):A:=h
theorem E17 {A:Prop} (h:A:=by exact (jbD zO hnu zO fun e=>by have:=e _ (jak (l:=x.ln.figs) (i:=k) zO);rw [show x.ln.figs.getD k default=x.ln.figs.getD k [] from rfl,ja7,hfo,decide_eq_false (show¬x.ln.figs.getD k []=dash from hda)] at this;cases this).symm):A:=h
theorem E18 {A:Prop} (h:A:=by exact m.weak jaa (hnext1 _ _ _ zO ⟨i+1,rfl,by omega,by rw [hlm,hdr,jgB zO hnu zO hall,jaG zO,Nat.add_sub_cancel,jaR _ _ zO,←hx],exU rfl,rfl⟩)):A:=h
theorem E19 {A:Prop} (h:A:=by exact ⟨rfl,IsB.no fun e=>by have:=e.1;omega⟩):A:=h
theorem E20 {A:Prop} (h:A:=by exact ⟨rfl,IsB.no fun e=>by have:=e.2 i zO;rw [←hcc] at this;unfold chOk at this;omega⟩):A:=h
theorem E21 {A:Prop} (h:A:=by exact ⟨rfl,IsB.no fun e=>by have:=e.2 0 zO;unfold chOk at this;omega⟩):A:=h
theorem E22 {A:Prop} (h:A:=by exact ⟨rfl,IsB.yes ⟨by omega,fun j hj=>hch j zO⟩⟩):A:=h
theorem E23 {A:Prop} (h:A:=by exact m.weak jaa (hnext _ _ _ zO ⟨i+1,p9,c9,n9,i+1,rfl,by omega,hk2.symm,by rw [hkl,hks,jiw,←hf];exact o9,exU rfl,rfl⟩)):A:=h
theorem E24 {A:Prop} (h:A:=by exact jaO fun e=>e.2.1 ⟨(jaP (n:=48) zA).1 zD,hz⟩):A:=h
theorem E25 {A:Prop} (h:A:=by exact jaO fun e=>absurd (e.2.2 i zO) zD):A:=h
theorem E26 {A:Prop} (h:A:=by exact absurd ((jaP (n:=48) zA).2 e.1) zD):A:=h
theorem E27 {A:Prop} (h:A:=by exact ⟨rfl,_,IsB.yes (.inl hq),by rw [jbW,if_pos hq]⟩):A:=h
theorem E28 {A:Prop} (h:A:=by exact ⟨rfl,_,IsB.no (by rintro (e|e);exact hq e;exact of_decide_eq_false hno e.1),by rw [jbW,if_neg hq]⟩):A:=h
theorem E29 {A:Prop} (h:A:=by exact ⟨rfl,_,IsB.yes (.inr ⟨of_decide_eq_true hno,by assumption⟩),by rw [jbW,if_neg hq]⟩):A:=h
theorem E30 {A:Prop} (h:A:=by exact ⟨rfl,_,IsB.no (by rintro (e|e);exact hq e;exact absurd e.2 zD),by rw [jbW,if_neg hq]⟩):A:=h
theorem E31 {A:Prop} (h:A:=by exact ⟨⟨fun x=>by simp at x,fun x=>absurd x this⟩,fun x=>absurd x this⟩):A:=h
theorem E32 {A:Prop} (h:A:=by exact ⟨rfl,IsB.no fun e=>by rcases (jdn s).1 e with e|e;rw [hfo] at e;cases e;exact hda e⟩):A:=h
theorem E33 {A:Prop} (h:A:=by exact (jbD zO hnu zO fun e=>absurd (e _ (jak (l:=x.ln.figs) (i:=k) zO)) zD).symm):A:=h
theorem E34 {A:Prop} (h:A:=by exact (jaH (jcy zO) zA).symm):A:=h
theorem E35 {A:Prop} (h:A:=by exact (jaH (jcx zO zO) zA).symm):A:=h
theorem E36 {A:Prop} (h:A:=by exact (jeL hh0 zO zD).symm):A:=h
theorem E37 {A:Prop} (h:A:=by exact ⟨rfl,by rw [hxl];rfl⟩):A:=h
theorem E38 {A:Prop} (h:A:=by exact m.weak jaa (hnext3 _ _ _ zO ⟨k+1,wpk,wck,Mk,rfl,by omega,by rw [hks];exact howk,exU rfl,rfl⟩)):A:=h
theorem E39 {A:Prop} (h:A:=by exact hnext3 _ _ _ zO ⟨j+1,p9,c9,n9,M3++n80,_,_,rfl,by omega,by rw [hkl,hks,jav];exact o9,by rw [hks];exact hla3.snoc hn12 hlat,by rw [hks];exact hcl3.snoc hn12 hfig80 o80,exU rfl,rfl⟩):A:=h
theorem E40 {A:Prop} (h:A:=by exact hla3.snoc hn12 hlat):A:=h
theorem E41 {A:Prop} (h:A:=by exact hcl3.snoc hn12 hfig80 o80):A:=h
theorem E42 {A:Prop} (h:A:=by exact (decide_eq_true (Classical.byContradiction fun e=>by rw [this.2 zO] at hr;cases hr)).symm):A:=h
theorem E43 {A:Prop} (h:A:=by first|exact congrArg Value.bool (decide_eq_true zO).symm|exact congrArg Value.bool (decide_eq_false zO).symm):A:=h
theorem E44 {A:Prop} (h:A:=by exact congrArg Value.bool (decide_eq_false zO).symm):A:=h
theorem E45 {A:Prop} (h:A:=by exact ⟨rfl,congrArg Value.bool fall_turn.symm⟩):A:=h
theorem E46 {A:Prop} (h:A:=by exact ⟨_,rfl,.inl ⟨rfl,by rw [hgp,if_pos (by first|exact .inl zO|exact .inr (by simpa using hc)),List.append_nil];exact hRp⟩⟩):A:=h
theorem E47 {A:Prop} (h:A:=by first|exact .inl zO|exact .inr (by simpa using hc)):A:=h
theorem E48 {A:Prop} (h:A:=by first|exact jah.1 zO zO|exact jah.2.1 zO zO|exact jah.2.2.1 zO zO|exact jah.2.2.2 zO zO):A:=h
theorem E49 {A:Prop} (h:A:=by exact m.weak jaa (hnext1 _ _ _ zO ⟨i+1,fd,rfl,by omega,by rw [hst];exact hfd,exU rfl,rfl⟩)):A:=h
theorem E50 {A:Prop} (h:A:=by exact hnext2 _ _ _ zO ⟨k+1,lps.set k ⟨x.ln,p44,c44⟩,_,FM++n44,rfl,by omega,by simpa using hlen,by rw [jgg (by rw [hxk])];exact hmap,fun j hj=>by rw [jkm zO];exact hsame j zO,OwnS.blk (junk:=junk) (by rw [jbc];simp [hlen]) (by have:=hwc;rw [jbc] at this⊢;simpa using this) hwn,by rw [jjx zO];exact .snoc hof o44,exU rfl,rfl⟩):A:=h
theorem E51 {A:Prop} (h:A:=by exact OwnS.blk (junk:=junkf) (by rw [jaL]) (by have:=hfc;rw [jaL] at this⊢;simpa using this) (by simpa using hfn)):A:=h
theorem E52 {A:Prop} (h:A:=by exact hnext1 _ _ _ zO ⟨2,wp,wc,_,_,M0,_,rfl,by omega,fun e=>by omega,fun e=>by omega,fun _=>hh0,fun _=>hHalf,exU rfl,rfl⟩):A:=h
theorem E53 {A:Prop} (h:A:=by exact hnext1 _ _ _ zO ⟨1,_,_,pb,cb,_,[],rfl,by omega,fun e=>by omega,fun _=>⟨rfl,rfl,rfl⟩,fun _=>hHalf,fun e=>by omega,exU rfl,(by rw [List.append_nil])⟩):A:=h
theorem E54 {A:Prop} (h:A:=by exact ⟨n37,rfl,x0,y1,z1,w1,y2,z2,w2,y3,z3,w3,by rw [e0],fun e=>ha1 (by rwa [e0] at e),fun e=>⟨_,_,_,_,_,_,_,_,_,ha2 (by rwa [e0] at e),ra2⟩⟩):A:=h
theorem E55 {A:Prop} (h:A:=by exact IsB.yes (.inr ⟨by omega,(jbQ zO).1 zO⟩)):A:=h
theorem E56 {A:Prop} (h:A:=by exact IsB.no fun e=>e.elim (fun e=>by omega) (fun e=>by have:=(jbQ (xs:=xs) (ys:=ys) zO).2 e.2;omega)):A:=h
theorem E57 {A:Prop} (h:A:=by exact IsB.no fun e=>e.elim (fun e=>by omega) (fun e=>by omega)):A:=h
theorem E58 {A:Prop} (h:A:=by exact ⟨rfl,IsB.yes (.inl zO)⟩):A:=h
theorem E59 {A:Prop} (h:A:=by exact ⟨rfl,IsB.yes (.inr (.inl zO))⟩):A:=h
theorem E60 {A:Prop} (h:A:=by exact ⟨rfl,IsB.yes (.inr (.inr (.inl zO)))⟩):A:=h
theorem E61 {A:Prop} (h:A:=by exact ⟨rfl,IsB.yes (.inr (.inr (.inr (.inl ⟨j,by omega,by omega⟩))))⟩):A:=h
theorem E62 {A:Prop} (h:A:=by exact ⟨rfl,IsB.yes (.inr (.inr (.inr (.inr (.inl hgw)))))⟩):A:=h
theorem E63 {A:Prop} (h:A:=by exact ⟨rfl,IsB.yes (.inr (.inr (.inr (.inr (.inr hgb)))))⟩):A:=h
theorem E64 {A:Prop} (h:A:=by first|exact ⟨rfl,IsB.no fun e=>e.1 hgr⟩|exact ⟨rfl,IsB.yes ⟨hgr,by omega⟩⟩|exact ⟨rfl,IsB.no fun e=>by have:=e.2;omega⟩):A:=h
theorem E65 {A:Prop} (h:A:=by exact this.mono fun v h' ⟨e,w,e1,e2⟩=>⟨e,w,e1,jmd e2 (by rw [jfp ok (fun x hx=>(hgr x hx).1)];exact ⟨fun e=>e.2,fun e=>⟨rfl,e⟩⟩)⟩):A:=h
theorem E66 {A:Prop} (h:A:=by exact ⟨fun e=>e.2,fun e=>⟨rfl,e⟩⟩):A:=h
theorem E67 {A:Prop} (h:A:=by exact (Md.starC Tryz.prog B).weak jaa (hnext _ _ _ zO ⟨k+1,wp,wc,Mo,rfl,by omega,by rw [hks];exact how,exU rfl,rfl⟩)):A:=h
theorem E68 {A:Prop} (h:A:=by exact hnext _ _ _ zO ⟨k+1,p9,c9,n9,rfl,by omega,by rw [hks2,hks,jbh];exact o9,exU rfl,rfl⟩):A:=h
theorem E69 {A:Prop} (h:A:=by exact this.mono fun v h' ⟨e,w,e1,e2⟩=>⟨e,w,e1,jmd e2 (by rw [jfp ok (fun x hx=>(hOr x hx).1)];exact ⟨fun e=>e.2,fun e=>⟨rfl,e⟩⟩)⟩):A:=h
end Go.Lo
namespace Go.Proofs
open Go.Lo
open Go.Conc (G)
set_option maxRecDepth 100000
set_option synthInstance.maxSize 100000
set_option synthInstance.maxHeartbeats 1000000
set_option maxHeartbeats 4000000
variable {B:Array Obj}
theorem f57_c (m:Md Tryz.prog B) (h:Hp) (x lo hi:Int):FnC m 57 #[.int .i64 x,.int .i64 lo,.int .i64 hi] h fun v h'=>h'=h∧IsB (lo≤x∧x≤hi) v:=by
 refine jae Tryz.func57 rfl rfl (l:=(.int .i64 x)::(.int .i64 lo)::(.int .i64 hi)::uu12) rfl ?_
 intro cf cs K hK
 refine D162 ?_;refine rs9 ?_;refine Z2 ?_
 refine jeF rfl zq (fun hc=>?_) (fun hc=>?_)
 ·refine Z3 ?_
  refine jeF rfl rfl (fun hc=>?_) (fun hc=>?_);all_goals
   refine D222 ?_;refine jac (h) rfl Tryz.func57 rfl jaa ?_;refine D5 ?_
   exact E0
 ·refine Z4 ?_;refine D179 ?_;refine jac (h) rfl Tryz.func57 rfl jaa ?_;refine D5 ?_
  exact E0
theorem jcl (xs:List Int) (k:Nat) (h:k<xs.length):xs.drop k=xs.getD k 0::xs.drop (k+1):=by
 rw [List.drop_eq_getElem_cons h,List.getD_eq_getElem?_getD,List.getElem?_eq_getElem h];rfl
theorem ext_getD {xs ys:List Int} (hl:xs.length=ys.length) (he: ∀i,i<xs.length→xs.getD i 0=ys.getD i 0):xs=ys:=by
 apply List.ext_getElem hl
 intro i h1 h2
 have:=he i h1
 rw [List.getD_eq_getElem?_getD,List.getElem?_eq_getElem h1,List.getD_eq_getElem?_getD,List.getElem?_eq_getElem h2] at this
 exact this
theorem jfd {xs:List Int} {x:Int}:x∈xs↔ ∃i,i<xs.length∧xs.getD i 0=x:=by
 rw [List.mem_iff_getElem];constructor
 ·rintro ⟨i,h,e⟩;exact ⟨i,h,by rw [List.getD_eq_getElem?_getD,List.getElem?_eq_getElem h];exact e⟩
 ·rintro ⟨i,h,e⟩;exact ⟨i,h,by rw [List.getD_eq_getElem?_getD,List.getElem?_eq_getElem h] at e;exact e⟩
def ja5:List Int→List Int→Bool
 |a::r,b::s=>if a=b then ja5 r s else decide (a<b)
 |[],_::_=>true
 |_,[]=>false
def jc9 (xs ys:List Int):Prop:=xs.length<ys.length∨(xs.length=ys.length∧ja5 xs ys=true)
def jcD (n:Nat):List Int:=(List.range n).map fun i:Nat=>(i:Int)
theorem jdK (n:Nat):jcD (n+1)=jcD n++[(n:Int)]:=by simp [jcD,List.range_succ]
theorem f42_c (m:Md Tryz.prog B) (h:Hp) {p p2:Option Addr} {n c n2 c2:Nat} {xs ys:List Int} (rd:RdS B h 1 (.slice p n c) n (ints xs)) (hn:n≤1000000) (rd2:RdS B h 1 (.slice p2 n2 c2) n2 (ints ys)):FnC m 42 #[.slice p n c,.slice p2 n2 c2] h fun v h'=>h'=h∧IsB (xs=ys) v:=by
 have hl:=rd.ilen
 have hl2:=rd2.ilen
 refine jae Tryz.func42 rfl rfl (l:=(.slice p n c)::(.slice p2 n2 c2)::uu24) rfl ?_
 intro cf cs K hK
 refine D161 ?_;refine rs5 ?_;refine Z4 ?_
 refine ja4 rfl zq (fun hc=>?_) (fun hc=>?_)
 ·refine D166 ?_;refine jac (h) rfl Tryz.func42 rfl jaa ?_;refine D5 ?_
  exact ⟨rfl,IsB.no fun e=>by subst e;omega⟩
 ·refine D165 ?_;refine D180 ?_
  refine jai (fun nn l h'=> ∃(k:Nat),nn=n-k∧(k≤n)∧(∀i,i<k→xs.getD i 0=ys.getD i 0)∧(∃U:Nat→Value,l=((.slice p n c)::(.slice p2 n2 c2)::(U 2)::(U 3)::(U 4)::(.int .i64 (k:Int))::vw20 U 6 []))∧h=h') _ ⟨0,rfl,by omega,by omega,exU rfl,rfl⟩ ?_;rintro nn l h' ⟨k,rfl,hk,he,⟨U,rfl⟩,rfl⟩ hnext;refine D2 ?_;refine D196 ?_
  refine jan rfl zq (fun hc=>?_) (fun hc=>?_)
  ·refine D190 ?_;refine D94 ?_;refine Z2 ?_
   obtain ⟨rd_b,rd_o,rfl⟩:=rd.ptr zO
   refine D19 ?_;refine Z2 ?_
   obtain ⟨rd2_b,rd2_o,rfl⟩:=rd2.ptr zO
   refine D19 ?_;refine D109 ?_;refine D136 ?_
   refine ja4 rfl zq (fun hc=>?_) (fun hc=>?_)
   ·refine D166 ?_;refine jac (h) rfl Tryz.func42 rfl jaa ?_;refine D5 ?_
    exact ⟨rfl,IsB.no fun e=>by subst e;contradiction⟩
   ·refine D231 ?_
    exact m.weak jaa (hnext _ _ _ zO ⟨k+1,rfl,by omega,fun i hi=>by
     rcases Nat.lt_or_ge i k with h1|h1
     ·exact he i h1
     ·obtain rfl:i=k:=by omega
      assumption,exU rfl,rfl⟩)
  ·refine D172 ?_;refine D153 ?_;refine jac (h) rfl Tryz.func42 rfl jaa ?_;refine D5 ?_
   exact ⟨rfl,IsB.yes (ext_getD zO fun i hi=>he i zO)⟩
theorem f35_c (m:Md Tryz.prog B) (h:Hp) {p:Option Addr} {n c:Nat} {xs:List Int} (x:Int) (rd:RdS B h 1 (.slice p n c) n (ints xs)) (hn:n≤1000000):FnC m 35 #[.slice p n c,.int .i64 x] h fun v h'=>h'=h∧IsB (x∈xs) v:=by
 have hl:=rd.ilen
 refine jae Tryz.func35 rfl rfl (l:=(.slice p n c)::(.int .i64 x)::uu16) rfl ?_
 intro cf cs K hK
 refine D217 ?_
 refine jai (fun nn l h'=> ∃(k:Nat),nn=n-k∧(k≤n)∧(∀i,i<k→xs.getD i 0≠x)∧(∃U:Nat→Value,l=((.slice p n c)::(.int .i64 x)::(U 2)::(U 3)::(U 4)::(.int .i64 (k:Int))::vw12 U 6 []))∧h=h') _ ⟨0,rfl,by omega,by omega,exU rfl,rfl⟩ ?_;rintro nn l h' ⟨k,rfl,hk,he,⟨U,rfl⟩,rfl⟩ hnext;refine D2 ?_;refine D196 ?_
 refine jan rfl zq (fun hc=>?_) (fun hc=>?_)
 ·refine D232 ?_;refine rs6 ?_;refine Z2 ?_
  obtain ⟨rd_b,rd_o,rfl⟩:=rd.ptr zO
  refine D19 ?_;refine D109 ?_;refine Zs ?_
  refine jaM rfl zq (fun hc=>?_) (fun hc=>?_)
  ·refine D166 ?_;refine jac (h) rfl Tryz.func35 rfl jaa ?_;refine D5 ?_
   exact ⟨rfl,IsB.yes (jfd.2 ⟨k,by omega,by assumption⟩)⟩
  ·refine D231 ?_
   exact m.weak jaa (hnext _ _ _ zO ⟨k+1,rfl,by omega,fun i hi=>by
    rcases Nat.lt_or_ge i k with h1|h1
    ·exact he i h1
    ·obtain rfl:i=k:=by omega
     assumption,exU rfl,rfl⟩)
 ·refine D172 ?_;refine D153 ?_;refine jac (h) rfl Tryz.func35 rfl jaa ?_;refine D5 ?_
  exact ⟨rfl,IsB.no fun e=>by
   obtain ⟨i,h1,h2⟩:=jfd.1 e
   exact he i zO h2⟩
theorem f107_c (m:Md Tryz.prog B) (h:Hp) {p p2:Option Addr} {n c n2 c2:Nat} {xs ys:List Int} (rd:RdS B h 1 (.slice p n c) n (ints xs)) (hn:n≤1000000) (rd2:RdS B h 1 (.slice p2 n2 c2) n2 (ints ys)):FnC m 107 #[.slice p n c,.slice p2 n2 c2] h fun v h'=>h'=h∧IsB (ja5 xs ys=true) v:=by
 have hl:=rd.ilen
 have hl2:=rd2.ilen
 refine jae Tryz.func107 rfl rfl (l:=(.slice p n c)::(.slice p2 n2 c2)::uu39) rfl ?_
 intro cf cs K hK
 refine D217 ?_
 refine jai (fun nn l h'=> ∃(k:Nat),nn=n-k∧(k≤n)∧(k≤n2)∧(ja5 xs ys=ja5 (xs.drop k) (ys.drop k))∧(∃U:Nat→Value,l=((.slice p n c)::(.slice p2 n2 c2)::(U 2)::(U 3)::(U 4)::(.int .i64 (k:Int))::vw35 U 6 []))∧h=h') _ ⟨0,rfl,by omega,by omega,rfl,exU rfl,rfl⟩ ?_;rintro nn l h' ⟨k,rfl,hk,hk2,he,⟨U,rfl⟩,rfl⟩ hnext;refine D2 ?_;refine rs10 ?_;refine Z3 ?_
 refine jan rfl zq (fun hc=>?_) (fun hc=>?_)
 ·refine Z4 ?_
  refine jan rfl rfl (fun hc=>?_) (fun hc=>?_)
  ·refine D13 ?_;refine D190 ?_;refine D94 ?_;refine Z2 ?_
   obtain ⟨rd_b,rd_o,rfl⟩:=rd.ptr zO
   refine D19 ?_;refine Z2 ?_
   obtain ⟨rd2_b,rd2_o,rfl⟩:=rd2.ptr zO
   refine D19 ?_;refine D109 ?_;refine D136 ?_
   refine ja4 rfl zq (fun hc=>?_) (fun hc=>?_)
   ·refine D148 ?_;refine D2 ?_;refine jaq [(0,.pure),(1,.pure),(2,.pure),(4,.pure),(5,.pure),(6,.pure),(3,.read),(7,.read),(8,.pure),(9,.pure)] zK zK (List.Sublist.refl _) ?_;refine Z2 ?_;refine D19 ?_;refine Z2 ?_;refine D19 ?_;refine D109 ?_;refine D136 ?_
    refine jan rfl zq (fun hc=>?_) (fun hc=>?_)
    ·refine D146 ?_;refine D142 ?_;refine D5 ?_
     exact ⟨rfl,IsB.yes (by rw [he,jcl xs k zO,jcl ys k zO,ja5,if_neg zD];exact decide_eq_true zD)⟩
    ·refine D146 ?_;refine D142 ?_;refine D5 ?_
     exact ⟨rfl,IsB.no (by rw [he,jcl xs k zO,jcl ys k zO,ja5,if_neg zD];rw [decide_eq_true_iff];omega)⟩
   ·refine D231 ?_
    exact m.weak jaa (hnext _ _ _ zO ⟨k+1,rfl,by omega,by omega,by
     rw [he,jcl xs k zO,jcl ys k zO,ja5,if_pos zD],exU rfl,rfl⟩)
  ·refine D13 ?_;refine D172 ?_;refine rs6 ?_;refine Z4 ?_
   refine jan rfl zq (fun hc=>?_) (fun hc=>?_);all_goals
    refine D146 ?_;refine D142 ?_;refine D5 ?_
    exact E1
 ·refine Z5 ?_;refine D10 ?_;refine D172 ?_;refine rs6 ?_;refine Z4 ?_
  refine jan rfl zq (fun hc=>?_) (fun hc=>?_);all_goals
   refine D146 ?_;refine D142 ?_;refine D5 ?_
   exact E1
theorem f48_c (m:Md Tryz.prog B) (h:Hp) {p p2:Option Addr} {n c n2 c2:Nat} {xs ys:List Int} (rd:RdS B h 1 (.slice p n c) n (ints xs)) (hn:n≤1000000) (rd2:RdS B h 1 (.slice p2 n2 c2) n2 (ints ys)):FnC m 48 #[.slice p n c,.slice p2 n2 c2] h fun v h'=>h'=h∧IsB (jc9 xs ys) v:=by
 have hl:=rd.ilen
 have hl2:=rd2.ilen
 refine jae Tryz.func48 rfl rfl (l:=(.slice p n c)::(.slice p2 n2 c2)::uu20) rfl ?_
 intro cf cs K hK
 refine D161 ?_;refine jbl [(0,.free),(1,.free),(2,.free),(3,.free),(4,.free),(5,.free),(6,.free),(7,.free),(8,.free),(9,.free),(10,.free),(11,.free),(12,.free),(13,.free),(14,.free),(15,.free),(16,.free),(17,.free)] zK zK ?_;refine Z4 ?_
 refine jan rfl zq (fun hc=>?_) (fun hc=>?_)
 ·refine Z11 ?_;refine D222 ?_;refine jac (h) rfl Tryz.func48 rfl jaa ?_;refine D5 ?_
  unfold jc9
  rw [hl,hl2];exact E3
 ·refine Z5 ?_
  refine jaM rfl rfl (fun hc=>?_) (fun hc=>?_)
  ·refine Z3 ?_;refine jaj (Post:=fun v=>IsB _ v) rfl rfl zK (fun H' hH=>f107_c m H' (rd.keeps hH) hn (rd2.keeps hH)) ?_
   rintro v (⟨hc,rfl⟩|⟨hc,rfl⟩);all_goals
    refine D9 ?_;refine D61 ?_;refine D179 ?_;refine jac (h) rfl Tryz.func48 rfl jaa ?_;refine D5 ?_
    unfold jc9
    rw [hl,hl2];exact E3
  ·refine Z4 ?_;refine D45 ?_;refine D179 ?_;refine jac (h) rfl Tryz.func48 rfl jaa ?_;refine D5 ?_
   unfold jc9
   rw [hl,hl2];exact E3
def Asc (ys:List Int):Prop:=ys.Pairwise (· < ·)
theorem Asc.eq: ∀{xs ys:List Int},Asc xs→Asc ys→(∀z,z∈xs↔z∈ys)→xs=ys
 |[],[],_,_,_=>rfl
 |[],b::s,_,_,h=>by have:=(h b).2 zS;simp at this
 |a::r,[],_,_,h=>by have:=(h a).1 zS;simp at this
 |a::r,b::s,h1,h2,h=>by
  unfold Asc at h1 h2
  rw [List.pairwise_cons] at h1 h2
  have hab:a=b:=by
   rcases List.mem_cons.1 ((h a).1 zS) with e|e
   ·exact e
   ·rcases List.mem_cons.1 ((h b).2 zS) with e'|e'
    ·exact e'.symm
    ·have:=h1.1 b e';have:=h2.1 a e;omega
  subst hab
  have:r=s:=Asc.eq h1.2 h2.2 fun z=>by
   constructor
   ·intro hz
    rcases List.mem_cons.1 ((h z).1 (List.mem_cons_of_mem _ hz)) with e|e
    ·have:=h1.1 z hz;omega
    ·exact e
   ·intro hz
    rcases List.mem_cons.1 ((h z).2 (List.mem_cons_of_mem _ hz)) with e|e
    ·have:=h2.1 z hz;omega
    ·exact e
  rw [this]
theorem OwnS.full {t k q n:Nat} {cs:List Value} (hl:cs.length=n*k):OwnS t k (.slice (some ⟨q,0,none⟩) n n) n cs [⟨true,q,.cells cs.toArray t (0,0)⟩]:=by
 have:=OwnS.blk (t:=t) (k:=k) (b:=q) (n:=n) (cap:=n) (cs:=cs) (junk:=[]) hl (by simpa using hl) (Nat.le_refl _)
 simpa using this
def RdI (B:Array Obj) (h:Hp) (w:Value) (xs:List Int):Prop:= ∃p c,w= .slice p xs.length c∧RdS B h 1 (.slice p xs.length c) xs.length (ints xs)
theorem RdI.nil {h:Hp}:RdI B h (.slice none 0 0) []:=⟨none,0,rfl,none,0,rfl,rfl,.inl ⟨rfl,rfl⟩⟩
theorem take_set {ln:List Int} {i:Nat} {n:Int} (h:i<ln.length):(ln.set i n).take (i+1)=ln.take i++[n]:=by
 rw [List.take_succ_eq_append_getElem (by simpa using h)];simp [List.take_set_of_le]
theorem f221_c (m:Md Tryz.prog B) (h:Hp) (x:Int):FnC m 221 #[.int .i64 x] h fun v h'=>h'=h∧v= .bool false:=by
 refine jae Tryz.func221 rfl rfl (l:=[.int .i64 x,undef,undef,undef,undef,undef]) rfl ?_
 intro cf cs K hK
 refine D162 ?_;refine D212 ?_;refine k_neq rfl zq ?_;refine D146 ?_;refine jac (h) rfl Tryz.func221 rfl jaa ?_;refine D5 ?_
 exact ⟨rfl,by simp⟩
theorem f187_c (m:Md Tryz.prog B) (h:Hp) (x y:Int):FnC m 187 #[.int .i64 x,.int .i64 y] h fun v h'=>h'=h∧IsB (x<y) v:=by
 refine jae Tryz.func187 rfl rfl (l:=(.int .i64 x)::(.int .i64 y)::uu15) rfl ?_
 intro cf cs K hK
 refine D162 ?_;refine rs13 ?_;refine Zs ?_;refine D124 ?_
 rintro v rfl;refine D207 ?_;refine D10 ?_;refine Z3 ?_
 refine jan rfl rfl (fun hc=>?_) (fun hc=>?_);all_goals
  refine D179 ?_;refine jac (h) rfl Tryz.func187 rfl jaa ?_;refine D5 ?_
  first|exact ⟨rfl,IsB.yes zD⟩|exact ⟨rfl,IsB.no zO⟩
def Ins (ys:List Int) (a i j:Nat):Prop:=(∀p q,a≤p→p<q→q≤i→p≠j→q≠j→ys.getD p 0≤ys.getD q 0)∧(∀q,j<q→q≤i→ys.getD j 0≤ys.getD q 0)
theorem Ins.start {ys:List Int} {a i:Nat} (h:jkL ys a i):Ins ys a i i:=⟨fun p q h1 h2 h3 h4 h5=>h p q h1 h2 zO,fun q h1 h2=>by omega⟩
theorem Ins.stop {ys:List Int} {a i j:Nat} (h:Ins ys a i j) (hj:j=a∨(a<j∧ys.getD (j-1) 0≤ys.getD j 0)) (haj:a≤j) (hji:j≤i):jkL ys a (i+1):=fun p q h1 h2 h3=>by
 by_cases e1:p=j
 ·subst e1
  exact h.2 q h2 zO
 ·by_cases e2:q=j
  ·subst e2
   rcases hj with hj|⟨hj,hle⟩
   ·omega
   ·by_cases e3:p=q-1
    ·subst e3
     exact hle
    ·have:=h.1 p (q-1) h1 zO zO e1 zO
     omega
  ·exact h.1 p q h1 h2 zO e1 e2
theorem Ins.step {ys:List Int} {a i j:Nat} (h:Ins ys a i j) (haj:a<j) (hji:j≤i) (hi:i<ys.length) (hlt:ys.getD j 0<ys.getD (j-1) 0):Ins (jdT ys j (j-1)) a i (j-1):=by
 have g: ∀k,(jdT ys j (j-1)).getD k 0=if k=j-1 then ys.getD j 0 else if k=j then ys.getD (j-1) 0 else ys.getD k 0:=fun k=>jmE zO zO
 refine ⟨fun p q h1 h2 h3 h4 h5=>?_,fun q h1 h2=>?_⟩
 ·rw [g,g,if_neg h4,if_neg h5];by_cases e1:p=j
  ·subst e1
   rw [if_pos rfl,if_neg zO];exact h.1 (p-1) q zO zO h3 zO zO
  ·rw [if_neg e1];by_cases e2:q=j
   ·subst e2
    rw [if_pos rfl];exact h.1 p (q-1) h1 zO zO e1 zO
   ·rw [if_neg e2];exact h.1 p q h1 h2 h3 e1 e2
 ·rw [g,g,if_pos rfl,if_neg zO];by_cases e2:q=j
  ·subst e2
   rw [if_pos rfl];omega
  ·rw [if_neg e2];exact h.2 q zO h2
theorem swapL_at {ys:List Int} {i j:Nat}:(ys.set i (ys.getD j 0)).set j (ys.getD i 0)=jdT ys i j:=rfl
theorem f181_c (m:Md Tryz.prog B) (h:Hp) {bk n c:Nat} {xs:List Int} {junk:List Value} (hl:xs.length=n) (hn:n≤100000) (a b:Nat) (hab:a≤b) (hb:b≤n):FnC m 181 #[.slice (some ⟨bk,0,none⟩) n c,.int .i64 (a:Int),.int .i64 (b:Int)] (h++[blkC bk xs junk]) fun v h'=>v= .tuple [].toArray∧ ∃ys,h'=h++[blkC bk ys junk]∧Sw a b xs ys∧jkL ys a b:=by
 refine jae Tryz.func181 rfl rfl (l:=(.slice (some ⟨bk,0,none⟩) n c)::(.int .i64 (a:Int))::(.int .i64 (b:Int))::uu46) rfl ?_
 intro cf cs K hK
 refine rs3 ?_;refine D163 ?_;refine D11 ?_;refine jai (fun nn l h'=> ∃(i:Nat) (ys:List Int),nn=b-i∧(a+1≤i)∧(i≤max (a+1) b)∧(Sw a b xs ys)∧(jkL ys a i)∧(∃U:Nat→Value,l=((.slice (some ⟨bk,0,none⟩) n c)::(.int .i64 (a:Int))::(.int .i64 (b:Int))::(U 3)::(U 4)::(U 5)::(.int .i64 (i:Int))::vw42 U 7 []))∧h++[blkC bk ys junk]=h') _ ⟨a+1,xs,rfl,by omega,by omega,.refl _,fun p q h1 h2 h3=>by omega,exU rfl,rfl⟩ ?_;rintro nn l h' ⟨i,ys,rfl,hi1,hi2,hsw,hso,⟨U,rfl⟩,rfl⟩ hnext1;have hyl:=hsw.length
 refine D2 ?_;refine D203 ?_
 refine jan rfl zq (fun hc=>?_) (fun hc=>?_)
 ·refine D232 ?_;refine D152 ?_;refine D0 ?_;refine D11 ?_
  refine jai (fun nn l h'=> ∃(j:Nat) (zs:List Int),nn=j+1∧(a≤j)∧(j≤i)∧(Sw a b xs zs)∧(Ins zs a i j)∧(∃U:Nat→Value,l=((.slice (some ⟨bk,0,none⟩) n c)::(.int .i64 (a:Int))::(.int .i64 (b:Int))::(U 3)::(U 4)::(U 5)::(.int .i64 (i:Int))::(.int .i64 (j:Int))::vw41 U 8 []))∧h++[blkC bk zs junk]=h') _ ⟨i,ys,rfl,by omega,by omega,hsw,Ins.start hso,exU rfl,rfl⟩ ?_;rintro nn l h' ⟨j,zs,rfl,hj1,hj2,hzw,hin,⟨U,rfl⟩,rfl⟩ hnext2;have hzl:=hzw.length
  refine D2 ?_;refine D2 ?_;refine jaq [(0,.pure),(1,.pure),(2,.pure),(3,.pure),(4,.pure),(5,.pure),(6,.pure),(8,.pure),(9,.pure),(10,.pure),(11,.pure),(7,.read),(12,.read),(13,.keep),(14,.pure)] zK zK (List.Sublist.refl _) ?_;refine Z2 ?_
  refine jaF rfl zq (fun hc=>?_) (fun hc=>?_)
  ·refine Z3 ?_;refine D116 ?_;refine Z3 ?_;refine D116 ?_;refine k_ld rfl rfl (jfH j rfl zO) ?_;refine k_ld rfl rfl (jfH (j-1) zO zO) ?_;refine jaj (Post:=fun v=>IsB _ v) rfl rfl zK (fun H' hH=>f187_c m H' _ _) ?_
   rintro v (⟨hc,rfl⟩|⟨hc,rfl⟩)
   ·refine D9 ?_;refine D223 ?_;refine D158 ?_;refine jaq [(0,.pure),(1,.pure),(2,.pure),(3,.pure),(4,.pure),(5,.pure),(6,.pure),(7,.pure),(8,.pure),(10,.pure),(11,.pure),(12,.pure),(9,.read),(13,.read),(14,.pure),(15,.free),(16,.pure),(17,.free)] zK zK (List.Sublist.refl _) ?_;refine Z8 ?_;refine D19 ?_;refine Z2 ?_;refine D19 ?_;refine k_ld rfl zq (jfH (j-1) zO zO) ?_;refine k_ld rfl zq (jfH j rfl zO) ?_;refine D19 ?_
    haveI hs1:=setSeg_ints (xs:=zs) (junk:=junk) (v:=zs.getD (j-1) 0) (i:=(j:Int)) (k:=j) rfl zO
    refine D27 ?_;refine D19 ?_
    haveI hs2:=setSeg_ints (xs:=zs.set j (zs.getD (j-1) 0)) (junk:=junk) (v:=zs.getD j 0) (i:=(j:Int)-1) (k:=j-1) zO zN
    refine D27 ?_
    rw [swapL_at];refine D1 ?_;refine D171 ?_
    have ej:(j:Int)-1=((j-1:Nat):Int):=by omega
    rw [ej];exact m.weak jaa (hnext2 _ _ _ zO ⟨j-1,jdT zs j (j-1),rfl,by omega,by omega,.step j (j-1) ⟨by omega,by omega⟩ ⟨by omega,by omega⟩ hzw,hin.step zO zO zO zO,exU rfl,rfl⟩)
   ·refine D9 ?_;refine D13 ?_;refine D172 ?_;refine D171 ?_
    exact E6
  ·refine Z11 ?_;refine D10 ?_;refine D172 ?_;refine D171 ?_
   exact E6
 ·refine D172 ?_;refine jdx rfl ?_;refine jac (h++[blkC bk ys junk]) rfl Tryz.func181 rfl jaa ?_;refine D5 ?_
  refine ⟨rfl,ys,rfl,hsw,fun p q h1 h2 h3=>?_⟩
  by_cases e:a<b
  ·exact hso p q h1 h2 zO
  ·omega
theorem f191_c (m:Md Tryz.prog B) (h:Hp) (x:Int) (hx:0≤x∧x<65536):FnC m 191 #[.int .u64 x] h fun v h'=>h'=h∧ ∃k:Int,v= .int .i64 k∧0≤k∧k≤1000:=by
 refine jae Tryz.func191 rfl rfl (l:=(.int .u64 x)::uu24) rfl ?_
 intro cf cs K hK
 refine D161 ?_;refine D152 ?_
 refine jho rfl zq (fun hc=>?_) (fun hc=>?_)
 ·exfalso
  omega
 ·refine D165 ?_;refine D152 ?_
  refine jho rfl zq (fun hc=>?_) (fun hc=>?_)
  ·exfalso
   omega
  ·refine D165 ?_;refine D152 ?_
   refine jho rfl zq (fun hc=>?_) (fun hc=>?_);refine D148 ?_;refine D186 ?_
   have hq:x.fdiv (2^(min (8:Int).toNat IntKind.u64.bits))=x/256:=by
    rw [Int.fdiv_eq_ediv_of_nonneg _ zA];rfl
   refine k_shr (x/256) rfl zq zA hq ?_;refine D0 ?_;refine D164 ?_;rotate_left
   refine D149 ?_
   all_goals
    refine rs7 ?_;refine Z2 ?_;first
     |refine jdS rfl zq zK (n':=x) zW ?_
     |refine jdS rfl zq zK (n':=x/256) zW ?_
    refine k_ixS (n:=256) rfl zq zK zK zO zO (fun b8=>jad ?_);have hb8:=b8.toNat_lt
    refine jdS rfl zq zK (n':=(b8.toNat:Int)) zW ?_;refine D195 ?_;refine jac (h) rfl Tryz.func191 rfl jaa ?_;refine D5 ?_;exact ⟨rfl,_,rfl,by omega,by omega⟩
theorem f151_c (m:Md Tryz.prog B) (h:Hp) (x:Int) (hx:0≤x∧x<65536):FnC m 151 #[.int .u64 x] h fun v h'=>h'=h∧ ∃k:Int,v= .int .i64 k∧0≤k∧k≤1000:=by
 refine jae Tryz.func151 rfl rfl (l:=(.int .u64 x)::uu7) rfl ?_
 intro cf cs K hK
 refine D161 ?_;refine D6 ?_;refine D7 ?_;refine D186 ?_;refine jaj rfl zq zK (fun H' hH=>f191_c m H' _ hx) ?_
 rintro v ⟨k,rfl,hk0,hk1⟩;refine D220 ?_;refine jac (h) rfl Tryz.func151 rfl jaa ?_;refine D5 ?_
 exact ⟨rfl,_,rfl,hk0,hk1⟩
def PdqC {B:Array Obj} (m:Md Tryz.prog B) (N:Nat):Prop:= ∀(h:Hp) (bk n c:Nat) (xs:List Int) (junk:List Value) (lim:Int),xs.length=n→n≤N→0≤lim→lim≤1000→
 FnC m 150 #[.slice (some ⟨bk,0,none⟩) n c,.int .i64 0,.int .i64 (n:Int),.int .i64 lim] (h++[blkC bk xs junk]) fun v h'=>v= .tuple [].toArray∧ ∃ys,h'=h++[blkC bk ys junk]∧Sw 0 n xs ys∧jkL ys 0 n
def jcq (xs:List Int):Nat→List Int
 |0=>[]
 |t+1=>jcq xs t++if t=0∨xs.getD t 0≠xs.getD (t-1) 0 then [xs.getD t 0] else []
theorem jgN (xs:List Int): ∀t,t≤xs.length→(∀i,0<i→i<t→xs.getD i 0≠xs.getD (i-1) 0)→jcq xs t=xs.take t
 |0,_,_=>rfl
 |t+1,h,hd=>by
  rw [jcq,jgN xs t zO (fun i h1 h2=>hd i h1 zO),take_snoc' xs t zO,if_pos];by_cases e:t=0
  ·exact .inl e
  ·exact .inr (hd t zO zO)
theorem jiL {ys:List Int} {k:Nat} {v:Int} (h:k<ys.length):(ys.set k v).take (k+1)=ys.take k++[v]:=take_set h
theorem jk1 {bk n c:Nat} {ys:List Int} {junk:List Value} (hl:ys.length=n) (hj:n+junk.length=c):OwnS 3 1 (.slice (some ⟨bk,0,none⟩) n c) n (ints ys) [blkC bk ys junk]:=
 .blk (by simp [hl]) (by simp [hl];omega) zO
theorem own_cut {bk n c k:Nat} {ys:List Int} {junk:List Value} (hl:ys.length=n) (hj:n+junk.length=c) (hk:k≤n):OwnS 3 1 (.slice (some ⟨bk,0,none⟩) k c) k (ints (ys.take k)) [blkC bk ys junk]:=by
 have:=(jk1 (bk:=bk) hl hj).pre (m:=k) hk
 rwa [Nat.mul_one,←jhq] at this
theorem f100_c (m:Md Tryz.prog B) (h:Hp) {bk n c:Nat} {xs:List Int} {junk:List Value} (hl:xs.length=n) (hj:n+junk.length=c) (hn:n≤100000):FnC m 100 #[.slice (some ⟨bk,0,none⟩) n c] (h++[blkC bk xs junk]) fun v h'=> ∃nw,h'=h++nw∧ ∃k,k=(jcq xs n).length∧OwnS 3 1 v k (ints (jcq xs n)) nw:=by
 refine jae Tryz.func100 rfl rfl (l:=(.slice (some ⟨bk,0,none⟩) n c)::uu60) rfl ?_
 intro cf cs K hK
 refine D161 ?_;refine D203 ?_
 refine jan rfl zq (fun hc=>?_) (fun hc=>?_)
 ·refine D178 ?_;refine jac (h++[blkC bk xs junk]) rfl Tryz.func100 rfl jaa ?_;refine D5 ?_
  have hall:jcq xs n=xs:=by rw [jgN xs n zO (fun i h1 h2=>by omega),List.take_of_length_le zO]
  exact ⟨_,rfl,n,by rw [hall,hl],by rw [hall];exact jk1 hl hj⟩
 ·refine D165 ?_;refine D180 ?_
  refine jai (fun nn l h'=> ∃(k:Nat),nn=n-k∧(1≤k)∧(k≤n)∧(∀i,0<i→i<k→xs.getD i 0≠xs.getD (i-1) 0)∧(∃U:Nat→Value,l=((.slice (some ⟨bk,0,none⟩) n c)::(U 1)::(U 2)::(.int .i64 (k:Int))::vw57 U 4 []))∧h++[blkC bk xs junk]=h') _ ⟨1,rfl,by omega,by omega,fun i h1 h2=>by omega,exU rfl,rfl⟩ ?_;rintro nn l h' ⟨k,rfl,hk1,hk2,hd,⟨U,rfl⟩,rfl⟩ hnext1;have hu:=jgN xs k zO hd
  refine D2 ?_;refine D196 ?_
  refine jan rfl zq (fun hc=>?_) (fun hc=>?_)
  ·refine D190 ?_;refine D85 ?_;refine Z2 ?_;refine D19 ?_;refine Z3 ?_;refine D19 ?_;refine k_ld rfl zq (jfH k rfl zO) ?_;refine k_ld rfl zq (jfH (k-1) zO zO) ?_
   refine jaM rfl zq (fun hc=>?_) (fun hc=>?_)
   ·refine D148 ?_;refine D212 ?_;refine jgD (a:=k) rfl zq rfl zO ?_
    rw [jpp zO];refine D150 ?_;refine rs1 ?_
    have hu1:jcq xs (k+1)=xs.take k:=by rw [jcq,if_neg (by rintro (e|e)<;>omega),List.append_nil,hu]
    refine D0 ?_;refine D11 ?_
    refine jai (fun nn l h'=> ∃(j e:Nat) (ys:List Int),nn=n-j∧(1≤j)∧(k+j≤n)∧(e=(jcq xs (k+j)).length)∧(e<k+j)∧(k≤e)∧(ys.length=n)∧(ys.take e=jcq xs (k+j))∧(∀i,k+j≤i+1→ys.getD i 0=xs.getD i 0)∧(∃U:Nat→Value,l=((.slice (some ⟨bk,0,none⟩) n c)::(U 1)::(U 2)::(.int .i64 (e:Int))::(.slice (some ⟨bk,k,none⟩) (n-k) (c-k))::(.int .i64 (j:Int))::vw55 U 6 []))∧h++[blkC bk ys junk]=h') _ ⟨1,k,xs,rfl,by omega,by omega,by rw [hu1,List.length_take];omega,by omega,by omega,hl,by rw [hu1],fun i hi=>rfl,exU rfl,rfl⟩ ?_;rintro nn l h' ⟨j,e,ys,rfl,hj1,hj2,he,hek,hke,hyl,hyt,hys,⟨U,rfl⟩,rfl⟩ hnext2;refine D2 ?_;refine D196 ?_
    refine jan rfl zq (fun hc=>?_) (fun hc=>?_)
    ·refine D190 ?_;refine D85 ?_
     have hy1:=hys (k+j) zO
     have hy2:=hys (k+(j-1)) zO
     refine Z2 ?_;refine D19 ?_;refine Z3 ?_;refine D19 ?_;refine k_ld rfl zq (jkZ j rfl zO) ?_;refine k_ld rfl zq (jkZ (j-1) zO zO) ?_
     rw [hy1,hy2];refine ja4 rfl zq (fun hc=>?_) (fun hc=>?_)
     ·have hU:jcq xs (k+(j+1))=jcq xs (k+j)++[xs.getD (k+j) 0]:=by
       rw [show k+(j+1)=(k+j)+1 by omega,jcq,if_pos (.inr (by rw [show k+j-1=k+(j-1) by omega];exact hc))]
      refine D148 ?_;refine rs8 ?_;refine Z4 ?_;refine D19 ?_;refine k_ld rfl zq (jkZ j rfl zO) ?_
      rw [hy1];refine D19 ?_
      haveI hs1:=setSeg_ints (xs:=ys) (junk:=junk) (v:=xs.getD (k+j) 0) (i:=(e:Int)) (k:=e) rfl zO
      refine D181 ?_;refine D164 ?_;refine D171 ?_
      exact m.weak jaa (hnext2 _ _ _ zO ⟨j+1,e+1,ys.set e (xs.getD (k+j) 0),rfl,by omega,by omega,by rw [hU,List.length_append,←he];rfl,by omega,by omega,by simp [hyl],by rw [jiL zO,hyt,hU],fun i hi=>by rw [jjb zO,if_neg zO];exact hys i zO,exU rfl,rfl⟩)
     ·have hU:jcq xs (k+(j+1))=jcq xs (k+j):=by
       rw [show k+(j+1)=(k+j)+1 by omega,jcq,if_neg (fun y=>y.elim (fun x=>by omega) (fun x=>x (by rw [show k+j-1=k+(j-1) by omega];exact hc))),List.append_nil]
      refine D231 ?_
      exact m.weak jaa (hnext2 _ _ _ zO ⟨j+1,e,ys,rfl,by omega,by omega,by rw [hU,←he],by omega,by omega,hyl,by rw [hU,hyt],fun i hi=>hys i zO,exU rfl,rfl⟩)
    ·refine D172 ?_;refine rs4 ?_
     obtain rfl:n=k+j:=by omega
     refine Z2 ?_;refine jgD (a:=e) rfl zq rfl zO ?_;refine k_clear rfl zq hyl zO zO ?_;refine D1 ?_;refine D212 ?_;refine jl6 (b:=e) rfl zq (.inr ⟨_,_,rfl⟩) rfl zO ?_;refine D146 ?_;refine jac (h++[blkC bk (ys.take e++List.replicate (k+j-e) 0) junk]) rfl Tryz.func100 rfl jaa ?_;refine D5 ?_
     refine ⟨_,rfl,e,he,?_⟩
     have:=own_cut (bk:=bk) (n:=k+j) (c:=c) (k:=e) (ys:=ys.take e++List.replicate (k+j-e) 0) (junk:=junk) zN hj zO
     rw [List.take_append_of_le_length zN,List.take_take,Nat.min_self,hyt] at this
     rw [hyt];exact this
   ·refine D231 ?_
    exact m.weak jaa (hnext1 _ _ _ zO ⟨k+1,rfl,by omega,by omega,fun i h1 h2=>by
     rcases Nat.lt_or_ge i k with h3|h3
     ·exact hd i h1 h3
     ·obtain rfl:i=k:=by omega
      assumption,exU rfl,rfl⟩)
  ·refine D172 ?_;refine D167 ?_;refine jac (h++[blkC bk xs junk]) rfl Tryz.func100 rfl jaa ?_;refine D5 ?_
   obtain rfl:k=n:=by omega
   have hall:jcq xs k=xs:=by rw [hu,List.take_of_length_le zO]
   exact ⟨_,rfl,k,by rw [hall,hl],by rw [hall];exact jk1 hl hj⟩
theorem f99_c (m:Md Tryz.prog B) (h:Hp) {N:Nat} (hP:PdqC m N) (hN:N≤60000) {bk n c:Nat} {xs:List Int} {junk:List Value} (hl:xs.length=n) (hn:n≤N):FnC m 99 #[.slice (some ⟨bk,0,none⟩) n c] (h++[blkC bk xs junk]) fun v h'=>v= .tuple [].toArray∧ ∃ys,h'=h++[blkC bk ys junk]∧Sw 0 n xs ys∧jkL ys 0 n:=by
 refine jae Tryz.func99 rfl rfl (l:=(.slice (some ⟨bk,0,none⟩) n c)::uu10) rfl ?_
 intro cf cs K hK
 refine rs3 ?_;refine D163 ?_;refine rr6 ?_;refine Z3 ?_;refine jdS rfl zq zK (n':=(n:Int)) zW ?_;refine jaj rfl zq zK (fun H' hH=>f151_c m H' _ zO) ?_;rintro v ⟨lim,rfl,hk0,hk1⟩;refine D9 ?_;refine jcG rfl zq zK (hP h bk n c xs junk lim hl hn hk0 hk1) ?_
 rintro v h' ⟨rfl,ys,rfl,hsw,hso⟩;refine D9 ?_;refine D1 ?_;refine jdx rfl ?_;refine jac (h++[blkC bk ys junk]) rfl Tryz.func99 rfl jaa ?_;refine D5 ?_
 exact ⟨rfl,ys,rfl,hsw,hso⟩
section
variable {P:Program} {B:Array Obj} {m:Md P B} {ops:Array Oper} {l l':List Value} {S h h' H:Hp} {C:List Value→Hp→Prop} {i:Nat} {kd:Kd} {r:List (Nat×Kd)} {d:Option Tmp} {ty:TypeId} {pos:String} {af:Array Edge} {g:Option (Nat×Bool)}
end
def cmpL:List Int→List Int→Int
 |[],[]=>0
 |[],_::_=> -1
 |_::_,[]=>1
 |a::r,b::s=>if a<b then-1 else if b<a then 1 else cmpL r s
theorem jfs (xs:List Int) (k:Nat) (h:k<xs.length):xs.drop k=xs.getD k 0::xs.drop (k+1):=by
 rw [List.drop_eq_getElem_cons h,List.getD_eq_getElem?_getD,List.getElem?_eq_getElem h];rfl
theorem jps {xs ys:List Int} {k:Nat} (h1:k<xs.length) (h2:k<ys.length):cmpL (xs.drop k) (ys.drop k)=if xs.getD k 0<ys.getD k 0 then-1 else if ys.getD k 0<xs.getD k 0 then 1 else cmpL (xs.drop (k+1)) (ys.drop (k+1)):=by
 rw [jfs xs k h1,jfs ys k h2];rfl
theorem sgn_ne {a b z:Int} (h:(if a<b then (-1:Int) else if b<a then 1 else 0)≠0):(if a<b then (-1:Int) else if b<a then 1 else 0)=if a<b then-1 else if b<a then 1 else z:=by
 split
 ·rfl
 ·rename_i h1
  rw [if_neg h1] at h
  split
  ·rfl
  ·rename_i h2
   rw [if_neg h2] at h
   exact absurd rfl h
theorem sgn_eq {a b z:Int} (h:(if a<b then (-1:Int) else if b<a then 1 else 0)=0):(if a<b then (-1:Int) else if b<a then 1 else z)=z:=by
 split
 ·rename_i h1
  rw [if_pos h1] at h
  cases h
 ·rename_i h1
  rw [if_neg h1] at h
  split
  ·rename_i h2
   rw [if_pos h2] at h
   cases h
  ·rfl
theorem jjj {xs ys:List Int} {k:Nat} (h1:k≤xs.length) (h2:k≤ys.length) (h:xs.length=k∨ys.length=k):cmpL (xs.drop k) (ys.drop k)=if k<xs.length then 1 else if k<ys.length then-1 else 0:=by
 by_cases e:k<xs.length
 ·rw [if_pos e,jfs xs k e,(List.drop_eq_nil_of_le zO:ys.drop k=[])];rfl
 ·rw [if_neg e,(List.drop_eq_nil_of_le zO:xs.drop k=[])];by_cases e2:k<ys.length
  ·rw [if_pos e2,jfs ys k e2];rfl
  ·rw [if_neg e2,(List.drop_eq_nil_of_le zO:ys.drop k=[])];rfl
theorem f227_c (m:Md Tryz.prog B) (h:Hp) (x y:Int):FnC m 227 #[.int .i64 x,.int .i64 y] h fun v h'=>h'=h∧v= .int .i64 (if x<y then-1 else if y<x then 1 else 0):=by
 refine jae Tryz.func227 rfl rfl (l:=(.int .i64 x)::(.int .i64 y)::uu18) rfl ?_
 intro cf cs K hK
 refine D162 ?_;refine D186 ?_;refine D124 ?_
 rintro v rfl;refine D9 ?_;refine D0 ?_;refine D186 ?_;refine D124 ?_
 rintro v rfl;refine D9 ?_;refine D150 ?_;refine rs1 ?_;refine Zs ?_;refine D165 ?_;refine rs1 ?_;refine Zs ?_;refine D165 ?_;refine D203 ?_
 refine jan rfl zq (fun hc=>?_) (fun hc=>?_)
 ·refine D166 ?_;refine jac (h) rfl Tryz.func227 rfl jaa ?_;refine D5 ?_
  exact E7
 ·refine D165 ?_;refine D203 ?_
  refine jaF rfl zq (fun hc=>?_) (fun hc=>?_);refine D148 ?_
  rotate_left
  refine D149 ?_
  all_goals
   refine D153 ?_;refine jac (h) rfl Tryz.func227 rfl jaa ?_;refine D5 ?_
   exact E7
theorem f210_c (m:Md Tryz.prog B) (h:Hp) {p:Option Addr} {n c:Nat} {xs:List Int} (rd:RdS B h 1 (.slice p n c) n (ints xs)) (hn:n≤1000000) {p2:Option Addr} {n2 c2:Nat} {ys:List Int} (rd2:RdS B h 1 (.slice p2 n2 c2) n2 (ints ys)):FnC m 210 #[.slice p n c,.slice p2 n2 c2] h fun v h'=>h'=h∧v= .int .i64 (cmpL xs ys):=by
 have hl:=rd.ilen
 have hl2:=rd2.ilen
 refine jae Tryz.func210 rfl rfl (l:=(.slice p n c)::(.slice p2 n2 c2)::uu34) rfl ?_
 intro cf cs K hK
 refine D161 ?_;refine rs3 ?_;refine Z3 ?_;refine D182 ?_
 refine jai (fun nn l h'=> ∃(k:Nat),nn=n-k∧(k≤n)∧(k≤n2)∧(cmpL xs ys=cmpL (xs.drop k) (ys.drop k))∧(∃U:Nat→Value,l=((.slice p n c)::(.slice p2 n2 c2)::vw7 U 2 ((.slice p n c)::(.int .i64 (n:Int))::(.int .i64 (k:Int))::vw24 U 12 [])))∧h=h') _ ⟨0,rfl,by omega,by omega,rfl,exU rfl,rfl⟩ ?_;rintro nn l h' ⟨k,rfl,hk,hk2,he,⟨U,rfl⟩,rfl⟩ hnext;refine rs1 ?_;refine jan rfl zq (fun hc=>?_) (fun hc=>?_)
 ·refine D205 ?_;refine rs5 ?_;refine Zs ?_
  obtain ⟨rd_b,rd_o,rfl⟩:=rd.ptr zO
  refine D19 ?_;refine D109 ?_;refine Zs ?_;refine D150 ?_;refine D196 ?_
  refine jho rfl zq (fun hc=>?_) (fun hc=>?_)
  ·refine D166 ?_;refine D143 ?_;refine D5 ?_
   exact ⟨rfl,by rw [he,jjj zO zO zO,if_pos zO]⟩
  ·refine D149 ?_;refine D241 ?_
   obtain ⟨rd2_b,rd2_o,rfl⟩:=rd2.ptr zO
   refine D19 ?_;refine D136 ?_;refine D0 ?_;refine D212 ?_;refine jaj (Post:=fun v=>v=_) rfl zq zK (fun H' hH=>f227_c m H' _ _) ?_
   rintro v rfl;refine D9 ?_;refine D0 ?_;refine rs2 ?_
   have hcd:=jps (xs:=xs) (ys:=ys) (k:=k) zO zO
   refine Zs ?_
   refine ja4 rfl zq (fun hc=>?_) (fun hc=>?_)
   ·refine D178 ?_;refine D143 ?_;refine D5 ?_
    exact ⟨rfl,by rw [he,hcd];exact congrArg _ (sgn_ne hc)⟩
   ·have hcz:=hc
    refine D225 ?_
    exact m.weak jaa (hnext _ _ _ zO ⟨k+1,rfl,by omega,by omega,by rw [he,hcd,sgn_eq hcz],exU rfl,rfl⟩)
 ·refine D175 ?_;refine D2 ?_;refine rs5 ?_;refine Z4 ?_
  refine jan rfl zq (fun hc=>?_) (fun hc=>?_)
  ·refine D166 ?_;refine D143 ?_;refine D5 ?_
   exact ⟨rfl,by rw [he,jjj zO zO zO,if_neg zO,if_pos zO]⟩
  ·refine D149 ?_;refine D153 ?_;refine D143 ?_;refine D5 ?_
   exact ⟨rfl,by rw [he,jjj zO zO zO,if_neg zO,if_neg zO]⟩
def bitN (mm k:Nat):Nat:=(mm/2^k)%2
def ja0 (mm k:Nat):List Int:=(jcD k).filter fun i=>decide (bitN mm i.toNat=1)
def w1 (o:Option Nat) (n:Nat):Nat:=match o with|none=>0|some s=>if s=2*n then 2 else 1
section
variable {P:Program} {B:Array Obj} {m:Md P B} {ops:Array Oper} {l l':List Value} {S h h' H:Hp} {C:List Value→Hp→Prop} {i:Nat} {kd:Kd} {r:List (Nat×Kd)} {d:Option Tmp} {ty:TypeId} {pos:String} {af:Array Edge} {g:Option (Nat×Bool)}
theorem k_quo {t u:TypeId} {x y:Operand} {z w:Int} (a k:Nat) (ho:ops[i]?=some ⟨d,.binOp .quo t x y u,ty,pos,af,g⟩) (hw:Wt ops l g) [KHeap kd S h H] [ex:OpV l x (.int .i64 z)] [ey:OpV l y (.int .i64 w)] (hz:z=a) (hk:w=k) (h0:0<k) (ha:a≤10000000) [PutV l d (.int .i64 ((a/k:Nat):Int)) l'] (q:RegK m S ops r l' h C):RegK m S ops ((i,kd)::r) l h C:=
 RegK.rd (v:= .int .i64 ((a/k:Nat):Int)) ho hw (jaU ex.eq ey.eq zS (by
  subst hz
  subst hk
  have:(k:Int)≠0:=by omega
  have hle:=Nat.div_le_self a k
  have h64:In64 ((a/k:Nat):Int):=by generalize a/k=q at hle⊢;unfold In64;omega
  simp only [binOp,Op.intDiv,if_neg this,←Int.ofNat_tdiv,jc3 h64]
  rfl)) q
end
section
variable {P:Program} {B:Array Obj} {m:Md P B} {ops:Array Oper} {l l':List Value} {S h h' H:Hp} {C:List Value→Hp→Prop} {i:Nat} {kd:Kd} {r:List (Nat×Kd)} {d:Option Tmp} {ty:TypeId} {pos:String} {af:Array Edge} {g:Option (Nat×Bool)}
theorem jal {x:Operand} {a:Addr} (ho:ops[i]?=some ⟨d,.nilCheck x,ty,pos,af,g⟩) (hw:Wt ops l g) [KHeap kd S h H] [ex:OpV l x (.pointer (some a))] [PutV l d (.pointer (some a)) l'] (q:RegK m S ops r l' h C):RegK m S ops ((i,kd)::r) l h C:=
 RegK.rd (v:= .pointer (some a)) ho hw (by
  simp only [execOp,ex.eq]
  exact Reads.pure _) q
end
section
variable {P:Program} {B:Array Obj} {m:Md P B} {ops:Array Oper} {l l':List Value} {S h h' H:Hp} {C:List Value→Hp→Prop} {i:Nat} {kd:Kd} {r:List (Nat×Kd)} {d:Option Tmp} {ty:TypeId} {pos:String} {af:Array Edge} {g:Option (Nat×Bool)}
end
theorem asc_at {xs:List Int} (h:Asc xs) {i j:Nat} (hij:i<j) (hj:j<xs.length):xs.getD i 0<xs.getD j 0:=by
 rw [List.getD_eq_getElem?_getD,List.getD_eq_getElem?_getD,List.getElem?_eq_getElem (show i<xs.length by omega),List.getElem?_eq_getElem hj];exact List.pairwise_iff_getElem.1 h i j zO hj hij
theorem f44_c (m:Md Tryz.prog B) (h:Hp) {p:Option Addr} {n c:Nat} {xs:List Int} (rd:RdS B h 1 (.slice p n c) n (ints xs)) (hn:n≤1000) {N:Int} (hN:0≤N∧N≤1000) (ha:Asc xs) (hr: ∀x∈xs,0≤x∧x≤N-1):FnC m 44 #[.slice p n c,.int .i64 N] h fun v h'=>h'=h∧v= .int .i64 0:=by
 have hl:=rd.ilen
 refine jae Tryz.func44 rfl rfl (l:=(.slice p n c)::(.int .i64 N)::uu32) rfl ?_
 intro cf cs K hK
 refine D217 ?_
 refine jai (fun nn l h'=> ∃(k:Nat),nn=n-k∧(k≤n)∧(∃U:Nat→Value,l=((.slice p n c)::(.int .i64 N)::(U 2)::(U 3)::(U 4)::(.int .i64 (k:Int))::vw28 U 6 []))∧h=h') _ ⟨0,rfl,by omega,exU rfl,rfl⟩ ?_;rintro nn l h' ⟨k,rfl,hk,⟨U,rfl⟩,rfl⟩ hnext;refine D2 ?_;refine D196 ?_
 refine jan rfl zq (fun hc=>?_) (fun hc=>?_)
 ·refine D190 ?_;refine rs8 ?_;refine Z2 ?_
  obtain ⟨rd_b,rd_o,rfl⟩:=rd.ptr zO
  refine D19 ?_;refine D109 ?_;refine Z2 ?_;refine D59 ?_
  rintro v (⟨hc,rfl⟩|⟨hc,rfl⟩)
  ·refine D189 ?_;refine D165 ?_;refine jaq [(0,.pure),(1,.pure),(2,.pure),(3,.pure),(4,.pure),(5,.pure),(7,.pure),(8,.pure),(9,.pure),(10,.pure),(6,.read),(11,.read),(12,.pure),(13,.pure)] zK zK (List.Sublist.refl _) ?_;refine Zs ?_
   refine jaF rfl zq (fun hc=>?_) (fun hc=>?_)
   ·refine Z3 ?_;refine D116 ?_;refine Z3 ?_;refine D116 ?_;refine k_ld rfl rfl (rd.iat k zO zO) ?_;refine k_ld rfl rfl (rd.iat (k-1) zO zO) ?_
    have hlt:=asc_at ha (i:=k-1) (j:=k) zO zO
    refine jeF rfl rfl (fun hc=>?_) (fun hc=>?_)
    ·exfalso
     omega
    ·refine D13 ?_;refine D231 ?_
     exact E10
   ·refine Z11 ?_;refine D187 ?_;refine D171 ?_
    exact E10
  ·refine D9 ?_
   exact absurd (hr _ (jfd.2 ⟨k,by omega,rfl⟩)) hc
 ·refine D172 ?_;refine D153 ?_;refine jac (h) rfl Tryz.func44 rfl jaa ?_;refine D5 ?_
  exact ⟨rfl,rfl⟩
class Off (h new:Hp) (F:outParam Hp):Prop where
 perm:h.Perm (F++new)
instance (priority:=2000) {A new:Hp}:Off (A++new) new A:=⟨List.Perm.refl _⟩
instance (priority:=1000) {A X new F:Hp} [o:Off A new F]:Off (A++X) new (F++X):=⟨by
 refine (o.perm.append_right X).trans ?_
 rw [List.append_assoc,List.append_assoc];exact List.Perm.append_left F List.perm_append_comm⟩
section
variable {P:Program} {B:Array Obj} {m:Md P B} {ops:Array Oper} {l l':List Value} {S h h' H:Hp} {C:List Value→Hp→Prop} {i:Nat} {kd:Kd} {r:List (Nat×Kd)} {d:Option Tmp} {ty:TypeId} {pos:String} {af:Array Edge} {g:Option (Nat×Bool)}
theorem ja3 {t t2 t3 e k by' q c:Nat} {x y:Operand} {s:Value} {n mm:Nat} {rw:Bool} {f:Nat×Nat} {cs ys:List Value} {F new:Hp} (ho:ops[i]?=some ⟨d,.call ⟨.builtin .append,[x,y].toArray,#[t,t2]⟩,ty,pos,af,g⟩) (hg:Wt ops l g)
  [ex:OpV l x s] [ey:OpV l y (.slice (some ⟨q,0,none⟩) mm c)] [SliceT P t e k] [SliceT P t2 e k] [ElemT P e k by'] [hh:Has h q rw (.cells ys.toArray t3 f)] [on:Ones ys] (hy:ys.length=mm*k) (o:OwnS e k s n cs new) [w:Off h new F] (hk:kd= .free∨(kd= .keep∧S.Sublist F)) (hb:2*(n+mm)*by'≤2^48) (hmax:n+mm≤2^62)
  (cc: ∀v' new',OwnS e k v' (n+mm) (cs++ys) new'→RegK m S ops r (put l d v') (F++new') C):RegK m S ops ((i,kd)::r) l h C:=
 k_app ho hg (Weak.perm w.perm) o (jeQ hy) on.one hk hb hmax cc
end
theorem jeh {B:Array Obj} {h' F1 F2 H M L:Hp} [a:Off h' L F1] [b:Off F1 M F2] [s:SubH H F2]:Weak B h' (H++M++L):=
 (Weak.perm a.perm).trans (((Weak.perm b.perm).trans ((Weak.sub s.sub).apps M)).apps L)
theorem setSeg_ints {xs:List Int} {junk:List Value} {j:Int} {i:Nat} (a:Int) (hj:j=i) (hi:i<xs.length):SetSeg (ints xs++junk) (0+j.toNat*1) [.int .i64 a] (ints (xs.set i a)++junk):=by
 subst hj
 have hl:(ints xs).length=xs.length:=List.length_map ..
 refine ⟨?_,by rw [Int.toNat_natCast,List.length_append,hl];simp only [List.length_cons,List.length_nil];omega⟩
 rw [Int.toNat_natCast,Nat.zero_add,Nat.mul_one,List.take_append_of_le_length zO,List.drop_append_of_le_length (by simp only [List.length_cons,List.length_nil];omega),←jhq,←joV,List.set_eq_take_append_cons_drop,if_pos hi,jbh];simp [ints]
theorem jop {A X new F:Hp} (o:X.Perm (F++new)):(A++X).Perm ((A++F)++new):=by
 rw [List.append_assoc];exact List.Perm.append_left A o
instance (priority:=900) {A X new F:Hp} [o:Off X new F]:Off (A++X) new (A++F):=⟨jop o.perm⟩
instance {x:Chunk} {l:Hp}:Off (x::l) [x] l:=⟨by
 have:=List.perm_append_comm (l₁:=[x]) (l₂:=l)
 exact this⟩
instance (priority:=900) {y:Chunk} {l new F:Hp} [o:Off l new F]:Off (y::l) new (y::F):=⟨o.perm.cons y⟩
section
variable {P:Program} {B:Array Obj} {m:Md P B} {ops:Array Oper} {l l':List Value} {S h h' H:Hp} {C:List Value→Hp→Prop} {i:Nat} {kd:Kd} {r:List (Nat×Kd)} {d:Option Tmp} {ty:TypeId} {pos:String} {af:Array Edge} {g:Option (Nat×Bool)}
theorem jmc {t t2 e k by':Nat} {x y:Operand} {s u:Value} {n mm:Nat} {cs ys:List Value} {F new:Hp} (ho:ops[i]?=some ⟨d,.call ⟨.builtin .append,[x,y].toArray,#[t,t2]⟩,ty,pos,af,g⟩) (hg:Wt ops l g)
  [ex:OpV l x s] [ey:OpV l y u] [SliceT P t e k] [SliceT P t2 e k] [ElemT P e k by'] (o:OwnS e k s n cs new) (rx:RdS B h k u mm ys) (h1: ∀u∈ys,u.oneCell'=true) [w:Off h new F] (hk:kd= .free∨(kd= .keep∧S.Sublist F)) (hb:2*(n+mm)*by'≤2^48) (hmax:n+mm≤2^62)
  (c: ∀v' new',OwnS e k v' (n+mm) (cs++ys) new'→RegK m S ops r (put l d v') (F++new') C):RegK m S ops ((i,kd)::r) l h C:=
 k_app ho hg (Weak.perm w.perm) o rx h1 hk hb hmax c
end
theorem f117_c (m:Md Tryz.prog B) (h:Hp) (x lo hi:Int):FnC m 117 #[.int .i64 x,.int .i64 lo,.int .i64 hi] h fun v h'=>h'=h∧IsB (lo≤x∧x≤hi) v:=by
 refine jae Tryz.func117 rfl rfl (l:=(.int .i64 x)::(.int .i64 lo)::(.int .i64 hi)::uu12) rfl ?_
 intro cf cs K hK
 refine D162 ?_;refine rs9 ?_;refine Z2 ?_
 refine jeF rfl zq (fun hc=>?_) (fun hc=>?_)
 ·refine Z3 ?_
  refine jeF rfl rfl (fun hc=>?_) (fun hc=>?_);all_goals
   refine D222 ?_;refine jac (h) rfl Tryz.func117 rfl jaa ?_;refine D5 ?_
   exact E0
 ·refine Z4 ?_;refine D179 ?_;refine jac (h) rfl Tryz.func117 rfl jaa ?_;refine D5 ?_
  exact E0
def partsI (n:Int):List Int:=[n/96,n/8%12,n%8]
abbrev p3V (v:List Int):Value:= .agg [.int .i64 (v.getD 0 0),.int .i64 (v.getD 1 0),.int .i64 (v.getD 2 0)].toArray
theorem f118_c (m:Md Tryz.prog B) (h:Hp) (n:Nat) (hn:n<960):FnC m 118 #[.int .i64 (n:Int)] h fun v h'=>h'=h∧v=p3V (partsI n):=by
 refine jae Tryz.func118 rfl rfl (l:=(.int .i64 (n:Int))::uu10) rfl ?_
 intro cf cs K hK
 refine rs1 ?_;refine jau rfl zq (fun q2=>k_hp (jad ?_));refine D1 ?_;refine rs9 ?_;refine Zs ?_;refine k_quo n 96 rfl zq rfl rfl zO zO ?_;refine Zs ?_;refine k_quo n 8 rfl zq rfl rfl zO zO ?_;refine k_rem (a:=n/8) (b:=12) rfl zq zO ?_;refine Zs ?_;refine k_rem (a:=n) (b:=8) rfl zq zO ?_;refine k_bldA rfl zq rfl ?_;refine D194 ?_;refine D4 ?_;refine jac (h) rfl Tryz.func118 rfl jaa ?_;refine D5 ?_
 exact ⟨rfl,rfl⟩
section
variable {P:Program} {m:Md P B} {S h H:Hp} {ops:Array Oper} {r:List (Nat×Kd)} {kd:Kd} {l l':List Value} {C:List Value→Hp→Prop} {i:Nat} {d:Option Tmp} {ty:TypeId} {pos:String} {af:Array Edge} {g:Option (Nat×Bool)}
theorem joR {t u:TypeId} {x y:Operand} {a b:Int} {k:IntKind} (v:Int) (ho:ops[i]?=some ⟨d,.binOp .and t x y u,ty,pos,af,g⟩) (hw:Wt ops l g) [KHeap kd S h H] [ex:OpV l x (.int k a)] [ey:OpV l y (.int k b)] (hv:bAnd k a b=v) [PutV l d (.int k v) l'] (n:RegK m S ops r l' h C):RegK m S ops ((i,kd)::r) l h C:=
 RegK.rd (v:= .int k v) ho hw (jaU ex.eq ey.eq zS (jeE hv)) n
theorem k_orV {t u:TypeId} {x y:Operand} {a b:Int} {k:IntKind} (v:Int) (ho:ops[i]?=some ⟨d,.binOp .or t x y u,ty,pos,af,g⟩) (hw:Wt ops l g) [KHeap kd S h H] [ex:OpV l x (.int k a)] [ey:OpV l y (.int k b)] (hv:bOr k a b=v) [PutV l d (.int k v) l'] (n:RegK m S ops r l' h C):RegK m S ops ((i,kd)::r) l h C:=
 RegK.rd (v:= .int k v) ho hw (jaU ex.eq ey.eq zS (op_or hv)) n
theorem k_subV {t u:TypeId} {x y:Operand} {a b:Int} {k:IntKind} (v:Int) (ho:ops[i]?=some ⟨d,.binOp .sub t x y u,ty,pos,af,g⟩) (hw:Wt ops l g) [KHeap kd S h H] [ex:OpV l x (.int k a)] [ey:OpV l y (.int k b)] (hv:k.wrap (a-b)=v) [PutV l d (.int k v) l'] (n:RegK m S ops r l' h C):RegK m S ops ((i,kd)::r) l h C:=
 RegK.rd (v:= .int k v) ho hw (jaU ex.eq ey.eq zS (op_sub hv)) n
theorem k_eqlV {t u:TypeId} {x y:Operand} {a b:Int} {k:IntKind} (v:Bool) (ho:ops[i]?=some ⟨d,.binOp .eql t x y u,ty,pos,af,g⟩) (hw:Wt ops l g) [KHeap kd S h H] [ex:OpV l x (.int k a)] [ey:OpV l y (.int k b)] (hv:decide (a=b)=v) [PutV l d (.bool v) l'] (n:RegK m S ops r l' h C):RegK m S ops ((i,kd)::r) l h C:=
 RegK.rd (v:= .bool v) ho hw (jaU ex.eq ey.eq zS (jgb hv)) n
end
theorem shr_nat (s:Nat) {i:Nat} (hi:i<64):(s:Int).fdiv (2^(min (i:Int).toNat IntKind.u64.bits))=((s/2^i:Nat):Int):=by
 rw [Int.toNat_natCast,show min i IntKind.u64.bits=i from Nat.min_eq_left (by show i≤64;omega)];rw [show ((2:Int)^i)=((2^i:Nat):Int) by simp,Int.fdiv_eq_ediv_of_nonneg _ (Int.natCast_nonneg _)];rfl
theorem and_one (n:Nat) (hn:n<4096):bAnd .u64 (n:Int) 1=((n%2:Nat):Int):=by
 have h:((List.range 4096).all fun n=>bAnd .u64 (n:Int) 1==((n%2:Nat):Int))=true:=by kernel_rfl
 simpa using List.all_eq_true.1 h n (List.mem_range.2 hn)
theorem bit_dec (s i:Nat):decide (((s/2^i%2:Nat):Int)=1)=s.testBit i:=by
 rw [Nat.testBit_eq_decide_div_mod_eq];by_cases h:s/2^i%2=1
 ·simp [h]
 ·simp only [h,decide_false]
  exact decide_eq_false zO
theorem f98_c (m:Md Tryz.prog B) (h:Hp) (s i:Nat) (hs:s<4096) (hi:i<12):FnC m 98 #[.int .u64 (s:Int),.int .i64 (i:Int)] h fun v h'=>h'=h∧v= .bool (s.testBit i):=by
 refine jae Tryz.func98 rfl rfl (l:=(.int .u64 (s:Int))::(.int .i64 (i:Int))::uu8) rfl ?_
 intro cf cs K hK
 refine D162 ?_;refine rs6 ?_;refine Z2 ?_;refine k_shr ((s/2^i:Nat):Int) rfl zq zO (shr_nat s zO) ?_;refine joR ((s/2^i%2:Nat):Int) rfl zq (and_one _ (Nat.lt_of_le_of_lt (Nat.div_le_self _ _) zO)) ?_;refine k_eqlV (s.testBit i) rfl zq (bit_dec s i) ?_;refine D146 ?_;refine jac (h) rfl Tryz.func98 rfl jaa ?_;refine D5 ?_
 exact ⟨rfl,rfl⟩
theorem jiF (n:Nat) (hn:n<2^64):IntKind.u64.wrap (n:Int)=(n:Int):=by
 unfold IntKind.wrap
 simp [IntKind.bits,IntKind.signed]
 omega
theorem or_nat (a b:Nat) (ha:a<2^64) (hb:b<2^64):bOr .u64 (a:Int) (b:Int)=((a|||b:Nat):Int):=by
 unfold bOr
 have e:(BitVec.ofInt IntKind.u64.bits (a:Int)|||BitVec.ofInt IntKind.u64.bits (b:Int)).toNat=a|||b:=by
  rw [BitVec.toNat_or,BitVec.ofInt_natCast,BitVec.ofInt_natCast,BitVec.toNat_ofNat,BitVec.toNat_ofNat];rw [show IntKind.u64.bits=64 from rfl,Nat.mod_eq_of_lt ha,Nat.mod_eq_of_lt hb]
 rw [e];exact jiF _ (Nat.or_lt_two_pow ha hb)
theorem jnU (i:Nat) (hi:i<64):IntKind.u64.wrap ((1:Int)*2^(min (i:Int).toNat IntKind.u64.bits))=((2^i:Nat):Int):=by
 rw [Int.toNat_natCast,show min i IntKind.u64.bits=i from Nat.min_eq_left (by show i≤64;omega),Int.one_mul];rw [show ((2:Int)^i)=((2^i:Nat):Int) by simp];exact jiF _ (Nat.pow_lt_pow_right zO hi)
theorem f106_c (m:Md Tryz.prog B) (h:Hp) (n:Nat) (hn:n≤12):FnC m 106 #[.int .i64 (n:Int)] h fun v h'=>h'=h∧v= .int .u64 ((2^n-1:Nat):Int):=by
 refine jae Tryz.func106 rfl rfl (l:=[.int .i64 (n:Int),undef,undef,undef,undef,undef]) rfl ?_
 intro cf cs K hK
 refine D162 ?_;refine D221 ?_;refine k_shl ((2^n:Nat):Int) rfl zq zO (jnU n zO) ?_;refine k_subV ((2^n-1:Nat):Int) rfl zq (by have:=Nat.pow_le_pow_right (n:=2) zO hn;have:=Nat.pow_pos (n:=n) (show 0<2 by omega);rw [show ((2^n:Nat):Int)-1=((2^n-1:Nat):Int) by omega];exact jiF _ zO) ?_;refine D146 ?_;refine jac (h) rfl Tryz.func106 rfl jaa ?_;refine D5 ?_
 exact ⟨rfl,rfl⟩
theorem f135_c (m:Md Tryz.prog B) (h:Hp) (s i:Nat) (hs:s<4096) (hi:i<12):FnC m 135 #[.int .u64 (s:Int),.int .i64 (i:Int)] h fun v h'=>h'=h∧v= .int .u64 ((s|||2^i:Nat):Int):=by
 refine jae Tryz.func135 rfl rfl (l:=(.int .u64 (s:Int))::(.int .i64 (i:Int))::uu7) rfl ?_
 intro cf cs K hK
 refine D162 ?_;refine D241 ?_;refine k_shl ((2^i:Nat):Int) rfl zq zO (jnU i zO) ?_;refine k_orV ((s|||2^i:Nat):Int) rfl zq (or_nat _ _ zO (Nat.pow_lt_pow_right zO zO)) ?_;refine D146 ?_;refine jac (h) rfl Tryz.func135 rfl jaa ?_;refine D5 ?_
 exact ⟨rfl,rfl⟩
class LaidO (B:Array Obj):Prop where
 halves: ∃t f,B[0]?=some (.cells [str [119,97,116,101,114],.bool false,.func (.func 261) #[] #[],str [98,117,116,116],.bool true,.func (.func 262) #[] #[]].toArray t f)
 mosts: ∃t f,B[1]?=some (.cells [.int .i64 9,.int .i64 11,.int .i64 7].toArray t f)
variable [LaidO B]
theorem jeV {h:Hp} [x:LaidO B]:RdN B h 0 0 [str [119,97,116,101,114],.bool false,.func (.func 261) #[] #[],str [98,117,116,116],.bool true,.func (.func 262) #[] #[]]:=fun j hj=>by
 obtain ⟨t,f,e⟩:=x.halves
 refine Rd.base rfl e ?_
 rw [Nat.zero_add,List.getElem?_toArray,List.getD_eq_getElem?_getD,List.getElem?_eq_getElem hj];rfl
theorem jm9 {h:Hp} [x:LaidO B]:RdN B h 1 0 [.int .i64 9,.int .i64 11,.int .i64 7]:=fun j hj=>by
 obtain ⟨t,f,e⟩:=x.mosts
 refine Rd.base rfl e ?_
 rw [Nat.zero_add,List.getElem?_toArray,List.getD_eq_getElem?_getD,List.getElem?_eq_getElem hj];rfl
theorem most_at {h:Hp} [LaidO B] (k:Nat) (hk:k<3):Rd B h ⟨1,k,none⟩ (.int .i64 (mosts.getD k 0)):=by
 have:=jm9 (B:=B) (h:=h) k hk
 rw [Nat.zero_add] at this
 rcases (by omega:k=0∨k=1∨k=2) with rfl|rfl|rfl<;>exact this
end Go.Proofs
namespace Go.Proofs
open Go.Lo
open Go.Conc (G)
set_option maxRecDepth 100000
set_option synthInstance.maxSize 100000
set_option synthInstance.maxHeartbeats 1000000
set_option maxHeartbeats 4000000
variable {B:Array Obj}
variable [LaidO B]
theorem three {v:List Int} (h:v.length=3): ∃a b c,v=[a,b,c]:=by
 match v,h with
 |[a,b,c],_=>exact ⟨a,b,c,rfl⟩
theorem jlN {mo:List Int} {c:UInt8} {r:Str} {v:List Int} {k n:Nat} (h:c.toNat=45∧0<n∧k<2):rdF mo (c::r) v k n=rdF mo r v (k+1) 0:=by rw [rdF,if_pos h]
theorem job {mo:List Int} {c:UInt8} {r:Str} {v:List Int} {k n:Nat} (h:c.toNat=63∧n=0) (hm:(v.set k (-1)).getD k 0≤mo.getD k 0):rdF mo (c::r) v k n=rdF mo r (v.set k (-1)) k (n+1):=by
 rw [rdF,if_neg zO,if_pos h,if_neg zO]
theorem jiV {mo:List Int} {c:UInt8} {r:Str} {v:List Int} {k n:Nat} (h:(48≤c.toNat∧c.toNat≤57)∧(n=0∨v.getD k 0>0)) (hm:(v.set k (10*v.getD k 0+((c.toNat:Int)-48))).getD k 0≤mo.getD k 0):rdF mo (c::r) v k n=rdF mo r (v.set k (10*v.getD k 0+((c.toNat:Int)-48))) k (n+1):=by
 rw [rdF,if_neg zO,if_neg zO,if_pos h,if_neg zO]
theorem jiW {mo:List Int} {c:UInt8} {r:Str} {v:List Int} {k n:Nat} (h:(48≤c.toNat∧c.toNat≤57)∧(n=0∨v.getD k 0>0)) (hm:(v.set k (10*v.getD k 0+((c.toNat:Int)-48))).getD k 0>mo.getD k 0):rdF mo (c::r) v k n=([0,0,0],false):=by
 rw [rdF,if_neg zO,if_neg zO,if_pos h,if_pos hm]
theorem jck {mo:List Int} {c:UInt8} {r:Str} {v:List Int} {k n:Nat} (h1: ¬(c.toNat=45∧0<n∧k<2)) (h2: ¬(c.toNat=63∧n=0)) (h3: ¬((48≤c.toNat∧c.toNat≤57)∧(n=0∨v.getD k 0>0))):rdF mo (c::r) v k n=([0,0,0],false):=by
 rw [rdF,if_neg h1,if_neg h2,if_neg h3]
theorem most_atI {h:Hp} (k:Nat) (hk:k<3):Rd B h ⟨1,0+(k:Int).toNat*1,none⟩ (.int .i64 (mosts.getD k 0)):=by
 rw [show 0+(k:Int).toNat*1=k by omega];exact most_at k hk
theorem jbd {v:List Int} {k:Nat} {x:Int} (h:k<v.length):(v.set k x).getD k 0=x:=by
 rw [List.getD_eq_getElem?_getD,List.getElem?_set_self h];rfl
theorem jgX {v:List Int} {k:Nat} {x a c:Int} (hx:a≤x∧x≤c) (hv: ∀j,a≤v.getD j 0∧v.getD j 0≤c) (j:Nat):a≤(v.set k x).getD j 0∧(v.set k x).getD j 0≤c:=by
 rw [List.getD_eq_getElem?_getD,List.getElem?_set];have:=hv j
 rw [List.getD_eq_getElem?_getD] at this
 split
 ·split
  ·exact hx
  ·rw [List.getElem?_eq_none zO] at this
   exact this
 ·exact this
theorem jfc {k:Nat} (h:k<3):7≤mosts.getD k 0∧mosts.getD k 0≤11:=by
 rcases (by omega:k=0∨k=1∨k=2) with rfl|rfl|rfl<;>decide
theorem zero3 (j:Nat): -1≤([0,0,0]:List Int).getD j 0∧([0,0,0]:List Int).getD j 0≤11:=by
 match j with
 |0=>decide
 |1=>decide
 |2=>decide
 |j+3=>simp
theorem set_other {v:List Int} {k j:Nat} {x:Int} (h:k≠j):(v.set k x).getD j 0=v.getD j 0:=by
 rw [List.getD_eq_getElem?_getD,List.getElem?_set_ne h,List.getD_eq_getElem?_getD]
theorem jjn (j:Nat):([0,0,0]:List Int).getD j 0=0:=by
 match j with
 |0=>rfl
 |1=>rfl
 |2=>rfl
 |j+3=>simp
theorem rd_ways (ru n k:Nat) (x:Int):(ru=45∧0<n∧k<2)∨(ru=63∧n=0)∨((48≤ru∧ru≤57)∧(n=0∨x>0))∨(¬(ru=45∧0<n∧k<2)∧ ¬(ru=63∧n=0)∧ ¬((48≤ru∧ru≤57)∧(n=0∨x>0))):=by omega
theorem f119_c (m:Md Tryz.prog B) (h:Hp) (s:Str) (hl:s.length≤100000):FnC m 119 #[str s] h fun v h'=>h'=h∧v= .tuple [.agg (ints (jar s)).toArray,.bool (jaY s)].toArray:=by
 refine jae Tryz.func119 rfl rfl (l:=(str s)::uu76) rfl ?_
 intro cf cs K hK
 refine rs2 ?_;refine jau rfl zq (fun q2=>k_hp (jad ?_));refine D199 ?_;refine D218 ?_
 refine k_srange zK rfl zq (fun it=>k_hp (jad ?_));refine D182 ?_
 refine jai (fun nn l h'=> ∃(p k n:Nat) (v:List Int),nn=s.length-p∧(rdF mosts (s.drop p) v k n=rdF mosts s [0,0,0] 0 0)∧(v.length=3)∧(k≤2)∧(p≤s.length)∧(n≤p)∧(∀j,-1≤v.getD j 0∧v.getD j 0≤11)∧(∀j,k<j∨(k=j∧n=0)→v.getD j 0=0)∧(∃U:Nat→Value,l=((str s)::(U 1)::(.pointer (some ⟨q2,0,none⟩))::(U 3)::(.int .i64 (k:Int))::(.int .i64 (n:Int))::(U 6)::(U 7)::(U 8)::(.pointer (some ⟨it,0,none⟩))::vw67 U 10 []))∧h++[⟨true,q2,.cells (ints v).toArray 145 (0,0)⟩,⟨true,it,sitO s p⟩]=h') _ ⟨0,0,0,[0,0,0],rfl,by rw [List.drop_zero],rfl,by omega,by omega,by omega,zero3,fun j _=>jjn j,exU rfl,rfl⟩ ?_;rintro nn l h' ⟨p,k,n,v,rfl,hrd,hv3,hk2,hpl,hnp,hvb,hvz,⟨U,rfl⟩,rfl⟩ hnext;refine rs2 ?_;refine k_snext2 rfl zq (fun hdone=>jad ?_) (fun c ru p' hc hway=>jad ?_)
 ·refine Zs ?_;refine D175 ?_;refine rs9 ?_;refine jcC rfl zq hv3 ?_;refine Zs ?_
  refine jaM rfl zq (fun hc=>?_) (fun hc=>?_)
  ·refine Z2 ?_
   refine jaF rfl rfl (fun hc=>?_) (fun hc=>?_);all_goals
    refine D13 ?_;refine jd9 rfl zq hv3 zS ?_;refine D146 ?_
    haveI:Seg (ints v) 0 3 (ints v):=seg_all (by simpa using hv3)
    refine D213 ?_
    have hR:rdF mosts s [0,0,0] 0 0=(v,decide (k=2)&&decide (0<n)):=by rw [←hrd,List.drop_eq_nil_of_le hdone];rfl
   ·have hb:(decide (k=2)&&decide (0<n))=true:=by simp;omega
    rw [jaY,jar,hR,hb];exact ⟨rfl,rfl⟩
   ·have hb:(decide (k=2)&&decide (0<n))=false:=by simp;omega
    rw [jaY,jar,hR,hb];exact ⟨rfl,rfl⟩
  ·refine Z3 ?_;refine D10 ?_;refine jd9 rfl zq hv3 zS ?_;refine D146 ?_
   haveI:Seg (ints v) 0 3 (ints v):=seg_all (by simpa using hv3)
   refine D213 ?_
   have hR:rdF mosts s [0,0,0] 0 0=(v,decide (k=2)&&decide (0<n)):=by rw [←hrd,List.drop_eq_nil_of_le hdone];rfl
   have hb:(decide (k=2)&&decide (0<n))=false:=by simp;omega
   rw [jaY,jar,hR,hb];exact ⟨rfl,rfl⟩
 ·have hplt:p<s.length:=(List.getElem?_eq_some_iff.1 hc).1
  have hdr:s.drop p=c::s.drop (p+1):=by rw [List.drop_eq_getElem_cons hplt,(List.getElem?_eq_some_iff.1 hc).2]
  have hmo:=jfc (k:=k) zO
  refine Zs ?_;refine D173 ?_;refine D7 ?_;refine D11 ?_;refine D152 ?_;refine D150 ?_;refine D11 ?_;refine D2 ?_
  have hvk:=hvb k
  have hvk0:n=0→v.getD k 0=0:=fun e=>hvz k (.inr ⟨rfl,e⟩)
  rcases rd_ways ru n k (v.getD k 0) with hA|hA|hA|⟨hA1,hA2,hA3⟩
  obtain ⟨hc1,hru,rfl⟩:c.toNat<128∧ru=c.toNat∧p'=p+1:=by omega
  rotate_left
  obtain ⟨hc1,hru,rfl⟩:c.toNat<128∧ru=c.toNat∧p'=p+1:=by omega
  rotate_left
  obtain ⟨hc1,hru,rfl⟩:c.toNat<128∧ru=c.toNat∧p'=p+1:=by omega
  all_goals
   refine rr11 ?_;refine Zs ?_
  ·refine jke rfl zq zO ?_;refine Z3 ?_;refine D10 ?_;refine Z3 ?_;refine D208 ?_;refine D197 ?_;refine jke rfl zq zO ?_;refine Z3 ?_;refine D208 ?_;refine rs14 ?_;refine Zs ?_;refine D52 ?_;refine D46 ?_;rintro v (⟨hc,rfl⟩|⟨hc,rfl⟩)
   ·refine D9 ?_;refine Z2 ?_
    refine jaM rfl rfl (fun hc=>?_) (fun hc=>?_)
    ·refine Z5 ?_;refine D61 ?_;refine D13 ?_;refine D204 ?_;refine rr11 ?_;refine Z3 ?_;refine joK rfl zq k zO zO ?_;refine D73 ?_;refine Zs ?_;refine D211 ?_;refine Z2 ?_;refine D245 ?_;refine D12 ?_;refine D203 ?_;refine D150 ?_;refine D68 ?_;refine Z4 ?_;refine D227 ?_
     refine jaF rfl zq (fun hc=>?_) (fun hc=>?_)
     ·refine D148 ?_;refine D216 ?_
      haveI:Seg (ints [0,0,0]) 0 3 (ints [0,0,0]):=seg_all rfl
      refine D213 ?_
      have hR:rdF mosts s [0,0,0] 0 0=([0,0,0],false):=by rw [←hrd,hdr];exact jiW zO (by rw [jbd zO] at hc;rw [jbd zO];omega)
      have hfo:jaY s=false:=by rw [jaY,hR]
      have hps:jar s=[0,0,0]:=by rw [jar,hR]
      rw [hfo,hps];exact ⟨rfl,rfl⟩
     ·refine D149 ?_;refine D12 ?_
      exact E11
    ·refine Z3 ?_;refine D108 ?_
     refine jaF rfl rfl (fun hc=>?_) (fun hc=>?_)
     ·refine D45 ?_;refine D13 ?_;refine D204 ?_;refine rr11 ?_;refine Z3 ?_;refine joK rfl zq k zO zO ?_;refine D73 ?_;refine Zs ?_;refine D211 ?_;refine Z2 ?_;refine D245 ?_;refine D12 ?_;refine D203 ?_;refine D150 ?_;refine D68 ?_;refine Z4 ?_;refine D227 ?_
      refine jaF rfl zq (fun hc=>?_) (fun hc=>?_)
      ·refine D148 ?_;refine D216 ?_
       haveI:Seg (ints [0,0,0]) 0 3 (ints [0,0,0]):=seg_all rfl
       refine D213 ?_
       have hR:rdF mosts s [0,0,0] 0 0=([0,0,0],false):=by rw [←hrd,hdr];exact jiW zO (by rw [jbd zO] at hc;rw [jbd zO];omega)
       have hfo:jaY s=false:=by rw [jaY,hR]
       have hps:jar s=[0,0,0]:=by rw [jar,hR]
       rw [hfo,hps];exact ⟨rfl,rfl⟩
      ·refine D149 ?_;refine D12 ?_
       exact E11
     ·omega
   ·refine D9 ?_
    omega
  ·refine jaM rfl zq (fun hc=>?_) (fun hc=>?_)
   ·refine Z2 ?_
    refine jaF rfl rfl (fun hc=>?_) (fun hc=>?_)
    ·refine D13 ?_;refine Z2 ?_
     refine jan rfl rfl (fun hc=>?_) (fun hc=>?_)
     ·omega
     ·refine D236 ?_;refine D197 ?_
      refine jaM rfl zq (fun hc=>?_) (fun hc=>?_)
      ·refine Z2 ?_
       refine jaM rfl rfl (fun hc=>?_) (fun hc=>?_)
       ·omega
       ·refine D236 ?_;refine rs14 ?_;refine Zs ?_;refine D52 ?_;refine D46 ?_
        rintro v (⟨hc,rfl⟩|⟨hc,rfl⟩)
        ·refine D9 ?_;refine Z2 ?_
         refine jaM rfl rfl (fun hc=>?_) (fun hc=>?_)
         ·omega
         ·refine Z3 ?_;refine D108 ?_
          refine jaF rfl rfl (fun hc=>?_) (fun hc=>?_)
          ·omega
          ·refine D45 ?_;refine D236 ?_;refine D216 ?_
           haveI:Seg (ints [0,0,0]) 0 3 (ints [0,0,0]):=seg_all rfl
           refine D213 ?_
           have hR:rdF mosts s [0,0,0] 0 0=([0,0,0],false):=by rw [←hrd,hdr];exact jck zO zO zO
           have hfo:jaY s=false:=by rw [jaY,hR]
           have hps:jar s=[0,0,0]:=by rw [jar,hR]
           rw [hfo,hps];exact ⟨rfl,rfl⟩
        ·refine D9 ?_;refine Z9 ?_;refine D208 ?_;refine D216 ?_
         haveI:Seg (ints [0,0,0]) 0 3 (ints [0,0,0]):=seg_all rfl
         refine D213 ?_
         have hR:rdF mosts s [0,0,0] 0 0=([0,0,0],false):=by rw [←hrd,hdr];exact jck zO zO zO
         have hfo:jaY s=false:=by rw [jaY,hR]
         have hps:jar s=[0,0,0]:=by rw [jar,hR]
         rw [hfo,hps];exact ⟨rfl,rfl⟩
      ·refine Z3 ?_;refine D208 ?_;refine rs14 ?_;refine Zs ?_;refine D52 ?_;refine D46 ?_
       rintro v (⟨hc,rfl⟩|⟨hc,rfl⟩)
       ·refine D9 ?_;refine Z2 ?_
        refine jaM rfl rfl (fun hc=>?_) (fun hc=>?_)
        ·omega
        ·refine Z3 ?_;refine D108 ?_
         refine jaF rfl rfl (fun hc=>?_) (fun hc=>?_)
         ·omega
         ·refine D45 ?_;refine D236 ?_;refine D216 ?_
          haveI:Seg (ints [0,0,0]) 0 3 (ints [0,0,0]):=seg_all rfl
          refine D213 ?_
          have hR:rdF mosts s [0,0,0] 0 0=([0,0,0],false):=by rw [←hrd,hdr];exact jck zO zO zO
          have hfo:jaY s=false:=by rw [jaY,hR]
          have hps:jar s=[0,0,0]:=by rw [jar,hR]
          rw [hfo,hps];exact ⟨rfl,rfl⟩
       ·refine D9 ?_;refine Z9 ?_;refine D208 ?_;refine D216 ?_
        haveI:Seg (ints [0,0,0]) 0 3 (ints [0,0,0]):=seg_all rfl
        refine D213 ?_
        have hR:rdF mosts s [0,0,0] 0 0=([0,0,0],false):=by rw [←hrd,hdr];exact jck zO zO zO
        have hfo:jaY s=false:=by rw [jaY,hR]
        have hps:jar s=[0,0,0]:=by rw [jar,hR]
        rw [hfo,hps];exact ⟨rfl,rfl⟩
    ·refine D13 ?_;refine Z3 ?_;refine D208 ?_;refine D197 ?_
     refine jaM rfl zq (fun hc=>?_) (fun hc=>?_)
     ·refine Z2 ?_
      refine jaM rfl rfl (fun hc=>?_) (fun hc=>?_)
      ·omega
      ·refine D236 ?_;refine rs14 ?_;refine Zs ?_;refine D52 ?_;refine D46 ?_
       rintro v (⟨hc,rfl⟩|⟨hc,rfl⟩)
       ·refine D9 ?_;refine Z2 ?_
        refine jaM rfl rfl (fun hc=>?_) (fun hc=>?_)
        ·omega
        ·refine Z3 ?_;refine D108 ?_
         refine jaF rfl rfl (fun hc=>?_) (fun hc=>?_)
         ·omega
         ·refine D45 ?_;refine D236 ?_;refine D216 ?_
          haveI:Seg (ints [0,0,0]) 0 3 (ints [0,0,0]):=seg_all rfl
          refine D213 ?_
          have hR:rdF mosts s [0,0,0] 0 0=([0,0,0],false):=by rw [←hrd,hdr];exact jck zO zO zO
          have hfo:jaY s=false:=by rw [jaY,hR]
          have hps:jar s=[0,0,0]:=by rw [jar,hR]
          rw [hfo,hps];exact ⟨rfl,rfl⟩
       ·refine D9 ?_;refine Z9 ?_;refine D208 ?_;refine D216 ?_
        haveI:Seg (ints [0,0,0]) 0 3 (ints [0,0,0]):=seg_all rfl
        refine D213 ?_
        have hR:rdF mosts s [0,0,0] 0 0=([0,0,0],false):=by rw [←hrd,hdr];exact jck zO zO zO
        have hfo:jaY s=false:=by rw [jaY,hR]
        have hps:jar s=[0,0,0]:=by rw [jar,hR]
        rw [hfo,hps];exact ⟨rfl,rfl⟩
     ·refine Z3 ?_;refine D208 ?_;refine rs14 ?_;refine Zs ?_;refine D52 ?_;refine D46 ?_
      rintro v (⟨hc,rfl⟩|⟨hc,rfl⟩)
      ·refine D9 ?_;refine Z2 ?_
       refine jaM rfl rfl (fun hc=>?_) (fun hc=>?_)
       ·omega
       ·refine Z3 ?_;refine D108 ?_
        refine jaF rfl rfl (fun hc=>?_) (fun hc=>?_)
        ·omega
        ·refine D45 ?_;refine D236 ?_;refine D216 ?_
         haveI:Seg (ints [0,0,0]) 0 3 (ints [0,0,0]):=seg_all rfl
         refine D213 ?_
         have hR:rdF mosts s [0,0,0] 0 0=([0,0,0],false):=by rw [←hrd,hdr];exact jck zO zO zO
         have hfo:jaY s=false:=by rw [jaY,hR]
         have hps:jar s=[0,0,0]:=by rw [jar,hR]
         rw [hfo,hps];exact ⟨rfl,rfl⟩
      ·refine D9 ?_;refine Z9 ?_;refine D208 ?_;refine D216 ?_
       haveI:Seg (ints [0,0,0]) 0 3 (ints [0,0,0]):=seg_all rfl
       refine D213 ?_
       have hR:rdF mosts s [0,0,0] 0 0=([0,0,0],false):=by rw [←hrd,hdr];exact jck zO zO zO
       have hfo:jaY s=false:=by rw [jaY,hR]
       have hps:jar s=[0,0,0]:=by rw [jar,hR]
       rw [hfo,hps];exact ⟨rfl,rfl⟩
   ·refine Z3 ?_;refine D10 ?_;refine Z3 ?_;refine D208 ?_;refine D197 ?_
    refine jaM rfl zq (fun hc=>?_) (fun hc=>?_)
    ·refine Z2 ?_
     refine jaM rfl rfl (fun hc=>?_) (fun hc=>?_)
     ·omega
     ·refine D236 ?_;refine rs14 ?_;refine Zs ?_;refine D52 ?_;refine D46 ?_
      rintro v (⟨hc,rfl⟩|⟨hc,rfl⟩)
      ·refine D9 ?_;refine Z2 ?_
       refine jaM rfl rfl (fun hc=>?_) (fun hc=>?_)
       ·omega
       ·refine Z3 ?_;refine D108 ?_
        refine jaF rfl rfl (fun hc=>?_) (fun hc=>?_)
        ·omega
        ·refine D45 ?_;refine D236 ?_;refine D216 ?_
         haveI:Seg (ints [0,0,0]) 0 3 (ints [0,0,0]):=seg_all rfl
         refine D213 ?_
         have hR:rdF mosts s [0,0,0] 0 0=([0,0,0],false):=by rw [←hrd,hdr];exact jck zO zO zO
         have hfo:jaY s=false:=by rw [jaY,hR]
         have hps:jar s=[0,0,0]:=by rw [jar,hR]
         rw [hfo,hps];exact ⟨rfl,rfl⟩
      ·refine D9 ?_;refine Z9 ?_;refine D208 ?_;refine D216 ?_
       haveI:Seg (ints [0,0,0]) 0 3 (ints [0,0,0]):=seg_all rfl
       refine D213 ?_
       have hR:rdF mosts s [0,0,0] 0 0=([0,0,0],false):=by rw [←hrd,hdr];exact jck zO zO zO
       have hfo:jaY s=false:=by rw [jaY,hR]
       have hps:jar s=[0,0,0]:=by rw [jar,hR]
       rw [hfo,hps];exact ⟨rfl,rfl⟩
    ·refine Z3 ?_;refine D208 ?_;refine rs14 ?_;refine Zs ?_;refine D52 ?_;refine D46 ?_
     rintro v (⟨hc,rfl⟩|⟨hc,rfl⟩)
     ·refine D9 ?_;refine Z2 ?_
      refine jaM rfl rfl (fun hc=>?_) (fun hc=>?_)
      ·omega
      ·refine Z3 ?_;refine D108 ?_
       refine jaF rfl rfl (fun hc=>?_) (fun hc=>?_)
       ·omega
       ·refine D45 ?_;refine D236 ?_;refine D216 ?_
        haveI:Seg (ints [0,0,0]) 0 3 (ints [0,0,0]):=seg_all rfl
        refine D213 ?_
        have hR:rdF mosts s [0,0,0] 0 0=([0,0,0],false):=by rw [←hrd,hdr];exact jck zO zO zO
        have hfo:jaY s=false:=by rw [jaY,hR]
        have hps:jar s=[0,0,0]:=by rw [jar,hR]
        rw [hfo,hps];exact ⟨rfl,rfl⟩
     ·refine D9 ?_;refine Z9 ?_;refine D208 ?_;refine D216 ?_
      haveI:Seg (ints [0,0,0]) 0 3 (ints [0,0,0]):=seg_all rfl
      refine D213 ?_
      have hR:rdF mosts s [0,0,0] 0 0=([0,0,0],false):=by rw [←hrd,hdr];exact jck zO zO zO
      have hfo:jaY s=false:=by rw [jaY,hR]
      have hps:jar s=[0,0,0]:=by rw [jar,hR]
      rw [hfo,hps];exact ⟨rfl,rfl⟩
  ·refine jdm rfl zq zO ?_;refine Z2 ?_;refine joL rfl rfl zO ?_;refine D13 ?_;refine Z2 ?_;refine jl8 rfl rfl zO ?_;refine D13 ?_;refine D204 ?_;refine D196 ?_;refine D0 ?_;refine D23 ?_;exact m.weak jaa (hnext _ _ _ zO ⟨p+1,k+1,0,v,rfl,by rw [←hrd,hdr];exact (jlN zO).symm,hv3,by omega,by omega,by omega,hvb,fun j hj=>hvz j zO,exU rfl,rfl⟩)
  ·refine jke rfl zq zO ?_;refine Z3 ?_;refine D10 ?_;refine Z3 ?_;refine D208 ?_;refine D197 ?_;refine jdm rfl zq zO ?_;refine Z2 ?_;refine jdm rfl rfl zO ?_;refine D13 ?_;refine D204 ?_;refine rr3 ?_;refine Z2 ?_;refine D245 ?_;refine D12 ?_;refine D203 ?_;refine D150 ?_;refine D68 ?_;refine Z4 ?_;refine D227 ?_;refine k_gtrF rfl zq (by rw [jbd zO];omega) ?_;refine D149 ?_;refine D12 ?_;exact m.weak jaa (hnext _ _ _ zO ⟨p+1,k,n+1,v.set k (-1),rfl,by rw [←hrd,hdr];exact (job zO (by rw [jbd zO];omega)).symm,by simpa using hv3,hk2,by omega,by omega,jgX zO hvb,fun j hj=>by rw [set_other zO];exact hvz j zO,exU rfl,rfl⟩)
theorem ext3 {v w:List Int} (hv:v.length=3) (hw:w.length=3) (h: ∀j,j<3→v.getD j 0=w.getD j 0):v=w:=by
 obtain ⟨a,b,c,rfl⟩:=three hv
 obtain ⟨a',b',c',rfl⟩:=three hw
 have h0:a=a':=h 0 zA
 have h1:b=b':=h 1 zA
 have h2:c=c':=h 2 zA
 rw [h0,h1,h2]
def jdU (p o:List Int):List Int:=(List.range 3).map fun j=>if p.getD j 0= -1 then o.getD j 0 else p.getD j 0
theorem jgI (p o:List Int):(jdU p o).length=3:=by simp [jdU]
theorem jeY (p o:List Int) {j:Nat} (h:j<3):(jdU p o).getD j 0=if p.getD j 0= -1 then o.getD j 0 else p.getD j 0:=by
 rw [jdU,List.getD_eq_getElem?_getD,List.getElem?_map,List.getElem?_range h];rfl
def smuP (v:List Int):Nat:=v.countP fun x=>decide (x= -1)
theorem jjH {v:List Int} {k:Nat} (h:k<v.length):smuP (v.take (k+1))=smuP (v.take k)+if v.getD k 0= -1 then 1 else 0:=by
 rw [take_snoc' v k h,smuP,List.countP_append,smuP];congr 1
 by_cases e:v.getD k 0= -1
 ·rw [if_pos e];simp only [List.countP_cons,List.countP_nil,e,decide_true]
  rfl
 ·rw [if_neg e];simp only [List.countP_cons,List.countP_nil,e,decide_false]
  simp
structure PtOk (v:List Int):Prop where
 len:v.length=3
 lo: ∀j,-1≤v.getD j 0
 hi: ∀j,j<3→v.getD j 0≤mosts.getD j 0
theorem PtOk.zero:PtOk [0,0,0]:=⟨rfl,fun j=>(zero3 j).1,fun j h=>by rw [jjn];exact (Int.le_trans zA (jfc h).1)⟩
theorem PtOk.set {v:List Int} (o:PtOk v) {k:Nat} {x:Int} (h1: -1≤x) (h2:x≤mosts.getD k 0):PtOk (v.set k x):=by
 refine ⟨by simpa using o.len,fun j=>?_,fun j hj=>?_⟩
 ·by_cases e:k=j
  ·subst e
   by_cases e2:k<v.length
   ·rw [jbd e2];exact h1
   ·rw [List.set_eq_of_length_le zO];exact o.lo k
  ·rw [set_other e];exact o.lo j
 ·by_cases e:k=j
  ·subst e
   rw [jbd (by rw [o.len];exact hj)];exact h2
  ·rw [set_other e];exact o.hi j hj
theorem jlM: ∀(s:Str) {v:List Int} {k n:Nat},PtOk v→k≤2→(∀j,k<j∨(k=j∧n=0)→v.getD j 0=0)→PtOk (rdF mosts s v k n).1
 |[],v,k,n,h,_,_=>h
 |c::r,v,k,n,h,hk,hz=>by
  have hm:=jfc (k:=k) zO
  have hl:=h.lo k
  have h3:=h.len
  rw [rdF];split
  ·exact jlM r h zO fun j hj=>hz j zO
  ·split
   ·split
    ·exact PtOk.zero
    ·exact jlM r (h.set zO zO) hk fun j hj=>by rw [set_other zO];exact hz j zO
   ·split
    ·rename_i hd
     split
     ·exact PtOk.zero
     ·rename_i hn
      rw [jbd zO] at hn
      refine jlM r (h.set ?_ zO) hk fun j hj=>by rw [set_other zO];exact hz j zO
      rcases hd.2 with e|e
      ·have:=hz k (.inr ⟨rfl,e⟩);omega
      ·omega
    ·exact PtOk.zero
theorem jaW (s:Str):PtOk (jar s):=jlM s .zero zO fun j _=>jjn j
theorem parts_n {n:Nat} (h:n<960):PtOk (jd3 n):=by
 refine ⟨rfl,fun j=>?_,fun j hj=>?_⟩
 ·match j with
  |0=>show-1≤((n/96:Nat):Int);omega
  |1=>show-1≤((n/8%12:Nat):Int);omega
  |2=>show-1≤((n%8:Nat):Int);omega
  |j+3=>simp [jd3]
 ·rcases (by omega:j=0∨j=1∨j=2) with rfl|rfl|rfl
  ·show ((n/96:Nat):Int)≤9
   omega
  ·show ((n/8%12:Nat):Int)≤11
   omega
  ·show ((n%8:Nat):Int)≤7
   omega
theorem jkp {p:List Int} (hp:PtOk p) {n:Nat}:jdU p (jd3 n)=jd3 n↔jgs p n=true:=by
 rw [jgs,List.all_eq_true];constructor
 ·intro h j hj
  rw [List.mem_range] at hj
  have:=jeY p (jd3 n) hj
  rw [h] at this
  have:=hp.lo j
  simp only [Bool.or_eq_true,decide_eq_true_eq]
  by_cases e:p.getD j 0= -1
  ·left
   omega
  ·rw [if_neg e] at*
   right
   omega
 ·intro h
  refine ext3 (jgI _ _) rfl fun j hj=>?_
  rw [jeY _ _ hj];have h1:=h j (List.mem_range.2 hj)
  simp only [Bool.or_eq_true,decide_eq_true_eq] at h1
  have:=hp.lo j
  by_cases e:p.getD j 0= -1
  ·rw [if_pos e]
  ·rw [if_neg e];omega
def meaK (p:List Int) (k:Nat):List Int:=((List.range k).filter (jgs p)).map fun (n:Nat)=>(n:Int)
theorem jj7 (p:List Int) (k:Nat):meaK p (k+1)=meaK p k++if jgs p k then [(k:Int)] else []:=by
 rw [meaK,List.range_succ,List.filter_append,List.map_append,←meaK];congr 1
 cases h:jgs p k<;>simp [List.filter,h]
theorem jou (p:List Int) (k:Nat):(meaK p k).length≤k:=by
 rw [meaK,List.length_map];exact Nat.le_trans (List.length_filter_le _ _) zS
theorem f171_c (m:Md Tryz.prog B) (h:Hp) {v:List Int} (hv:v.length=3):FnC m 171 #[.agg (ints v).toArray] h fun w h'=>h'=h∧w= .int .i64 (smuP v:Int):=by
 refine jae Tryz.func171 rfl rfl (l:=(.agg (ints v).toArray)::uu15) rfl ?_
 intro cf cs K hK
 refine rs2 ?_;refine jaQ rfl zq (fun q1=>k_hp (jad ?_));refine D0 ?_;refine D161 ?_;refine rs2 ?_;refine jcC rfl zq hv ?_;refine D243 ?_
 refine jai (fun nn l h'=> ∃(k:Nat),nn=3-k∧(k≤3)∧(∃U:Nat→Value,l=((.agg (ints v).toArray)::(.pointer (some ⟨q1,0,none⟩))::(U 2)::(.int .i64 (smuP (v.take k):Int))::(U 4)::(U 5)::(.agg (ints v).toArray)::(.int .i64 (k:Int))::vw8 U 8 []))∧h++[⟨true,q1,.cells (ints v).toArray 145 (0,0)⟩]=h') _ ⟨0,rfl,by omega,exU rfl,rfl⟩ ?_;rintro nn l h' ⟨k,rfl,hk,⟨U,rfl⟩,rfl⟩ hnext;have hsm:smuP (v.take k)≤k:=Nat.le_trans (List.countP_le_length ..) zN
 refine rs1 ?_;refine jan rfl zq (fun hc=>?_) (fun hc=>?_)
 ·refine D205 ?_;refine rs2 ?_;refine k_ixv rfl zq zO zO (jk8 zO) ?_;refine D199 ?_
  refine jaM rfl zq (fun hc=>?_) (fun hc=>?_);refine D148 ?_;refine D164 ?_
  rotate_left
  refine D149 ?_
  all_goals
   refine D159 ?_
  ·rw [show (smuP (v.take k):Int)=(smuP (v.take (k+1)):Int) by rw [jjH zO,if_neg zO];omega];exact E10
  ·rw [show (smuP (v.take k):Int)+1=(smuP (v.take (k+1)):Int) by rw [jjH zO,if_pos zO];omega];exact E10
 ·refine D175 ?_;refine D167 ?_;refine jac (h) rfl Tryz.func171 rfl jaa ?_;refine D5 ?_
  obtain rfl:k=3:=by omega
  rw [←hv,List.take_length];exact ⟨rfl,rfl⟩
theorem f110_c (m:Md Tryz.prog B) (h:Hp) {p o:List Int} (hp:p.length=3) (ho:o.length=3):FnC m 110 #[.agg (ints p).toArray,.agg (ints o).toArray] h fun w h'=>h'=h∧w= .agg (ints (jdU p o)).toArray:=by
 refine jae Tryz.func110 rfl rfl (l:=(.agg (ints p).toArray)::(.agg (ints o).toArray)::uu19) rfl ?_
 intro cf cs K hK
 refine rs3 ?_;refine jaQ rfl zq (fun q2=>k_hp (jad ?_));refine jaQ rfl zq (fun q3=>k_hp (jad ?_));refine jau rfl zq (fun q4=>k_hp (jad ?_));refine D151 ?_;refine rs2 ?_;refine jcC rfl zq hp ?_;refine D243 ?_
 refine jai (fun nn l h'=> ∃(k:Nat) (v:List Int),nn=3-k∧(k≤3)∧(v.length=3)∧(∀j,j<3→v.getD j 0=if j<k then (jdU p o).getD j 0 else p.getD j 0)∧(∃U:Nat→Value,l=((.agg (ints p).toArray)::(.agg (ints o).toArray)::(.pointer (some ⟨q2,0,none⟩))::(.pointer (some ⟨q3,0,none⟩))::(.pointer (some ⟨q4,0,none⟩))::(U 5)::(U 6)::(.agg (ints p).toArray)::(.int .i64 (k:Int))::vw12 U 9 []))∧h++[⟨true,q2,.cells (ints v).toArray 145 (0,0)⟩,⟨true,q3,.cells (ints o).toArray 145 (0,0)⟩,⟨true,q4,.cells (ints [0,0,0]).toArray 145 (0,0)⟩]=h') _ ⟨0,p,rfl,by omega,hp,fun j hj=>by simp,exU rfl,rfl⟩ ?_;rintro nn l h' ⟨k,v,rfl,hk,hv,hvj,⟨U,rfl⟩,rfl⟩ hnext;refine rs1 ?_;refine jan rfl zq (fun hc=>?_) (fun hc=>?_)
 ·refine D205 ?_;refine D221 ?_;refine k_ixv rfl zq zO zO (jk8 zO) ?_;refine Zs ?_;refine D199 ?_
  refine jaM rfl zq (fun hc=>?_) (fun hc=>?_);refine D148 ?_;refine rr6 ?_;refine Z3 ?_;refine joK rfl zq k zO zO ?_;refine Zs ?_;refine D245 ?_
  rotate_left
  refine D149 ?_
  all_goals
   refine D159 ?_
  ·exact m.weak jaa (hnext _ _ _ zO ⟨k+1,v,rfl,by omega,hv,by
    intro j hj
    rw [hvj j hj];by_cases e:k=j
    ·subst e
     rw [if_neg zO,if_pos zO,jeY _ _ hj,if_neg zO]
    ·by_cases e2:j<k
     ·rw [if_pos e2,if_pos zO]
     ·rw [if_neg e2,if_neg zO],exU rfl,rfl⟩)
  ·exact m.weak jaa (hnext _ _ _ zO ⟨k+1,v.set k (o.getD k 0),rfl,by omega,by simpa using hv,by
    intro j hj
    by_cases e:k=j
    ·subst e
     rw [jbd zO,if_pos zO,jeY _ _ hj,if_pos zO]
    ·rw [set_other e,hvj j hj];by_cases e2:j<k
     ·rw [if_pos e2,if_pos zO]
     ·rw [if_neg e2,if_neg zO],exU rfl,rfl⟩)
 ·refine D175 ?_;refine rs2 ?_;refine jcC rfl zq hv ?_;refine jd9 rfl zq hv zN ?_;refine D1 ?_;refine D4 ?_
  haveI:Seg (ints v) 0 3 (ints v):=seg_all (by simpa using hv)
  refine jac (h) rfl Tryz.func110 rfl jaa ?_;refine D5 ?_;have hw:v=jdU p o:=ext3 hv (jgI _ _) fun j hj=>by rw [hvj j hj,if_pos zO]
  rw [hw];exact ⟨rfl,rfl⟩
theorem f120_c (m:Md Tryz.prog B) (h:Hp) {v:List Int} (hv:PtOk v):FnC m 120 #[.agg (ints v).toArray] h fun w h'=> ∃new,h'=h++new∧OwnS 3 1 w (meaP v).length (ints (meaP v)) new:=by
 refine jae Tryz.func120 rfl rfl (l:=(.agg (ints v).toArray)::uu21) rfl ?_
 intro cf cs K hK
 refine rs2 ?_;refine jaQ rfl zq (fun q1=>k_hp (jad ?_));refine D0 ?_;refine D161 ?_;refine rs1 ?_;refine D243 ?_
 refine jai (fun nn l h'=> ∃(k:Nat) (wp:Option Addr) (wc:Nat) (M:Hp),nn=960-k∧(k≤960)∧(OwnS 3 1 (.slice wp (meaK v k).length wc) (meaK v k).length (ints (meaK v k)) M)∧(∃U:Nat→Value,l=((.agg (ints v).toArray)::(.pointer (some ⟨q1,0,none⟩))::(U 2)::(.slice wp (meaK v k).length wc)::(U 4)::(U 5)::(.int .i64 (k:Int))::vw15 U 7 []))∧h++[⟨true,q1,.cells (ints v).toArray 145 (0,0)⟩]++M=h') _ ⟨0,none,0,[],rfl,by omega,OwnS.nil,exU rfl,zS⟩ ?_;rintro nn l h' ⟨k,wp,wc,M,rfl,hk,how,⟨U,rfl⟩,rfl⟩ hnext;have hml:=jou v k
 refine rs1 ?_;refine jan rfl zq (fun hc=>?_) (fun hc=>?_);refine D205 ?_
 rotate_left
 refine D175 ?_
 all_goals
  refine D152 ?_;refine D0 ?_
 ·refine D4 ?_;refine jac (h++M) rfl Tryz.func120 rfl jaa ?_;refine D5 ?_
  obtain rfl:k=960:=by omega
  exact ⟨M,rfl,how⟩
 ·refine D221 ?_;refine jaj (Post:=fun v=>v=_) rfl zq zK (fun H' hH=>f118_c m H' k zO) ?_
  rintro v rfl;refine D9 ?_
  refine jau rfl zq (fun q5=>k_hp (jad ?_));refine jd9 (w:=jd3 k) rfl zq rfl (by simp;rfl) ?_;refine D151 ?_;refine D129 ?_;refine jcC rfl zq hv.len ?_;refine jcC rfl zq rfl ?_;refine jcC rfl zq rfl ?_;refine jaj (Post:=fun w=>w= .agg (ints (jdU v (jd3 k))).toArray) rfl zq zK (fun H' hH=>f110_c m H' hv.len rfl) ?_;rintro w rfl;refine D9 ?_
  refine k_eqlA3 (e:=3) rfl zq zK zK (jgI _ _) rfl (fun hc=>?_) (fun hc=>?_);refine D148 ?_;refine rr5 ?_;refine Z2 ?_
  refine k_bs kdq rfl zq zA zA rfl (fun q18=>k_hp (jad ?_));refine ja3 rfl zq rfl how kdq zO zO (fun w9 n9 o9=>jad ?_);obtain ⟨p9,c9,rfl,hc9,r9⟩:=jap (B:=B) o9
  refine D0 ?_
  rotate_left
  refine D149 ?_
  all_goals
   refine D159 ?_
  ·have hks:meaK v (k+1)=meaK v k:=by rw [jj7,if_neg (fun e=>hc ((jkp hv).2 e)),List.append_nil]
   rw [←hks];exact E12
  ·have hks:meaK v (k+1)=meaK v k++[(k:Int)]:=by rw [jj7,if_pos ((jkp hv).1 hc)]
   have hkl:(meaK v (k+1)).length=(meaK v k).length+1:=by rw [hks];simp
   rw [←hkl];exact m.weak jaa (hnext _ _ _ zO ⟨k+1,p9,c9,n9,rfl,by omega,by rw [hkl,hks,jbh];exact o9,exU rfl,rfl⟩)
end Go.Proofs
namespace Go.Proofs
open Go.Lo
open Go.Conc (G)
set_option maxRecDepth 100000
set_option synthInstance.maxSize 100000
set_option synthInstance.maxHeartbeats 1000000
set_option maxHeartbeats 4000000
variable {B:Array Obj}
theorem extNoEsc:Ext Tryz.prog 236 Extern.AbiNoEscape.same:=⟨Tryz.f236,Tryz.func236,by kernel_rfl,by kernel_rfl,by kernel_rfl,by kernel_rfl⟩
theorem extMnz:Ext Tryz.prog 237 (Extern.BytealgMakeNoZero.makeNoZero #[3] #[192]):=⟨Tryz.f237,Tryz.func237,by kernel_rfl,by kernel_rfl,by kernel_rfl,by kernel_rfl⟩
theorem jjs: Tryz.prog.underlying 248=some (.pointer 250):=by kernel_rfl
theorem und234: Tryz.prog.underlying 234=some .unsafePointer:=by kernel_rfl
theorem und192: Tryz.prog.underlying 192=some (.slice 5):=by kernel_rfl
theorem und9: Tryz.prog.underlying 9=some .string:=by kernel_rfl
theorem info250:(Tryz.prog.info? 250).map (fun i=>decide (i.size=0))=some false:=by kernel_rfl
theorem lies250:liesAt Tryz.prog Tryz.prog.depth 250 (2/ Tryz.prog.cellsOf 250) 0 250 1=true:=by kernel_rfl
theorem jnS:Still Tryz.prog (sizeOf 250) 2:=jmH zK
theorem depthO: ∃k,Tryz.prog.depth=k+1:=⟨Tryz.prog.depth-1,by kernel_rfl⟩
theorem own_pos {t:TypeId} {v:Value} {n:Nat} {cs:List Value} {M:Hp} (o:OwnS t 1 v n cs M) (h:0<n): ∃b cap junk,v= .slice (some ⟨b,0,none⟩) n cap∧M=[⟨true,b,.cells (cs++junk).toArray t (0,0)⟩]∧n≤cap:=by
 cases o with
 |nil=>omega
 |blk hl hc hn=>exact ⟨_,_,_,rfl,rfl,hn⟩
abbrev bldC (q:Nat) (pa:Option Addr) (v:Value):Chunk:=⟨true,q,.cells [.pointer pa,v].toArray 250 (0,0)⟩
theorem f229_c (m:Md Tryz.prog B) (F M:Hp) {q:Nat} {pa:Option Addr} {v:Value} [CellsV v [v]] (hpa:pa=none∨pa=some ⟨q,0,none⟩):FnC m 229 #[.pointer (some ⟨q,0,none⟩)] (F++[bldC q pa v]++M) fun _ h'=>h'=F++[bldC q (some ⟨q,0,none⟩) v]++M:=by
 refine jae Tryz.func229 rfl rfl (l:=(.pointer (some ⟨q,0,none⟩))::uu19) rfl ?_
 intro cf cs K hK
 refine D2 ?_
 rcases hpa with rfl|rfl
 all_goals
  refine rr5 ?_;refine Zs ?_;refine jal rfl zq ?_
 ·refine Z2 ?_;refine joM rfl zq jjs ?_;refine D148 ?_;refine rr8 ?_;refine Z2 ?_;refine k_to rfl zq jjs und234 info250 rd_at ?_;refine k_extP extNoEsc rfl zq kdq rfl ?_;refine k_from rfl zq und234 jjs ⟨2,jnS,by decide⟩ lies250 ?_
  refine jal rfl zq ?_;refine Zs ?_;refine D181 ?_;refine jdx rfl ?_;refine jac (F++[bldC q (some ⟨q,0,none⟩) v]++M) rfl Tryz.func229 rfl jaa ?_;refine D5 ?_
  rfl
 ·refine Z2 ?_;refine joN rfl zq jjs ?_;refine D147 ?_;refine rs6 ?_;refine Zs ?_
  refine jal rfl zq ?_;refine Z3 ?_;refine joE rfl zq jjs jnS zA ?_;refine D149 ?_;refine jdx rfl ?_;refine jac (F++[bldC q (some ⟨q,0,none⟩) v]++M) rfl Tryz.func229 rfl jaa ?_;refine D5 ?_
  rfl
theorem f230_c (m:Md Tryz.prog B) (F:Hp) {q:Nat} {pa:Option Addr} (n:Nat) (hn:n≤2^40):FnC m 230 #[.pointer (some ⟨q,0,none⟩),.int .i64 (n:Int)] (F++[bldC q pa (.slice none 0 0)]) fun _ h'=> ∃q2 N M,n≤N∧h'=F++[bldC q pa (.slice (some ⟨q2,0,none⟩) 0 N)]++M∧OwnS 5 1 (.slice (some ⟨q2,0,none⟩) 0 N) 0 [] M:=by
 refine jae Tryz.func230 rfl rfl (l:=(.pointer (some ⟨q,0,none⟩))::(.int .i64 (n:Int))::uu28) rfl ?_
 intro cf cs K hK
 refine D2 ?_;refine jaq [(0,.pure),(1,.pure),(2,.pure),(6,.pure),(9,.pure),(10,.pure),(11,.pure),(3,.read),(4,.pure),(5,.pure),(7,.pure),(12,.read),(13,.pure),(8,.keep),(14,.pure),(15,.pure)] zK zK (List.Sublist.refl _) ?_;refine Zs ?_
 refine jal rfl zq ?_;refine Z3 ?_
 refine jal rfl zq ?_;refine Z2 ?_;refine k_cap rfl zq ?_;refine D73 ?_;refine Z3 ?_
 rw [show (2:Int)*((0:Nat):Int)+(n:Int)=(n:Int) by omega];refine k_mnz (n:=n) extMnz rfl zq kdq und192 zO (fun q13 N junk hnN hjl=>k_hp (jad ?_));refine jl6 (b:=0) rfl zq (.inr ⟨_,_,rfl⟩) rfl zO ?_;refine D0 ?_;refine rs6 ?_;refine Z2 ?_;refine jal rfl zq ?_;refine Z2 ?_;refine k_copy0 rfl zq ?_;refine D1 ?_;refine rr5 ?_;refine Z2 ?_
 refine jal rfl zq ?_;refine Zs ?_;refine D181 ?_;refine jdx rfl ?_;refine jac (F++[bldC q pa (.slice (some ⟨q13,0,none⟩) 0 N),⟨true,q13,.cells junk.toArray 5 (0,0)⟩]) rfl Tryz.func230 rfl jaa ?_;refine D5 ?_
 exact ⟨q13,N,[⟨true,q13,.cells junk.toArray 5 (0,0)⟩],hnN,by simp,OwnS.blk (cs:=[]) (junk:=junk) rfl (by simp [hjl]) zO⟩
theorem f212_c (m:Md Tryz.prog B) (F:Hp) {q:Nat} (n:Nat) (hn:n≤2^40) (h0:0<n):FnC m 212 #[.pointer (some ⟨q,0,none⟩),.int .i64 (n:Int)] (F++[bldC q none (.slice none 0 0)]) fun _ h'=> ∃v M,h'=F++[bldC q (some ⟨q,0,none⟩) v]++M∧OwnS 5 1 v 0 [] M:=by
 refine jae Tryz.func212 rfl rfl (l:=(.pointer (some ⟨q,0,none⟩))::(.int .i64 (n:Int))::uu23) rfl ?_
 intro cf cs K hK
 refine D152 ?_;refine jcG rfl zq zK (CallF.weak (weakEq (List.append_nil _).symm) (f229_c m F [] (q:=q) (pa:=none) (v:= .slice none 0 0) (.inl rfl))) ?_
 rintro _ h' rfl;rw [List.append_nil];refine D9 ?_;refine D151 ?_;refine D152 ?_;refine k_lssF rfl zq zO ?_;refine D165 ?_;refine jaq [(0,.pure),(1,.pure),(2,.pure),(5,.pure),(6,.pure),(7,.pure),(11,.pure),(3,.read),(4,.pure),(8,.read),(9,.pure),(10,.pure),(12,.pure)] zK zK (List.Sublist.refl _) ?_;refine Zs ?_
 refine jal rfl zq ?_;refine Z2 ?_
 refine jal rfl zq ?_;refine Z3 ?_;refine k_cap rfl zq ?_;refine Z3 ?_;refine jl8 rfl zq zO ?_;refine D148 ?_;refine rr3 ?_;refine Z2 ?_;refine jcG rfl zq zK (f230_c m F (q:=q) (pa:=some ⟨q,0,none⟩) n hn) ?_
 rintro _ h' ⟨q2,N,M,hnN,rfl,ho⟩;refine D9 ?_;refine D1 ?_;refine jdx rfl ?_;refine jac (F++[bldC q (some ⟨q,0,none⟩) (.slice (some ⟨q2,0,none⟩) 0 N)]++M) rfl Tryz.func212 rfl jaa ?_;refine D5 ?_
 exact ⟨_,M,rfl,ho⟩
theorem f213_c (m:Md Tryz.prog B) (F M:Hp) {q:Nat} {pa:Option Addr} (hpa:pa=none∨pa=some ⟨q,0,none⟩) {v:Value} {t:Str} (ho:OwnS 5 1 v t.length (t.map jbK) M) (s:Str) (hn:t.length+s.length≤2^40):FnC m 213 #[.pointer (some ⟨q,0,none⟩),str s] (F++[bldC q pa v]++M) fun w h'=> ∃v' M',h'=F++[bldC q (some ⟨q,0,none⟩) v']++M'∧OwnS 5 1 v' (t++s).length ((t++s).map jbK) M'∧w= .tuple [.int .i64 (s.length:Int),.nilIface].toArray:=by
 obtain ⟨p0,c0,rfl,hc0,r0⟩:=jap (B:=B) ho
 refine jae Tryz.func213 rfl rfl (l:=(.pointer (some ⟨q,0,none⟩))::(str s)::uu17) rfl ?_
 intro cf cs K hK
 refine D152 ?_;refine D199 ?_;refine jcG rfl zq zK (f229_c m F M (v:= .slice p0 t.length c0) hpa) ?_
 rintro _ h' rfl;refine D9 ?_;refine D1 ?_;refine rs10 ?_;refine Z2 ?_
 refine jal rfl zq ?_;refine Z3 ?_
 refine k_appS rfl zq und9 ho (Weak.perm Off.perm) kdq zO zO (fun w9 n9 o9=>jad ?_);obtain ⟨p9,c9,rfl,hc9,r9⟩:=jap (B:=B) o9
 refine jal rfl zq ?_;refine Zs ?_;refine D181 ?_;refine D221 ?_;refine D60 ?_;refine D195 ?_;refine jac (F++[bldC q (some ⟨q,0,none⟩) (.slice p9 (t.length+s.length) c9)]++n9) rfl Tryz.func213 rfl jaa ?_;refine D5 ?_
 exact ⟨_,_,rfl,by rw [List.map_append,List.length_append];exact o9,rfl⟩
theorem f214_c (m:Md Tryz.prog B) (F:Hp) {M:Hp} {q:Nat} {pa:Option Addr} {v:Value} {t:Str} (ho:OwnS 5 1 v t.length (t.map jbK) M) (h0:0<t.length) (hn:t.length≤2^40):FnC m 214 #[.pointer (some ⟨q,0,none⟩)] (F++[bldC q pa v]++M) fun w h'=>h'=F++[bldC q pa v]∧w=str t:=by
 obtain ⟨b1,cap1,junk1,rfl,rfl,hcap⟩: ∃b cap junk,v= .slice (some ⟨b,0,none⟩) t.length cap∧M=[⟨true,b,.cells (t.map jbK++junk).toArray 5 (0,0)⟩]∧t.length≤cap:=own_pos ho h0
 refine jae Tryz.func214 rfl rfl (l:=(.pointer (some ⟨q,0,none⟩))::uu13) rfl ?_
 intro cf cs K hK
 refine D161 ?_;refine jaq [(0,.pure),(1,.pure),(2,.pure),(5,.pure),(6,.pure),(7,.pure),(3,.read),(4,.pure),(8,.read),(9,.pure),(10,.free),(11,.pure)] zK zK (List.Sublist.refl _) ?_;refine Zs ?_
 refine jal rfl zq ?_;refine Z2 ?_
 refine jal rfl zq ?_;refine Z2 ?_;refine k_usd rfl zq zO ?_;refine Z2 ?_;refine k_ustr (s:=t) (n:=t.length) rfl zq (jmI zK) depthO zK rfl zO zO (.inl rfl) ?_;refine D220 ?_;refine jac (F++[bldC q pa (.slice (some ⟨b1,0,none⟩) t.length cap1)]) rfl Tryz.func214 rfl jaa ?_;refine D5 ?_
 exact ⟨rfl,rfl⟩
theorem d36: ∀n,n<10→(([48,49,50,51,52,53,54,55,56,57,97,98,99,100,101,102,103,104,105,106,107,108,109,110,111,112,113,114,115,116,117,118,119,120,121,122]:Str).take (n+1)).drop n=digS n:=by decide
def d100:Str:=(List.range 100).flatMap fun n=>[UInt8.ofNat (48+n/10),UInt8.ofNat (48+n%10)]
theorem d100_cut: ∀n,n<100→10≤n→(d100.take (n*2+2)).drop (n*2)=digS n:=by decide+kernel
theorem f232_c (m:Md Tryz.prog B) (h:Hp) (n:Nat) (hn:n<100):FnC m 232 #[.int .i64 (n:Int)] h fun v h'=>h'=h∧v=str (digS n):=by
 refine jae Tryz.func232 rfl rfl (l:=(.int .i64 (n:Int))::uu14) rfl ?_
 intro cf cs K hK
 refine D161 ?_;refine D152 ?_
 refine jan rfl zq (fun hc=>?_) (fun hc=>?_);refine D148 ?_;refine rs5 ?_;refine Z3 ?_
 rw [show (n:Int)+1=((n+1:Nat):Int) by omega];refine jgC (j:=n) (k:=n+1) rfl zq und9 zO (by show _≤36;omega) ?_;rw [d36 n zO];rotate_left
 refine D149 ?_;refine D197 ?_;refine D73 ?_;refine Zs ?_;refine D73 ?_;refine Zs ?_
 rw [show (n:Int)*2+2=((n*2+2:Nat):Int) by omega,show (n:Int)*2=((n*2:Nat):Int) by omega];refine jgC (p:=d100) (j:=n*2) (k:=n*2+2) rfl zq und9 zO (by show _≤200;omega) ?_;rw [d100_cut n hn zO];all_goals
  refine D146 ?_;refine jac (h) rfl Tryz.func232 rfl jaa ?_;refine D5 ?_
  exact ⟨rfl,rfl⟩
theorem f228_c (m:Md Tryz.prog B) (h:Hp) (n:Nat) (hn:n<100):FnC m 228 #[.int .i64 (n:Int),.int .i64 10] h fun v h'=>h'=h∧v=str (digS n):=by
 refine jae Tryz.func228 rfl rfl (l:=(.int .i64 (n:Int))::(.int .i64 10)::uu52) rfl ?_
 intro cf cs K hK
 refine D161 ?_;refine D152 ?_;refine jdm rfl zq rfl ?_;refine D148 ?_;refine D2 ?_;refine rs6 ?_;refine Zs ?_;refine joJ rfl zq zO ?_;refine Z2 ?_;refine jl8 rfl rfl zO ?_;refine D223 ?_;refine D186 ?_;refine jaj (Post:=fun v=>v=_) rfl zq zK (fun H' hH=>f232_c m H' n hn) ?_
 rintro v rfl;refine D220 ?_;refine jac (h) rfl Tryz.func228 rfl jaa ?_;refine D5 ?_
 exact ⟨rfl,rfl⟩
theorem f211_c (m:Md Tryz.prog B) (h:Hp) (n:Nat) (hn:n<100):FnC m 211 #[.int .i64 (n:Int)] h fun v h'=>h'=h∧v=str (digS n):=by
 refine jae Tryz.func211 rfl rfl (l:=[.int .i64 (n:Int),undef,undef,undef,undef]) rfl ?_
 intro cf cs K hK
 refine D162 ?_;refine D186 ?_;refine jaj (Post:=fun v=>v=_) rfl zq zK (fun H' hH=>f228_c m H' n hn) ?_
 rintro v rfl;refine D220 ?_;refine jac (h) rfl Tryz.func211 rfl jaa ?_;refine D5 ?_
 exact ⟨rfl,rfl⟩
theorem f164_c (m:Md Tryz.prog B) (h:Hp) (n:Nat) (hn:n<100):FnC m 164 #[.int .i64 (n:Int)] h fun v h'=>h'=h∧v=str (digS n):=by
 refine jae Tryz.func164 rfl rfl (l:=[.int .i64 (n:Int),undef,undef,undef,undef]) rfl ?_
 intro cf cs K hK
 refine D162 ?_;refine D186 ?_;refine jaj (Post:=fun v=>v=_) rfl zq zK (fun H' hH=>f211_c m H' n hn) ?_
 rintro v rfl;refine D220 ?_;refine jac (h) rfl Tryz.func164 rfl jaa ?_;refine D5 ?_
 exact ⟨rfl,rfl⟩
theorem k_quoB {P:Program} {B:Array Obj} {m:Md P B} {ops:Array Oper} {l l':List Value} {S h H:Hp} {C:List Value→Hp→Prop} {i:Nat} {kd:Kd} {r:List (Nat×Kd)} {d:Option Tmp} {ty:TypeId} {pos:String} {af:Array Edge} {g:Option (Nat×Bool)} {t u:TypeId} {x y:Operand} {z w:Int} (ho:ops[i]?=some ⟨d,.binOp .quo t x y u,ty,pos,af,g⟩) (hw:Wt ops l g) [KHeap kd S h H] [ex:OpV l x (.int .i64 z)] [ey:OpV l y (.int .i64 w)] (h0:w≠0) (hv:In64 (z.tdiv w)) [PutV l d (.int .i64 (z.tdiv w)) l'] (q:RegK m S ops r l' h C):RegK m S ops ((i,kd)::r) l h C:=
 RegK.rd (v:= .int .i64 (z.tdiv w)) ho hw (jaU ex.eq ey.eq zS (by
  simp only [binOp,Op.intDiv,if_neg h0,jc3 hv]
  rfl)) q
theorem quo_big {k:Nat} (h0:0<k) (h:k≤1000):1000000≤(9223372036854775807:Int).tdiv (k:Int)∧(9223372036854775807:Int).tdiv (k:Int)≤9223372036854775807:=by
 have e:(9223372036854775807:Int).tdiv (k:Int)=((9223372036854775807/k:Nat):Int):=(Int.ofNat_tdiv 9223372036854775807 k).symm
 rw [e];have h1:1000000≤9223372036854775807/k:=(Nat.le_div_iff_mul_le h0).2 zO
 have h2:=Nat.div_le_self 9223372036854775807 k
 omega
def lens (ss:List Str):List Nat:=ss.map List.length
theorem jl2 {ss:List Str} {k:Nat} (h:k<ss.length):(lens ss).getD k 0=(ss.getD k []).length:=by
 rw [lens,List.getD_eq_getElem?_getD,List.getElem?_map,List.getElem?_eq_getElem h,List.getD_eq_getElem?_getD,List.getElem?_eq_getElem h];rfl
theorem lens_le {ss:List Str} {c:Nat} (h: ∀s∈ss,s.length≤c): ∀k,((lens ss).take k).sum≤k*c:=by
 intro k
 induction k with
 |zero=>simp
 |succ k ih=>
  by_cases hk:k<ss.length
  ·rw [je0 _ _ (by simpa [lens] using hk),jl2 hk];have:=h _ (jak (l:=ss) hk)
   have e:ss.getD k default=ss.getD k []:=rfl
   rw [e] at this
   rw [Nat.add_mul];omega
  ·rw [List.take_of_length_le (by simp [lens];omega)];rw [List.take_of_length_le (by simp [lens];omega)] at ih
   rw [Nat.add_mul];omega
def jfk (sep:Str) (ss:List Str) (k:Nat):Str:=ss.getD 0 []++((ss.drop 1).take k).flatMap fun x=>sep++x
theorem jip (sep:Str) (ss:List Str):jfk sep ss 0=ss.getD 0 []:=by simp [jfk]
theorem jfP (sep:Str) {ss:List Str} {k:Nat} (h:k+1<ss.length):jfk sep ss (k+1)=jfk sep ss k++sep++(ss.drop 1).getD k []:=by
 rw [jfk,jfk,jbH (α:=Str) (ss.drop 1) k (by rw [List.length_drop];omega),List.flatMap_append];simp only [List.flatMap_cons,List.flatMap_nil,List.append_nil,List.append_assoc]
 rfl
theorem jnm (ss:List Str):encs (ss.drop 1)=(encs ss).drop 1:=by have:=jhE ss 1;simpa using this
theorem joT {sep:Str} {ss:List Str} {k:Nat} (h:0<sep.length) (hk:0<k) (hl:k<ss.length):0<(jfk sep ss k).length:=by
 match k,hk with
 |k+1,_=>rw [jfP sep zO,List.length_append,List.length_append];omega
theorem jhp (sep:Str) {ss:List Str} (h:0<ss.length):jfk sep ss (ss.length-1)=jnc sep ss:=by
 match ss,h with
 |a::r,_=>simp [jfk,jnc]
theorem joU (sep:Str) {ss:List Str} {c:Nat} (hs:sep.length≤c) (h: ∀s∈ss,s.length≤c): ∀k,(jfk sep ss k).length≤c+k*(2*c):=by
 have h0:(ss.getD 0 []).length≤c:=by
  by_cases e:0<ss.length
  ·exact h _ (jak (l:=ss) e)
  ·rw [List.getD_eq_getElem?_getD,List.getElem?_eq_none zO];simp
 intro k
 induction k with
 |zero=>rw [jip];omega
 |succ k ih=>
  by_cases hk:k+1<ss.length
  ·rw [jfP sep hk,List.length_append,List.length_append,Nat.add_mul];have:((ss.drop 1).getD k []).length≤c:=h _ (List.mem_of_mem_drop (jak (l:=ss.drop 1) (i:=k) (by rw [List.length_drop];omega)))
   omega
  ·rw [jfk,List.take_of_length_le (by rw [List.length_drop];omega)];rw [jfk,List.take_of_length_le (by rw [List.length_drop];omega)] at ih
   rw [Nat.add_mul];omega
theorem f165_c (m:Md Tryz.prog B) (h:Hp) {p:Option Addr} {n c:Nat} {ss:List Str} (rd:RdS B h 1 (.slice p n c) n (encs ss)) (hcap:n≤c) (hn:2≤n∧n≤1000) (hss: ∀s∈ss,s.length≤100000) (sep:Str) (hsep:0<sep.length∧sep.length≤100000):FnC m 165 #[.slice p n c,str sep] h fun v h'=>h'=h∧v=str (jnc sep ss):=by
 refine jae Tryz.func165 rfl rfl (l:=(.slice p n c)::(str sep)::uu73) rfl ?_
 intro cf cs K hK
 refine D161 ?_;refine rs2 ?_;refine D155 ?_;refine D11 ?_;refine rs2 ?_;refine jke rfl zq zO ?_;refine D169 ?_;refine rs2 ?_;refine jke rfl zq zO ?_;refine D169 ?_;refine D7 ?_;refine D12 ?_;refine D161 ?_;refine D186 ?_;refine D60 ?_;refine joL rfl zq zO ?_;refine D148 ?_;refine D2 ?_;refine D2 ?_
 have hqb:=quo_big (k:=n-1) zO zO
 rw [show ((n-1:Nat):Int)=(n:Int)-1 by omega] at hqb
 refine rr7 ?_;refine Zs ?_;refine D60 ?_;refine Z3 ?_;refine k_quoB rfl zq zO zL ?_;refine k_geqF rfl zq zO ?_;refine D149 ?_;refine rr9 ?_;refine Z2 ?_;refine D60 ?_;refine Z3 ?_;have hmu:0≤(sep.length:Int)*((n:Int)-1)∧(sep.length:Int)*((n:Int)-1)≤100000000:=⟨Int.mul_nonneg zO zO,by have:=Int.mul_le_mul (show (sep.length:Int)≤100000 by omega) (show (n:Int)-1≤1000 by omega) zO zO;omega⟩
 refine D73 ?_;refine Zs ?_;refine D150 ?_;refine D2 ?_
 obtain ⟨Z,hZ⟩: ∃Z:Nat,(sep.length:Int)*((n:Int)-1)=(Z:Int):=⟨((sep.length:Int)*((n:Int)-1)).toNat,by omega⟩
 have hZ0:sep.length≤Z:=by have:=Int.mul_le_mul_of_nonneg_left (show (1:Int)≤(n:Int)-1 by omega) (show 0≤(sep.length:Int) by omega);omega
 rw [Int.zero_add,hZ];have hll:=rd.elen zA
 refine rr3 ?_;refine Z3 ?_;refine D182 ?_;refine jai (fun nn l h'=> ∃(k:Nat),nn=n-k∧(k≤n)∧(∃U:Nat→Value,l=((.slice p n c)::(str sep)::(U 2)::(U 3)::(U 4)::(.int .i64 ((Z+((lens ss).take k).sum:Nat):Int))::vw33 U 6 ((.slice p n c)::(.int .i64 (n:Int))::(.int .i64 (k:Int))::vw33 U 42 [])))∧h=h') _ ⟨0,rfl,by omega,exU rfl,rfl⟩ ?_;rintro nn l h' ⟨k,rfl,hk,⟨U,rfl⟩,rfl⟩ hnext;have hlk:=lens_le hss k
 refine rs1 ?_;refine jan rfl zq (fun hc=>?_) (fun hc=>?_)
 ·refine D205 ?_;refine rs3 ?_
  obtain ⟨rd_b,rd_o,rfl⟩:=rd.ptr zO
  refine D19 ?_;refine k_ld rfl zq (rd.sat k zO zO) ?_;refine D150 ?_;refine D2 ?_
  have hsk:(ss.getD k []).length≤100000:=hss _ (jak (l:=ss) zO)
  refine rr5 ?_;refine Zs ?_;refine D60 ?_;refine Z2 ?_;refine jaF rfl zq (fun hc=>?_) (fun hc=>?_)
  ·omega
  ·refine D149 ?_;refine rr5 ?_;refine Z2 ?_;refine D60 ?_;refine Zs ?_;refine D0 ?_;refine D159 ?_
   rw [show ((Z+((lens ss).take k).sum:Nat):Int)+((ss.getD k []).length:Int)=((Z+((lens ss).take (k+1)).sum:Nat):Int) by rw [je0 _ _ (by simp [lens];omega),jl2 zO];omega];exact E10
 ·refine D175 ?_;refine rs1 ?_
  refine jau rfl zq (fun q8=>k_hp (jad ?_));refine D151 ?_
  have hkn:k=n:=by omega
  subst hkn
  obtain ⟨T,hT⟩: ∃T,T=Z+((lens ss).take k).sum:=⟨_,rfl⟩
  rw [←hT];have hs0:(ss.getD 0 []).length≤100000:=hss _ (jak (l:=ss) zO)
  refine D206 ?_;refine jcG rfl zq zK (f212_c m h (q:=q8) T zO zO) ?_
  rintro _ _ ⟨v0,M0,rfl,ho0⟩;refine D9 ?_;refine D1 ?_;refine D221 ?_
  obtain ⟨rd_b,rd_o,rfl⟩:=rd.ptr zO
  refine D19 ?_;refine k_ld rfl zq (rd.sat 0 zO zO) ?_;refine jcG rfl zq zK (f213_c m h M0 (q:=q8) (pa:=some ⟨q8,0,none⟩) (v:=v0) (t:=[]) (.inr rfl) ho0 (ss.getD 0 []) (by rw [List.length_nil];omega)) ?_
  rintro _ _ ⟨v1,M1,rfl,ho1,rfl⟩;refine D9 ?_;refine D151 ?_;refine D221 ?_;refine jgD (a:=1) rfl zq rfl zO ?_
  have rdc:=rd.cut (lo:=1) zO hcap
  rw [Nat.mul_one,←jnm] at rdc
  refine D155 ?_;refine D11 ?_
  refine jai (fun nn l h'=> ∃(j:Nat) (w:Value) (M:Hp),nn=k-1-j∧(j≤k-1)∧(OwnS 5 1 w (jfk sep ss j).length ((jfk sep ss j).map jbK) M)∧(∃U:Nat→Value,l=((.slice (some ⟨rd_b,rd_o,none⟩) k c)::(str sep)::vw6 U 2 ((.pointer (some ⟨q8,0,none⟩))::vw54 U 9 ((.slice (cutP 1 (some ⟨rd_b,rd_o,none⟩) c 1) (k-1) (c-1))::(.int .i64 ((k-1:Nat):Int))::(.int .i64 (j:Int))::vw9 U 66 []))))∧h++[bldC q8 (some ⟨q8,0,none⟩) w]++M=h') _ ⟨0,v1,M1,rfl,by omega,by rw [jip];simpa using ho1,exU rfl,rfl⟩ ?_;rintro nn l h' ⟨j,w,M,rfl,hj,ho,⟨U,rfl⟩,rfl⟩ hnext;have hjl:=joU sep (c:=100000) hsep.2 hss j
  have hdl:(ss.drop 1).length=k-1:=by rw [List.length_drop];omega
  refine rs1 ?_;refine jan rfl zq (fun hc=>?_) (fun hc=>?_)
  ·refine D191 ?_
   obtain ⟨cb,co,hcp⟩:=rdc.ptr zO
   rw [hcp] at rdc⊢
   refine rr3 ?_;refine D29 ?_;refine k_ld rfl zq (rdc.sat j zO zO) ?_;refine D150 ?_;have hdj:((ss.drop 1).getD j []).length≤100000:=hss _ (List.mem_of_mem_drop (jak (l:=ss.drop 1) zO))
   have hjb:j*(2*100000)≤1000*200000:=Nat.mul_le_mul zO zO
   refine D206 ?_;refine jcG rfl zq zK (f213_c m h M (q:=q8) (pa:=some ⟨q8,0,none⟩) (.inr rfl) ho (sep) zO) ?_
   rintro _ _ ⟨w1,M1b,rfl,ho2,rfl⟩;refine D9 ?_;refine D1 ?_;refine D206 ?_;refine jcG rfl zq zK (f213_c m h M1b (q:=q8) (pa:=some ⟨q8,0,none⟩) (.inr rfl) ho2 ((ss.drop 1).getD j []) (by rw [List.length_append];omega)) ?_
   rintro _ _ ⟨w2,M2,rfl,ho3,rfl⟩;refine D9 ?_;refine D1 ?_;refine D159 ?_
   rw [←hcp];exact m.weak jaa (hnext _ _ _ zO ⟨j+1,w2,M2,rfl,by omega,by rw [jfP sep zO];exact ho3,exU rfl,rfl⟩)
  ·refine D175 ?_;refine D2 ?_
   have hjk:j=ss.length-1:=by omega
   rw [hjk,jhp sep zO] at ho
   rw [hjk,jhp sep zO] at hjl
   have hjp:0<(jnc sep ss).length:=by rw [←jhp sep (show 0<ss.length by omega)];exact joT hsep.1 zO zO
   have hjb:(ss.length-1)*(2*100000)≤1000*200000:=Nat.mul_le_mul zO zO
   refine rr2 ?_;refine jcG rfl zq zK (f214_c m h (q:=q8) ho hjp zO) ?_;rintro _ _ ⟨rfl,rfl⟩;refine D220 ?_;refine jac (h) rfl Tryz.func165 rfl jaa ?_;refine D5 ?_
   exact ⟨rfl,rfl⟩
end Go.Proofs
namespace Go.Proofs
open Go.Lo
open Go.Conc (G)
set_option maxRecDepth 100000
set_option synthInstance.maxSize 100000
set_option synthInstance.maxHeartbeats 1000000
set_option maxHeartbeats 4000000
variable {B:Array Obj}
variable [LaidO B]
theorem jii {v:List Int} {k:Nat} (h:k<v.length):encs ((v.map jdR).take (k+1))=encs ((v.map jdR).take k)++[str (jdR (v.getD k 0))]:=by
 rw [jbH (α:=Str) (v.map jdR) k (by simpa using h),jav];congr 1
 rw [List.getD_eq_getElem?_getD,List.getElem?_map,List.getElem?_eq_getElem h,List.getD_eq_getElem?_getD,List.getElem?_eq_getElem h];rfl
theorem joe (x:Int):(jdR x).length≤2:=by
 unfold jdR digS
 split
 ·simp
 ·split<;>simp
theorem f113_c (m:Md Tryz.prog B) (h:Hp) {v:List Int} (hv:PtOk v):FnC m 113 #[.agg (ints v).toArray] h fun w h'=>h'=h∧w=str (jdZ v):=by
 refine jae Tryz.func113 rfl rfl (l:=(.agg (ints v).toArray)::uu22) rfl ?_
 intro cf cs K hK
 refine rs2 ?_;refine jaQ rfl zq (fun q1=>k_hp (jad ?_));refine D0 ?_;refine D161 ?_;refine rs2 ?_;refine jcC rfl zq hv.len ?_;refine D243 ?_
 refine jai (fun nn l h'=> ∃(k:Nat) (wp:Option Addr) (wc:Nat) (M:Hp),nn=3-k∧(k≤3)∧(OwnS 9 1 (.slice wp k wc) k (encs ((v.map jdR).take k)) M)∧(∃U:Nat→Value,l=((.agg (ints v).toArray)::(.pointer (some ⟨q1,0,none⟩))::(U 2)::(.slice wp k wc)::(U 4)::(U 5)::(.agg (ints v).toArray)::(.int .i64 (k:Int))::vw15 U 8 []))∧h++[⟨true,q1,.cells (ints v).toArray 145 (0,0)⟩]++M=h') _ ⟨0,none,0,[],rfl,by omega,by simpa [encs] using OwnS.nil,exU rfl,zS⟩ ?_;rintro nn l h' ⟨k,wp,wc,M,rfl,hk,how,⟨U,rfl⟩,rfl⟩ hnext;refine rs1 ?_;refine jan rfl zq (fun hc=>?_) (fun hc=>?_)
 ·refine D205 ?_;refine rs2 ?_;refine k_ixv rfl zq zO zO (jk8 (by rw [hv.len];omega)) ?_;refine D199 ?_
  refine jaM rfl zq (fun hc=>?_) (fun hc=>?_);refine D148 ?_;refine rr4 ?_;refine Zs ?_
  refine k_bs kdq rfl zq zA zA rfl (fun q13=>k_hp (jad ?_));rotate_left
  refine D147 ?_;refine rr6 ?_;refine Z2 ?_
  have hlo:=hv.lo k
  have hhi:=hv.hi k zO
  have hmo:=jfc (k:=k) zO
  obtain ⟨a,ha⟩: ∃a:Nat,v.getD k 0=(a:Int):=⟨(v.getD k 0).toNat,by omega⟩
  rw [ha];refine jaj (Post:=fun v=>v=_) rfl zq zK (fun H' hH=>f164_c m H' a zO) ?_;rintro v rfl;refine D9 ?_
  refine k_bs kdq rfl zq zA zA rfl (fun q18=>k_hp (jad ?_));all_goals
   refine ja3 rfl zq rfl how kdq zO zO (fun w9 n9 o9=>jad ?_);obtain ⟨p9,c9,rfl,hc9,r9⟩:=jap (B:=B) o9
   refine D0 ?_;refine D159 ?_
  ·exact m.weak jaa (hnext _ _ _ zO ⟨k+1,p9,c9,n9,rfl,by omega,by rw [jii (by rw [hv.len];omega),jdR,if_neg zO,ha,Int.toNat_natCast];exact o9,exU rfl,rfl⟩)
  ·exact m.weak jaa (hnext _ _ _ zO ⟨k+1,p9,c9,n9,rfl,by omega,by rw [jii (by rw [hv.len];omega),jdR,if_pos zO];exact o9,exU rfl,rfl⟩)
 ·refine D175 ?_;refine D186 ?_
  have hk3:k=3:=by omega
  subst hk3
  rw [List.take_of_length_le (by rw [List.length_map,hv.len];omega)] at how
  obtain ⟨p0,c0,e0,hc0,r0⟩:=jap (B:=B) how
  obtain ⟨rfl,-,rfl⟩:=Value.slice.inj e0
  refine jaj (Post:=fun w=>w=str (jdZ v)) rfl zq zK (fun H' hH=>f165_c m H' (r0.keeps (sq hH)) hc0 zO (fun s hs=>by obtain ⟨x,_,rfl⟩:=List.mem_map.1 hs;have:=joe x;omega) [45] zA) ?_;rintro w rfl;refine D220 ?_;refine jac (h) rfl Tryz.func113 rfl jaa ?_;refine D5 ?_
  exact ⟨rfl,rfl⟩
def figN (n:Nat):Str:=jdZ (jd3 n)
theorem f59_c (m:Md Tryz.prog B) (h:Hp) (x:Int):FnC m 59 #[.int .i64 x] h fun w h'=>h'=h∧w= .tuple [str (if 0≤x∧x≤959 then figN x.toNat else []),.int .i64 (if 0≤x∧x≤959 then 0 else 1)].toArray:=by
 refine jae Tryz.func59 rfl rfl (l:=(.int .i64 x)::uu9) rfl ?_
 intro cf cs K hK
 refine D152 ?_;refine D150 ?_;refine D186 ?_;refine jaj (Post:=fun v=>IsB _ v) rfl zq zK (fun H' hH=>f117_c m H' x 0 959) ?_
 rintro v (⟨hc,rfl⟩|⟨hc,rfl⟩);refine D189 ?_;refine D165 ?_
 obtain ⟨n,hn⟩: ∃n:Nat,x=(n:Int):=⟨x.toNat,by omega⟩
 subst hn
 refine rr5 ?_;refine Zs ?_;refine jaj (Post:=fun w=>w= .agg (ints (jd3 n)).toArray) rfl zq zK (fun H' hH=>f118_c m H' n zO) ?_;rintro w rfl;refine D9 ?_;refine jaj (Post:=fun v=>v=_) rfl zq zK (fun H' hH=>f113_c m H' (parts_n (n:=n) zO)) ?_
 rintro v rfl;refine D9 ?_
 rotate_left
 refine D192 ?_;refine D148 ?_;refine rs2 ?_
 all_goals
  refine D195 ?_;refine jac (h) rfl Tryz.func59 rfl jaa ?_;refine D5 ?_
 ·rw [if_neg hc,if_neg hc];exact ⟨rfl,rfl⟩
 ·rw [if_pos hc,if_pos hc];exact ⟨rfl,rfl⟩
def firstM (l:List Int):Int:=l.getD 0 0
def lastM (l:List Int):Int:=l.getD (l.length-1) 0
def lowN (v:List Int):Nat:=96*(v.getD 0 0).toNat+8*(v.getD 1 0).toNat+(v.getD 2 0).toNat
theorem low_fits {v:List Int} (hv:PtOk v):lowN v<960∧jgs v (lowN v)=true:=by
 have h0:=hv.hi 0 zA
 have h1:=hv.hi 1 zA
 have h2:=hv.hi 2 zA
 have m0:mosts.getD 0 0=9:=rfl
 have m1:mosts.getD 1 0=11:=rfl
 have m2:mosts.getD 2 0=7:=rfl
 rw [m0] at h0
 rw [m1] at h1
 rw [m2] at h2
 have l0:=hv.lo 0
 have l1:=hv.lo 1
 have l2:=hv.lo 2
 unfold lowN
 refine ⟨by omega,?_⟩
 rw [jgs,List.all_eq_true];intro j hj
 rw [List.mem_range] at hj
 simp only [Bool.or_eq_true,decide_eq_true_eq]
 rcases (by omega:j=0∨j=1∨j=2) with rfl|rfl|rfl
 ·show v.getD 0 0<0∨v.getD 0 0=(((96*(v.getD 0 0).toNat+8*(v.getD 1 0).toNat+(v.getD 2 0).toNat)/96:Nat):Int)
  omega
 ·show v.getD 1 0<0∨v.getD 1 0=(((96*(v.getD 0 0).toNat+8*(v.getD 1 0).toNat+(v.getD 2 0).toNat)/8%12:Nat):Int)
  omega
 ·show v.getD 2 0<0∨v.getD 2 0=(((96*(v.getD 0 0).toNat+8*(v.getD 1 0).toNat+(v.getD 2 0).toNat)%8:Nat):Int)
  omega
theorem mea_pos {v:List Int} (hv:PtOk v):0<(meaP v).length:=by
 obtain ⟨h1,h2⟩:=low_fits hv
 exact List.length_pos_of_mem (List.mem_map.2 ⟨lowN v,List.mem_filter.2 ⟨List.mem_range.2 h1,h2⟩,rfl⟩)
theorem mea_le (v:List Int):(meaP v).length≤960:=jou v 960
theorem f62_c (m:Md Tryz.prog B) (h:Hp) (s:Str) (hl:s.length≤100000):FnC m 62 #[str s] h fun w h'=>h'=h∧w= .tuple [.int .i64 (if jaY s then firstM (meaS s) else 0),.int .i64 (if jaY s then lastM (meaS s) else 0),.int .i64 (if jaY s then ((meaS s).length:Int) else 0),.int .i64 (if jaY s then 0 else 3)].toArray:=by
 refine jae Tryz.func62 rfl rfl (l:=(str s)::uu28) rfl ?_
 intro cf cs K hK
 refine D196 ?_;refine D0 ?_;refine rs8 ?_;refine Zs ?_;refine jaj (Post:=fun v=>v=_) rfl zq zK (fun H' hH=>f119_c m H' s hl) ?_
 rintro v rfl;refine D9 ?_;refine Z3 ?_
 refine jau rfl zq (fun q6=>k_hp (jad ?_));refine jd9 rfl zq (jaW s).len (by rw [(jaW s).len];rfl) ?_;refine D150 ?_;refine D2 ?_;cases hfo:jaY s
 refine D206 ?_;refine D40 ?_;refine D148 ?_;refine D221 ?_
 rotate_left
 refine D206 ?_;refine D38 ?_;refine D149 ?_;refine rs3 ?_;refine jcC rfl zq (jaW s).len ?_;refine jaS rfl zq zK (Post:=fun w new=>OwnS 3 1 w (meaP (jar s)).length (ints (meaP (jar s))) new) (fun H' hH=>f120_c m H' (jaW s)) ?_
 rintro w n17 o17;refine jaI (jad ?_);obtain ⟨p17,c17,rfl,hc17,r17⟩:=jap (B:=B) o17
 have hmp:=mea_pos (jaW s)
 have hml:=mea_le (jar s)
 refine D150 ?_;refine jaq [(0,.pure),(1,.pure),(3,.pure),(4,.pure),(5,.pure),(6,.pure),(7,.pure),(9,.pure),(10,.pure),(2,.read),(11,.pure),(8,.read),(12,.pure),(13,.pure),(14,.pure)] zK zK (List.Sublist.refl _) ?_;refine Zs ?_
 obtain ⟨r17_b,r17_o,rfl⟩:=r17.ptr zO
 refine D19 ?_;refine Z4 ?_;refine D29 ?_;refine Z2 ?_;refine k_ld rfl zq (r17.iat 0 zO zO) ?_;refine Zs ?_;refine k_ld rfl zq (r17.iat ((meaP (jar s)).length-1) zO zO) ?_
 all_goals
  refine Z2 ?_;refine D146 ?_;refine jac (h) rfl Tryz.func62 rfl jaa ?_;refine D5 ?_
 ·have hme:meaS s=meaP (jar s):=by rw [meaS,if_pos hfo]
  rw [if_pos hfo,if_pos hfo,if_pos hfo,if_pos hfo,hme];exact ⟨rfl,rfl⟩
 ·rw [if_neg (by simp [hfo]),if_neg (by simp [hfo]),if_neg (by simp [hfo]),if_neg (by simp [hfo])];exact ⟨rfl,rfl⟩
end Go.Proofs
