/- A part of the proof of a law: my own separation logic over the machine, and walks of the program. Condition of each theorem: as its statement says. -/
import Derived.Test.YtnejmahckmhflaaGreatDoorWB9
set_option linter.all false
namespace Go.Lo
theorem rootN_mono {n m:Nat} (h:n≤m):rootN n≤rootN m:=by
 rcases Nat.lt_or_ge (rootN m) (rootN n) with h1|h1
 ·have h2:=sq_le (show rootN m+1≤rootN n by omega)
  have h3:=(rootN_spec m).2
  have h4:=(rootN_spec n).1
  omega
 ·exact h1
end Go.Lo
namespace Go.Proofs
open Go.Lo
open Go.Conc (G)
set_option maxRecDepth 100000
set_option synthInstance.maxHeartbeats 1000000
section
variable {P:Program} {B:Array Obj} {m:Md P B} {ops:Array Oper} {l l':List Value} {S h h' H:Hp} {C:List Value→Hp→Prop} {i:Nat} {kd:Kd} {r:List (Nat×Kd)}
 {d:Option Tmp} {ty:TypeId} {pos:String} {af:Array Edge} {g:Option (Nat×Bool)}
theorem k_leqT {t u:TypeId} {x y:Operand} {a b:Int} {k:IntKind} (ho:ops[i]?=some ⟨d,.binOp .leq t x y u,ty,pos,af,g⟩) (hw:Wt ops l g) [kh:KHeap kd S h H] [ex:OpV l x (.int k a)] [ey:OpV l y (.int k b)] (e:a≤b) [pt:PutV l d (.bool true) l'] (q:RegK m S ops r l' h C):RegK m S ops ((i,kd)::r) l h C:=by
 have pq:=pt;rw [←decide_eq_true e] at pq;exact k_leq (l':=l') ho hw q
theorem k_gtrT {t u:TypeId} {x y:Operand} {a b:Int} {k:IntKind} (ho:ops[i]?=some ⟨d,.binOp .gtr t x y u,ty,pos,af,g⟩) (hw:Wt ops l g) [kh:KHeap kd S h H] [ex:OpV l x (.int k a)] [ey:OpV l y (.int k b)] (e:b<a) [pt:PutV l d (.bool true) l'] (q:RegK m S ops r l' h C):RegK m S ops ((i,kd)::r) l h C:=by
 have pq:=pt;rw [←decide_eq_true e] at pq;exact k_gtr (l':=l') ho hw q
end
end Go.Proofs
namespace Go.Proofs
open Go.Lo
open Go.Conc (G)
set_option maxRecDepth 100000
set_option synthInstance.maxSize 100000
set_option synthInstance.maxHeartbeats 1000000
set_option maxHeartbeats 4000000
variable {B:Array Obj}
variable [LaidF B]
theorem root_facts (a:Nat) (h:a≤999999):(0:Int)≤(rootN a:Int)∧(rootN a:Int)≤1000∧(rootN a:Int)*(rootN a:Int)≤(a:Int)∧(a:Int)<((rootN a:Int)+1)*((rootN a:Int)+1)∧((rootN a:Int)+1)*((rootN a:Int)+1)≤1002001∧(0:Int)≤(rootN a:Int)*(rootN a:Int):=by
 obtain ⟨h1,h2⟩:=rootN_spec a
 have h3:rootN a<1000:=rootN_lt (by omega)
 have h4:(rootN a+1)*(rootN a+1)≤1002001:=Nat.le_trans (Nat.mul_le_mul (show rootN a+1≤1001 by omega) (show rootN a+1≤1001 by omega)) (by decide)
 refine ⟨by omega,by omega,by exact_mod_cast h1,by exact_mod_cast h2,by have h:=Int.ofNat_le.2 h4;rw [Int.natCast_mul,Int.natCast_add] at h;exact h,by exact_mod_cast Nat.zero_le (rootN a*rootN a)⟩
theorem rootI_nat (a:Nat):rootI (a:Int)=(rootN a:Int):=by rw [rootI,Int.toNat_natCast]
theorem f7_t (h:Hp) (x y:Nat) (hx:x≤4294967295) (hy:y≤4294967295):(Md.starS Tryz.prog B).R (AtEnd Tryz.prog B fun v _=>v= .bool true) (G (Frame.enter Tryz.prog 7 #[.int .u32 (x:Int),.int .u32 (y:Int)] .normal) []) h:=by
 refine top_enter Tryz.func7 rfl rfl (l:=(.int .u32 (x:Int))::(.int .u32 (y:Int))::uu80) rfl ?_
 refine d82 ?_;refine rs8 ?_;refine mq rfl ?_
 refine k_conv rfl zq (by kernel_rfl) (n':=(x:Int)) (by unfold IntKind.wrap;simp [IntKind.bits,IntKind.signed];omega) ?_;refine k_remT rfl zq (by decide) ?_;rw [show (x:Int).tmod 1000000=((x%1000000:Nat):Int) from (Int.ofNat_tmod x 1000000).symm];refine mq rfl ?_
 refine k_conv rfl zq (by kernel_rfl) (n':=(y:Int)) (by unfold IntKind.wrap;simp [IntKind.bits,IntKind.signed];omega) ?_;refine k_remT rfl zq (by decide) ?_;rw [show (y:Int).tmod 1000000=((y%1000000:Nat):Int) from (Int.ofNat_tmod y 1000000).symm];refine d97 ?_
 obtain ⟨a,ha⟩: ∃a,a=x%1000000:=⟨_,rfl⟩
 obtain ⟨b,hb⟩: ∃b,b=y%1000000:=⟨_,rfl⟩
 rw [←ha,←hb];have ha2:a≤999999:=by omega
 have hb2:b≤999999:=by omega
 obtain ⟨f1,f2,f3,f4,f5,f6⟩:=root_facts a ha2
 refine rr7 ?_;refine mq rfl ?_;refine k_calP (Post:=fun v=>v= .tuple [.int .i64 (rootN a:Int),.int .i64 0].toArray) rfl zq (by kernel_rfl) (fun H' hH=>by have:=f19_c (Md.starS Tryz.prog B) H' (a:Int);rw [if_pos (by omega),if_pos (by omega),rootI_nat] at this;exact this) ?_;rintro v rfl;refine d134 ?_;refine rs7 ?_;refine mq rfl ?_
 refine k_calP (Post:=fun v=>v= .tuple [.int .i64 (rootN b:Int),.int .i64 0].toArray) rfl zq (by kernel_rfl) (fun H' hH=>by have:=f19_c (Md.starS Tryz.prog B) H' (b:Int);rw [if_pos (by omega),if_pos (by omega),rootI_nat] at this;exact this) ?_;rintro v rfl;refine d134 ?_;refine rs8 ?_;refine d36 ?_
 refine k_calP (Post:=fun v=>v= .tuple [.int .i64 0,.int .i64 1].toArray) rfl zq (by kernel_rfl) (fun H' hH=>by have:=f19_c (Md.starS Tryz.prog B) H' (-1-(a:Int));rw [if_neg (by omega),if_neg (by omega)] at this;exact this) ?_;rintro v rfl;refine d78 ?_;refine d97 ?_
 refine run_region [(0,.free),(1,.free),(2,.free),(3,.free),(4,.free),(5,.free),(6,.free),(7,.free),(8,.free),(9,.free),(10,.free),(11,.free),(12,.free),(13,.free),(14,.free),(15,.free),(16,.free),(17,.free),(18,.free),(19,.free),(20,.free),(21,.free),(22,.free),(23,.free),(24,.free),(25,.free),(26,.free),(27,.free),(28,.free),(29,.free),(30,.free),(31,.free),(32,.free),(33,.free),(34,.free),(35,.free),(36,.free),(37,.free),(38,.free),(39,.free),(40,.free),(41,.free),(42,.free),(43,.free),(44,.free),(45,.free),(46,.free),(47,.free)] (by kernel_rfl) (by kernel_rfl) ?_;refine mq rfl ?_;refine k_eqlT rfl zq (by decide) ?_;refine d23 ?_;refine d117 ?_;refine d23 ?_;refine d117 ?_;refine d23 ?_;refine d117 ?_;refine d23 ?_
 refine k_calP (Post:=fun v=>IsB _ v) rfl rfl (by kernel_rfl) (fun H' hH=>f55_c _ H' _ _ _) ?_;rintro v (⟨hc,rfl⟩|⟨hc,rfl⟩)
 ·refine k_put ?_;refine k_pickT rfl zq ?_;refine d23 ?_;refine k_mv rfl rfl ?_;refine k_mul rfl rfl (by unfold In64;omega) ?_;refine k_mv rfl rfl ?_;refine k_leqT rfl rfl f3 ?_;refine k_pickT rfl zq ?_;refine d23 ?_;refine k_add rfl rfl (by unfold In64;omega) ?_;refine k_mv rfl rfl ?_;refine k_add rfl rfl (by unfold In64;omega) ?_;refine k_mul rfl rfl (by unfold In64;omega) ?_;refine k_mv rfl rfl ?_;refine k_gtrT rfl rfl f4 ?_;refine k_pickT rfl zq ?_;refine d23 ?_;refine k_mv rfl rfl ?_;refine k_gtrS rfl rfl (fun hc=>?_) (fun hc=>?_)
  ·refine k_mv rfl rfl ?_;refine d5 ?_;refine k_off rfl rfl ?_;refine k_pickT rfl rfl ?_;refine k_pickT rfl zq ?_;refine mq rfl ?_;refine k_cal rfl rfl (by kernel_rfl) (f18_c _) ?_;rintro v h' ⟨nF,rfl,rfl⟩;refine k_put ?_;refine d92 ?_;refine run_top rfl Tryz.func7 (by kernel_rfl) rfl ?_;rfl
  ·refine k_mv rfl rfl ?_;refine k_mv rfl rfl ?_;refine k_mv rfl rfl ?_;refine k_leqT rfl rfl (by have:=rootN_mono (show a≤b by omega);omega) ?_;refine k_pickF rfl rfl ?_;refine k_pickT rfl zq ?_;refine mq rfl ?_;refine k_cal rfl rfl (by kernel_rfl) (f18_c _) ?_;rintro v h' ⟨nF,rfl,rfl⟩;refine k_put ?_;refine d92 ?_;refine run_top rfl Tryz.func7 (by kernel_rfl) rfl ?_;rfl
 ·refine k_put ?_;exact absurd ⟨f1,f2⟩ hc
end Go.Proofs
