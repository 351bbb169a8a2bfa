/- A part of the proof of a law: my own separation logic over the machine, and walks of the program. Condition of each theorem: as its statement says. -/
import Derived.Test.YtggpepeiedkbbaaGreatDoorVLOround8
import Derived.SevenTiedAt
import Derived.LaidOnce
import Derived.LaidSub
import Derived.Test.YtggpepeiedkbbaaGreatDoorCards
import Derived.Test.YtggpepeiedkbbaaGreatDoorTie
set_option linter.all false
namespace Go.Proofs
open Go.Lo
open Go.Conc (G)
set_option maxRecDepth 100000
set_option synthInstance.maxSize 100000
set_option synthInstance.maxHeartbeats 1000000
set_option maxHeartbeats 4000000
variable {B:Array Obj}
variable [LaidO B]
def jh7 (N:Nat) (hit:Nat→Bool) (q6 ch:Nat):Crew:=⟨N,hit,fun k v hp=>OwnS 3 1 v (jba k 12).length (ints (jba k 12)) hp,q6,203,ch⟩
theorem callB154:jbg Tryz.prog 154=true:=by kernel_rfl
theorem callB157:jbg Tryz.prog 157=true:=by kernel_rfl
theorem jdt:(kidF Tryz.prog).catches Tryz.prog=false:=by kernel_rfl
def Asks (B:Array Obj) (gv:Value) (hb:Hp) (N:Nat) (hit:Nat→Bool):Prop:= ∀(m:Md Tryz.prog B) (k:Nat) (H':Hp),k<N→hb.Sublist H'→CallV m gv [.int .u64 (k:Int)] H' fun v h'=>h'=H'∧IsB (hit k=true) v
theorem kid154 {hb:Hp} {gv:Value} {q3 q5 q6 q7 ch N kn i:Nat} {hit:Nat→Bool} (hN:N≤4096) (hk:kn<N) (hg:Asks B gv hb N hit):
  ((SyC.kid Tryz.prog B (jh7 N hit q6 ch).pro i).im 0 (.w kn .on false) (hb++[⟨false,q3,.cells [gv].toArray 141 (0,0)⟩,⟨false,q5,.cells [.chan (some ch)].toArray 193 (0,0)⟩,⟨true,q7,.cells [.int .u64 (kn:Int)].toArray 134 (0,0)⟩])).R (kid0 Tryz.prog {target:= .fn (.func 154) [.pointer (some ⟨q6,0,none⟩),.pointer (some ⟨q3,0,none⟩),.pointer (some ⟨q7,0,none⟩),.pointer (some ⟨q5,0,none⟩)].toArray,args:= #[]++ #[]}):=by
 have hM:(jh7 N hit q6 ch).n≤4100:=show N≤4100 by omega
 refine jhl (hg:=fun e=>e) (al:=[.pointer (some ⟨q6,0,none⟩),.pointer (some ⟨q3,0,none⟩),.pointer (some ⟨q7,0,none⟩),.pointer (some ⟨q5,0,none⟩)]) (l:=(.pointer (some ⟨q6,0,none⟩))::(.pointer (some ⟨q3,0,none⟩))::(.pointer (some ⟨q7,0,none⟩))::(.pointer (some ⟨q5,0,none⟩))::uu6) callB154 Tryz.func154 rfl rfl rfl rfl ?_;refine Md.kidC.to (hg:=fun e=>e) ?_;refine D3 ?_;refine Md.kidC.of ?_;refine D18 ?_;refine jjR rfl zq rfl zA ?_;refine D12 ?_;refine Md.kidC.to (hg:=fun e=>e) ?_;refine D170 ?_;refine je7 rfl zq (hg _ kn _ hk SubH.sub) ?_
 rintro _ _ ⟨rfl,⟨hc,rfl⟩|⟨hc,rfl⟩⟩
 ·refine D7 ?_;refine D121 ?_;refine jmq 3 [(0,.read),(1,.read),(2,.call)] [0,1,2,3] zK zK zK (List.Sublist.refl _) ?_;refine Z2 ?_;refine jaV rfl zq zK (fun H' hH=>f156_c _ H' kn zO) ?_
  rintro v new ov;refine D7 ?_;refine D1 ?_;refine Md.kidC.of ?_;refine SyC.weaken (h':=[]++new) (by rw [List.nil_append];exact jaa) ?_;refine y_send (hr:=[]) (hp:=new) rfl hc ov ?_;refine D12 ?_;refine jlD rfl ?_
  exact jnQ hM (fun _=>rfl) rfl Tryz.func154 rfl rfl jdt
 ·refine D7 ?_;refine D119 ?_;refine Md.kidC.of ?_;refine jlD rfl ?_
  exact jnQ hM (fun e=>absurd e hc) rfl Tryz.func154 rfl rfl jdt
theorem kid157 {hb:Hp} {q5 q6 ch N i:Nat} {hit:Nat→Bool} (hN:N≤4096):
  ((SyC.kid Tryz.prog B (jh7 N hit q6 ch).pro i).im 0 (.c (.look N)) (hb++[⟨false,q5,.cells [.chan (some ch)].toArray 193 (0,0)⟩])).R (kid0 Tryz.prog {target:= .fn (.func 157) [.pointer (some ⟨q6,0,none⟩),.pointer (some ⟨q5,0,none⟩)].toArray,args:= #[]++ #[]}):=by
 have hM:(jh7 N hit q6 ch).n≤4100:=show N≤4100 by omega
 refine jhl (hg:=fun e=>e) (al:=[.pointer (some ⟨q6,0,none⟩),.pointer (some ⟨q5,0,none⟩)]) (l:=[.pointer (some ⟨q6,0,none⟩),.pointer (some ⟨q5,0,none⟩),undef,undef]) callB157 Tryz.func157 rfl rfl rfl rfl ?_;refine Md.kidC.to (hg:=fun e=>e) ?_;refine D3 ?_;refine Md.kidC.of ?_;refine D18 ?_
 refine i_cal rfl zq zK (waitC_c hM ?_);refine jfa rfl ?_;refine D12 ?_;refine Md.kidC.to (hg:=fun e=>e) ?_;refine D112 ?_;refine Zs ?_;refine D1 ?_;refine Md.kidC.of ?_;refine SyC.weaken (h':=[]) (Weak.sub (List.nil_sublist _)) ?_;refine y_close zA rfl ?_;show (Im.quit Tryz.prog 0).R _
 refine D12 ?_;refine jlD rfl ?_
 exact jkp rfl Tryz.func157 rfl rfl jdt
theorem jd6 {mm k:Nat} (h:mm<2^k):jeo (jba mm k)=mm:=by
 refine Nat.eq_of_testBit_eq fun i=>?_
 rw [jml fun z hz=>by obtain ⟨j,_,rfl,_⟩:=jcn.1 hz;omega];by_cases hi:i<k
 ·by_cases hb:mm.testBit i=true
  ·rw [hb,decide_eq_true_iff];exact jcn.2 ⟨i,hi,rfl,(jb0 mm i).2 hb⟩
  ·rw [Bool.not_eq_true] at hb
   rw [hb,decide_eq_false_iff_not];intro hz
   obtain ⟨j,_,e,h2⟩:=jcn.1 hz
   obtain rfl:i=j:=by omega
   rw [(jb0 mm i).1 h2] at hb
   cases hb
 ·have h1:mm.testBit i=false:=Nat.testBit_lt_two_pow (Nat.lt_of_lt_of_le h (Nat.pow_le_pow_right zO zO))
  rw [h1,decide_eq_false_iff_not];intro hz
  obtain ⟨j,hj,e,_⟩:=jcn.1 hz
  omega
theorem keptI_in {mm n k:Nat} (h:mm<2^n): ∀x∈jba mm k,0≤x∧x<(n:Int):=fun x hx=>by
 obtain ⟨j,_,rfl,h2⟩:=jcn.1 hx
 refine ⟨by omega,?_⟩
 rcases Nat.lt_or_ge j n with hj|hj
 ·omega
 ·have:=Nat.testBit_lt_two_pow (Nat.lt_of_lt_of_le h (Nat.pow_le_pow_right (show 0<2 by omega) hj))
  rw [(jb0 mm j).1 h2] at this
  cases this
def llW (got:List Nat):List (List Int):=got.map fun k=>jba k 12
theorem jkD (got:List Nat) (k:Nat):llW (got++[k])=llW got++[jba k 12]:=by simp [llW]
theorem llW_len (got:List Nat):(llW got).length=got.length:=List.length_map _
theorem got_le {got:List Nat} {n:Nat} (h: ∀k∈got,k<n) (hd:got.Nodup):got.length≤n:=by
 have:=List.Nodup.length_le_of_subset (l₂:=List.range n) hd fun z hz=>List.mem_range.2 (h z hz)
 rwa [List.length_range] at this
theorem jlI {n:Nat} {hit:Nat→Bool} {got:List Nat} (hn:n≤12) (hall: ∀k,k∈got↔k<2^n∧hit k=true) (h1:hit (2^n-1)=true):jeU (fun l=>hit (jeo l)=true) n (jfi (jba (2^n-1) 12) (llW got)):=by
 obtain ⟨hm,hb⟩:=jgQ (llW got) (jba (2^n-1) 12)
 have hp:0<2^n:=Nat.two_pow_pos n
 have h12:2^n≤2^12:=Nat.pow_le_pow_right zO hn
 obtain ⟨k,hk,hh,e⟩: ∃k,k<2^n∧hit k=true∧jfi (jba (2^n-1) 12) (llW got)=jba k 12:=by
  rcases List.mem_cons.1 hm with hm|hm
  ·exact ⟨2^n-1,by omega,h1,hm⟩
  ·obtain ⟨k,hk,e⟩:=List.mem_map.1 hm
   obtain ⟨h2,h3⟩:=(hall k).1 hk
   exact ⟨k,h2,h3,e.symm⟩
 rw [e] at hb⊢
 refine ⟨jjs _ _,keptI_in hk,by show hit (jeo _)=true;rw [jd6 zO];exact hh,fun xs ha hx hxs=>?_⟩
 obtain ⟨mm,hmm,rfl⟩:=jmZ ha (n:=12) fun x hx'=>by have:=hx x hx';omega
 have hlt:mm<2^n:=by
  refine Classical.byContradiction fun hge=>?_
  obtain ⟨i,hi,hbit⟩:=Nat.exists_ge_and_testBit_of_ge_two_pow (show 2^n≤mm by omega)
  have hi12:i<12:=by
   refine Classical.byContradiction fun h=>?_
   have:=Nat.testBit_lt_two_pow (Nat.lt_of_lt_of_le hmm (Nat.pow_le_pow_right (show 0<2 by omega) (show 12≤i by omega)))
   rw [hbit] at this
   cases this
  have:=hx _ (jcn.2 ⟨i,hi12,rfl,(jb0 mm i).2 hbit⟩)
  omega
 have hxs':hit (jeo (jba mm 12))=true:=hxs
 rw [jd6 hmm] at hxs'
 exact hb _ (List.mem_cons_of_mem _ (List.mem_map.2 ⟨mm,(hall mm).2 ⟨hlt,hxs'⟩,rfl⟩))
theorem run_midC {P:Program} {B:Array Obj} {K:Goroutine→Hp→Prop} {C:Crew} {g:Goroutine} {h':Hp} (n:((SyC.zero P B C.pro K).im 0 (.m C.n .idle [] false) h').R g):(Md.starC P B).R K g (h'++[C.wgC 0 0 0]++[⟨true,C.ch,.chan 0 #[] false 0 0 false⟩]):=jk4 n
theorem run_putm {P:Program} {B:Array Obj} {m:Md P B} {K:Goroutine→Hp→Prop} {b:Frame} {l l':List Value} {ds:List Deferred} {k:List Item} {cs:List Frame} {h:Hp} {d:Option Tmp} {v:Value} [p:PutV l d v l'] (n:m.R K (Gr b l' ds k cs) h):m.R K (Gr b (put l d v) ds k cs) h:=by rw [p.eq];exact n
theorem weakOff3 {B:Array Obj} {h' F1 F2 F3 H X Y Z:Hp} [a:Off h' Z F1] [b:Off F1 Y F2] [c:Off F2 X F3] [s:SubH H F3]:Weak B h' (H++X++Y++Z):=
 Weak.trans (Weak.perm a.perm) (Weak.apps (Weak.trans (Weak.perm b.perm) (Weak.apps (Weak.trans (Weak.perm c.perm) (Weak.apps (Weak.sub s.sub) X)) Y)) Z)
theorem apAll {F H:Hp} (hF: ∀c∈F,c.rw=false) (hH: ∀c∈H,c.rw=false):ApH F H:=fun c hc d hd hr=>by rw [hF c hc,hH d hd] at hr;simp at hr
section
variable {P:Program} {m:Md P B} {ops:Array Oper} {l l':List Value} {S h h' H:Hp} {C:List Value→Hp→Prop} {i:Nat} {kd:Kd} {r:List (Nat×Kd)} {d:Option Tmp} {ty:TypeId} {pos:String} {af:Array Edge} {g:Option (Nat×Bool)}
omit [LaidO B] in
theorem k_addW {k:IntKind} {t u:TypeId} {x y:Operand} {a b:Int} (z:Int) (ho:ops[i]?=some ⟨d,.binOp .add t x y u,ty,pos,af,g⟩) (hw:Wt ops l g) [KHeap kd S h H] [ex:OpV l x (.int k a)] [ey:OpV l y (.int k b)] (hr:k.wrap (a+b)=z) [PutV l d (.int k z) l']
  (n:RegK m S ops r l' h C):RegK m S ops ((i,kd)::r) l h C:=
 RegK.rd (v:= .int k z) ho hw (jaF ex.eq ey.eq zD (by simp [binOp,Op.intArith,hr];rfl)) n
end
theorem jj8 {n:Nat} (h:n<5000):IntKind.wrap .u64 ((n:Nat):Int)=(n:Int):=by
 simp [IntKind.wrap,IntKind.bits,IntKind.signed]
 omega
theorem jjT {h:Hp} {N:Nat} {hit:Nat→Bool} {q3 q5 q6 ch:Nat} {c3 c5:Array Value}:Weak B (h++[⟨true,q3,.cells c3 141 (0,0)⟩]++[⟨true,ch,.chan 0 #[] false 0 0 false⟩,⟨true,q5,.cells c5 193 (0,0)⟩,⟨true,q6,.cells ([.int .u64 0,.int .u32 0]:List Value).toArray 203 (0,0)⟩]) ((ro h++[⟨false,q3,.cells c3 141 (0,0)⟩,⟨false,q5,.cells c5 193 (0,0)⟩])++[(jh7 N hit q6 ch).wgC 0 0 0]++[⟨true,ch,.chan 0 #[] false 0 0 false⟩]):=by
 have h0:Weak B (h++[⟨true,q3,.cells c3 141 (0,0)⟩]++[⟨true,ch,.chan 0 #[] false 0 0 false⟩,⟨true,q5,.cells c5 193 (0,0)⟩,⟨true,q6,.cells ([.int .u64 0,.int .u32 0]:List Value).toArray 203 (0,0)⟩]) ((h++[⟨true,q3,.cells c3 141 (0,0)⟩,⟨true,q5,.cells c5 193 (0,0)⟩])++[⟨true,q6,.cells ([.int .u64 0,.int .u32 0]:List Value).toArray 203 (0,0)⟩,⟨true,ch,.chan 0 #[] false 0 0 false⟩]):=by
  refine Weak.perm ?_
  simp only [List.append_assoc,List.cons_append,List.nil_append]
  refine List.Perm.append_left _ (.cons _ ?_)
  exact List.perm_append_comm (l₁:=[_]) (l₂:=[_,_])
 refine h0.trans ?_
 have h1:=jlX (B:=B) (h++[⟨true,q3,.cells c3 141 (0,0)⟩,⟨true,q5,.cells c5 193 (0,0)⟩]) [⟨true,q6,.cells ([.int .u64 0,.int .u32 0]:List Value).toArray 203 (0,0)⟩,⟨true,ch,.chan 0 #[] false 0 0 false⟩]
 refine Weak.trans h1 ?_;refine Weak.perm ?_
 simp only [ro,List.map_append,List.map_cons,List.map_nil,List.append_assoc,List.cons_append,List.nil_append]
 exact .refl _
theorem f103_c (h:Hp) {b:Tb} {q:Nat} {tv:List Value} (sh:Sheet B h b q tv) {gv:Value} [cgv:CellsV gv [gv]] {hit:Nat→Bool} (hg:Asks B gv (ro h) (2^(jad b).length) hit) (hh1:hit (2^(jad b).length-1)=true):FnC (Md.starC Tryz.prog B) 103 #[.pointer (some ⟨q,0,none⟩),gv] h fun v h'=> ∃nw,h'=ro h++nw∧ ∃g,RdI B h' v g∧jeU (fun l=>hit (jeo l)=true) (jad b).length g:=by
 have h12:=sh.twelve
 obtain ⟨pc,cc,hcv,hcc,hcr⟩:=sh.cells
 have hp0:0<2^(jad b).length:=Nat.two_pow_pos _
 have hp12:2^(jad b).length≤2^12:=Nat.pow_le_pow_right zO h12
 obtain ⟨N,hN⟩: ∃N:Nat,N=2^(jad b).length:=⟨_,rfl⟩
 rw [←hN] at hg
 have hM: ∀q6 ch,(jh7 N hit q6 ch).n≤4100:=fun _ _=>show N≤4100 by omega
 refine jae Tryz.func103 rfl rfl (l:=(.pointer (some ⟨q,0,none⟩))::gv::uu40) rfl ?_
 intro cf cs K hK
 refine rs2 ?_;refine jaP rfl zq (fun q3=>k_hp (jab ?_));refine D0 ?_;refine rs3 ?_
 refine k_mkchan (.inl rfl) rfl zq zK (fun ch=>jab ?_);refine jat rfl zq (fun q5=>k_hp (jab ?_));refine D142 ?_;refine rs1 ?_
 refine jat rfl zq (fun q6=>k_hp (jab ?_));refine D120 ?_;refine rs8 ?_;refine Zs ?_
 refine jai rfl zq ?_;refine Zs ?_;refine D73 ?_;refine Zs ?_;refine D94 ?_
 rintro v rfl;refine D7 ?_;refine k_addW (N:Int) rfl zq (by rw [show ((2^(jad b).length-1:Nat):Int)+1=((N:Nat):Int) by omega];exact jj8 zO) ?_;refine D195 ?_;refine (Md.starC Tryz.prog B).weak (h':=(ro h++[⟨false,q3,.cells [gv].toArray 141 (0,0)⟩,⟨false,q5,.cells [.chan (some ch)].toArray 193 (0,0)⟩])++[(jh7 N hit q6 ch).wgC 0 0 0]++[⟨true,ch,.chan 0 #[] false 0 0 false⟩]) jjT ?_;refine run_midC (C:=(jh7 N hit q6 ch)) ?_;refine jlW (fun nn D' s' h' l'=> ∃(t:Nat),D'=0∧s'= .m (N-t) .idle [] false∧ro h++[⟨false,q3,.cells [gv].toArray 141 (0,0)⟩,⟨false,q5,.cells [.chan (some ch)].toArray 193 (0,0)⟩]=h'∧nn=N-t∧t≤N∧ ∃U:Nat→Value,l'=((.pointer (some ⟨q,0,none⟩))::gv::(U 2)::(.pointer (some ⟨q3,0,none⟩))::(.slice none 0 0)::(.pointer (some ⟨q5,0,none⟩))::(.pointer (some ⟨q6,0,none⟩))::vw10 U 7 ((.int .u64 (N:Int))::(.int .u64 (t:Int))::vw23 U 19 []))) _ ⟨0,rfl,rfl,rfl,rfl,by omega,exU rfl⟩ ?_
 rintro nn _ _ _ _ ⟨t,rfl,rfl,rfl,rfl,ht,U,rfl⟩ hnext1;refine Md.midC.to ?_
 try dsimp only
 refine rs1 ?_;refine jaq rfl zq (fun hc=>?_) (fun hc=>?_)
 ·refine D135 ?_;refine D151 ?_
  refine jat rfl zq (fun q7=>k_hp (jab ?_));refine D26 ?_;refine D120 ?_
  obtain ⟨r,hr⟩: ∃r,N-t=r+1:=⟨N-t-1,by omega⟩
  rw [hr];refine Md.midC.of ?_;refine D18 ?_
  refine i_cal rfl zq zK (addZ_c rfl (hM q6 ch) ?_);refine jfa rfl ?_;refine D12 ?_;refine Md.midC.to ?_;refine D112 ?_;refine jfF rfl zq ?_;refine D1 ?_;refine Md.midC.of ?_;refine jk3 (h':=ro h++[⟨false,q3,.cells [gv].toArray 141 (0,0)⟩,⟨false,q5,.cells [.chan (some ch)].toArray 193 (0,0)⟩]) (hc:=ro h++[⟨false,q3,.cells [gv].toArray 141 (0,0)⟩,⟨false,q5,.cells [.chan (some ch)].toArray 193 (0,0)⟩,⟨true,q7,.cells [.int .u64 (t:Int)].toArray 134 (0,0)⟩]) rfl (show r+1≤N by omega) jaa jaa (fun w sw=>?_) (fun j hj=>by
   rw [show (jh7 N hit q6 ch).n-(r+1)=t from (by omega:N-(r+1)=t)];exact kid154 zO zO hg) ?_
  ·refine ap_last (F:=ro h++[⟨false,q3,.cells [gv].toArray 141 (0,0)⟩,⟨false,q5,.cells [.chan (some ch)].toArray 193 (0,0)⟩]) (q:=q7) (o:= .cells [.int .u64 (t:Int)].toArray 134 (0,0)) (by simpa using sw) (fun c hc=>?_) (fun d hd hr=>?_)
   ·rcases List.mem_append.1 hc with hc|hc
    ·exact (jf5 hc).1
    ·simp only [List.mem_cons,List.not_mem_nil,or_false] at hc
     rcases hc with rfl|rfl<;>rfl
   ·rcases List.mem_append.1 hd with hd|hd
    ·rw [(jf5 hd).1] at hr
     cases hr
    ·simp only [List.mem_cons,List.not_mem_nil,or_false] at hd
     rcases hd with rfl|rfl|rfl
     ·cases hr
     ·cases hr
     ·rfl
  refine Md.midC.to ?_;refine jaS ?_;refine D17 ?_;refine rr2 ?_;refine k_addW ((t+1:Nat):Int) rfl zq (by rw [show (t:Int)+1=((t+1:Nat):Int) by omega];exact jj8 zO) ?_;refine Zs ?_;refine D1 ?_;refine Md.midC.of ?_;refine SyC.weaken (h':=ro h++[⟨false,q3,.cells [gv].toArray 141 (0,0)⟩,⟨false,q5,.cells [.chan (some ch)].toArray 193 (0,0)⟩]) jaa ?_
  exact hnext1 _ _ _ _ _ zO ⟨t+1,rfl,by rw [show r=N-(t+1) by omega],rfl,rfl,by omega,exU rfl⟩
 ·refine D137 ?_;refine D3 ?_
  obtain rfl:N=t:=by omega
  rw [Nat.sub_self];refine D112 ?_;refine jfF rfl zq ?_;refine D1 ?_;refine Md.midC.of ?_
  refine jjv (h':=ro h++[⟨false,q3,.cells [gv].toArray 141 (0,0)⟩,⟨false,q5,.cells [.chan (some ch)].toArray 193 (0,0)⟩]) (hc:=ro h++[⟨false,q5,.cells [.chan (some ch)].toArray 193 (0,0)⟩]) rfl jaa jaa (fun w sw=>?_) (fun j hj=>kid157 zO) ?_
  ·refine apAll (fun c hc=>?_) (fun c hc=>?_)
   ·rcases List.mem_append.1 hc with hc|hc
    ·exact (jf5 hc).1
    ·simp only [List.mem_cons,List.not_mem_nil,or_false] at hc
     rcases hc with rfl|rfl<;>rfl
   ·rcases List.mem_append.1 hc with hc|hc
    ·exact (jf5 hc).1
    ·simp only [List.mem_cons,List.not_mem_nil,or_false] at hc
     rcases hc with rfl
     rfl
  refine Md.midC.to ?_;refine jaS ?_;refine D139 ?_;refine rs1 ?_;refine D195 ?_;refine Md.midC.of ?_;refine jlW (fun nn D' s' h' l'=> ∃(got:List Nat) (sp:Option Addr) (sc:Nat) (ws:List Value) (X W:Hp),D'=0∧s'= .m 0 .idle got true∧ro h++[⟨false,q3,.cells [gv].toArray 141 (0,0)⟩,⟨false,q5,.cells [.chan (some ch)].toArray 193 (0,0)⟩]++X++W=h'∧nn=N-got.length∧(got.Nodup∧ ∀k∈got,k<N)∧OwnS 42 1 (.slice sp (llW got).length sc) (llW got).length ws W∧RdE B X ws (llW got)∧ ∃U:Nat→Value,l'=((.pointer (some ⟨q,0,none⟩))::gv::(U 2)::(.pointer (some ⟨q3,0,none⟩))::(.slice none 0 0)::(.pointer (some ⟨q5,0,none⟩))::(.pointer (some ⟨q6,0,none⟩))::(U 7)::(.slice sp (llW got).length sc)::vw8 U 9 ((.int .u64 (N:Int))::vw7 U 18 ((.chan (some ch))::vw16 U 26 [])))) _ ⟨[],none,0,[],[],[],rfl,rfl,by simp,rfl,⟨List.nodup_nil,fun k hk=>by cases hk⟩,OwnS.nil,RdE.nil,exU rfl⟩ ?_
  rintro nn _ _ _ _ ⟨got,sp,sc,ws,X,W,rfl,rfl,rfl,rfl,⟨hnd,hlt⟩,oW,eX,U,rfl⟩ hnext2;refine Md.midC.to ?_
  try dsimp only
  have hgl:=got_le hlt hnd
  have hll:(llW got).length=got.length:=llW_len got
  refine D3 ?_;refine jf4 [] [0,1] zK zK ?_;refine D1 ?_;refine Md.midC.of ?_
  refine jlT (dir:=0) (z:= .slice none 0 0) rfl rfl Mute.zero (fun kn v hp hh hkn hnin hP=>?_) (fun hnd2 hall=>?_)
  ·have hnd2:(got++[kn]).Nodup:=by
    rw [List.nodup_append];exact ⟨hnd,by simp,fun a ha c hc=>by rw [List.mem_singleton] at hc;subst hc;exact fun e=>hnin (e▸ha)⟩
   have hlt2: ∀k∈got++[kn],k<N:=fun k hk=>by
    rcases List.mem_append.1 hk with hk|hk
    ·exact hlt k hk
    ·rw [List.mem_singleton] at hk
     subst hk
     exact hkn
   have hgl2:=got_le hlt2 hnd2
   rw [List.length_append,List.length_singleton] at hgl2
   have hP':OwnS 3 1 v (jba kn 12).length (ints (jba kn 12)) hp:=hP
   obtain ⟨vp,vc,rfl,hvc,rV⟩:=jar (B:=B) hP'
   refine jcL ?_;refine Md.midC.to ?_;refine jiA [(1,.free)] zK rfl ?_;refine Zs ?_;refine D1 ?_;skip
   refine D3 ?_;refine D9 ?_;refine D8 ?_;refine D15 ?_;refine D127 ?_;refine D0 ?_;refine rr5 ?_;refine Z2 ?_
   refine k_bs kdq rfl zq zA zA rfl (fun q31=>k_hp (jab ?_));refine jaZ rfl zq rfl oW kdq zO zO (fun w32 n32 o32=>jab ?_);have e1:(llW (got++[kn])).length=(llW got).length+1:=by rw [jkD,List.length_append];rfl
   obtain ⟨p32,c32,rfl,_⟩:=o32.len
   refine D0 ?_;refine D17 ?_;refine Md.midC.of ?_;refine SyC.weaken (h':=ro h++[⟨false,q3,.cells [gv].toArray 141 (0,0)⟩,⟨false,q5,.cells [.chan (some ch)].toArray 193 (0,0)⟩]++X++hp++n32) weakOff3 ?_
   exact hnext2 _ _ _ _ _ (by rw [List.length_append];show N-(got.length+1)<_;omega) ⟨got++[kn],p32,c32,_,X++hp,n32,rfl,rfl,by simp only [List.append_assoc],rfl,⟨hnd2,hlt2⟩,by rw [e1];exact o32,by rw [jkD];exact (eX.keeps (List.sublist_append_left _ _)).snoc rfl (rV.keeps (List.sublist_append_right _ _)) hvc,by rw [e1];exact exU rfl⟩
  ·show (Md.starC Tryz.prog B).R K _ _
   refine run_putm ?_;refine jiA [(1,.free)] zK rfl ?_;refine Zs ?_;refine D1 ?_;skip
   refine D3 ?_;refine D6 ?_;refine D31 ?_;refine rs10 ?_;refine Zs ?_
   refine jai rfl zq ?_;refine Zs ?_;refine k_ld rfl zq (hcv.ro.keeps SubH.sub) ?_;refine Zs ?_;refine D94 ?_
   rintro v rfl;refine D7 ?_;refine jaV rfl zq zK (fun H' hH=>f156_c _ H' (2^(jad b).length-1) zO) ?_
   rintro v nA oA;refine D7 ?_
   obtain ⟨ap,ac,rfl,hac,rA⟩:=jar (B:=B) oA
   refine Zs ?_;refine jc2 rfl zq zK (f159_c _ _ ((oW.rd (List.Sublist.refl _)).keeps SubH.sub) (eX.keeps SubH.sub) zO (fun l hl=>by obtain ⟨k,_,rfl⟩:=List.mem_map.1 hl;have:=jhV k 12;omega) (rA.keeps SubH.sub) (by have:=jhV (2^(jad b).length-1) 12;omega)) ?_
   rintro v h' ⟨rfl,rv⟩;refine D182 ?_;refine jac (ro h++[⟨false,q3,.cells [gv].toArray 141 (0,0)⟩,⟨false,q5,.cells [.chan (some ch)].toArray 193 (0,0)⟩]++X++W++nA) rfl Tryz.func103 rfl jaa ?_;refine D5 ?_
   refine ⟨[⟨false,q3,.cells [gv].toArray 141 (0,0)⟩,⟨false,q5,.cells [.chan (some ch)].toArray 193 (0,0)⟩]++X++W++nA,by simp only [List.append_assoc],_,rv,jlI h12 (fun k=>?_) hh1⟩
   rw [←hN];exact hall k
theorem callB104:jbg Tryz.prog 104=true:=by kernel_rfl
theorem callB105:jbg Tryz.prog 105=true:=by kernel_rfl
def fewB (b:Tb) (k:Nat):Bool:=!(patA (cdT b) (patN k (jad b).length)).isEmpty
def jhv (b:Tb) (k:Nat):Bool:=!jb7 (jaQ (patN k (jad b).length) (cdT b))
theorem jh4 {b:Tb} {k:Nat}:fewB b k=true↔patA (cdT b) (patN k (jad b).length)≠[]:=by
 unfold fewB
 cases patA (cdT b) (patN k (jad b).length)<;>simp
theorem jff {b:Tb} {k:Nat}:jhv b k=true↔ ¬jb7 (jaQ (patN k (jad b).length) (cdT b))=true:=by simp [jhv]
theorem jgc {α:Type}: ∀(D:List α) (p:List Bool),(∀x∈p,x=true)→p.length=D.length→jaQ p D=D
 |[],[],_,_=>rfl
 |[],_::_,_,h=>by simp at h
 |_::_,[],_,h=>by simp at h
 |d::D,x::p,h,hl=>by
  obtain rfl:=h x zD
  show d::jaQ p D=d::D
  rw [jgc D p (fun y hy=>h y (by simp [hy])) (by simpa using hl)]
theorem jgd (n:Nat): ∀x∈patN (2^n-1) n,x=true:=fun x hx=>by
 rw [patN,List.mem_map] at hx
 obtain ⟨i,hi,rfl⟩:=hx
 rw [List.mem_range] at hi
 rw [Nat.testBit_two_pow_sub_one];simpa using hi
theorem jmA (n:Nat):patN 0 n=(patN (2^n-1) n).map (!·):=by
 rw [←jks (by have:=Nat.two_pow_pos n;omega),Nat.sub_self]
theorem jkt: ∀(D:List Cd) (p:List Bool),(∀x∈p,x=true)→p.length=D.length→patA D p≠[]
 |[],_,_,_=>by simp [patA]
 |_::_,[],_,h=>by simp at h
 |d::D,x::p,h,hl=>by
  obtain rfl:=h x zD
  show (patA D p).map _≠[]
  have:=jkt D p (fun y hy=>h y (by simp [hy])) (by simpa using hl)
  simpa using this
theorem jnG (b:Tb):fewB b (2^(jad b).length-1)=true:=jh4.2 (jkt _ _ (jgd _) (by rw [jcm,jaD]))
theorem jiq (b:Tb):patA (cdT b) (patN 0 (jad b).length)≠[]↔jb7 (cdT b)=true:=by
 rw [jmA,je3 (by rw [jcm,jaD]),jgc _ _ (jgd _) (by rw [jcm,jaD])]
theorem jjZ {b:Tb} (h: ¬jb7 (cdT b)=true):jhv b (2^(jad b).length-1)=true:=jff.2 (by rw [jgc _ _ (jgd _) (by rw [jcm,jaD])];exact h)
theorem Sheet.ro {B:Array Obj} {H:Hp} {b:Tb} {q:Nat} {tv:List Value} (s:Sheet B H b q tv):Sheet B (Lo.ro H) b q tv:=by
 obtain ⟨h0,h1,⟨p,c,h2,h3,h4⟩,⟨rw,qm,h5,h6⟩,h7,h8⟩:=s
 refine ⟨h0,fun j hj=>(h1 j hj).ro,⟨p,c,h2.ro,h3,h4.ro⟩,⟨false,qm,h5.ro,List.mem_map.2 ⟨_,h6,rfl⟩⟩,fun i hi=>(h7 i hi).ro,fun i hi=>?_⟩
 obtain ⟨p,c,a1,a2,a3⟩:=h8 i hi
 exact ⟨p,c,a1.ro,a2,a3.ro⟩
theorem asks104 {hb:Hp} {b:Tb} {q:Nat} {tv:List Value} (sh:Sheet B hb b q tv):Asks B (.func (.func 104) #[.pointer (some ⟨q,0,none⟩)] #[]) hb (2^(jad b).length) (fewB b):=fun m k H' hk hs=>by
 have h12:2^(jad b).length≤2^12:=Nat.pow_le_pow_right zO sh.twelve
 refine CallV.mono (CallV.fn' (vs:= #[.pointer (some ⟨q,0,none⟩),.int .u64 (k:Int)]) callB104 zD (f104_c m H' (sh.keeps hs) zO)) fun v h' ⟨e,p⟩=>⟨e,?_⟩
 rcases p with ⟨c,e⟩|⟨c,e⟩
 ·exact .inl ⟨jh4.2 c,e⟩
 ·exact .inr ⟨fun x=>c (jh4.1 x),e⟩
theorem asks105 {hb:Hp} {b:Tb} {q qx:Nat} {tv:List Value} (sh:Sheet B hb b q tv) (rx:Rd B hb ⟨qx,0,none⟩ (.pointer (some ⟨q,0,none⟩))):Asks B (.func (.func 105) #[] #[.pointer (some ⟨qx,0,none⟩)]) hb (2^(jad b).length) (jhv b):=fun m k H' hk hs=>by
 refine CallV.mono (CallV.fn' (vs:= #[.int .u64 (k:Int),.pointer (some ⟨qx,0,none⟩)]) callB105 zD (f105_c m H' (sh.keeps hs) (rx.keeps hs) hk)) fun v h' ⟨e,p⟩=>⟨e,?_⟩
 rcases p with ⟨c,e⟩|⟨c,e⟩
 ·exact .inl ⟨jff.2 c,e⟩
 ·exact .inr ⟨fun x=>c (jff.1 x),e⟩
theorem jhd (a c:Hp):ro (a++c)=ro a++ro c:=List.map_append
theorem f40_c (h:Hp) {b:Tb} {ps:Option Addr} {ns ks:Nat} {pw:Option Addr} {nw cw:Nat} {pb:Option Addr} {nb cb:Nat} (ra:RawTb B h b ps ns ks pw nw cw pb nb cb):FnC (Md.starC Tryz.prog B) 40 #[tbV b ps ns ks pw nw cw pb nb cb] h fun v h'=> ∃nw w g,h'=ro h++nw∧v= .tuple [w,.int .i64 (tbS b)].toArray∧RdI B h' w g∧(tbS b≠0→g=[])∧(tbS b=0→jeU (fun l=>fewB b (jeo l)=true) (jad b).length g):=by
 refine jae Tryz.func40 rfl rfl (l:=(tbV b ps ns ks pw nw cw pb nb cb)::uu16) rfl ?_
 intro cf cs K hK
 refine rs3 ?_;refine jaP rfl zq (fun q1=>k_hp (jab ?_));refine Zs ?_;refine D122 ?_;refine D151 ?_;refine jak (Post:=fun v=>v=_) rfl zq zK (fun H' hH=>f65_r _ H' (ra.keeps (sq hH))) ?_
 rintro v rfl;refine D7 ?_;refine D163 ?_
 refine jaY rfl zq (fun hc=>?_) (fun hc=>?_)
 ·refine D121 ?_;refine D170 ?_;refine D117 ?_;refine jac (h) rfl Tryz.func40 rfl jaa ?_;refine D104 ?_;refine D5 ?_
  have hne:tbS b≠0:=by omega
  exact ⟨[],_,[],by simp,rfl,RdI.nil,fun _=>rfl,fun e=>absurd e hne⟩
 ·refine D140 ?_
  have hz0:tbS b=0:=by omega
  have hk:=jbd.1 hz0
  have h12:=jbn hk
  refine rr3 ?_;refine Zs ?_;refine D67 ?_;rintro v n12 ⟨q,rfl,sh⟩;refine D7 ?_;refine D0 ?_;refine rs6 ?_;refine Z2 ?_;refine jfF rfl zq ?_;refine jc2 rfl zq zK (f103_c _ (sh.keeps SubH.sub) (asks104 (sh.keeps SubH.sub).ro) (jnG b)) ?_
  rintro v h' ⟨nz,rfl,g,rg,hl⟩;obtain ⟨gp,gc,rfl,rg⟩:=rg
  refine D7 ?_;refine D194 ?_;refine jac (ro (h++[⟨true,q1,.cells (tbL b ps ns ks pw nw cw pb nb cb).toArray 25 (0,0)⟩]++n12)++nz) rfl Tryz.func40 rfl jaa ?_;refine D5 ?_
  exact ⟨ro [⟨true,q1,.cells (tbL b ps ns ks pw nw cw pb nb cb).toArray 25 (0,0)⟩]++ro n12++nz,_,g,by simp only [jhd,List.append_assoc],by rw [hz0],⟨gp,gc,rfl,rg⟩,fun e=>absurd hz0 e,fun _=>hl⟩
theorem f41_c (h:Hp) {b:Tb} {ps:Option Addr} {ns ks:Nat} {pw:Option Addr} {nw cw:Nat} {pb:Option Addr} {nb cb:Nat} (ra:RawTb B h b ps ns ks pw nw cw pb nb cb):FnC (Md.starC Tryz.prog B) 41 #[tbV b ps ns ks pw nw cw pb nb cb] h fun v h'=> ∃nw w g,h'=ro h++nw∧v= .tuple [w,.int .i64 (tbS b)].toArray∧RdI B h' w g∧(tbS b≠0→g=[])∧(tbS b=0→jb7 (cdT b)=true→g=[])∧(tbS b=0→ ¬jb7 (cdT b)=true→jeU (fun l=>jhv b (jeo l)=true) (jad b).length g):=by
 refine jae Tryz.func41 rfl rfl (l:=(tbV b ps ns ks pw nw cw pb nb cb)::uu17) rfl ?_
 intro cf cs K hK
 refine rs3 ?_;refine jaP rfl zq (fun q1=>k_hp (jab ?_));refine Zs ?_;refine D122 ?_;refine D151 ?_;refine jak (Post:=fun v=>v=_) rfl zq zK (fun H' hH=>f65_r _ H' (ra.keeps (sq hH))) ?_
 rintro v rfl;refine D7 ?_;refine D163 ?_
 refine jaY rfl zq (fun hc=>?_) (fun hc=>?_)
 ·refine D121 ?_;refine D170 ?_;refine D117 ?_;refine jac (h) rfl Tryz.func41 rfl jaa ?_;refine D104 ?_;refine D5 ?_
  have hne:tbS b≠0:=by omega
  exact ⟨[],_,[],by simp,rfl,RdI.nil,fun _=>rfl,fun _ _=>rfl,fun e=>absurd e hne⟩
 ·refine D140 ?_
  have hz0:tbS b=0:=by omega
  have hk:=jbd.1 hz0
  have h12:=jbn hk
  refine rr4 ?_;refine Zs ?_;refine D67 ?_;rintro v n12 ⟨q,rfl,sh⟩;refine D7 ?_
  refine jat rfl zq (fun q5=>k_hp (jab ?_));refine D26 ?_;refine D120 ?_;refine D127 ?_;refine jak (Post:=fun v=>IsB _ v) rfl zq zK (fun H' hH=>f104_c _ H' (sh.keeps (sq hH)) (s:=0) zO) ?_
  rintro v (⟨hc,rfl⟩|⟨hc,rfl⟩)
  ·refine D7 ?_
   have hsd:=(jiq b).1 hc
   refine D121 ?_;refine D165 ?_;refine jac (h) rfl Tryz.func41 rfl jaa ?_;refine D104 ?_;refine D5 ?_
   exact ⟨[],_,[],by simp,by rw [hz0],RdI.nil,fun _=>rfl,fun _ _=>rfl,fun _ e=>absurd hsd e⟩
  ·refine D7 ?_
   have hcl:=fun e=>hc ((jiq b).2 e)
   refine D119 ?_;refine rs5 ?_;refine Zs ?_;refine jfF rfl zq ?_;refine jc2 rfl zq zK (f103_c _ (sh.keeps SubH.sub) (asks105 (sh.keeps SubH.sub).ro (qx:=q5) (Rd.ro (Rd.held (show (⟨true,q5,.cells [.pointer (some ⟨q,0,none⟩)].toArray 109 (0,0)⟩:Chunk)∈_ by simp) rfl))) (jjZ hcl)) ?_
   rintro v h' ⟨nz,rfl,g,rg,hl⟩;obtain ⟨gp,gc,rfl,rg⟩:=rg
   refine D7 ?_;refine D194 ?_;refine jac (ro (h++[⟨true,q1,.cells (tbL b ps ns ks pw nw cw pb nb cb).toArray 25 (0,0)⟩]++n12++[⟨true,q5,.cells [.pointer (some ⟨q,0,none⟩)].toArray 109 (0,0)⟩])++nz) rfl Tryz.func41 rfl jaa ?_;refine D5 ?_
   exact ⟨ro [⟨true,q1,.cells (tbL b ps ns ks pw nw cw pb nb cb).toArray 25 (0,0)⟩]++ro n12++ro [⟨true,q5,.cells [.pointer (some ⟨q,0,none⟩)].toArray 109 (0,0)⟩]++nz,_,g,by simp only [jhd,List.append_assoc],by rw [hz0],⟨gp,gc,rfl,rg⟩,fun e=>absurd hz0 e,fun _ e=>absurd e hcl,fun _ _=>hl⟩
theorem f61_c (m:Md Tryz.prog B) (h:Hp) {p p2:Option Addr} {n c n2 c2:Nat} {xs ys:List Int} (rd:RdS B h 1 (.slice p n c) n (ints xs)) (hn:n≤1000000) (rd2:RdS B h 1 (.slice p2 n2 c2) n2 (ints ys)):FnC m 61 #[.slice p n c,.slice p2 n2 c2] h fun v h'=>h'=h∧IsB (xs=ys) v:=by
 refine jae Tryz.func61 rfl rfl (l:=(.slice p n c)::(.slice p2 n2 c2)::uu6) rfl ?_
 intro cf cs K hK
 refine D145 ?_;refine rs4 ?_;refine Z2 ?_;refine jak (Post:=fun v=>IsB _ v) rfl zq zK (fun H' hH=>f42_c m H' (rd.keeps (sq hH)) hn (rd2.keeps (sq hH))) ?_
 rintro v (⟨hc,rfl⟩|⟨hc,rfl⟩);all_goals
  refine D182 ?_;refine jac (h) rfl Tryz.func61 rfl jaa ?_;refine D5 ?_
 ·exact ⟨rfl,IsB.yes hc⟩
 ·exact ⟨rfl,IsB.no hc⟩
def exT:Tb:=⟨1,[[97],[98]],[⟨64,[[49,45,50,45,51],[49,45,63,45,48]]⟩,⟨128,[[49,45,54,45,48],[49,45,52,45,52]]⟩],[⟨96,[[48,45,53,45,48],[48,45,57,45,48]]⟩]⟩
theorem f87_c (m:Md Tryz.prog B) (h:Hp):FnC m 87 #[] h fun v h'=> ∃nw,h'=h++nw∧ ∃ps pw pb,v=tbV exT ps 2 2 pw 2 2 pb 1 1∧RawTb B nw exT ps 2 2 pw 2 2 pb 1 1:=by
 refine jae Tryz.func87 rfl rfl (l:=uu11) rfl ?_
 intro cf cs K hK
 refine rs1 ?_;refine jat rfl zq (fun q0=>k_hp (jab ?_));refine D1 ?_;refine rs11 ?_
 refine k_bs kdq rfl zq zA zA rfl (fun q1=>k_hp (jab ?_));refine k_bs kdq rfl zq zA zA rfl (fun q2=>k_hp (jab ?_));refine D52 ?_
 refine k_bs kdq rfl zq zA zA rfl (fun q4=>k_hp (jab ?_));refine D52 ?_
 refine k_bs kdq rfl zq zA zA rfl (fun q6=>k_hp (jab ?_));refine k_bs kdq rfl zq zA zA rfl (fun q7=>k_hp (jab ?_));refine D52 ?_
 refine k_bs kdq rfl zq zA zA rfl (fun q9=>k_hp (jab ?_));refine D52 ?_;refine D160 ?_;refine D4 ?_;refine jac (h++[⟨true,q1,.cells ([str [97],str [98]]:List Value).toArray 9 (0,0)⟩,⟨true,q2,.cells ([str [49,45,50,45,51],str [49,45,63,45,48]]:List Value).toArray 9 (0,0)⟩,⟨true,q4,.cells ([str [49,45,54,45,48],str [49,45,52,45,52]]:List Value).toArray 9 (0,0)⟩,⟨true,q6,.cells ([.int .i64 64,.slice (some ⟨q2,0,none⟩) 2 2,.int .i64 128,.slice (some ⟨q4,0,none⟩) 2 2]:List Value).toArray 121 (0,0)⟩,⟨true,q7,.cells ([str [48,45,53,45,48],str [48,45,57,45,48]]:List Value).toArray 9 (0,0)⟩,⟨true,q9,.cells ([.int .i64 96,.slice (some ⟨q7,0,none⟩) 2 2]:List Value).toArray 121 (0,0)⟩]) rfl Tryz.func87 rfl jaa ?_;refine D5 ?_
 refine ⟨_,rfl,_,_,_,rfl,⟨jeb (ys:=encs exT.sts) (x:=⟨List.mem_cons_self⟩) rfl,by decide,by decide,⟨[⟨⟨64,[[49,45,50,45,51],[49,45,63,45,48]]⟩,some ⟨q2,0,none⟩,2⟩,⟨⟨128,[[49,45,54,45,48],[49,45,52,45,52]]⟩,some ⟨q4,0,none⟩,2⟩],rfl,jeb (ys:=encs ([⟨⟨64,[[49,45,50,45,51],[49,45,63,45,48]]⟩,some ⟨q2,0,none⟩,2⟩,⟨⟨128,[[49,45,54,45,48],[49,45,52,45,52]]⟩,some ⟨q4,0,none⟩,2⟩]:List Lp)) (x:=⟨by right;right;right;left⟩) rfl,fun x hx=>?_⟩,by decide,⟨[⟨⟨96,[[48,45,53,45,48],[48,45,57,45,48]]⟩,some ⟨q7,0,none⟩,2⟩],rfl,jeb (ys:=encs ([⟨⟨96,[[48,45,53,45,48],[48,45,57,45,48]]⟩,some ⟨q7,0,none⟩,2⟩]:List Lp)) (x:=⟨by right;right;right;right;right;left⟩) rfl,fun x hx=>?_⟩,by decide,⟨by decide,by decide,by decide⟩⟩⟩
 ·rcases List.mem_cons.1 hx with rfl|hx
  ·exact ⟨Nat.le_refl _,fun _=>jeb (ys:=encs ([[49,45,50,45,51],[49,45,63,45,48]]:List Str)) (x:=⟨by right;left⟩) rfl⟩
  ·obtain rfl:=List.mem_singleton.1 hx
   exact ⟨Nat.le_refl _,fun _=>jeb (ys:=encs ([[49,45,54,45,48],[49,45,52,45,52]]:List Str)) (x:=⟨by right;right;left⟩) rfl⟩
 ·obtain rfl:=List.mem_singleton.1 hx
  exact ⟨Nat.le_refl _,fun _=>jeb (ys:=encs ([[48,45,53,45,48],[48,45,57,45,48]]:List Str)) (x:=⟨by right;right;right;right;left⟩) rfl⟩
theorem hhrd {B:Array Obj} {p:Option Addr} {n c:Nat} {lns:List Ln} {M H:Hp} (o:HalfO (.slice p n c) n lns M) (s:M.Sublist H):RdLn B H (.slice p n c) n lns:=by
 obtain ⟨p',c',e,r⟩:=o.rd (B:=B)
 cases e
 exact r.keeps s
theorem f94_l (m:Md Tryz.prog B) {h H:Hp} (hs:h.Sublist H) {b:Tb} {ps:Option Addr} {ns ks:Nat} {pw:Option Addr} {nw cw:Nat} {pb:Option Addr} {nb cb:Nat} {lw lb:List Lp} (rlw:RdS B h 2 (.slice pw nw cw) nw (encs lw)) (rlb:RdS B h 2 (.slice pb nb cb) nb (encs lb)) {bt:Bool} {li st:Int} (h0:0≤li) (h1:li<(if bt then lb else lw).length):FnC m 94 #[tbV b ps ns ks pw nw cw pb nb cb,cV bt li st] H fun v h'=>h'=H∧v=lpV ((if bt then lb else lw).getD li.toNat default):=by
 refine jae Tryz.func94 rfl rfl (l:=(tbV b ps ns ks pw nw cw pb nb cb)::(cV bt li st)::uu17) rfl ?_
 intro cf cs K hK
 refine rs3 ?_;refine jaP rfl zq (fun q2=>k_hp (jab ?_));refine jaP rfl zq (fun q3=>k_hp (jab ?_));refine jat rfl zq (fun q4=>k_hp (jab ?_));refine D120 ?_;refine rs2 ?_;refine D124 ?_
 refine jep (fun hc=>?_) (fun hc=>?_);first|replace hc:=of_decide_eq_true hc|replace hc:=of_decide_eq_false hc|skip
 refine D3 ?_
 subst hc
 have hlt:li<lb.length:=h1
 have hll:=rlb.elen zA
 obtain ⟨z_b,z_o,hzp⟩:=rlb.ptr zO
 have rlg:=rlb.keeps hs
 rotate_left
 first|replace hc:=of_decide_eq_true hc|replace hc:=of_decide_eq_false hc|skip
 refine D8 ?_;refine D3 ?_
 subst hc
 have hlt:li<lw.length:=h1
 have hll:=rlw.elen zA
 obtain ⟨z_b,z_o,hzp⟩:=rlw.ptr zO
 have rlg:=rlw.keeps hs
 all_goals
  rw [hzp] at rlg
  refine rr7 ?_
 ·refine Z4 ?_;refine D96 ?_;refine jcB (vs:=lpL (lw.getD li.toNat default)) rfl zq rfl (rlg.eat li.toNat zO zO) ?_;refine D160 ?_;refine D4 ?_;refine jac (H) rfl Tryz.func94 rfl jaa ?_;refine D5 ?_
  exact ⟨rfl,rfl⟩
 ·refine Z4 ?_;refine D96 ?_;refine jcB (vs:=lpL (lb.getD li.toNat default)) rfl zq rfl (rlg.eat li.toNat zO zO) ?_;refine D160 ?_;refine D4 ?_;refine jac (H) rfl Tryz.func94 rfl jaa ?_;refine D5 ?_
  exact ⟨rfl,rfl⟩
theorem f33_c (m:Md Tryz.prog B) (h:Hp) {b:Tb} {ps:Option Addr} {ns ks:Nat} {pw:Option Addr} {nw cw:Nat} {pb:Option Addr} {nb cb:Nat} {lw lb:List Lp} (rlw:RdS B h 2 (.slice pw nw cw) nw (encs lw)) (rlb:RdS B h 2 (.slice pb nb cb) nb (encs lb)) (hnw:nw≤1000) (hnb:nb≤1000) (hfw: ∀x∈lw,x.ln.figs.length≤x.c∧RdS B h 1 (.slice x.p x.ln.figs.length x.c) x.ln.figs.length (encs x.ln.figs)) (hfb: ∀x∈lb,x.ln.figs.length≤x.c∧RdS B h 1 (.slice x.p x.ln.figs.length x.c) x.ln.figs.length (encs x.ln.figs)) (hsmw: ∀l∈lw.map (·.ln),l.figs.length≤1000) (hsmb: ∀l∈lb.map (·.ln),l.figs.length≤1000) (bt:Bool) (li st:Int) (f:Str) (hli0:0≤li) (hli1:li<((if bt then lb else lw).length:Int)) (hst0:0≤st) (hst1:st<(((if bt then lb else lw).getD li.toNat default).ln.figs.length:Int)):FnC m 33 #[tbV b ps ns ks pw nw cw pb nb cb,cV bt li st,str f] h fun v h'=> ∃nz pw' cw' pb' cb',h'=h++nz∧v=tbV b ps ns ks pw' nw cw' pb' nb cb'∧RdLn B nz (.slice pw' nw cw') nw (if bt then lw.map (·.ln) else updL (lw.map (·.ln)) li.toNat st.toNat f)∧RdLn B nz (.slice pb' nb cb') nb (if bt then updL (lb.map (·.ln)) li.toNat st.toNat f else lb.map (·.ln)):=by
 have hlw:=rlw.elen zA
 have hlb:=rlb.elen zA
 refine jae Tryz.func33 rfl rfl (l:=(tbV b ps ns ks pw nw cw pb nb cb)::(cV bt li st)::(str f)::uu73) rfl ?_
 intro cf cs K hK
 refine rs3 ?_;refine jaP rfl zq (fun q3=>k_hp (jab ?_));refine jaP rfl zq (fun q4=>k_hp (jab ?_));refine jat rfl zq (fun q6=>k_hp (jab ?_));refine D1 ?_;refine D151 ?_
 refine jat rfl zq (fun q7=>k_hp (jab ?_));refine D160 ?_;refine D176 ?_;refine D26 ?_;refine D193 ?_;refine D120 ?_;refine D145 ?_;refine D15 ?_
 refine jam (fun nn l h'=> ∃(i:Nat) (p1:Option Addr) (c1:Nat) (xw:List Lp) (W0 FM0:Hp),nn=nw-i∧(i≤nw)∧(xw.map (·.ln)=(lw.map (·.ln)).take i)∧(OwnS 121 2 (.slice p1 i c1) i (encs xw) W0)∧(OwnF xw FM0)∧(∃U:Nat→Value,l=((tbV b ps ns ks pw nw cw pb nb cb)::(cV bt li st)::(str f)::(.pointer (some ⟨q3,0,none⟩))::(.pointer (some ⟨q4,0,none⟩))::(U 5)::(.pointer (some ⟨q6,0,none⟩))::(.pointer (some ⟨q7,0,none⟩))::(.int .i64 (i:Int))::vw67 U 9 []))∧h++[⟨true,q3,.cells (tbL b ps ns ks pw nw cw pb nb cb).toArray 25 (0,0)⟩,⟨true,q4,.cells [.bool bt,.int .i64 li,.int .i64 st].toArray 37 (0,0)⟩,⟨true,q6,.cells [.int .i64 0,.slice none 0 0,.slice none 0 0,.slice none 0 0].toArray 25 (0,0)⟩,⟨true,q7,.cells [.int .i64 b.wrong,.slice ps ns ks,.slice p1 i c1,.slice none 0 0].toArray 25 (0,0)⟩]++W0++FM0=h') _ ⟨0,none,0,[],[],[],rfl,by omega,rfl,OwnS.nil,OwnF.nil,exU rfl,zD⟩ ?_;rintro nn l h' ⟨i,p1,c1,xw,W0,FM0,rfl,hi,hmap0,how0,hof0,⟨U,rfl⟩,rfl⟩ hnext1;refine D3 ?_;refine rs5 ?_;refine Z4 ?_
 refine jaq rfl zq (fun hc=>?_) (fun hc=>?_)
 ·refine D121 ?_;refine D131 ?_
  obtain ⟨z_b,z_o,hzp⟩:=rlw.ptr zO
  have rl2:=rlw
  rw [hzp] at rl2
  obtain ⟨hxc,rdf⟩:=hfw _ (jan (l:=lw) (i:=i) zO)
  obtain ⟨x,hx⟩: ∃x,x=lw.getD i default:=⟨_,rfl⟩
  rw [←hx] at hxc rdf
  have hxm:x∈lw:=hx▸jan zO
  have hxl:x.ln.figs.length≤1000:=by
   have:=hsmw x.ln (List.mem_map.2 ⟨x,hxm,rfl⟩)
   exact this
  refine jbY (S:=h++[⟨true,q3,.cells (tbL b ps ns ks pw nw cw pb nb cb).toArray 25 (0,0)⟩,⟨true,q4,.cells [.bool bt,.int .i64 li,.int .i64 st].toArray 37 (0,0)⟩,⟨true,q6,.cells [.int .i64 0,.slice none 0 0,.slice none 0 0,.slice none 0 0].toArray 25 (0,0)⟩,⟨true,q7,.cells [.int .i64 b.wrong,.slice ps ns ks,.slice p1 i c1,.slice none 0 0].toArray 25 (0,0)⟩]) [0,1,2,3,4,5,6,7,8,9,10,11,12,13,14,15,16,17,18,19,20] zK zK SubH.sub ?_;refine D50 ?_;refine Z7 ?_;refine D96 ?_;refine Zs ?_;refine k_ld (v:= .int .i64 x.ln.lat) rfl zq (hx▸rl2.fat i 0 zO zO rfl) ?_;refine Zs ?_;refine D96 ?_;refine Zs ?_;refine k_ld (v:= .slice x.p x.ln.figs.length x.c) rfl zq (hx▸rl2.fat i 1 zO zO rfl) ?_;refine k_bs0 kdq rfl zq (fun q28=>k_hp (jab ?_));refine k_appO rfl zq (OwnS.zero (q:=q28)) rdf.up (fun u hu=>jeN _ u hu) kdq zO zO (fun w35 n35 o35=>jab ?_);replace o35:OwnS 9 1 w35 x.ln.figs.length (encs x.ln.figs) n35:=by simpa using o35
  obtain ⟨p35,c35,rfl,hc35,r35⟩:=jar (B:=B) o35
  refine D52 ?_
  refine k_bs kdq rfl zq zA zA rfl (fun q37=>k_hp (jab ?_));refine jaZ rfl zq rfl how0 kdq zO zO (fun w38 n38 o38=>jab ?_);replace o38:OwnS 121 2 w38 (i+1) (encs (xw++[⟨x.ln,p35,c35⟩])) n38:=by rw [jay];exact o38
  obtain ⟨p38,c38,rfl,_⟩:=o38.len
  refine Zs ?_;refine D142 ?_;refine D188 ?_;refine m.weak (h':=h++[⟨true,q3,.cells (tbL b ps ns ks pw nw cw pb nb cb).toArray 25 (0,0)⟩,⟨true,q4,.cells [.bool bt,.int .i64 li,.int .i64 st].toArray 37 (0,0)⟩,⟨true,q6,.cells [.int .i64 0,.slice none 0 0,.slice none 0 0,.slice none 0 0].toArray 25 (0,0)⟩,⟨true,q7,.cells [.int .i64 b.wrong,.slice ps ns ks,.slice p38 (i+1) c38,.slice none 0 0].toArray 25 (0,0)⟩]++n38++(FM0++n35)) jdc ?_
  exact hnext1 _ _ _ zO ⟨i+1,_,_,xw++[⟨x.ln,p35,c35⟩],n38,FM0++n35,rfl,by omega,by rw [List.map_append,hmap0,List.take_add_one,List.getElem?_eq_getElem zI];simp only [List.getElem_map,Option.toList_some,List.map_cons,List.map_nil];rw [hx,List.getD_eq_getElem?_getD,List.getElem?_eq_getElem zO];rfl,o38,.snoc hof0 o35,exU rfl,rfl⟩
 ·refine D118 ?_;refine D31 ?_;refine D3 ?_;refine D3 ?_
  obtain rfl:nw=i:=by omega
  refine rr1 ?_;refine D0 ?_;refine D15 ?_;refine jam (fun nn l h'=> ∃(i:Nat) (p2:Option Addr) (c2:Nat) (xs:List Lp) (W FM:Hp),nn=nb-i∧(i≤nb)∧(xs.map (·.ln)=(lb.map (·.ln)).take i)∧(OwnS 121 2 (.slice p2 i c2) i (encs xs) W)∧(OwnF xs FM)∧(∃U:Nat→Value,l=((tbV b ps ns ks pw nw cw pb nb cb)::(cV bt li st)::(str f)::(.pointer (some ⟨q3,0,none⟩))::(.pointer (some ⟨q4,0,none⟩))::(U 5)::(.pointer (some ⟨q6,0,none⟩))::(.pointer (some ⟨q7,0,none⟩))::(U 8)::(.int .i64 (i:Int))::vw66 U 10 []))∧h++[⟨true,q3,.cells (tbL b ps ns ks pw nw cw pb nb cb).toArray 25 (0,0)⟩,⟨true,q4,.cells [.bool bt,.int .i64 li,.int .i64 st].toArray 37 (0,0)⟩,⟨true,q6,.cells [.int .i64 0,.slice none 0 0,.slice none 0 0,.slice none 0 0].toArray 25 (0,0)⟩,⟨true,q7,.cells [.int .i64 b.wrong,.slice ps ns ks,.slice p1 nw c1,.slice p2 i c2].toArray 25 (0,0)⟩]++W0++FM0++W++FM=h') _ ⟨0,none,0,[],[],[],rfl,by omega,rfl,OwnS.nil,OwnF.nil,exU rfl,zD⟩ ?_;rintro nn l h' ⟨i,p2,c2,xs,W,FM,rfl,hi2,hmap,how,hof,⟨U,rfl⟩,rfl⟩ hnext2;refine D3 ?_;refine rs5 ?_;refine Z4 ?_
  refine jaq rfl zq (fun hc=>?_) (fun hc=>?_)
  ·refine D121 ?_;refine D131 ?_
   obtain ⟨z_b,z_o,hzp⟩:=rlb.ptr zO
   have rl2:=rlb
   rw [hzp] at rl2
   obtain ⟨hxc,rdf⟩:=hfb _ (jan (l:=lb) (i:=i) zO)
   obtain ⟨x,hx⟩: ∃x,x=lb.getD i default:=⟨_,rfl⟩
   rw [←hx] at hxc rdf
   have hxm:x∈lb:=hx▸jan zO
   have hxl:x.ln.figs.length≤1000:=by
    have:=hsmb x.ln (List.mem_map.2 ⟨x,hxm,rfl⟩)
    exact this
   refine jbY (S:=h++[⟨true,q3,.cells (tbL b ps ns ks pw nw cw pb nb cb).toArray 25 (0,0)⟩,⟨true,q4,.cells [.bool bt,.int .i64 li,.int .i64 st].toArray 37 (0,0)⟩,⟨true,q6,.cells [.int .i64 0,.slice none 0 0,.slice none 0 0,.slice none 0 0].toArray 25 (0,0)⟩,⟨true,q7,.cells [.int .i64 b.wrong,.slice ps ns ks,.slice p1 nw c1,.slice p2 i c2].toArray 25 (0,0)⟩]) [0,1,2,3,4,5,6,7,8,9,10,11,12,13,14,15,16,17,18,19,20] zK zK SubH.sub ?_;refine D50 ?_;refine Z7 ?_;refine D96 ?_;refine Zs ?_;refine k_ld (v:= .int .i64 x.ln.lat) rfl zq (hx▸rl2.fat i 0 zO zO rfl) ?_;refine Zs ?_;refine D96 ?_;refine Zs ?_;refine k_ld (v:= .slice x.p x.ln.figs.length x.c) rfl zq (hx▸rl2.fat i 1 zO zO rfl) ?_;refine k_bs0 kdq rfl zq (fun q55=>k_hp (jab ?_));refine k_appO rfl zq (OwnS.zero (q:=q55)) rdf.up (fun u hu=>jeN _ u hu) kdq zO zO (fun w35 n35 o35=>jab ?_);replace o35:OwnS 9 1 w35 x.ln.figs.length (encs x.ln.figs) n35:=by simpa using o35
   obtain ⟨p35,c35,rfl,hc35,r35⟩:=jar (B:=B) o35
   refine D52 ?_
   refine k_bs kdq rfl zq zA zA rfl (fun q64=>k_hp (jab ?_));refine jaZ rfl zq rfl how kdq zO zO (fun w38 n38 o38=>jab ?_);replace o38:OwnS 121 2 w38 (i+1) (encs (xs++[⟨x.ln,p35,c35⟩])) n38:=by rw [jay];exact o38
   obtain ⟨p38,c38,rfl,_⟩:=o38.len
   refine Zs ?_;refine D142 ?_;refine D188 ?_;refine m.weak (h':=h++[⟨true,q3,.cells (tbL b ps ns ks pw nw cw pb nb cb).toArray 25 (0,0)⟩,⟨true,q4,.cells [.bool bt,.int .i64 li,.int .i64 st].toArray 37 (0,0)⟩,⟨true,q6,.cells [.int .i64 0,.slice none 0 0,.slice none 0 0,.slice none 0 0].toArray 25 (0,0)⟩,⟨true,q7,.cells [.int .i64 b.wrong,.slice ps ns ks,.slice p1 nw c1,.slice p38 (i+1) c38].toArray 25 (0,0)⟩]++W0++FM0++n38++(FM++n35)) jdc ?_
   exact hnext2 _ _ _ zO ⟨i+1,_,_,xs++[⟨x.ln,p35,c35⟩],n38,FM++n35,rfl,by omega,by rw [List.map_append,hmap,List.take_add_one,List.getElem?_eq_getElem zI];simp only [List.getElem_map,Option.toList_some,List.map_cons,List.map_nil];rw [hx,List.getD_eq_getElem?_getD,List.getElem?_eq_getElem zO];rfl,o38,.snoc hof o35,exU rfl,rfl⟩
  ·refine D118 ?_;refine D31 ?_;refine D3 ?_
   obtain rfl:nb=i:=by omega
   rw [List.take_of_length_le zI] at hmap hmap0
   have hxwl:xw.length=nw:=by have:=congrArg List.length hmap0;simp only [List.length_map] at this;omega
   have hxsl:xs.length=nb:=by have:=congrArg List.length hmap;simp only [List.length_map] at this;omega
   cases bt
   replace hli1:li<(lw.length:Int):=by simpa using hli1
   replace hst1:st<((lw.getD li.toNat default).ln.figs.length:Int):=by simpa using hst1
   obtain ⟨sj,hsj⟩:=Int.eq_ofNat_of_zero_le hst0
   obtain ⟨M1f,Fb,M2f,rfl,hofb,hset⟩:=hof0.at (show li.toNat<xw.length by omega)
   obtain ⟨y,hy⟩: ∃y,y=xw.getD li.toNat default:=⟨_,rfl⟩
   rw [←hy] at hofb
   have hyf:st<y.ln.figs.length:=by
    have h1:=hst1
    have h2:(lw.map (·.ln)).getD li.toNat default=y.ln:=by rw [←hmap0,jbA _ _ zO,←hy]
    rw [←h2,jbA _ _ zO];exact h1
   rotate_left
   replace hli1:li<(lb.length:Int):=by simpa using hli1
   replace hst1:st<((lb.getD li.toNat default).ln.figs.length:Int):=by simpa using hst1
   obtain ⟨sj,hsj⟩:=Int.eq_ofNat_of_zero_le hst0
   obtain ⟨M1f,Fb,M2f,rfl,hofb,hset⟩:=hof.at (show li.toNat<xs.length by omega)
   obtain ⟨y,hy⟩: ∃y,y=xs.getD li.toNat default:=⟨_,rfl⟩
   rw [←hy] at hofb
   have hyf:st<y.ln.figs.length:=by
    have h1:=hst1
    have h2:(lb.map (·.ln)).getD li.toNat default=y.ln:=by rw [←hmap,jbA _ _ zO,←hy]
    rw [←h2,jbA _ _ zO];exact h1
   all_goals
    obtain ⟨bf,fc,junkf,hfv,rfl,hfl,hfc,hfn⟩:=jby hofb zO
    injection hfv with hyp _ hyc
    haveI hsf:=jdI (ss:=y.ln.figs) (junk:=junkf) (j:=st) (i:=sj) hsj zO f
    have hrw:=how0.rd (B:=B) (List.Sublist.refl _)
    have hrb:=how.rd (B:=B) (List.Sublist.refl _)
    refine jaz [(4,.pure),(6,.pure),(0,.read),(1,.read),(5,.read),(2,.keep),(3,.pure),(7,.pure),(8,.free)] zK zK (List.Sublist.refl _) ?_
   ·refine Z5 ?_
    refine jak (Post:=fun v=>v=lpV y) rfl zq zK (fun H' hH=>by
     have h1:=f94_l m (h:=h++[⟨true,q3,.cells (tbL b ps ns ks pw nw cw pb nb cb).toArray 25 (0,0)⟩,⟨true,q4,.cells [.bool true,.int .i64 li,.int .i64 st].toArray 37 (0,0)⟩,⟨true,q6,.cells [.int .i64 0,.slice none 0 0,.slice none 0 0,.slice none 0 0].toArray 25 (0,0)⟩,⟨true,q7,.cells [.int .i64 b.wrong,.slice ps ns ks,.slice p1 nw c1,.slice p2 nb c2].toArray 25 (0,0)⟩]++W0++FM0++W++(M1f++[⟨true,bf,.cells (encs y.ln.figs++junkf).toArray 9 (0,0)⟩]++M2f)) (H:=H') (by exact hH) (b:=b) (ps:=ps) (ns:=ns) (ks:=ks) (rlw:=hrw.up) (rlb:=hrb.up) (bt:=true) (li:=li) (st:=st) hli0 (by show li<(xs.length:Int);omega)
     rw [hy];exact h1) ?_
    rintro v rfl;refine D7 ?_;refine k_fld rfl zq ?_;refine D116 ?_;refine D26 ?_;refine D120 ?_
    have hy2:OwnS 9 1 (.slice y.p (y.ln.figs.set sj f).length y.c) (y.ln.figs.set sj f).length (encs (y.ln.figs.set sj f)) [⟨true,bf,.cells (encs (y.ln.figs.set sj f)++junkf).toArray 9 (0,0)⟩]:=by
     rw [hyp,hyc];exact E25
    have hnew:=hset ⟨⟨y.ln.lat,y.ln.figs.set sj f⟩,y.p,y.c⟩ _ hy2
    have hH1:HalfO (.slice p2 nb c2) nb (updL (lb.map (·.ln)) li.toNat st.toNat f) (W++(M1f++[⟨true,bf,.cells (encs (y.ln.figs.set sj f)++junkf).toArray 9 (0,0)⟩]++M2f)):=by
     refine ⟨_,_,_,_,_,rfl,?_,?_,hnew,rfl⟩
     ·have:=jfL hmap (show li.toNat<xs.length by omega) (k:=sj) f y.p y.c
      rw [←hy] at this
      rw [show st.toNat=sj by omega];exact this
     ·rw [jcc zO (by rw [←hy];simp [lpL])];exact how
    have hH2:HalfO (.slice p1 nw c1) nw (lw.map (·.ln)) (W0++FM0):=⟨xw,_,_,_,_,rfl,hmap0,how0,hof0,rfl⟩
    refine D167 ?_;refine D160 ?_;refine D4 ?_;refine jac (h++W0++FM0++W++(M1f++[⟨true,bf,.cells (encs (y.ln.figs.set sj f)++junkf).toArray 9 (0,0)⟩]++M2f)) rfl Tryz.func33 rfl jaa ?_;refine D5 ?_
    exact ⟨W0++FM0++W++(M1f++[⟨true,bf,.cells (encs (y.ln.figs.set sj f)++junkf).toArray 9 (0,0)⟩]++M2f),p1,c1,p2,c2,by simp only [List.append_assoc],rfl,hhrd hH2 (by exact (List.sublist_append_left _ _).trans (List.sublist_append_left _ _)),hhrd hH1 (by rw [List.append_assoc (W0++_)];exact List.sublist_append_right _ _)⟩
   ·refine Z5 ?_
    refine jak (Post:=fun v=>v=lpV y) rfl zq zK (fun H' hH=>by
     have h1:=f94_l m (h:=h++[⟨true,q3,.cells (tbL b ps ns ks pw nw cw pb nb cb).toArray 25 (0,0)⟩,⟨true,q4,.cells [.bool false,.int .i64 li,.int .i64 st].toArray 37 (0,0)⟩,⟨true,q6,.cells [.int .i64 0,.slice none 0 0,.slice none 0 0,.slice none 0 0].toArray 25 (0,0)⟩,⟨true,q7,.cells [.int .i64 b.wrong,.slice ps ns ks,.slice p1 nw c1,.slice p2 nb c2].toArray 25 (0,0)⟩]++W0++(M1f++[⟨true,bf,.cells (encs y.ln.figs++junkf).toArray 9 (0,0)⟩]++M2f)++W++FM) (H:=H') (by exact hH) (b:=b) (ps:=ps) (ns:=ns) (ks:=ks) (rlw:=hrw.up) (rlb:=hrb.up) (bt:=false) (li:=li) (st:=st) hli0 (by show li<(xw.length:Int);omega)
     rw [hy];exact h1) ?_
    rintro v rfl;refine D7 ?_;refine k_fld rfl zq ?_;refine D116 ?_;refine D26 ?_;refine D120 ?_
    have hy2:OwnS 9 1 (.slice y.p (y.ln.figs.set sj f).length y.c) (y.ln.figs.set sj f).length (encs (y.ln.figs.set sj f)) [⟨true,bf,.cells (encs (y.ln.figs.set sj f)++junkf).toArray 9 (0,0)⟩]:=by
     rw [hyp,hyc];exact E25
    have hnew:=hset ⟨⟨y.ln.lat,y.ln.figs.set sj f⟩,y.p,y.c⟩ _ hy2
    have hH1:HalfO (.slice p1 nw c1) nw (updL (lw.map (·.ln)) li.toNat st.toNat f) (W0++(M1f++[⟨true,bf,.cells (encs (y.ln.figs.set sj f)++junkf).toArray 9 (0,0)⟩]++M2f)):=by
     refine ⟨_,_,_,_,_,rfl,?_,?_,hnew,rfl⟩
     ·have:=jfL hmap0 (show li.toNat<xw.length by omega) (k:=sj) f y.p y.c
      rw [←hy] at this
      rw [show st.toNat=sj by omega];exact this
     ·rw [jcc zO (by rw [←hy];simp [lpL])];exact how0
    have hH2:HalfO (.slice p2 nb c2) nb (lb.map (·.ln)) (W++FM):=⟨xs,_,_,_,_,rfl,hmap,how,hof,rfl⟩
    refine D167 ?_;refine D160 ?_;refine D4 ?_;refine jac (h++W0++(M1f++[⟨true,bf,.cells (encs (y.ln.figs.set sj f)++junkf).toArray 9 (0,0)⟩]++M2f)++W++FM) rfl Tryz.func33 rfl jaa ?_;refine D5 ?_
    exact ⟨W0++(M1f++[⟨true,bf,.cells (encs (y.ln.figs.set sj f)++junkf).toArray 9 (0,0)⟩]++M2f)++W++FM,p1,c1,p2,c2,by simp only [List.append_assoc],rfl,hhrd hH1 (by exact (List.sublist_append_left _ _).trans (List.sublist_append_left _ _)),hhrd hH2 (by rw [List.append_assoc (W0++_)];exact List.sublist_append_right _ _)⟩
end Go.Proofs
namespace Go.Proofs
open Go.Lo
open Go.Conc (G)
set_option maxRecDepth 100000
set_option synthInstance.maxSize 100000
set_option synthInstance.maxHeartbeats 1000000
set_option maxHeartbeats 4000000
theorem jkG {p:Nat→Bool} {n:Nat} {g:List Int} (ha:Asc g) (hx: ∀x∈g,0≤x∧x<(n:Int)) (h1:p (jeo g)=true) (h2:((List.range (2^n)).all fun mm=>!p mm||!ltW (jba mm n) g)=true):jeU (fun l=>p (jeo l)=true) n g:=by
 refine ⟨ha,hx,h1,fun xs ha' hx' hp hf=>?_⟩
 obtain ⟨mm,hmm,rfl⟩:=jmZ ha' hx'
 have h3:=List.all_eq_true.1 h2 mm (List.mem_range.2 hmm)
 have hp':p (jeo (jba mm n))=true:=hp
 rw [jd6 hmm] at hp'
 rw [hp',jgk.2 hf] at h3
 cases h3
def exN:Tb:={exT with wrong:=0}
def exC:Tb:=setF exN ⟨false,0,1⟩ [49,45,50,45,48]
theorem ex_ok:tbS exT=0:=by kernel_rfl
theorem exN_ok:tbS exN=0:=by kernel_rfl
theorem jhr:tbS exC=0:=by kernel_rfl
theorem jkV:(jaf exT).length=11:=by kernel_rfl
theorem jjg:(jaf exN).length=1:=by kernel_rfl
theorem jnM:(jaf exC).length=0:=by kernel_rfl
theorem ex_sound:jb7 (cdT exT)=true:=by kernel_rfl
theorem jnK:jb7 (cdT exC)=false:=by kernel_rfl
theorem exC_few:jeU (fun l=>fewB exC (jeo l)=true) 6 [1]:=jkG (by simp [Asc]) zA zK zK
theorem jnL:jeU (fun l=>jhv exC (jeo l)=true) 6 [1,5]:=jkG (by simp [Asc]) zA zK zK
def fiC:Ce:=⟨false,0,1⟩
def buC:Ce:=⟨true,0,1⟩
theorem jc4:jaL exT 0=0∧jaL exN 0=0∧jaL exT (ownC exT fiC)=0∧jaL exN (ownC exN fiC)=0∧jaL exT (ownC exT buC)=0∧jaL exN (ownC exN buC)=0:=by
 refine ⟨?_,?_,?_,?_,?_,?_⟩<;>kernel_rfl
theorem exT_can:canL exT fiC=[96,104,112,120,128]:=by kernel_rfl
theorem exN_can:canL exN fiC=[96]:=by kernel_rfl
theorem jnH:jhH (jj7 (jaf exT) (plN exT buC)) (jaf exT).length=0:=by kernel_rfl
theorem jnI:jhH (jj7 (jaf exN) (plN exN buC)) (jaf exN).length=2:=by kernel_rfl
theorem ex_fig:figN 115=[49,45,50,45,51]:=by kernel_rfl
theorem jgH:jaN [49,45,63,45,48]=true∧jgC (meaS [49,45,63,45,48])=96∧jjM (meaS [49,45,63,45,48])=184∧(meaS [49,45,63,45,48]).length=12:=by
 refine ⟨?_,?_,?_,?_⟩<;>kernel_rfl
theorem jjV:jdY exN false 1 96=(96,132):=by kernel_rfl
theorem jlK:jdY exN true 1 100=(72,128):=by kernel_rfl
theorem jnJ:jaL exN (ownP exN 1 96)=0∧jaL exN (ownP exN 1 100)=0:=by
 refine ⟨?_,?_⟩<;>kernel_rfl
theorem jjU:(askR exT).2=6∧(askR exT).1.isSome=true∧cOfA exT (askR exT).1=fiC:=by
 refine ⟨?_,?_,?_⟩<;>kernel_rfl
def exR:Tb:=setF exT fiC (jdf (jei exT fiC [49,45,48,45,63]))
def exP:Tb:=setF exT buC [48,45,56,45,48]
theorem jje:jhP exT fiC [49,45,48,45,63]=0∧tbS exR=0∧(jaf exR).length=7:=by
 refine ⟨?_,?_,?_⟩<;>kernel_rfl
theorem jjf:putS exT buC [48,45,56,45,48]=0∧tbS exP=0∧(jaf exP).length=38:=by
 refine ⟨?_,?_,?_⟩<;>kernel_rfl
end Go.Proofs
namespace Go.Proofs
open Go.Lo
open Go.Conc (G)
set_option maxRecDepth 100000
set_option synthInstance.maxSize 100000
set_option synthInstance.maxHeartbeats 1000000
set_option maxHeartbeats 4000000
variable {B:Array Obj}
variable [LaidO B]
theorem RdLn.ro {h:Hp} {v:Value} {n:Nat} {lns:List Ln} (r:RdLn B h v n lns):RdLn B (Lo.ro h) v n lns:=by
 obtain ⟨lps,e,r1,r2⟩:=r
 exact ⟨lps,e,r1.ro,fun x hx=>⟨(r2 x hx).1,fun hp=>((r2 x hx).2 hp).ro⟩⟩
theorem RawTb.ro {h:Hp} {b:Tb} {ps:Option Addr} {ns ks:Nat} {pw:Option Addr} {nw cw:Nat} {pb:Option Addr} {nb cb:Nat} (r:RawTb B h b ps ns ks pw nw cw pb nb cb):RawTb B (Lo.ro h) b ps ns ks pw nw cw pb nb cb:=
 ⟨r.s.ro,r.sc,r.sn,RdLn.ro r.w,r.wn,RdLn.ro r.u,r.un,r.sm⟩
theorem ro_ro (a:Hp):ro (ro a)=ro a:=by simp [ro]
theorem jhO (w:Bool) (q:Nat) (o:Obj) (a:Hp):ro (⟨w,q,o⟩::a)=⟨false,q,o⟩::ro a:=rfl
theorem jkk:ro []=[]:=rfl
theorem exN_raw {h:Hp} {ps pw pb:Option Addr} (r:RawTb B h exT ps 2 2 pw 2 2 pb 1 1):RawTb B h exN ps 2 2 pw 2 2 pb 1 1:=⟨r.s,r.sc,r.sn,r.w,r.wn,r.u,r.un,⟨r.sm.sts,r.sm.wat,r.sm.but⟩⟩
section
variable {P:Program} {m:Md P B} {ops:Array Oper} {l l':List Value} {S h h' H:Hp} {C:List Value→Hp→Prop} {i:Nat} {kd:Kd} {r:List (Nat×Kd)} {d:Option Tmp} {ty:TypeId} {pos:String} {af:Array Edge} {g:Option (Nat×Bool)}
omit [LaidO B] in
theorem jnf {t u:TypeId} {x y:Operand} {a b a' b':Int} (ho:ops[i]?=some ⟨d,.binOp .eql t x y u,ty,pos,af,g⟩) (hw:Wt ops l g) [kh:KHeap kd S h H] [ex:OpV l x (.agg [.int .i64 a,.int .i64 b].toArray)] [ey:OpV l y (.agg [.int .i64 a',.int .i64 b'].toArray)] [KeyT P t]
  (hg:P.eqGuardType P.depth t=false) (e:a=a'∧b=b') [pf:PutV l d (.bool true) l'] (q:RegK m S ops r l' h C):RegK m S ops ((i,kd)::r) l h C:=by
 have he:=jmu (P:=P) (B:=B) (h:=H) 9998 (t:=t) a b a' b'
 have e2:(a==a'&&b==b')=true:=by simp [e]
 rw [e2] at he
 exact jkL ho hw hg he q
omit [LaidO B] in
theorem k_eqlCT {t u:TypeId} {x y:Operand} {a b a' b':Int} {c c':Bool} (ho:ops[i]?=some ⟨d,.binOp .eql t x y u,ty,pos,af,g⟩) (hw:Wt ops l g) [kh:KHeap kd S h H] [ex:OpV l x (.agg [.bool c,.int .i64 a,.int .i64 b].toArray)] [ey:OpV l y (.agg [.bool c',.int .i64 a',.int .i64 b'].toArray)] [KeyCT P t]
  (hg:P.eqGuardType P.depth t=false) (e:c=c'∧a=a'∧b=b') [pf:PutV l d (.bool true) l'] (q:RegK m S ops r l' h C):RegK m S ops ((i,kd)::r) l h C:=by
 have he:=jiF (P:=P) (B:=B) (h:=H) 9997 (t:=t) c c' a b a' b'
 have e2:(c==c'&&(a==a'&&b==b'))=true:=by simp [e]
 rw [e2] at he
 exact jkL ho hw hg he q
end
instance:KeyT Tryz.prog 29:=⟨by kernel_rfl⟩
theorem exC_sm:TbSm exC:=⟨by decide,by decide,by decide⟩
theorem f33_x (m:Md Tryz.prog B) (h:Hp) {ps pw pb:Option Addr} (r:RawTb B h exN ps 2 2 pw 2 2 pb 1 1):FnC m 33 #[tbV exN ps 2 2 pw 2 2 pb 1 1,cV false 0 1,str [49,45,50,45,48]] h fun v h'=> ∃nz,h'=h++nz∧ ∃pw' cw' pb' cb',v=tbV exN ps 2 2 pw' 2 cw' pb' 1 cb'∧RdLn B nz (.slice pw' 2 cw') 2 exC.waters∧RdLn B nz (.slice pb' 1 cb') 1 exC.butts:=by
 obtain ⟨lw,hlw,rlw,hfw⟩:=r.w
 obtain ⟨lb,hlb,rlb,hfb⟩:=r.u
 have hl:lw.length=2:=rlw.elen zA
 have h2:(lw.map (·.ln)).getD 0 default=(lw.getD 0 default).ln:=jbA _ _ zO
 have h3:(lw.getD 0 default).ln.figs.length=2:=by rw [←h2,hlw];rfl
 have hfw':=fun x hx=>(⟨(hfw x hx).1,(hfw x hx).2 ((by decide: ∀l∈exN.waters,0<l.figs.length) x.ln (hlw▸List.mem_map.2 ⟨x,hx,rfl⟩))⟩:x.ln.figs.length≤x.c∧RdS B h 1 (.slice x.p x.ln.figs.length x.c) x.ln.figs.length (encs x.ln.figs))
 have hfb':=fun x hx=>(⟨(hfb x hx).1,(hfb x hx).2 ((by decide: ∀l∈exN.butts,0<l.figs.length) x.ln (hlb▸List.mem_map.2 ⟨x,hx,rfl⟩))⟩:x.ln.figs.length≤x.c∧RdS B h 1 (.slice x.p x.ln.figs.length x.c) x.ln.figs.length (encs x.ln.figs))
 refine CallF.mono (f33_c m h (b:=exN) rlw rlb zO zO hfw' hfb' (by rw [hlw];decide) (by rw [hlb];decide) false 0 1 [49,45,50,45,48] zO zN zO (by simp;simp at h3;omega)) ?_
 rintro v h' ⟨nz,pw',cw',pb',cb',e1,e2,e3,e4⟩;refine ⟨nz,e1,pw',cw',pb',cb',e2,?_,?_⟩
 ·rw [hlw] at e3
  exact e3
 ·rw [hlb] at e4
  exact e4
theorem f20_c (h:Hp):FnC (Md.starC Tryz.prog B) 20 #[] h fun v h'=> ∃nw,h'=ro h++nw∧v= .bool true:=by
 refine jae Tryz.func20 rfl rfl (l:=uu320) rfl ?_
 intro cf cs K hK
 refine D145 ?_;refine rs6 ?_;refine D77 ?_
 rintro v nA ⟨pA1,pA2,pA3,rfl,raA⟩;refine jaH (jab ?_);refine D77 ?_
 rintro v nB ⟨pB1,pB2,pB3,rfl,raB⟩;refine jaH (jab ?_);have raN:=exN_raw raB
 refine jat rfl zq (fun q1=>k_hp (jab ?_));refine jat rfl zq (fun q2=>k_hp (jab ?_));refine D20 ?_;refine D160 ?_;refine D127 ?_;refine D142 ?_;refine rs6 ?_;refine D52 ?_;refine D52 ?_
 refine jat rfl zq (fun q3=>k_hp (jab ?_));refine jat rfl zq (fun q4=>k_hp (jab ?_));refine D20 ?_;refine D160 ?_;refine rs5 ?_;refine Z2 ?_;refine jaV rfl zq zK (Post:=fun v nw=> ∃pw' cw' pb' cb',v=tbV exN pB1 2 2 pw' 2 cw' pb' 1 cb'∧RdLn B nw (.slice pw' 2 cw') 2 exC.waters∧RdLn B nw (.slice pb' 1 cb') 1 exC.butts) (fun H' hH=>f33_x _ H' (raN.keeps (sq hH))) ?_
 rintro v nC ⟨pC2,cC2,pC3,cC3,rfl,wC,uC⟩;refine jaH (jab ?_);have raC: ∀H',nB.Sublist H'→nC.Sublist H'→RawTb B H' exC pB1 2 2 pC2 2 cC2 pC3 1 cC3:=fun H' s1 s2=>⟨raB.s.keeps s1,raB.sc,raB.sn,wC.keeps s2,by omega,uC.keeps s2,by omega,exC_sm⟩
 refine jat rfl zq (fun q5=>k_hp (jab ?_));refine D160 ?_;refine rs10 ?_;refine jak (Post:=fun v=>v= .tuple [.int .i64 96,.int .i64 184,.int .i64 12,.int .i64 0].toArray) rfl zq zK (fun H' hH=>by have:=f62_c (Md.starC Tryz.prog B) H' [49,45,63,45,48] zA;rw [if_pos jgH.1,if_pos jgH.1,if_pos jgH.1,if_pos jgH.1,jgH.2.1,jgH.2.2.1,jgH.2.2.2] at this;exact this) ?_
 rintro v rfl;refine D7 ?_;refine Z8 ?_;refine D0 ?_;refine rs6 ?_;refine jak (Post:=fun v=>v= .tuple [str [49,45,50,45,51],.int .i64 0].toArray) rfl zq zK (fun H' hH=>by have:=f59_c (Md.starC Tryz.prog B) H' 115;rw [if_pos zA,if_pos zA,show (115:Int).toNat=115 from rfl,ex_fig] at this;exact this) ?_
 rintro v rfl;refine D186 ?_;refine D0 ?_;refine D166 ?_;refine jak (Post:=fun v=>v= .tuple [.int .i64 11,.int .i64 0].toArray) rfl zq zK (fun H' hH=>by have:=f28_c (Md.starC Tryz.prog B) H' (b:=exT) (raA.keeps (sq hH));rw [if_pos ex_ok,jkV,ex_ok] at this;exact this) ?_
 rintro v rfl;refine D186 ?_;refine D0 ?_;refine D166 ?_;refine jak (Post:=fun v=>v= .tuple [.int .i64 1,.int .i64 0].toArray) rfl zq zK (fun H' hH=>by have:=f28_c (Md.starC Tryz.prog B) H' (b:=exN) (raN.keeps (sq hH));rw [if_pos exN_ok,jjg,exN_ok] at this;exact this) ?_
 rintro v rfl;refine D186 ?_;refine D0 ?_;refine D166 ?_;refine jak (Post:=fun v=>v= .tuple [.int .i64 0,.int .i64 0].toArray) rfl zq zK (fun H' hH=>by have:=f28_c (Md.starC Tryz.prog B) H' (b:=exC) (raC H' (sq hH) (sq hH));rw [if_pos jhr,jnM,jhr] at this;exact this) ?_
 rintro v rfl;refine D186 ?_;refine D0 ?_;refine rs8 ?_;refine Z2 ?_;refine jaV rfl zq zK (Post:=fun v nw=> ∃w,v= .tuple [w,.int .i64 (jaL exT (ownC exT fiC))].toArray∧RdI B nw w (canL exT fiC)) (fun H' hH=>f29_s _ H' (b:=exT) (raA.keeps (sq hH)) fiC (by rw [jkV];decide)) ?_
 rintro v nD ⟨w,rfl,hw⟩;refine jaH (jab ?_);rw [exT_can] at hw
 rw [jc4.2.2.1];obtain ⟨pcT,ccT,rfl,rcT⟩:=hw
 refine Z4 ?_;refine D0 ?_;refine rs8 ?_;refine Z2 ?_;refine jaV rfl zq zK (Post:=fun v nw=> ∃w,v= .tuple [w,.int .i64 (jaL exN (ownC exN fiC))].toArray∧RdI B nw w (canL exN fiC)) (fun H' hH=>f29_s _ H' (b:=exN) (raN.keeps (sq hH)) fiC (by rw [jjg];decide)) ?_
 rintro v nE ⟨w,rfl,hw⟩;refine jaH (jab ?_);rw [exN_can] at hw
 rw [jc4.2.2.2.1];obtain ⟨pcN,ccN,rfl,rcN⟩:=hw
 refine Z4 ?_;refine D0 ?_;refine rs8 ?_;refine Z2 ?_;refine jak (Post:=fun v=>v= .tuple [.int .i64 0,.int .i64 0].toArray) rfl zq zK (fun H' hH=>by have:=f30_c (Md.starC Tryz.prog B) H' (b:=exT) (raA.keeps (sq hH)) buC;rw [if_pos jc4.2.2.2.2.1,jnH,jc4.2.2.2.2.1] at this;exact this) ?_
 rintro v rfl;refine D186 ?_;refine D0 ?_;refine rs8 ?_;refine Z2 ?_;refine jak (Post:=fun v=>v= .tuple [.int .i64 2,.int .i64 0].toArray) rfl zq zK (fun H' hH=>by have:=f30_c (Md.starC Tryz.prog B) H' (b:=exN) (raN.keeps (sq hH)) buC;rw [if_pos jc4.2.2.2.2.2,jnI,jc4.2.2.2.2.2] at this;exact this) ?_
 rintro v rfl;refine D186 ?_;refine D0 ?_;refine D166 ?_;refine jak (Post:=fun v=> ∃w,v= .tuple [w,.int .i64 (tbS exT)].toArray∧IsB (tbS exT=0∧jb7 (cdT exT)=true) w) rfl zq zK (fun H' hH=>f45_c _ H' (b:=exT) (raA.keeps (sq hH))) ?_
 rintro v ⟨w45,rfl,hw45⟩;obtain rfl:=isB_true hw45 ⟨ex_ok,ex_sound⟩
 rw [ex_ok];refine D186 ?_;refine D0 ?_;refine D166 ?_;refine jc2 rfl zq zK (f40_c _ (raC _ SubH.sub SubH.sub)) ?_
 rintro v h' ⟨nF,w40,g40,rfl,rfl,rg40,_,hl40⟩;refine D7 ?_
 obtain rfl:=jhk (hl40 jhr) exC_few
 rw [jhr];obtain ⟨p40,c40,rfl,r40⟩:=rg40
 have raCr: ∀H',(ro nB).Sublist H'→(ro nC).Sublist H'→RawTb B H' exC pB1 2 2 pC2 2 cC2 pC3 1 cC3:=fun H' s1 s2=>⟨raB.s.ro.keeps s1,raB.sc,raB.sn,(RdLn.ro wC).keeps s2,by omega,(RdLn.ro uC).keeps s2,by omega,exC_sm⟩
 simp only [jhd,ro_ro,jhO,jkk]
 simp only [jhd,ro_ro,jhO,jkk] at r40
 refine Z4 ?_;refine D0 ?_;refine D166 ?_;refine jc2 rfl zq zK (f41_c _ (raCr _ SubH.sub SubH.sub)) ?_
 rintro v h' ⟨nG,w41,g41,rfl,rfl,rg41,_,_,hl41⟩;refine D7 ?_
 obtain rfl:=jhk (hl41 jhr (by rw [jnK];decide)) jnL
 rw [jhr];obtain ⟨p41,c41,rfl,r41⟩:=rg41
 have raAr:=raA.ro
 have raNr:=raN.ro
 have r40r:=r40.ro
 have rcTr:=rcT.ro
 have rcNr:=rcN.ro
 simp only [jhd,ro_ro,jhO,jkk]
 simp only [jhd,ro_ro,jhO,jkk] at r41 r40r
 refine Z4 ?_;refine D0 ?_;refine rs8 ?_;refine Zs ?_;refine jak (Post:=fun v=>v= .tuple [.agg [.int .i64 96,.int .i64 132].toArray,.int .i64 0].toArray) rfl zq zK (fun H' hH=>by have:=f21_c (Md.starC Tryz.prog B) H' (b:=exN) (raNr.keeps (sq hH)) 1 96;rw [jjV,jnJ.1] at this;exact this) ?_
 rintro v rfl;refine D7 ?_;refine Z3 ?_
 refine jat rfl zq (fun q32=>k_hp (jab ?_));refine D20 ?_;refine D0 ?_;refine rs8 ?_;refine Zs ?_;refine jak (Post:=fun v=>v= .tuple [.agg [.int .i64 72,.int .i64 128].toArray,.int .i64 0].toArray) rfl zq zK (fun H' hH=>by have:=f23_c (Md.starC Tryz.prog B) H' (b:=exN) (raNr.keeps (sq hH)) 1 100;rw [jlK,jnJ.2] at this;exact this) ?_
 rintro v rfl;refine D7 ?_;refine Z3 ?_
 refine jat rfl zq (fun q34=>k_hp (jab ?_));refine D20 ?_;refine D122 ?_;refine jbw [(0,.free),(1,.free),(2,.free),(3,.free),(4,.free),(5,.free),(6,.free),(7,.free),(8,.free),(9,.free),(10,.free),(11,.free)] zK zK ?_;refine Zs ?_;refine jak (Post:=fun v=>v= .tuple [.agg [.bool false,.int .i64 0,.int .i64 1].toArray,.int .i64 6,.bool true,.int .i64 0].toArray) rfl zq zK (fun H' hH=>by have:=f50_c (Md.starC Tryz.prog B) H' (b:=exT) (raAr.keeps (sq hH));rw [jjU.2.2,jjU.1,jjU.2.1,jc4.1] at this;exact this) ?_
 rintro v rfl;refine D7 ?_;refine Z5 ?_
 refine jat rfl zq (fun q36=>k_hp (jab ?_));refine D20 ?_;refine D152 ?_;refine rs9 ?_;refine Z2 ?_;refine jaV rfl zq zK (Post:=fun v nw=>TabO B (jhP exT fiC [49,45,48,45,63]) exR nw v) (fun H' hH=>f53_c _ H' (b:=exT) (raAr.keeps (sq hH)) fiC [49,45,48,45,63] zA) ?_
 rintro v nH ⟨x0,y1,z1,w1,y2,z2,w2,y3,z3,w3,rfl,_,hz⟩;refine jaH (jab ?_);obtain ⟨psexR,nsexR,ksexR,pwexR,nwexR,cwexR,pbexR,nbexR,cbexR,eexR,raexR⟩:=hz jje.1
 rw [eexR,jje.1];refine Z3 ?_
 refine jat rfl zq (fun q40=>k_hp (jab ?_));refine D20 ?_;refine D0 ?_;refine D166 ?_;refine jak (Post:=fun v=>v= .tuple [.int .i64 7,.int .i64 0].toArray) rfl zq zK (fun H' hH=>by have:=f28_c (Md.starC Tryz.prog B) H' (b:=exR) (raexR.keeps (sq hH));rw [if_pos jje.2.1,jje.2.2,jje.2.1] at this;exact this) ?_
 rintro v rfl;refine D186 ?_;refine D0 ?_;refine rs9 ?_;refine Z2 ?_;refine jaV rfl zq zK (Post:=fun v nw=>TabO B (putS exT buC [48,45,56,45,48]) exP nw v) (fun H' hH=>f60_c _ H' (b:=exT) (raAr.keeps (sq hH)) buC [48,45,56,45,48] zA) ?_
 rintro v nP ⟨x0,y1,z1,w1,y2,z2,w2,y3,z3,w3,rfl,_,hz⟩;refine jaH (jab ?_);obtain ⟨psexP,nsexP,ksexP,pwexP,nwexP,cwexP,pbexP,nbexP,cbexP,eexP,raexP⟩:=hz jjf.1
 rw [eexP,jjf.1];refine Z3 ?_
 refine jat rfl zq (fun q44=>k_hp (jab ?_));refine D20 ?_;refine D0 ?_;refine D166 ?_;refine jak (Post:=fun v=>v= .tuple [.int .i64 38,.int .i64 0].toArray) rfl zq zK (fun H' hH=>by have:=f28_c (Md.starC Tryz.prog B) H' (b:=exP) (raexP.keeps (sq hH));rw [if_pos jjf.2.1,jjf.2.2,jjf.2.1] at this;exact this) ?_
 rintro v rfl;refine D186 ?_;refine D122 ?_;refine D3 ?_;refine jbw [(0,.free),(1,.free),(2,.free),(3,.free),(4,.free),(5,.free),(6,.free),(7,.free),(8,.free),(9,.free),(10,.free),(11,.free),(12,.free),(13,.free),(14,.free),(15,.free),(16,.free),(17,.free),(18,.free),(19,.free),(20,.free),(21,.free),(22,.free),(23,.free),(24,.free),(25,.free),(26,.free),(27,.free),(28,.free),(29,.free),(30,.free),(31,.free),(32,.free),(33,.free),(34,.free),(35,.free),(36,.free),(37,.free),(38,.free),(39,.free),(40,.free),(41,.free),(42,.free),(43,.free),(44,.free),(45,.free),(46,.free),(47,.free),(48,.free),(49,.free),(50,.free),(51,.free),(52,.free),(53,.free),(54,.free),(55,.free),(56,.free),(57,.free),(58,.free),(59,.free),(60,.free),(61,.free),(62,.free),(63,.free),(64,.free),(65,.free),(66,.free),(67,.free),(68,.free),(69,.free),(70,.free),(71,.free),(72,.free),(73,.free)] zK zK ?_;refine Zs ?_;refine jeD rfl zq zA ?_;refine D185 ?_;refine D185 ?_;refine D185 ?_;refine D185 ?_;refine D185 ?_;refine D185 ?_;refine D185 ?_;refine D185 ?_;refine D185 ?_;refine D140 ?_;refine D3 ?_;refine jbw [(0,.free),(1,.free),(2,.free),(3,.free),(4,.free),(5,.free),(6,.free),(7,.free),(8,.free),(9,.free),(10,.free),(11,.free),(12,.free),(13,.free),(14,.free),(15,.free),(16,.free),(17,.free),(18,.free),(19,.free),(20,.free),(21,.free),(22,.free),(23,.free),(24,.free),(25,.free),(26,.free),(27,.free),(28,.free),(29,.free),(30,.free),(31,.free),(32,.free),(33,.free),(34,.free),(35,.free),(36,.free),(37,.free)] zK zK ?_;refine Zs ?_;refine jeD rfl zq zA ?_;refine D185 ?_;refine Z2 ?_;refine jjO rfl rfl rfl ?_;refine D10 ?_;refine D185 ?_;refine D148 ?_;refine Z2 ?_
 refine k_bs kdq rfl rfl zA zA rfl (fun q261=>k_hp (jab ?_));have rd261:RdS B [⟨true,q261,.cells [.int .i64 96,.int .i64 104,.int .i64 112,.int .i64 120,.int .i64 128].toArray 3 (0,0)⟩] 1 (.slice (some ⟨q261,0,none⟩) 5 5) 5 (ints [96,104,112,120,128]):=(OwnS.full (t:=3) (q:=q261) (cs:=ints [96,104,112,120,128]) rfl).rd (List.Sublist.refl _)
 refine jak (Post:=fun v=>IsB _ v) rfl rfl zK (fun H' hH=>f61_c _ H' (rcTr.keeps (sq hH)) zA (rd261.keeps (sq hH))) ?_;rintro v (⟨hc,rfl⟩|⟨hc,rfl⟩)
 ·refine D7 ?_;refine jgp rfl rfl ?_;refine D10 ?_;refine Z2 ?_
  refine k_bs kdq rfl rfl zA zA rfl (fun q267=>k_hp (jab ?_));have rd267:RdS B [⟨true,q267,.cells [.int .i64 96].toArray 3 (0,0)⟩] 1 (.slice (some ⟨q267,0,none⟩) 1 1) 1 (ints [96]):=(OwnS.full (t:=3) (q:=q267) (cs:=ints [96]) rfl).rd (List.Sublist.refl _)
  refine jak (Post:=fun v=>IsB _ v) rfl rfl zK (fun H' hH=>f61_c _ H' (rcNr.keeps (sq hH)) zA (rd267.keeps (sq hH))) ?_;rintro v (⟨hc,rfl⟩|⟨hc,rfl⟩)
  ·refine D7 ?_;refine jgp rfl rfl ?_;refine D10 ?_;refine D140 ?_;refine jbw [(0,.free),(1,.free),(2,.free),(3,.free),(4,.free),(5,.free),(6,.free),(7,.free),(8,.free),(9,.free),(10,.free),(11,.free),(12,.free),(13,.free),(14,.free),(15,.free),(16,.free),(17,.free),(18,.free),(19,.free),(20,.free),(21,.free),(22,.free),(23,.free),(24,.free),(25,.free),(26,.free),(27,.free),(28,.free),(29,.free),(30,.free),(31,.free),(32,.free),(33,.free),(34,.free),(35,.free),(36,.free),(37,.free),(38,.free),(39,.free),(40,.free),(41,.free),(42,.free),(43,.free),(44,.free),(45,.free),(46,.free),(47,.free),(48,.free),(49,.free)] zK zK ?_;refine Zs ?_;refine jdv rfl zq zA ?_;refine Z2 ?_;refine jdv rfl rfl zA ?_;refine D21 ?_;refine Z2 ?_;refine D21 ?_;refine Z2 ?_
   refine k_bs kdq rfl rfl zA zA rfl (fun q282=>k_hp (jab ?_));have rd282:RdS B [⟨true,q282,.cells [.int .i64 1].toArray 3 (0,0)⟩] 1 (.slice (some ⟨q282,0,none⟩) 1 1) 1 (ints [1]):=(OwnS.full (t:=3) (q:=q282) (cs:=ints [1]) rfl).rd (List.Sublist.refl _)
   refine jak (Post:=fun v=>IsB _ v) rfl rfl zK (fun H' hH=>f61_c _ H' (r40r.keeps (sq hH)) zA (rd282.keeps (sq hH))) ?_;rintro v (⟨hc,rfl⟩|⟨hc,rfl⟩)
   ·refine D7 ?_;refine D21 ?_;refine Z2 ?_
    refine k_bs kdq rfl rfl zA zA rfl (fun q287=>k_hp (jab ?_));have rd287:RdS B [⟨true,q287,.cells [.int .i64 1,.int .i64 5].toArray 3 (0,0)⟩] 1 (.slice (some ⟨q287,0,none⟩) 2 2) 2 (ints [1,5]):=(OwnS.full (t:=3) (q:=q287) (cs:=ints [1,5]) rfl).rd (List.Sublist.refl _)
    refine jak (Post:=fun v=>IsB _ v) rfl rfl zK (fun H' hH=>f61_c _ H' (r41.keeps (sq hH)) zA (rd287.keeps (sq hH))) ?_;rintro v (⟨hc,rfl⟩|⟨hc,rfl⟩)
    ·refine D7 ?_;refine D21 ?_;refine Z2 ?_;refine k_bld rfl rfl ?_
     refine jnf rfl rfl zK zA ?_;refine D21 ?_;refine Z2 ?_;refine k_bld rfl rfl ?_
     refine jnf rfl rfl zK zA ?_;refine D21 ?_;refine Z3 ?_
     refine k_eqlCT rfl rfl zK zA ?_;refine D21 ?_;refine Z2 ?_;refine jdv rfl rfl zA ?_;refine D21 ?_;refine Z2 ?_;refine D21 ?_;refine Z2 ?_;refine jdv rfl rfl zA ?_;refine D21 ?_;refine Z2 ?_;refine jdv rfl rfl zA ?_;refine D21 ?_;refine D117 ?_;refine jac (ro h) rfl Tryz.func20 rfl jaa ?_;refine D5 ?_
     exact ⟨[],by simp,rfl⟩
    ·refine D7 ?_
     exact absurd rfl hc
   ·refine D7 ?_
    exact absurd rfl hc
  ·refine D7 ?_
   exact absurd rfl hc
 ·refine D7 ?_
  exact absurd rfl hc
end Go.Proofs
namespace Go.Proofs
open Go.Lo
theorem jkg (b:Tb) (c:Ce) (f:Str):(setF b c f).sts=b.sts∧(setF b c f).wrong=b.wrong:=by unfold setF;split<;>exact ⟨rfl,rfl⟩
end Go.Proofs
namespace Go.Proofs.YtggpepeiedkbbaaGreatDoor
open Go Go.Lo Go.ChangeShapes Go.WideShapes Go.ChangeAt Go.RowKit Go.Conc
set_option maxRecDepth 100000
theorem jii (Lk:Looks) {p:Pinned} {s:OpenSpec} {k:StoodClaim8} {ks:List StandKind} (kinds:List LaidKind) (tests:Bool) (h:Claim7.holdsNew p (.plain s) {stood:=k,kinds:=ks}) (hw:k.row.wfByText s=true):
  Claim7.holdsNew p (.plain s) {stood:=k,kinds:=ks,goes:=true,laidByText:=true,laidKinds:=kinds,laidTests:=tests,laidLooks:=Lk}:=by
 obtain ⟨_,rest⟩:=h
 exact ⟨hw,rest⟩
theorem card_of (Lk:Looks) {p:Pinned} {s:OpenSpec} {c:OpenClaim} (kinds:List LaidKind) (tests:Bool) (har:Bool×String) (lk:Bool)
  (hc:c.holds p s) (hw:c.wfByText s=true) (htie:c.laidByTextAt Lk p kinds tests)
  (hst:c.start= .entering) (hnb:c.noBlocks=false∧c.again=false) (hm:p.checked.prog.mainIs=some (har.1,har.2.toList)) (hn:(!har.1&&har.2.isEmpty&&!lk)=false)
  (hl: ∀f fn,p.checked.prog.funcNamed c.func=some f→p.checked.prog.funcs[f]?=some fn→lk=p.checked.prog.looks []∧ ∀(j:Nat) t,fn.params[j]?=some t→p.checked.prog.wantsStandIn t=false)
  (hg:true=c.goesBy p.checked.prog):
  Claim7.holds p (.plain s) {stood:={row:=c,standIns:=[],harness:=har,looks:=lk},kinds:=[],alts:=[],goes:=true,laidByText:=true,laidKinds:=kinds,laidTests:=tests,laidLooks:=Lk}:=by
 have h6: ∀r:OpenClaim,Claim7.isSixth {stood:={row:=r,standIns:=[],harness:=har,looks:=lk},kinds:=[]}=false:=fun r=>by simpa [Claim7.isSixth] using hn
 exact ⟨jii Lk kinds tests (Claim7.new_of_sixth hc har lk hst hnb hm (h6 c) hl) hw,(fun D hD=>by cases hD),htie,(fun h=>by cases h),hg⟩
theorem own:ownKnob Tryz.prog.godebug=none:=by kernel_rfl
theorem jjN:laidOutB Tryz.prog=true:=by kernel_rfl
theorem laidOutP:laidOutB Tryz.pinned.checked.prog=true:=jjN
def laidL:List (String×DataW Unit):=[("math/bits.deBruijn32tab",Rows.laid_math_bits_deBruijn32tab),("math/bits.deBruijn64tab",Rows.laid_math_bits_deBruijn64tab),("internal/strconv.uint64pow10",Rows.laid_internal_strconv_uint64pow10),("ribband/offsets.mosts",Rows.laid_ribband_offsets_mosts),("ribband/offsets.halves",Rows.laid_ribband_offsets_halves)]
theorem door_met (os:Os) (args:Array Value):laidMetH Tryz.prog laidL ((World.doorLaid Tryz.prog 36 os).forCall (fun _ _=>0) ⟨#[],args,[]⟩).memory:=by
 have d:((DataW.laidRun Tryz.prog ((World.doorLaid Tryz.prog 36 os).forCall (fun _ _=>0) ⟨#[],args,[]⟩).memory 8 ((laidL.filter fun x=>x.2.handleName?.isNone).map (·.1))).bind fun x=>
   if nodupBits 65 x.2 0&&laidRowsB Tryz.prog ((World.doorLaid Tryz.prog 36 os).forCall (fun _ _=>0) ⟨#[],args,[]⟩).memory x.2&&(laidL.filter fun x=>x.2.handleName?.isSome&&x.2.funcsIn?.isNone).all (handleAtB Tryz.prog ((World.doorLaid Tryz.prog 36 os).forCall (fun _ _=>0) ⟨#[],args,[]⟩).memory)
   then (funcsRun Tryz.prog ((World.doorLaid Tryz.prog 36 os).forCall (fun _ _=>0) ⟨#[],args,[]⟩).memory 8 ((funcsListed laidL).map (·.1))).map fun y=>(x.1,y) else none)=some (laidL.filter fun x=>x.2.handleName?.isNone,(funcsListed laidL).map (·.2.funcsOut)):=by kernel_rfl
 simp only [Option.bind_eq_some_iff] at d
 obtain ⟨x,hx,d⟩:=d
 split at d
 ·rename_i hb
  simp only [Bool.and_eq_true] at hb
  simp only [Option.map_eq_some_iff,Prod.mk.injEq] at d
  obtain ⟨y,hy,e1,e2⟩:=d
  exact laidMetH_of_parts3 (fuel:=8) (laidMet_of_run (ps:=x.2) 8 (by rw [hx,←e1]) (decide_eq_true (nodupBits_sound hb.1.1).1) hb.1.2) hb.2 (by rw [hy,e2])
 ·cases d
theorem str_lit {s:ByteArray} {l:List UInt8} (h:s.data.toList=l):Value.string s=str l:=by subst h;exact str_of s
theorem jno {W:World} (h:laidMetH Tryz.prog laidL W): ∃t f,W.heap[0]?=some (.cells [str [119,97,116,101,114],.bool false,.func (.func 261) #[] #[],str [98,117,116,116],.bool true,.func (.func 262) #[] #[]].toArray t f):=by
 obtain ⟨g,t,cs,fuel,p,hg,ht,hv,hd⟩:=h.funcs (n:= "ribband/offsets.halves") (List.mem_cons_of_mem _ (List.mem_cons_of_mem _ (List.mem_cons_of_mem _ (List.mem_cons_of_mem _ (List.mem_cons_self ..)))))
 obtain rfl:=Option.some.inj ((show Tryz.prog.globalNamed "ribband/offsets.halves" =some 0 by kernel_rfl).symm.trans hg)
 obtain rfl:=Option.some.inj ((show (Tryz.prog.globals[0]?).map (·.type)=some 185 by kernel_rfl).symm.trans ht)
 have hu: Tryz.prog.underlying 185=some (.array 2 184):=by kernel_rfl
 obtain ⟨fs,hs,hfs⟩: ∃fs,Tryz.prog.underlying 184=some (.struct fs)∧fs.toList.map (fun f=>(f.offset,f.type))=[(0,9),(1,4),(2,182)]:=⟨_,Tryz.underlying184,by kernel_rfl⟩
 have c3: Tryz.prog.cellsOf 184=3:=by kernel_rfl
 have k9: Tryz.prog.cellsOf 9=1:=by kernel_rfl
 have k4: Tryz.prog.cellsOf 4=1:=by kernel_rfl
 have kf: Tryz.prog.cellsOf 182=1:=by kernel_rfl
 have u9: Tryz.prog.underlying 9=some .string:=by kernel_rfl
 have u4: Tryz.prog.underlying 4=some .bool:=by kernel_rfl
 obtain ⟨qs,rs,va,hfun⟩: ∃qs rs va,Tryz.prog.underlying 182=some (.func qs rs va):=⟨_,_,_,Tryz.underlying182⟩
 obtain ⟨f0,f1,f2,rfl⟩: ∃f0 f1 f2,fs= #[f0,f1,f2]:=by
  obtain ⟨fl⟩:=fs
  have hlen:fl.length=3:=by simpa using congrArg List.length hfs
  match fl,hlen with
  |[f0,f1,f2],_=>exact ⟨_,_,_,rfl⟩
 simp only [List.map_cons,List.map_nil,List.cons.injEq,Prod.mk.injEq,and_true] at hfs
 obtain ⟨⟨o0,t0⟩,⟨o1,t1⟩,o2,t2⟩:=hfs
 obtain ⟨xs,m,_,ex,hl,hxl,hx⟩:=DataW.trod_array hu hd
 have hl6:cs.toList.length=6:=hl.trans zK
 obtain ⟨cl⟩:=cs
 obtain ⟨c0,c1,c2,d0,d1,d2,rfl⟩: ∃c0 c1 c2 d0 d1 d2,cl=[c0,c1,c2,d0,d1,d2]:=by
  match cl,hl6 with
  |[c0,c1,c2,d0,d1,d2],_=>exact ⟨_,_,_,_,_,_,rfl⟩
 obtain ⟨y0,y1,rfl⟩: ∃y0 y1,xs=[y0,y1]:=by
  match xs,hxl with
  |[y0,y1],_=>exact ⟨_,_,rfl⟩
 have e2: ∃a b:List UInt8,(Rows.laid_ribband_offsets_halves:DataW Unit)= .iface "func table" (.agg [.agg [.lit (.string [119,97,116,101,114]),.lit (.bool false),.iface "func" (.lit (.string a))],.agg [.lit (.string [98,117,116,116]),.lit (.bool true),.iface "func" (.lit (.string b))]])∧
   ((List.range Tryz.prog.funcs.size).filter fun f=>(Tryz.prog.funcs[f]?).any (·.name.toUTF8.data.toList==a))=[261]∧((List.range Tryz.prog.funcs.size).filter fun f=>(Tryz.prog.funcs[f]?).any (·.name.toUTF8.data.toList==b))=[262]∧a≠[]∧b≠[]∧
   [y0.1,y1.1]=[.agg [.lit (.string [119,97,116,101,114]),.lit (.bool false),.held a],.agg [.lit (.string [98,117,116,116]),.lit (.bool true),.held b]]:=by
  refine ⟨_,_,rfl,by kernel_rfl,by kernel_rfl,by simp,by simp,?_⟩
  have:=congrArg Prod.fst ex
  simp only [DataW.funcsOut,DataW.funcsOutAll,List.map_cons,List.map_nil] at this
  injection this with this
  exact this.symm
 obtain ⟨a,b,_,fa,fb,na,nb,e3⟩:=e2
 simp only [List.cons.injEq,and_true] at e3
 obtain ⟨z0,z1⟩:=e3
 have key: ∀(u0 u1 u2:Value) (y:DataW (List UInt8)×List MemPlace) (s:List UInt8) (bb:Bool) (l:List UInt8) (fn:FuncId),DataW.trod (funcToken Tryz.prog) Tryz.prog W 0 (fun _=>true) true m 184 [u0,u1,u2]=some y→y.1= .agg [.lit (.string s),.lit (.bool bb),.held l]→l≠[]→((List.range Tryz.prog.funcs.size).filter fun f=>(Tryz.prog.funcs[f]?).any (·.name.toUTF8.data.toList==l))=[fn]→u0=str s∧u1= .bool bb∧u2= .func (.func fn) #[] #[]:=by
  intro u0 u1 u2 y s bb l fn h1 h2 h3 h4
  obtain ⟨ys,k,_,ey,_,hyl,hy⟩:=DataW.trod_struct hs h1
  obtain ⟨w0,w1,w2,rfl⟩: ∃w0 w1 w2,ys=[w0,w1,w2]:=by
   match ys,hyl with
   |[w0,w1,w2],_=>exact ⟨_,_,_,rfl⟩
  have g0:=hy 0 f0 rfl
  have g1:=hy 1 f1 rfl
  have g2:=hy 2 f2 rfl
  rw [t0,o0,k9] at g0
  rw [t1,o1,k4] at g1
  rw [t2,o2,kf] at g2
  obtain ⟨s0,q0,x0,_⟩:=DataW.trod_string u9 g0
  obtain ⟨b0,q1,x1⟩:=DataW.trod_bool u4 g1
  subst ey
  simp only [List.map_cons,List.map_nil,DataW.agg.injEq,List.cons.injEq,and_true] at h2
  obtain ⟨e0,e1,e2⟩:=h2
  rw [x0] at e0
  rw [x1] at e1
  have q0':=List.head_eq_of_cons_eq (show [u0]=[Value.string s0] from q0)
  have q1':=List.head_eq_of_cons_eq (show [u1]=[Value.bool b0] from q1)
  refine ⟨by rw [q0'];exact str_lit (by simpa using e0),by rw [q1'];congr 1;simpa using e1,?_⟩
  obtain ⟨w21,w22⟩:=w2
  obtain rfl:w21= .held l:=e2
  cases l with
  |nil=>exact absurd rfl h3
  |cons b0 r0=>exact func_of_trod hfun h4 g2
 have g0:=hx 0 zO
 have g1:=hx 1 zO
 rw [c3] at g0 g1
 obtain ⟨rfl,rfl,rfl⟩:=key c0 c1 c2 y0 _ _ a 261 g0 z0 na fa
 obtain ⟨rfl,rfl,rfl⟩:=key d0 d1 d2 y1 _ _ b 262 g1 z1 nb fb
 unfold World.var? at hv
 rw [hg] at hv
 simp only [Option.bind_some] at hv
 split at hv
 ·rename_i cs t f hb
  obtain rfl:=Option.some.inj hv
  exact ⟨t,f,hb⟩
 ·cases hv
theorem mosts_of {W:World} (h:laidMetH Tryz.prog laidL W): ∃t f,W.heap[1]?=some (.cells [.int .i64 9,.int .i64 11,.int .i64 7].toArray t f):=by
 obtain ⟨ps,hl,_,_⟩:=(laidMetH_iff.1 h).1
 have e:(laidL.filter fun x=>x.2.handleName?.isNone)=[("math/bits.deBruijn32tab",Rows.laid_math_bits_deBruijn32tab),("math/bits.deBruijn64tab",Rows.laid_math_bits_deBruijn64tab),("internal/strconv.uint64pow10",Rows.laid_internal_strconv_uint64pow10),("ribband/offsets.mosts",Rows.laid_ribband_offsets_mosts)]:=by kernel_rfl
 rw [e] at hl
 obtain ⟨_,_,_,_,_,_,_,_,_,_,hl,_⟩:=hl
 obtain ⟨_,_,_,_,_,_,_,_,_,_,hl,_⟩:=hl
 obtain ⟨_,_,_,_,_,_,_,_,_,_,hl,_⟩:=hl
 obtain ⟨g,t,cs,fuel,p,q,hg,ht,hv,hd,_,_⟩:=hl
 obtain rfl:=Option.some.inj ((show Tryz.prog.globalNamed "ribband/offsets.mosts" =some 1 by kernel_rfl).symm.trans hg)
 obtain rfl:=Option.some.inj ((show (Tryz.prog.globals[1]?).map (·.type)=some 145 by kernel_rfl).symm.trans ht)
 have hu: Tryz.prog.underlying 145=some (.array 3 3):=by kernel_rfl
 have h3: Tryz.prog.underlying 3=some (.int .i64):=by kernel_rfl
 have c3: Tryz.prog.cellsOf 3=1:=by kernel_rfl
 obtain ⟨xs,m,_,ex,hl3,hxl,hx⟩:=DataW.trod_array hu hd
 have hl3:cs.toList.length=3:=hl3.trans zK
 obtain ⟨cl⟩:=cs
 obtain ⟨c0,c1,c2,rfl⟩: ∃c0 c1 c2,cl=[c0,c1,c2]:=by
  match cl,hl3 with
  |[c0,c1,c2],_=>exact ⟨_,_,_,rfl⟩
 obtain ⟨y0,y1,y2,rfl⟩: ∃y0 y1 y2,xs=[y0,y1,y2]:=by
  match xs,hxl with
  |[y0,y1,y2],_=>exact ⟨_,_,_,rfl⟩
 have g0:=hx 0 zO
 have g1:=hx 1 zO
 have g2:=hx 2 zO
 rw [c3] at g0 g1 g2
 obtain ⟨n0,q0,x0,_⟩:=DataW.trod_int h3 g0
 obtain ⟨n1,q1,x1,_⟩:=DataW.trod_int h3 g1
 obtain ⟨n2,q2,x2,_⟩:=DataW.trod_int h3 g2
 obtain rfl:=List.head_eq_of_cons_eq (show [c0]=[Value.int .i64 n0] from q0)
 obtain rfl:=List.head_eq_of_cons_eq (show [c1]=[Value.int .i64 n1] from q1)
 obtain rfl:=List.head_eq_of_cons_eq (show [c2]=[Value.int .i64 n2] from q2)
 have ex1:=congrArg Prod.fst ex
 have ex2:(DataW.agg [.lit (.int .i64 9),.lit (.int .i64 11),.lit (.int .i64 7)]:DataW Unit)= .agg [y0.1,y1.1,y2.1]:=ex1
 rw [x0,x1,x2] at ex2
 simp only [DataW.agg.injEq,List.cons.injEq,DataW.lit.injEq,Lit.int.injEq,true_and,and_true] at ex2
 obtain ⟨rfl,rfl,rfl⟩:=ex2
 unfold World.var? at hv
 rw [hg] at hv
 simp only [Option.bind_some] at hv
 split at hv
 ·rename_i cs t f hb
  obtain rfl:=Option.some.inj hv
  exact ⟨t,f,hb⟩
 ·cases hv
theorem laid_of {W:World} (h:laidMetH Tryz.prog laidL W):LaidO W.heap:=⟨jno h,mosts_of h⟩
end Go.Proofs.YtggpepeiedkbbaaGreatDoor
namespace Go.Proofs.YtggpepeiedkbbaaGreatDoor
open Go Go.Lo Go.ChangeShapes Go.WideShapes Go.ChangeAt Go.RowKit Go.Conc
set_option maxRecDepth 100000
theorem pin_main: Tryz.pinned.checked.prog.mainIs=some (true, "efa58da0d05803ae4d87aecc1d7dc94e05dff7fe0015b2fcbfa254297eea66aa".toList):=by kernel_rfl
theorem jmx:false= Tryz.pinned.checked.prog.looks []:=by kernel_rfl
end Go.Proofs.YtggpepeiedkbbaaGreatDoor
