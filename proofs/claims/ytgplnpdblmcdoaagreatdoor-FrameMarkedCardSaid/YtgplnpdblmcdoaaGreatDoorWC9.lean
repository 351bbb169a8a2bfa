/- A part of the proof of a law: my own separation logic over the machine, and walks of the program. Condition of each theorem: as its statement says. -/
import Derived.Test.YtgplnpdblmcdoaaGreatDoorWC8
set_option linter.all false
namespace Go.Proofs
open Go.Lo
open Go.Conc (G)
set_option maxRecDepth 100000
set_option synthInstance.maxSize 100000
set_option synthInstance.maxHeartbeats 1000000
set_option maxHeartbeats 4000000
variable {b:Fb} {pp:Option Addr} {np cp:Nat} {pt:Option Addr} {nt ct:Nat} {pk:Option Addr} {nk ck:Nat}
variable {B:Array Obj}
variable [LaidF B]
def genA:List Sp→List Int→List (List Int)
 |[],pre=>[pre]
 |x::ms,pre=>(spanL x).flatMap fun n=>genA ms (pre++[n])
theorem foldl_genA: ∀(ms:List Sp) (all:List (List Int)),ms.foldl extL all=all.flatMap (genA ms)
 |[],all=>by
  simp only [List.foldl_nil]
  induction all with
  |nil=>rfl
  |cons a r ih=>rw [List.flatMap_cons,←ih];rfl
 |x::ms,all=>by
  rw [List.foldl_cons,foldl_genA ms (extL all x),extL,List.flatMap_assoc];congr 1
  funext l
  rw [ext1,List.flatMap_map];rfl
theorem linesOf_genA (ms:List Sp):linesOf ms=genA ms []:=by rw [linesOf,foldl_genA];simp
def genB (b:Fb) (ms:List Sp) (pre:List Int):List (List Int):=(genA ms pre).filter fun l=>decide (jbO b l)
def jf5 (b:Fb) (x:Sp) (ms:List Sp) (pre:List Int) (j:Nat):List (List Int):=((spanL x).take j).flatMap fun n=>genB b ms (pre++[n])
theorem jk7 (b:Fb) (x:Sp) (ms:List Sp) (pre:List Int):jf5 b x ms pre 0=[]:=rfl
theorem jk8 (b:Fb) (x:Sp) (ms:List Sp) (pre:List Int) (j:Nat) (h:j<(x.hi-x.lo+1).toNat):jf5 b x ms pre (j+1)=jf5 b x ms pre j++genB b ms (pre++[x.lo+j]):=by
 unfold jf5
 rw [take_snoc' _ j (by rw [spanL_length];exact h),spanL_getD x j h,List.flatMap_append];simp
theorem jio (b:Fb) (x:Sp) (ms:List Sp) (pre:List Int):genB b (x::ms) pre=(spanL x).flatMap fun n=>genB b ms (pre++[n]):=by
 unfold genB
 simp only [genA,List.filter_flatMap]
theorem jk9 (b:Fb) (x:Sp) (ms:List Sp) (pre:List Int) (j:Nat) (h:(x.hi-x.lo+1).toNat≤j):jf5 b x ms pre j=genB b (x::ms) pre:=by
 unfold jf5
 rw [List.take_of_length_le (by rw [spanL_length];exact h),jio]
theorem genBJ_le (b:Fb) (x:Sp) (ms:List Sp) (pre:List Int) (j:Nat):(jf5 b x ms pre j).length≤(genB b (x::ms) pre).length:=by
 have:genB b (x::ms) pre=jf5 b x ms pre j++((spanL x).drop j).flatMap fun n=>genB b ms (pre++[n]):=by
  rw [jio];unfold jf5
  rw [←List.flatMap_append,List.take_append_drop]
 rw [this,List.length_append];omega
theorem jhw (b:Fb) (pre:List Int):genB b [] pre=if jbO b pre then [pre] else []:=by
 unfold genB genA
 by_cases h:jbO b pre<;>simp [h]
theorem jj7 (b:Fb):genB b (spsOf b) []=boatsOf b:=by
 rw [genB,←linesOf_genA,boatsOf,ja7,List.take_of_length_le (by rw [jbl];exact Nat.le_refl _)]
theorem jaX {b:Fb} (hp:PtsOk b.pts):(boatsOf b).length≤243:=by
 have h1:=List.length_filter_le (fun l=>decide (jbO b l)) (ja7 b b.pts.length)
 have h2:=jif hp b.pts.length (Nat.le_refl _)
 unfold boatsOf
 omega
theorem rws_rep {n:Nat} (hn:n≤5):rws (List.replicate n 0)=[.int .i64 0,.int .i64 0,.int .i64 0,.int .i64 0,.int .i64 0]:=by
 rw [←jiX];simp only [rws,padR,List.replicate_append_replicate,List.take_replicate,List.nil_append]
 congr 2
theorem sml_set {ln:List Int} {i:Nat} {n:Int} (h:SmL ln) (hn:0≤n∧n≤959):SmL (ln.set i n):=fun j=>by
 by_cases e:i=j
 ·subst e
  by_cases hl:i<ln.length
  ·rw [List.getD_eq_getElem?_getD,List.getElem?_set_self hl];exact hn
  ·rw [List.set_eq_of_length_le (by omega)];exact h i
 ·rw [List.getD_eq_getElem?_getD,List.getElem?_set_ne e,←List.getD_eq_getElem?_getD];exact h j
theorem rws_set {ln:List Int} {i:Nat} {n:Int} (hl:ln.length≤5) (hi:i<ln.length):rws (ln.set i n)=(rws ln).set i (.int .i64 n):=by
 simp only [rws,ints,padR]
 rw [←List.map_set];congr 1
 rw [←List.take_set,List.set_append_left _ _ hi]
theorem jiV {ln:List Int} {i:Nat} {n:Int} (hl:ln.length≤5) (hi:i<ln.length):SetSeg (rws ln) (0+(i:Int).toNat*1) [.int .i64 n] (rws (ln.set i n)):=⟨by
 rw [rws_set hl hi,Int.toNat_natCast,Nat.mul_one,Nat.zero_add];have:i<(rws ln).length:=by rw [jaf];omega
 rw [List.set_eq_take_append_cons_drop,if_pos this];simp,by rw [jaf];simp;omega⟩
theorem CallV.fn' {P:Program} {B:Array Obj} {m:Md P B} {f:FuncId} {first cap vs:Array Value} {args:List Value} {h:Hp} {Post:Value→Hp→Prop} (hf:ja4 P f=true) (e:first++args.toArray++cap=vs) (c:FnC m f vs h Post):CallV m (.func (.func f) first cap) args h Post:=CallV.fn hf (e▸c)
theorem jkg:ja4 Tryz.prog 171=true:=by kernel_rfl
def EachF {P:Program} {B:Array Obj} (m:Md P B) (h0:Hp) (b:Fb) (yv:Value) (YI:List (List Int)→Hp→Prop) (YS:Hp→Prop):Prop:=
 ∀(F R:Hp) (dn:List (List Int)) (ln:List Int),h0.Sublist F→ln∈boatsOf b→dn.length<243→YI dn R→CallV m yv [rwV ln] (F++R) fun v h'=> ∃R',h'=F++R'∧((v= .bool true∧YI (dn++[ln]) R')∨(v= .bool false∧YS R'))
theorem f171_c (m:Md Tryz.prog B) {h0:Hp} (rdp:RdS B h0 3 (.slice pp np cp) np (encs b.pts)) (hp:np≤1000) (rdt:RdS B h0 4 (.slice pt nt ct) nt (encs b.tapes)) (ht:nt≤1000) (rdk:RdS B h0 3 (.slice pk nk ck) nk (encs b.sticks)) (hk:nk≤1000) (hv:FOk b) {yv:Value} [CellsV yv [yv]] {YI:List (List Int)→Hp→Prop} {YS:Hp→Prop} (hY:EachF m h0 b yv YI YS) (qb qm qy qn q:Nat):
  ∀(d i:Nat) (ln:List Int) (dn:List (List Int)) (X R:Hp) (es:Ents),OkE es→i+d=np→ln.length=np→SmL ln→(∀k,k<i→(b.pts.getD k default).lo≤ln.getD k 0∧ln.getD k 0≤(b.pts.getD k default).hi)→dn.length+(genB b ((spsOf b).drop i) (ln.take i)).length≤243→YI dn R→
   FnC m 171 #[rwV ln,.int .i64 (i:Int),.pointer (some ⟨qb,0,none⟩),.pointer (some ⟨qm,0,none⟩),.pointer (some ⟨qy,0,none⟩),.pointer (some ⟨qn,0,none⟩)] (((h0++[⟨true,qb,.cells (fbL b pp np cp pt nt ct pk nk ck).toArray 96 (0,0)⟩,⟨true,qm,.cells [.map (some q)].toArray 132 (0,0)⟩,⟨true,qy,.cells [yv].toArray 229 (0,0)⟩,⟨true,qn,.cells [.func (.func 171) #[] [.pointer (some ⟨qb,0,none⟩),.pointer (some ⟨qm,0,none⟩),.pointer (some ⟨qy,0,none⟩),.pointer (some ⟨qn,0,none⟩)].toArray].toArray 230 (0,0)⟩])++X)++(⟨true,q,mapO es⟩::R)) fun v h'=> ∃es' R',OkE es'∧h'=((h0++[⟨true,qb,.cells (fbL b pp np cp pt nt ct pk nk ck).toArray 96 (0,0)⟩,⟨true,qm,.cells [.map (some q)].toArray 132 (0,0)⟩,⟨true,qy,.cells [yv].toArray 229 (0,0)⟩,⟨true,qn,.cells [.func (.func 171) #[] [.pointer (some ⟨qb,0,none⟩),.pointer (some ⟨qm,0,none⟩),.pointer (some ⟨qy,0,none⟩),.pointer (some ⟨qn,0,none⟩)].toArray].toArray 230 (0,0)⟩])++X)++(⟨true,q,mapO es'⟩::R')∧((v= .bool true∧YI (dn++genB b ((spsOf b).drop i) (ln.take i)) R')∨(v= .bool false∧YS R')):=by
 intro d
 induction d using Nat.strongRecOn
 rename_i d ih
 intro i ln dn X R es hes hid hln hsm hsp hdn hR
 have hml:=rdp.elen (by decide)
 have hpo:=hv.pts
 have hv1:=hpo.five
 refine jad Tryz.func171 rfl rfl (l:=(rwV ln)::(.int .i64 (i:Int))::(.pointer (some ⟨qb,0,none⟩))::(.pointer (some ⟨qm,0,none⟩))::(.pointer (some ⟨qy,0,none⟩))::(.pointer (some ⟨qn,0,none⟩))::uu49) rfl ?_
 intro cf cs K hK
 refine rs2 ?_;refine jaq rfl zq (fun q6=>jih (Weak.mid ((h0++[⟨true,qb,.cells (fbL b pp np cp pt nt ct pk nk ck).toArray 96 (0,0)⟩,⟨true,qm,.cells [.map (some q)].toArray 132 (0,0)⟩,⟨true,qy,.cells [yv].toArray 229 (0,0)⟩,⟨true,qn,.cells [.func (.func 171) #[] [.pointer (some ⟨qb,0,none⟩),.pointer (some ⟨qm,0,none⟩),.pointer (some ⟨qy,0,none⟩),.pointer (some ⟨qn,0,none⟩)].toArray].toArray 230 (0,0)⟩])++X) (⟨true,q,mapO es⟩::R) _) (jac ?_));refine d10 ?_;refine rs6 ?_;refine mq rfl ?_;refine d150 ?_
 refine jcd rfl zq (fun hc=>?_) (fun hc=>?_)
 ·refine d7 ?_;refine rs11 ?_;refine d74 ?_;refine jaT rfl zq ?_
  refine jjW (Post:=fun v es'=>OkE es'∧IsB (jbO b ln) v) q rfl zq (by kernel_rfl) (CallF.mono (f74_c m _ q es hes (rdp.keeps SubH.sub) hp (rdt.keeps SubH.sub) ht (rdk.keeps SubH.sub) hk (by omega) hv hsm) fun v h' ⟨e',h1,h2,h3⟩=>⟨e',h1,h2,h3⟩) ?_;rintro v es2 ⟨hes2,(⟨hc,rfl⟩|⟨hc,rfl⟩)⟩
  ·refine d31 ?_;refine mq rfl ?_;refine jbb rfl rfl ?_;refine jaT rfl rfl ?_
   have hcv:=hY ((((h0++[⟨true,qb,.cells (fbL b pp np cp pt nt ct pk nk ck).toArray 96 (0,0)⟩,⟨true,qm,.cells [.map (some q)].toArray 132 (0,0)⟩,⟨true,qy,.cells [yv].toArray 229 (0,0)⟩,⟨true,qn,.cells [.func (.func 171) #[] [.pointer (some ⟨qb,0,none⟩),.pointer (some ⟨qm,0,none⟩),.pointer (some ⟨qy,0,none⟩),.pointer (some ⟨qn,0,none⟩)].toArray].toArray 230 (0,0)⟩])++X)++[⟨true,q6,.cells (rws ln).toArray 98 (0,0)⟩])++[⟨true,q,mapO es2⟩]) R dn ln (by simp) (jbG.2 ⟨by omega,fun k hk=>hsp k (by omega),hc⟩) (by
    rw [List.drop_eq_nil_of_le (by rw [jbl];omega),List.take_of_length_le (by omega),jhw,if_pos hc] at hdn
    simp at hdn
    omega) hR
   rw [List.append_assoc _ [_] R,List.singleton_append] at hcv
   refine jdy rfl rfl hcv ?_;rintro v h' ⟨R2,rfl,(⟨rfl,hR2⟩|⟨rfl,hR2⟩)⟩
   ·rw [List.append_assoc _ [_] R2,List.singleton_append];refine jac ?_;refine d118 ?_;refine jab (((h0++[⟨true,qb,.cells (fbL b pp np cp pt nt ct pk nk ck).toArray 96 (0,0)⟩,⟨true,qm,.cells [.map (some q)].toArray 132 (0,0)⟩,⟨true,qy,.cells [yv].toArray 229 (0,0)⟩,⟨true,qn,.cells [.func (.func 171) #[] [.pointer (some ⟨qb,0,none⟩),.pointer (some ⟨qm,0,none⟩),.pointer (some ⟨qy,0,none⟩),.pointer (some ⟨qn,0,none⟩)].toArray].toArray 230 (0,0)⟩])++X)++(⟨true,q,mapO es2⟩::R2)) rfl Tryz.func171 rfl jaa ?_;refine hK _ _ ?_;refine ⟨es2,R2,hes2,rfl,.inl ⟨rfl,?_⟩⟩
    rw [List.drop_eq_nil_of_le (by rw [jbl];omega),List.take_of_length_le (by omega),jhw,if_pos hc];exact hR2
   ·rw [List.append_assoc _ [_] R2,List.singleton_append];refine jac ?_;refine d118 ?_;refine jab (((h0++[⟨true,qb,.cells (fbL b pp np cp pt nt ct pk nk ck).toArray 96 (0,0)⟩,⟨true,qm,.cells [.map (some q)].toArray 132 (0,0)⟩,⟨true,qy,.cells [yv].toArray 229 (0,0)⟩,⟨true,qn,.cells [.func (.func 171) #[] [.pointer (some ⟨qb,0,none⟩),.pointer (some ⟨qm,0,none⟩),.pointer (some ⟨qy,0,none⟩),.pointer (some ⟨qn,0,none⟩)].toArray].toArray 230 (0,0)⟩])++X)++(⟨true,q,mapO es2⟩::R2)) rfl Tryz.func171 rfl jaa ?_;refine hK _ _ ?_;exact ⟨es2,R2,hes2,rfl,.inr ⟨rfl,hR2⟩⟩
  ·refine d33 ?_;refine d30 ?_;refine jms rfl rfl ?_;refine d64 ?_
   refine jab (((h0++[⟨true,qb,.cells (fbL b pp np cp pt nt ct pk nk ck).toArray 96 (0,0)⟩,⟨true,qm,.cells [.map (some q)].toArray 132 (0,0)⟩,⟨true,qy,.cells [yv].toArray 229 (0,0)⟩,⟨true,qn,.cells [.func (.func 171) #[] [.pointer (some ⟨qb,0,none⟩),.pointer (some ⟨qm,0,none⟩),.pointer (some ⟨qy,0,none⟩),.pointer (some ⟨qn,0,none⟩)].toArray].toArray 230 (0,0)⟩])++X)++(⟨true,q,mapO es2⟩::R)) rfl Tryz.func171 rfl jaa ?_;refine hK _ _ ?_;refine ⟨es2,R,hes2,rfl,.inl ⟨rfl,?_⟩⟩
   rw [List.drop_eq_nil_of_le (by rw [jbl];omega),List.take_of_length_le (by omega),jhw,if_neg hc,List.append_nil];exact hR
 ·refine d36 ?_;refine rs9 ?_
  have hok:okPt (b.pts.getD i default):=hpo.ok _ (jai.2 ⟨i,by omega,rfl⟩)
  unfold okPt at hok
  have hdrop:(spsOf b).drop i=spI b i::(spsOf b).drop (i+1):=by rw [jao (spsOf b) i (by rw [jbl];omega),jdJ b (by omega)]
  refine d23 ?_;refine mq rfl ?_
  obtain ⟨rdp_b,rdp_o,rfl⟩:=rdp.ptr (by omega)
  refine jaJ rfl zq (by first|rfl|assumption) (by omega) (by omega) ?_;refine d8 ?_;refine k_ld rfl zq (rdp.fat (v:= .int .i64 (b.pts.getD i default).lo) i 1 (by omega) (by omega) rfl) ?_;refine d39 ?_
  refine jag (fun nn l h'=> ∃(j:Nat) (n9:Int) (l1:List Int) (R1:Hp) (es1:Ents),nn=((b.pts.getD i default).hi-(b.pts.getD i default).lo+1).toNat-j∧(n9=((b.pts.getD i default).lo+(j:Int)))∧(j≤((b.pts.getD i default).hi-(b.pts.getD i default).lo+1).toNat)∧(l1.length=np)∧(SmL l1)∧(l1.take i=ln.take i)∧(OkE es1)∧(YI (dn++jf5 b (spI b i) ((spsOf b).drop (i+1)) (ln.take i) j) R1)∧(∃U:Nat→Value,l=((rwV ln)::(.int .i64 (i:Int))::(.pointer (some ⟨qb,0,none⟩))::(.pointer (some ⟨qm,0,none⟩))::(.pointer (some ⟨qy,0,none⟩))::(.pointer (some ⟨qn,0,none⟩))::(.pointer (some ⟨q6,0,none⟩))::(U 7)::(U 8)::(.int .i64 n9)::vw45 U 10 []))∧(((h0++[⟨true,qb,.cells (fbL b (some ⟨rdp_b,rdp_o,none⟩) np cp pt nt ct pk nk ck).toArray 96 (0,0)⟩,⟨true,qm,.cells [.map (some q)].toArray 132 (0,0)⟩,⟨true,qy,.cells [yv].toArray 229 (0,0)⟩,⟨true,qn,.cells [.func (.func 171) #[] [.pointer (some ⟨qb,0,none⟩),.pointer (some ⟨qm,0,none⟩),.pointer (some ⟨qy,0,none⟩),.pointer (some ⟨qn,0,none⟩)].toArray].toArray 230 (0,0)⟩])++X)++[⟨true,q6,.cells (rws l1).toArray 98 (0,0)⟩])++(⟨true,q,mapO es1⟩::R1)=h') _ ⟨0,_,ln,R,es,rfl,by exact (Int.add_zero _).symm,by omega,hln,hsm,rfl,hes,by rw [jk7,List.append_nil];exact hR,exU rfl,rfl⟩ ?_;rintro nn l h' ⟨j,n9,l1,R1,es1,rfl,rfl,hj,hl1,hs1,ht1,hes1,hR1,⟨U,rfl⟩,rfl⟩ hnext1;refine jak ?_;refine rs10 ?_;refine mq rfl ?_;refine d23 ?_;refine d43 ?_;refine d8 ?_;refine k_ld rfl zq (rdp.fat (v:= .int .i64 (b.pts.getD i default).hi) i 2 (by omega) (by omega) rfl) ?_;refine ja1 rfl zq (fun hc=>?_) (fun hc=>?_)
  ·refine d75 ?_;refine rs4 ?_
   have hgs:=jk8 b (spI b i) ((spsOf b).drop (i+1)) (ln.take i) j (by show j<((b.pts.getD i default).hi-(b.pts.getD i default).lo+1).toNat;omega)
   haveI hss:=jiV (n:=((b.pts.getD i default).lo+(j:Int))) (show l1.length≤5 by omega) (show i<l1.length by omega)
   have htk:(l1.set i ((b.pts.getD i default).lo+(j:Int))).take i=ln.take i:=by rw [List.take_set_of_le (Nat.le_refl _),ht1]
   have hsS:SmL (l1.set i ((b.pts.getD i default).lo+(j:Int))):=sml_set hs1 (by omega)
   refine d139 ?_;refine d59 ?_;refine rs6 ?_;refine jbb rfl zq ?_;refine jaT rfl zq ?_;refine d4 ?_
   have hrec:=ih (d-1) (by omega) (i+1) (l1.set i ((b.pts.getD i default).lo+(j:Int))) (dn++jf5 b (spI b i) ((spsOf b).drop (i+1)) (ln.take i) j) (X++[⟨true,q6,.cells (rws (l1.set i ((b.pts.getD i default).lo+(j:Int)))).toArray 98 (0,0)⟩]) R1 es1 hes1 (by omega) (by simp [hl1]) hsS (by
    intro k hk
    rw [getD_set _ _ _ _ (by omega)];by_cases e:k=i
    ·subst e
     rw [if_pos rfl];omega
    ·rw [if_neg e];have h3:=hsp k (by omega)
     have h4:l1.getD k 0=ln.getD k 0:=by
      have:=congrArg (fun l:List Int=>l[k]?) ht1
      simp only [List.getElem?_take,if_pos (show k<i by omega)] at this
      rw [List.getD_eq_getElem?_getD,List.getD_eq_getElem?_getD,this]
     rw [h4];exact h3) (by
    rw [take_set (by omega),ht1,List.length_append];have h1:=genBJ_le b (spI b i) ((spsOf b).drop (i+1)) (ln.take i) (j+1)
    rw [hgs,List.length_append] at h1
    rw [hdrop] at hdn
    have h2:(genB b (List.drop (i+1) (spsOf b)) (List.take i ln++[((b.pts.getD i default).lo+(j:Int))])).length=(genB b (List.drop (i+1) (spsOf b)) (List.take i ln++[((spI b i)).lo+(j:Int)])).length:=rfl
    omega) hR1
   rw [show ((i+1:Nat):Int)=(i:Int)+1 by omega,←List.append_assoc (h0++_) X] at hrec
   have hcv:=CallV.fn' (first:= #[]) (args:=[rwV (l1.set i ((b.pts.getD i default).lo+(j:Int))),.int .i64 ((i:Int)+1)]) (cap:=[Value.pointer (some ⟨qb,0,none⟩),Value.pointer (some ⟨qm,0,none⟩),Value.pointer (some ⟨qy,0,none⟩),Value.pointer (some ⟨qn,0,none⟩)].toArray) jkg (by simp) hrec
   refine jdy rfl zq hcv ?_;clear hcv hrec
   rintro v h' ⟨es2,R2,hes2,rfl,(⟨rfl,hR2⟩|⟨rfl,hR2⟩)⟩
   ·rw [take_set (by omega),ht1] at hR2
    refine d31 ?_;refine d105 ?_
    exact m.weak jaa (hnext1 _ _ _ (by omega) ⟨j+1,_,l1.set i ((b.pts.getD i default).lo+(j:Int)),R2,es2,rfl,by omega,by omega,by simp [hl1],hsS,htk,hes2,by rw [hgs,←List.append_assoc];exact hR2,exU rfl,rfl⟩)
   ·refine d152 ?_
    refine jab (((h0++[⟨true,qb,.cells (fbL b (some ⟨rdp_b,rdp_o,none⟩) np cp pt nt ct pk nk ck).toArray 96 (0,0)⟩,⟨true,qm,.cells [.map (some q)].toArray 132 (0,0)⟩,⟨true,qy,.cells [yv].toArray 229 (0,0)⟩,⟨true,qn,.cells [.func (.func 171) #[] [.pointer (some ⟨qb,0,none⟩),.pointer (some ⟨qm,0,none⟩),.pointer (some ⟨qy,0,none⟩),.pointer (some ⟨qn,0,none⟩)].toArray].toArray 230 (0,0)⟩])++X)++(⟨true,q,mapO es2⟩::R2)) rfl Tryz.func171 rfl jaa ?_;refine hK _ _ ?_;exact ⟨es2,R2,hes2,rfl,.inr ⟨rfl,hR2⟩⟩
  ·refine d160 ?_
   refine jab (((h0++[⟨true,qb,.cells (fbL b (some ⟨rdp_b,rdp_o,none⟩) np cp pt nt ct pk nk ck).toArray 96 (0,0)⟩,⟨true,qm,.cells [.map (some q)].toArray 132 (0,0)⟩,⟨true,qy,.cells [yv].toArray 229 (0,0)⟩,⟨true,qn,.cells [.func (.func 171) #[] [.pointer (some ⟨qb,0,none⟩),.pointer (some ⟨qm,0,none⟩),.pointer (some ⟨qy,0,none⟩),.pointer (some ⟨qn,0,none⟩)].toArray].toArray 230 (0,0)⟩])++X)++(⟨true,q,mapO es1⟩::R1)) rfl Tryz.func171 rfl jaa ?_;refine hK _ _ ?_;refine ⟨es1,R1,hes1,rfl,.inl ⟨rfl,?_⟩⟩
   rw [hdrop,←jk9 _ _ _ _ j (by show ((b.pts.getD i default).hi-(b.pts.getD i default).lo+1).toNat≤j;omega)];exact hR1
theorem weak161 {B:Array Obj} (h0 R:Hp) (a y M c f:Chunk):Weak B ((h0++R)++[a,y,M,c,f]) (((h0++[a,c,y,f])++[])++(M::R)):=Weak.perm (by
 rw [List.append_nil,List.append_assoc,List.append_assoc];refine List.Perm.append_left h0 ?_
 refine List.perm_append_comm.trans ?_
 have:[a,y,M,c,f].Perm ([a,c,y,f]++[M]):= .cons a ((List.perm_middle (l₁:=[y,M]) (a:=c) (l₂:=[f])).trans (.cons c (.cons y (.swap f M []))))
 refine (List.Perm.append_right R this).trans ?_
 rw [List.append_assoc];exact List.Perm.refl _)
theorem f128_c (m:Md Tryz.prog B) {h0:Hp} (rdp:RdS B h0 3 (.slice pp np cp) np (encs b.pts)) (hp:np≤1000) (rdt:RdS B h0 4 (.slice pt nt ct) nt (encs b.tapes)) (ht:nt≤1000) (rdk:RdS B h0 3 (.slice pk nk ck) nk (encs b.sticks)) (hk:nk≤1000) (hv:FOk b) {yv:Value} [CellsV yv [yv]] {YI:List (List Int)→Hp→Prop} {YS:Hp→Prop} (hY:EachF m h0 b yv YI YS) {R:Hp} (hR:YI [] R):
  FnC m 128 #[fbV b pp np cp pt nt ct pk nk ck,yv] (h0++R) fun v h'=>v= .tuple [].toArray∧ ∃R',h'=h0++R'∧(YI (boatsOf b) R'∨YS R'):=by
 have hml:=rdp.elen (by decide)
 have hpo:=hv.pts
 have hv1:=hpo.five
 refine jad Tryz.func128 rfl rfl (l:=(fbV b pp np cp pt nt ct pk nk ck)::yv::uu9) rfl ?_
 intro cf cs K hK
 refine rs2 ?_;refine jaq rfl zq (fun q2=>k_hp (jac ?_));refine jaq rfl zq (fun q3=>k_hp (jac ?_));refine jaB ?_;refine rs3 ?_;refine jf0 rfl zq (fun qM=>k_hp (jac ?_));refine jaw rfl zq (fun q4=>k_hp (jac ?_));refine d59 ?_;refine rs1 ?_
 refine jaw rfl zq (fun q5=>k_hp (jac ?_));refine jaB ?_;refine rs2 ?_;refine jeG rfl zq ?_;refine d59 ?_;refine rr3 ?_;refine jbb rfl zq ?_;refine jjX rfl zq ?_;refine jih (weak161 h0 R _ _ _ _ _) ?_;have hw:=f171_c m (pt:=pt) (ct:=ct) (pk:=pk) (ck:=ck) rdp hp rdt ht rdk hk hv hY q2 q4 q3 q5 qM np 0 (List.replicate np 0) [] [] R [] OkE.nil (by omega) (by simp) (fun j=>by rw [List.getD_eq_getElem?_getD,List.getElem?_replicate];split<;>simp) (fun k hk=>by omega) (by
  have h1:=jaX hpo
  simp only [List.drop_zero,List.take_zero,List.length_nil,jj7]
  omega) hR
 rw [show rwV (List.replicate np 0)= .agg [.int .i64 0,.int .i64 0,.int .i64 0,.int .i64 0,.int .i64 0].toArray by rw [rwV,rws_rep (by omega)]] at hw
 simp only [List.drop_zero,List.take_zero,List.nil_append,jj7] at hw
 have hcv:=CallV.fn' (first:= #[]) (args:=[.agg [.int .i64 0,.int .i64 0,.int .i64 0,.int .i64 0,.int .i64 0].toArray,.int .i64 0]) (cap:=[Value.pointer (some ⟨q2,0,none⟩),Value.pointer (some ⟨q4,0,none⟩),Value.pointer (some ⟨q3,0,none⟩),Value.pointer (some ⟨q5,0,none⟩)].toArray) jkg (by simp) hw
 refine jdy rfl zq hcv ?_;clear hcv hw
 rintro v h' ⟨es2,R2,hes2,rfl,hh⟩;refine d144 ?_;refine jdh rfl ?_
 refine jab (h0++R2) rfl Tryz.func128 rfl jaa ?_;refine hK _ _ ?_;exact ⟨rfl,R2,rfl,hh.elim (fun h=> .inl h.2) (fun h=> .inr h.2)⟩
instance {a:List Value}:AppL a [] a:=⟨List.append_nil a⟩
theorem weak_pre {B:Array Obj} {h A X:Hp} (e:h=A++X):Weak B h A:=e▸Weak.sub (List.sublist_append_left _ _)
theorem encs_one1 {l:List Int}:encs [l]=rws l:=by simp [encs,Enc.enc]
theorem f75_c (m:Md Tryz.prog B) (h:Hp) (rdp:Rp B h b pp np cp) (hp:np≤1000) (rdt:Rt B h b pt nt ct) (ht:nt≤1000) (rdk:Rk B h b pk nk ck) (hk:nk≤1000) (hv:FOk b):FnC m 75 #[fbV b pp np cp pt nt ct pk nk ck] h fun v h'=> ∃nw,h'=h++nw∧OwnS 98 5 v (boatsOf b).length (encs (boatsOf b)) nw:=by
 have hml:=rdp.elen (by decide)
 have hpo:=hv.pts
 refine jad Tryz.func75 rfl rfl (l:=(fbV b pp np cp pt nt ct pk nk ck)::uu12) rfl ?_
 intro cf cs K hK
 refine rs2 ?_;refine jaq rfl zq (fun q1=>k_hp (jac ?_));refine aq rfl ?_;refine rs1 ?_
 refine jaw rfl zq (fun q3=>k_hp (jac ?_));refine d25 ?_;refine d132 ?_;refine jeG rfl zq ?_;refine d57 ?_
 refine jeX rfl rfl (by kernel_rfl) (fun q11 q12=>?_);generalize hrec:lrec _ _ _ _ _ _ LoopState.ready=rec0
 have hY:EachF m h b (.func (.yield q12) #[] #[]) (fun dn R=> ∃bp bc nw,R=[⟨true,q1,.cells (fbL b pp np cp pt nt ct pk nk ck).toArray 96 (0,0)⟩,⟨true,q3,.cells [.slice bp dn.length bc].toArray 136 (0,0)⟩,⟨true,q11,.deferred (some [])⟩,⟨true,q12,rec0⟩]++nw∧OwnS 98 5 (.slice bp dn.length bc) dn.length (encs dn) nw) (fun _=>False):=?hY
 rotate_left
 intro F R dn ln hF hln hdn hR
 obtain ⟨bp,bc,nw,rfl,ho⟩:=hR
 subst hrec
 haveI hsF:SubH h F:=⟨hF⟩
 refine CallV.yield (rw:=true) (q1:=q11) (st:= .ready) (List.mem_append_right _ (List.mem_append_left _ (List.mem_cons_of_mem _ (List.mem_cons_of_mem _ (List.mem_cons_of_mem _ List.mem_cons_self))))) rfl (by simp;rfl) ?_
 intro cf2 cs2 K2 hK2
 ·refine rr2 ?_;refine jaw rfl zq (fun q4=>k_hp (jac ?_));refine jaO rfl zq (by first|rfl|exact jaf _) ?_;refine jaB ?_;apply jcY (F:=F++[⟨true,q1,.cells (fbL b pp np cp pt nt ct pk nk ck).toArray 96 (0,0)⟩,⟨true,q3,.cells [.slice bp dn.length bc].toArray 136 (0,0)⟩,⟨true,q11,.deferred (some [])⟩]) (E:=nw++[⟨true,q4,.cells (rws ln).toArray 98 (0,0)⟩])
  case hh=>
   simp only [List.append_assoc,List.cons_append,List.nil_append]
   rfl
  generalize hbz:lrec _ _ _ _ _ _ LoopState.busy=rec1
  refine jaS ?_;refine rr5 ?_;refine jbb rfl zq ?_;refine jaT rfl zq ?_;refine k_bs kdq rfl zq (by decide) (by decide) rfl (fun q10=>k_hp (jac ?_));refine jmB (F:=F++[⟨true,q1,.cells (fbL b pp np cp pt nt ct pk nk ck).toArray 96 (0,0)⟩,⟨true,q3,.cells [.slice bp dn.length bc].toArray 136 (0,0)⟩,⟨true,q11,.deferred (some [])⟩,⟨true,q12,rec1⟩]) rfl zq (by simp [jaf]) ho (weak_pre (X:=[⟨true,q4,.cells (rws ln).toArray 98 (0,0)⟩,⟨true,q10,.cells (rws ln).toArray 98 (0,0)⟩]) (by simp)) (.inl rfl) (by omega) (by omega) (fun w19 nw2 ho2=>jac ?_);obtain ⟨bp2,bc2,rfl,_⟩:=ho2.len
  have e1:dn.length+1=(dn++[ln]).length:=by simp
  have e2:encs dn++rws ln=encs (dn++[ln]):=by rw [jaV,encs_one1]
  rw [e2,e1] at ho2
  rw [e1];refine d59 ?_;refine jay ?_
  subst hbz
  apply jcR (F:=F++[⟨true,q1,.cells (fbL b pp np cp pt nt ct pk nk ck).toArray 96 (0,0)⟩,⟨true,q3,.cells [.slice bp2 (dn++[ln]).length bc2].toArray 136 (0,0)⟩,⟨true,q11,.deferred (some [])⟩]) (E:=nw2)
  case hh=>
   simp only [List.append_assoc,List.cons_append,List.nil_append]
   rfl
  rw [show F++[⟨true,q1,.cells (fbL b pp np cp pt nt ct pk nk ck).toArray 96 (0,0)⟩,⟨true,q3,.cells [.slice bp2 (dn++[ln]).length bc2].toArray 136 (0,0)⟩,⟨true,q11,.deferred (some [])⟩]++(_::nw2)=F++([⟨true,q1,.cells (fbL b pp np cp pt nt ct pk nk ck).toArray 96 (0,0)⟩,⟨true,q3,.cells [.slice bp2 (dn++[ln]).length bc2].toArray 136 (0,0)⟩,⟨true,q11,.deferred (some [])⟩,_]++nw2) by simp;rfl];exact hK2 _ _ ⟨_,rfl,.inl ⟨rfl,_,_,nw2,rfl,ho2⟩⟩
 ·have hl:=f128_c m (b:=b) rdp hp rdt ht rdk hk hv hY (R:=[⟨true,q1,.cells (fbL b pp np cp pt nt ct pk nk ck).toArray 96 (0,0)⟩,⟨true,q3,.cells [.slice none 0 0].toArray 136 (0,0)⟩,⟨true,q11,.deferred (some [])⟩,⟨true,q12,rec0⟩]) ⟨none,0,[],by simp,OwnS.nil⟩
  rw [show h++[⟨true,q1,.cells (fbL b pp np cp pt nt ct pk nk ck).toArray 96 (0,0)⟩,⟨true,q3,.cells [.slice none 0 0].toArray 136 (0,0)⟩,⟨true,q11,.deferred (some [])⟩,⟨true,q12,rec0⟩]=h++[⟨true,q1,.cells (fbL b pp np cp pt nt ct pk nk ck).toArray 96 (0,0)⟩,⟨true,q3,.cells [.slice none 0 0].toArray 136 (0,0)⟩]++[⟨true,q11,.deferred (some [])⟩,⟨true,q12,rec0⟩] by simp] at hl
  refine CallF.mono hl ?_
  rintro v h' ⟨rfl,R',rfl,(⟨bp,bc,nw,rfl,ho⟩|hF)⟩;case inr=>exact hF.elim
  subst hrec
  apply jdu (F:=h++[⟨true,q1,.cells (fbL b pp np cp pt nt ct pk nk ck).toArray 96 (0,0)⟩,⟨true,q3,.cells [.slice bp (boatsOf b).length bc].toArray 136 (0,0)⟩,⟨true,q11,.deferred (some [])⟩]) (E:=nw)
  case hh=>
   simp only [List.append_assoc,List.cons_append,List.nil_append]
   rfl
  case hst=>exact .inl rfl
  refine jay ?_;refine rs2 ?_;refine jbb rfl zq ?_;refine d0 ?_;refine jcz (F:=h++[⟨true,q1,.cells (fbL b pp np cp pt nt ct pk nk ck).toArray 96 (0,0)⟩,⟨true,q3,.cells [.slice bp (boatsOf b).length bc].toArray 136 (0,0)⟩]) (E:=nw) (by simp) ?_;refine jab (h++nw) rfl Tryz.func75 rfl jaa ?_;refine hK _ _ ?_;exact ⟨nw,rfl,ho⟩
theorem f89_c (m:Md Tryz.prog B) (h:Hp) (rdp:Rp B h b pp np cp) (hp:np≤1000) (rdt:Rt B h b pt nt ct) (ht:nt≤1000) (rdk:Rk B h b pk nk ck) (hk:nk≤1000) (hv:FOk b):FnC m 89 #[fbV b pp np cp pt nt ct pk nk ck] h fun v h'=>h'=h∧IsB (boatsOf b≠[]) v:=by
 have hml:=rdp.elen (by decide)
 have hpo:=hv.pts
 refine jad Tryz.func89 rfl rfl (l:=[fbV b pp np cp pt nt ct pk nk ck,undef,undef,undef,undef,undef]) rfl ?_
 intro cf cs K hK
 refine rs2 ?_;refine jaq rfl zq (fun q1=>k_hp (jac ?_));refine jaw rfl zq (fun q2=>k_hp (jac ?_));refine d25 ?_;refine d132 ?_;refine jeG rfl zq ?_;refine d57 ?_
 refine jeX rfl rfl (by kernel_rfl) (fun q11 q12=>?_);generalize hrec:lrec _ _ _ _ _ _ LoopState.ready=rec0
 have hY:EachF m h b (.func (.yield q12) #[] #[]) (fun dn R=>dn=[]∧R=[⟨true,q1,.cells (fbL b pp np cp pt nt ct pk nk ck).toArray 96 (0,0)⟩,⟨true,q2,.cells [.bool false].toArray 4 (0,0)⟩,⟨true,q11,.deferred (some [])⟩,⟨true,q12,rec0⟩]) (fun R=>boatsOf b≠[]∧ ∃fn9 l9 ps9 a9 c9,R=[⟨true,q1,.cells (fbL b pp np cp pt nt ct pk nk ck).toArray 96 (0,0)⟩,⟨true,q2,.cells [.bool true].toArray 4 (0,0)⟩,⟨true,q11,.deferred (some [])⟩,⟨true,q12,jkQ fn9 l9 ps9 a9 c9 q11⟩]):=?hY
 rotate_left
 intro F R dn ln hF hln hdn hR
 obtain ⟨rfl,rfl⟩:=hR
 subst hrec
 haveI hsF:SubH h F:=⟨hF⟩
 refine CallV.yield (rw:=true) (q1:=q11) (st:= .ready) (List.mem_append_right _ (List.mem_cons_of_mem _ (List.mem_cons_of_mem _ (List.mem_cons_of_mem _ List.mem_cons_self)))) rfl (by simp;rfl) ?_
 intro cf2 cs2 K2 hK2
 ·refine jby ?_;apply jcY (F:=F++[⟨true,q1,.cells (fbL b pp np cp pt nt ct pk nk ck).toArray 96 (0,0)⟩,⟨true,q2,.cells [.bool false].toArray 4 (0,0)⟩,⟨true,q11,.deferred (some [])⟩]) (E:=[])
  case hh=>
   simp only [List.append_assoc,List.cons_append,List.nil_append]
   rfl
  generalize hbz:lrec _ _ _ _ _ _ LoopState.busy=rec1
  refine jaS ?_;refine rs1 ?_;refine d59 ?_;subst hbz
  apply jhX (F:=F++[⟨true,q1,.cells (fbL b pp np cp pt nt ct pk nk ck).toArray 96 (0,0)⟩,⟨true,q2,.cells [.bool true].toArray 4 (0,0)⟩,⟨true,q11,.deferred (some [])⟩]) (E:=[])
  case hh=>
   simp only [List.append_assoc,List.cons_append,List.nil_append]
   rfl
  rw [List.append_assoc];exact hK2 _ _ ⟨_,rfl,.inr ⟨rfl,(fun e=>by rw [e] at hln;cases hln),_,_,_,_,_,rfl⟩⟩
 ·have hl:=f128_c m (b:=b) rdp hp rdt ht rdk hk hv hY (R:=[⟨true,q1,.cells (fbL b pp np cp pt nt ct pk nk ck).toArray 96 (0,0)⟩,⟨true,q2,.cells [.bool false].toArray 4 (0,0)⟩,⟨true,q11,.deferred (some [])⟩,⟨true,q12,rec0⟩]) ⟨rfl,rfl⟩
  rw [show h++[⟨true,q1,.cells (fbL b pp np cp pt nt ct pk nk ck).toArray 96 (0,0)⟩,⟨true,q2,.cells [.bool false].toArray 4 (0,0)⟩,⟨true,q11,.deferred (some [])⟩,⟨true,q12,rec0⟩]=h++[⟨true,q1,.cells (fbL b pp np cp pt nt ct pk nk ck).toArray 96 (0,0)⟩,⟨true,q2,.cells [.bool false].toArray 4 (0,0)⟩]++[⟨true,q11,.deferred (some [])⟩,⟨true,q12,rec0⟩] by simp] at hl
  refine CallF.mono hl ?_
  rintro v h' ⟨rfl,R',rfl,(⟨hbo,rfl⟩|⟨hbo,fn9,l9,ps9,a9,c9,rfl⟩)⟩
  ·subst hrec
   apply jdu (F:=h++[⟨true,q1,.cells (fbL b pp np cp pt nt ct pk nk ck).toArray 96 (0,0)⟩,⟨true,q2,.cells [.bool false].toArray 4 (0,0)⟩,⟨true,q11,.deferred (some [])⟩]) (E:=[])
   case hh=>
    simp only [List.append_assoc,List.cons_append,List.nil_append]
    rfl
   case hst=>exact .inl rfl
   refine jay ?_;refine rs1 ?_;refine d59 ?_;refine jb7 rfl ?_;refine jcz (F:=h++[⟨true,q1,.cells (fbL b pp np cp pt nt ct pk nk ck).toArray 96 (0,0)⟩,⟨true,q2,.cells [.bool false].toArray 4 (0,0)⟩]) (E:=[]) (by simp) ?_;refine jab (h) rfl Tryz.func89 rfl jaa ?_;refine hK _ _ ?_;first|exact ⟨rfl,IsB.yes hbo⟩|exact ⟨rfl,IsB.no fun e=>e hbo⟩
  ·apply jhi (F:=h++[⟨true,q1,.cells (fbL b pp np cp pt nt ct pk nk ck).toArray 96 (0,0)⟩,⟨true,q2,.cells [.bool true].toArray 4 (0,0)⟩,⟨true,q11,.deferred (some [])⟩]) (E:=[])
   case hh=>
    simp only [List.append_assoc,List.cons_append,List.nil_append]
    rfl
   refine jb7 rfl ?_;refine jcz (F:=h++[⟨true,q1,.cells (fbL b pp np cp pt nt ct pk nk ck).toArray 96 (0,0)⟩,⟨true,q2,.cells [.bool true].toArray 4 (0,0)⟩]) (E:=[]) (by simp) ?_;refine jab (h) rfl Tryz.func89 rfl jaa ?_;refine hK _ _ ?_;first|exact ⟨rfl,IsB.yes hbo⟩|exact ⟨rfl,IsB.no fun e=>e hbo⟩
def openS (b:Fb) (own:Int):Int:=if fbS b≠0 then fbS b else if own≠0 then own else if boatsOf b=[] then 9 else 0
theorem openS_b {b:Fb} {own:Int} (h:fbS b≠0):openS b own=fbS b:=by rw [openS,if_pos h]
theorem openS_o {b:Fb} {own:Int} (h:fbS b=0) (h2:own≠0):openS b own=own:=by rw [openS,if_neg (fun e=>e h),if_pos h2]
theorem openS_9 {b:Fb} {own:Int} (h:fbS b=0) (h2:own=0) (h3:boatsOf b=[]):openS b own=9:=by rw [openS,if_neg (fun e=>e h),if_neg (fun e=>e h2),if_pos h3]
theorem ji1 {b:Fb} {own:Int} (h:fbS b=0) (h2:own=0) (h3:boatsOf b≠[]):openS b own=0:=by rw [openS,if_neg (fun e=>e h),if_neg (fun e=>e h2),if_neg h3]
theorem openS_zero {b:Fb} {own:Int} (h:openS b own=0):fbS b=0∧own=0∧boatsOf b≠[]:=by
 unfold openS at h
 split at h
 ·contradiction
 ·rename_i h1
  split at h
  ·contradiction
  ·rename_i h2
   split at h
   ·cases h
   ·rename_i h3
    exact ⟨Classical.byContradiction h1,Classical.byContradiction h2,h3⟩
theorem f31_c (m:Md Tryz.prog B) (h:Hp) (rdp:Rp B h b pp np cp) (hp:np≤1000) (rdt:Rt B h b pt nt ct) (ht:nt≤1000) (rdk:Rk B h b pk nk ck) (hk:nk≤1000):FnC m 31 #[fbV b pp np cp pt nt ct pk nk ck] h fun v h'=>h'=h∧v=orNo (fbS b) (boatsOf b).length:=by
 have hml:=rdp.elen (by decide)
 refine jad Tryz.func31 rfl rfl (l:=(fbV b pp np cp pt nt ct pk nk ck)::uu13) rfl ?_
 intro cf cs K hK
 refine rs3 ?_;refine jaq rfl zq (fun q1=>k_hp (jac ?_));refine d99 ?_;refine d96 ?_
 refine jae (Post:=fun v=>v=_) rfl zq (by kernel_rfl) (fun H' hH=>f54_c m H' (rdp.keeps (sq hH)) hp (rdt.keeps (sq hH)) ht (rdk.keeps (sq hH)) hk) ?_;rintro v rfl;refine d135 ?_
 refine jaF rfl zq (fun hc=>?_) (fun hc=>?_)
 ·refine d146 ?_
  refine jab (h) rfl Tryz.func31 rfl jaa ?_;refine hK _ _ ?_;exact ⟨rfl,by rw [jc0 (by assumption)]⟩
 ·refine d9 ?_;refine rs6 ?_
  have hz0:fbS b=0:=by omega
  have hv:=jaH hz0
  have hbl:=jaX hv.pts
  refine d122 ?_
  refine jat rfl zq (by kernel_rfl) (Post:=fun v nw=>OwnS 98 5 v (boatsOf b).length (encs (boatsOf b)) nw) (fun H' hH=>f75_c m H' (rdp.keeps (sq hH)) hp (rdt.keeps (sq hH)) ht (rdk.keeps (sq hH)) hk hv) ?_;rintro v nw o;obtain ⟨bp,bc,rfl,_⟩:=o.len
  refine jaL (jac ?_);refine jcO rfl zq ?_;refine d34 ?_;refine jab (h) rfl Tryz.func31 rfl jaa ?_;refine hK _ _ ?_;exact ⟨rfl,by rw [ja3 hz0]⟩
theorem f85_c (m:Md Tryz.prog B) (h:Hp):FnC m 85 #[fbV b pp np cp pt nt ct pk nk ck] h fun v h'=>h'=h∧v= .int .i64 0:=by
 refine jad Tryz.func85 rfl rfl (l:=[fbV b pp np cp pt nt ct pk nk ck,undef,undef]) rfl ?_
 intro cf cs K hK
 refine rs2 ?_;refine jaq rfl zq (fun q1=>k_hp (jac ?_));refine aq rfl ?_;refine d26 ?_
 refine jab (h) rfl Tryz.func85 rfl jaa ?_;refine hK _ _ ?_;exact ⟨rfl,rfl⟩
theorem f129_c (m:Md Tryz.prog B) (h:Hp) (hp:np≤1000) {q:Nat} {st:Int} (rd:Rd B h ⟨q,0,none⟩ (.int .i64 st)):FnC m 129 #[fbV b pp np cp pt nt ct pk nk ck,.pointer (some ⟨q,0,none⟩)] h fun v h'=>h'=h∧v= .int .i64 (if 0≤st∧st≤(np:Int)-1 then 0 else 6):=by
 refine jad Tryz.func129 rfl rfl (l:=(fbV b pp np cp pt nt ct pk nk ck)::(.pointer (some ⟨q,0,none⟩))::uu6) rfl ?_
 intro cf cs K hK
 refine rs2 ?_;refine jaq rfl zq (fun q2=>k_hp (jac ?_));refine d10 ?_;refine rs4 ?_;refine jaT rfl zq ?_
 refine k_ld rfl zq (rd.keeps SubH.sub) ?_;refine jae (Post:=fun v=>IsB _ v) rfl zq (by kernel_rfl) (fun H' hH=>f125_c m H' _ hp) ?_;rintro v (⟨hc,rfl⟩|⟨hc,rfl⟩)
 ·refine d31 ?_;refine d9 ?_;refine d26 ?_
  refine jab (h) rfl Tryz.func129 rfl jaa ?_;refine hK _ _ ?_;first|exact ⟨rfl,by rw [if_neg (by omega)]⟩|exact ⟨rfl,by rw [if_pos (by omega)]⟩
 ·refine d152 ?_
  refine jab (h) rfl Tryz.func129 rfl jaa ?_;refine hK _ _ ?_;first|exact ⟨rfl,by rw [if_neg (by omega)]⟩|exact ⟨rfl,by rw [if_pos (by omega)]⟩
theorem f130_c (m:Md Tryz.prog B) (h:Hp) (rdp:Rp B h b pp np cp) (hp:np≤1000) (h1:1≤np) {q q':Nat} {x y:Int} (rd:Rd B h ⟨q,0,none⟩ (.int .i64 x)) (rd':Rd B h ⟨q',0,none⟩ (.int .i64 y)):FnC m 130 #[fbV b pp np cp pt nt ct pk nk ck,.pointer (some ⟨q,0,none⟩),.pointer (some ⟨q',0,none⟩)] h fun v h'=>h'=h∧v= .int .i64 (if ((b.pts.getD 0 default).h≤x∧x≤(b.pts.getD (np-1) default).h)∧0≤y∧y≤959 then 0 else 1):=by
 refine jad Tryz.func130 rfl rfl (l:=(fbV b pp np cp pt nt ct pk nk ck)::(.pointer (some ⟨q,0,none⟩))::(.pointer (some ⟨q',0,none⟩))::uu11) rfl ?_
 intro cf cs K hK
 refine rs2 ?_;refine jaq rfl zq (fun q3=>k_hp (jac ?_));refine d10 ?_;refine d181 ?_
 refine k_ld rfl zq (rd.keeps SubH.sub) ?_;refine jae (Post:=fun v=>IsB _ v) rfl zq (by kernel_rfl) (fun H' hH=>f45_c m H' _ (rdp.keeps (sq hH)) hp h1) ?_;rintro v (⟨hc,rfl⟩|⟨hc,rfl⟩)
 ·refine d31 ?_;refine mq rfl ?_
  refine k_ld rfl rfl (rd'.keeps SubH.sub) ?_;refine jae (Post:=fun v=>IsB _ v) rfl rfl (by kernel_rfl) (fun H' hH=>f68_c m H' _ _ _) ?_;rintro v (⟨hc,rfl⟩|⟨hc,rfl⟩)
  ·refine d156 ?_;refine d9 ?_;refine d26 ?_
   refine jab (h) rfl Tryz.func130 rfl jaa ?_;refine hK _ _ ?_;first|exact ⟨rfl,by rw [if_neg (by omega)]⟩|exact ⟨rfl,by rw [if_pos (by omega)]⟩
  ·refine d93 ?_;refine d123 ?_
   refine jab (h) rfl Tryz.func130 rfl jaa ?_;refine hK _ _ ?_;first|exact ⟨rfl,by rw [if_neg (by omega)]⟩|exact ⟨rfl,by rw [if_pos (by omega)]⟩
 ·refine d33 ?_;refine d30 ?_;refine d76 ?_;refine d50 ?_
  refine jab (h) rfl Tryz.func130 rfl jaa ?_;refine hK _ _ ?_;first|exact ⟨rfl,by rw [if_neg (by omega)]⟩|exact ⟨rfl,by rw [if_pos (by omega)]⟩
theorem f83_c (m:Md Tryz.prog B) (h:Hp) (hp:np≤1000) {q q':Nat} {x y:Int} (rd:Rd B h ⟨q,0,none⟩ (.int .i64 x)) (rd':Rd B h ⟨q',0,none⟩ (.int .i64 y)):FnC m 83 #[fbV b pp np cp pt nt ct pk nk ck,.pointer (some ⟨q,0,none⟩),.pointer (some ⟨q',0,none⟩)] h fun v h'=>h'=h∧v= .int .i64 (ordS np x y):=by
 refine jad Tryz.func83 rfl rfl (l:=(fbV b pp np cp pt nt ct pk nk ck)::(.pointer (some ⟨q,0,none⟩))::(.pointer (some ⟨q',0,none⟩))::uu6) rfl ?_
 intro cf cs K hK
 refine rs2 ?_;refine jaq rfl zq (fun q3=>k_hp (jac ?_));refine aq rfl ?_;refine rs5 ?_;refine jaT rfl zq ?_
 refine k_ld rfl zq (rd.keeps SubH.sub) ?_;refine k_ld rfl zq (rd'.keeps SubH.sub) ?_;refine jae (Post:=fun v=>v=_) rfl zq (by kernel_rfl) (fun H' hH=>f70_c m H' _ _ hp) ?_;rintro v rfl;refine d87 ?_
 refine jab (h) rfl Tryz.func83 rfl jaa ?_;refine hK _ _ ?_;exact ⟨rfl,rfl⟩
def Opened (b:Fb) (bv:Value) (s:Int) (nw:Hp) (v:Value):Prop:= ∃x p1 n1 c1 p2 n2 c2 p3 n3 c3 p4 n4 c4,v= .tuple [.agg [.int .i64 x,.slice p1 n1 c1,.slice p2 n2 c2,.slice p3 n3 c3,.slice p4 n4 c4].toArray,.int .i64 s].toArray∧
 (s=0→bv= .agg [.int .i64 x,.slice p1 n1 c1,.slice p2 n2 c2,.slice p3 n3 c3].toArray∧n4=(boatsOf b).length∧n4≤c4∧ ∀{B:Array Obj},RdS B nw 5 (.slice p4 n4 c4) n4 (encs (boatsOf b)))
theorem opened_no {b:Fb} {bv:Value} {s:Int} (h:s≠0):Opened b bv s [] (.tuple [.agg [.int .i64 0,.slice none 0 0,.slice none 0 0,.slice none 0 0,.slice none 0 0].toArray,.int .i64 s].toArray):=
 ⟨0,none,0,0,none,0,0,none,0,0,none,0,0,rfl,fun e=>absurd e h⟩
theorem f76_c (m:Md Tryz.prog B) (h:Hp) (rdp:Rp B h b pp np cp) (hp:np≤1000) (rdt:Rt B h b pt nt ct) (ht:nt≤1000) (rdk:Rk B h b pk nk ck) (hk:nk≤1000) {fid:Nat} {gc gp:Array Value} {own:Int} (hcall:ja4 Tryz.prog fid=true) (hown:fbS b=0→ ∀H':Hp,h.Sublist H'→FnC m fid (gc++[fbV b pp np cp pt nt ct pk nk ck].toArray++gp) H' fun v h'=>h'=H'∧v= .int .i64 own):FnC m 76 #[fbV b pp np cp pt nt ct pk nk ck,.func (.func fid) gc gp] h fun v h'=> ∃nw,h'=h++nw∧Opened b (fbV b pp np cp pt nt ct pk nk ck) (openS b own) nw v:=by
 have hml:=rdp.elen (by decide)
 refine jad Tryz.func76 rfl rfl (l:=(fbV b pp np cp pt nt ct pk nk ck)::(.func (.func fid) gc gp)::uu34) rfl ?_
 intro cf cs K hK
 refine rs3 ?_;refine jaq rfl zq (fun q2=>k_hp (jac ?_));refine jaw rfl zq (fun q4=>k_hp (jac ?_));refine d10 ?_;refine d96 ?_
 refine jae (Post:=fun v=>v=_) rfl zq (by kernel_rfl) (fun H' hH=>f54_c m H' (rdp.keeps (sq hH)) hp (rdt.keeps (sq hH)) ht (rdk.keeps (sq hH)) hk) ?_;rintro v rfl;refine d135 ?_
 refine jaF rfl zq (fun hc=>?_) (fun hc=>?_)
 ·refine d178 ?_
  refine jaO rfl zq (by first|rfl|exact jaf _) ?_;refine d0 ?_
  refine jab (h) rfl Tryz.func76 rfl jaa ?_;refine hK _ _ ?_;exact ⟨[],by simp,by rw [openS_b (by assumption)];exact opened_no (by assumption)⟩
 ·refine d9 ?_;refine rs5 ?_;refine d122 ?_;refine jcP rfl zq ?_
  refine jaw rfl zq (fun q7=>k_hp (jac ?_));refine jaO rfl zq (by first|rfl|exact jaf _) ?_;refine d25 ?_;refine d116 ?_;refine d62 ?_
  refine jea (Post:=fun v=>v=_) rfl zq hcall (fun H' hH=>hown (by omega) H' (sq hH)) ?_;rintro v rfl;refine d135 ?_
  refine jaF rfl zq (fun hc=>?_) (fun hc=>?_)
  ·refine d178 ?_
   refine jaO rfl zq (by first|rfl|exact jaf _) ?_;refine d0 ?_
   refine jab (h) rfl Tryz.func76 rfl jaa ?_;refine hK _ _ ?_;exact ⟨[],by simp,by rw [openS_o (by omega) (by assumption)];exact opened_no (by assumption)⟩
  ·refine d36 ?_;refine rs5 ?_;refine d62 ?_
   have hz0:fbS b=0:=by omega
   have hv:=jaH hz0
   have hbl:=jaX hv.pts
   refine jat rfl zq (by kernel_rfl) (Post:=fun v nw=>OwnS 98 5 v (boatsOf b).length (encs (boatsOf b)) nw) (fun H' hH=>f75_c m H' (rdp.keeps (sq hH)) hp (rdt.keeps (sq hH)) ht (rdk.keeps (sq hH)) hk hv) ?_;rintro v nw o;obtain ⟨bp,bc,rfl,_⟩:=o.len
   refine jaL (jac ?_);refine d70 ?_;refine rs4 ?_;refine d95 ?_
   refine jcd rfl zq (fun hc=>?_) (fun hc=>?_)
   ·refine d7 ?_;refine rs3 ?_;refine jcP rfl zq ?_
    refine jaO rfl zq (by first|rfl|exact jaf _) ?_;refine d0 ?_
    refine jab (h) rfl Tryz.func76 rfl jaa ?_;refine hK _ _ ?_;exact ⟨[],by simp,by rw [openS_9 hz0 (by omega) (List.length_eq_zero_iff.1 (by omega))];exact opened_no (by decide)⟩
   ·refine d9 ?_;refine d96 ?_
    refine jaO rfl zq (by first|rfl|exact jaf _) ?_;refine d0 ?_
    refine jab (h++nw) rfl Tryz.func76 rfl jaa ?_;refine hK _ _ ?_;have e:openS b own=0:=ji1 hz0 (by omega) (fun e=>hc (by rw [e];rfl))
    exact ⟨nw,rfl,_,_,_,_,_,_,_,_,_,_,_,_,_,by rw [e],fun _=>⟨rfl,rfl,o.cap,o.rd (List.Sublist.refl _)⟩⟩
def openL (b:Fb) (s:Int):List (List Int):=if s≠0 then [] else boatsOf b
def jdg (mf:Nat→Int) (k:Nat):List Int:=(List.range k).map mf
theorem jkr (mf:Nat→Int) (k:Nat):jdg mf (k+1)=jdg mf k++[mf k]:=by
 rw [jdg,List.range_succ,List.map_append];rfl
theorem jbB (f:List Int→Int) (ll:List (List Int)):jdg (fun i=>f (ll.getD i default)) ll.length=ll.map f:=by
 refine List.ext_getElem (by simp [jdg]) fun i h1 h2=>?_
 simp only [jdg,List.getElem_map,List.getElem_range]
 rw [List.getD_eq_getElem?_getD,List.getElem?_eq_getElem (by simpa using h2)];rfl
theorem f78_c (m:Md Tryz.prog B) (h:Hp) {p:Option Addr} {n c:Nat} {ll:List (List Int)} (rd:RdS B h 5 (.slice p n c) n (encs ll)) (hn:n≤10000) {fid:Nat} {gc gp:Array Value} {mf:Nat→Int} {J:Hp→Prop} (hcall:ja4 Tryz.prog fid=true)
  (hf: ∀i,i<n→ ∀F R:Hp,h.Sublist F→J R→FnC m fid (gc++[rwV (ll.getD i default)].toArray++gp) (F++R) fun v h'=>v= .int .i64 (mf i)∧ ∃R',h'=F++R'∧J R') {R:Hp} (hR:J R):
  FnC m 78 #[.slice p n c,.func (.func fid) gc gp] (h++R) fun v h'=> ∃R' nw,h'=h++R'++nw∧J R'∧OwnS 3 1 v n (ints (jdg mf n)) nw:=by
 refine jad Tryz.func78 rfl rfl (l:=(.slice p n c)::(.func (.func fid) gc gp)::uu20) rfl ?_
 intro cf cs K hK
 refine d82 ?_;refine d67 ?_;refine d46 ?_;refine d130 ?_
 refine jag (fun nn l h'=> ∃(k:Nat) (w5:Value) (R1 W:Hp),nn=n-k∧(k≤n)∧(J R1)∧(OwnS 3 1 w5 k (ints (jdg mf k)) W)∧(∃U:Nat→Value,l=((.slice p n c)::(.func (.func fid) gc gp)::(U 2)::(U 3)::(U 4)::w5::(U 6)::(U 7)::(.slice p n c)::(.int .i64 (n:Int))::(.int .i64 (k:Int))::vw11 U 11 []))∧h++R1++W=h') _ ⟨0,_,R,[],rfl,by omega,hR,OwnS.nil,exU rfl,(by simp)⟩ ?_;rintro nn l h' ⟨k,w5,R1,W,rfl,hk,hR1,ho,⟨U,rfl⟩,rfl⟩ hnext;refine rs1 ?_;refine jap rfl zq (fun hc=>?_) (fun hc=>?_)
 ·refine d106 ?_;refine rs4 ?_
  obtain ⟨rb,ro,rfl⟩:=rd.ptr (by omega)
  refine jaJ rfl zq (by first|rfl|assumption) (by omega) (by omega) ?_;refine jbf (vs:=rws (ll.getD k default)) rfl zq (jaf _) (rd.eat k (by omega) (by omega)) ?_;refine jaw rfl zq (fun q7=>k_hp (jac ?_));refine jaO rfl zq (by first|rfl|exact jaf _) ?_;refine jaB ?_;refine rr7 ?_;refine d3 ?_;refine jaT rfl zq ?_;refine jih (h':=h++(W++[⟨true,q7,.cells (rws (ll.getD k default)).toArray 98 (0,0)⟩])++R1) (by rw [List.append_assoc (h++R1)];exact Weak.mid h R1 _) ?_;refine jdy rfl zq (CallV.fn' hcall rfl (hf k (by omega) (h++(W++[⟨true,q7,.cells (rws (ll.getD k default)).toArray 98 (0,0)⟩])) R1 (List.sublist_append_left _ _) hR1)) ?_;rintro v h' ⟨rfl,R2,rfl,hR2⟩;refine jac ?_;refine jih (h':=h++R2++W++[⟨true,q7,.cells (rws (ll.getD k default)).toArray 98 (0,0)⟩]) (by rw [List.append_assoc (h++R2)];exact Weak.mid h _ R2) ?_;refine k_bs kdq rfl zq (by decide) (by decide) rfl (fun q18=>k_hp (jac ?_));refine jik (F:=h++R2) rfl zq rfl ho kdq (by omega) (by omega) (fun w9 n9 o9=>jac ?_);refine d145 ?_
  exact m.weak jaa (hnext _ _ _ (by omega) ⟨k+1,_,R2,n9,rfl,by omega,hR2,by rw [jkr,jbg];exact o9,exU rfl,rfl⟩)
 ·refine d107 ?_;refine d86 ?_
  refine jab (h++R1++W) rfl Tryz.func78 rfl jaa ?_;refine hK _ _ ?_;obtain rfl:k=n:=by omega
  exact ⟨R1,W,rfl,hR1,ho⟩
theorem f77_c (m:Md Tryz.prog B) (h:Hp) (st:Int):FnC m 77 #[.int .i64 st] h fun v h'=> ∃nw,h'=h++nw∧ ∃q,nw=[⟨true,q,.cells [.int .i64 st].toArray 3 (0,0)⟩]∧v= .func (.func 129) #[] [.pointer (some ⟨q,0,none⟩)].toArray:=by
 refine jad Tryz.func77 rfl rfl (l:=[.int .i64 st,undef,undef,undef]) rfl ?_
 intro cf cs K hK
 refine rs2 ?_;refine jaq rfl zq (fun q1=>k_hp (jac ?_));refine aq rfl ?_;refine rs2 ?_;refine jeG rfl zq ?_;refine d0 ?_
 refine jab (h++[⟨true,q1,.cells [.int .i64 st].toArray 3 (0,0)⟩]) rfl Tryz.func77 rfl jaa ?_;refine hK _ _ ?_;exact ⟨_,rfl,q1,rfl,rfl⟩
theorem f80_c (m:Md Tryz.prog B) (h:Hp) (x y:Int):FnC m 80 #[.int .i64 x,.int .i64 y] h fun v h'=> ∃nw,h'=h++nw∧ ∃q q',nw=[⟨true,q,.cells [.int .i64 x].toArray 3 (0,0)⟩,⟨true,q',.cells [.int .i64 y].toArray 3 (0,0)⟩]∧v= .func (.func 130) #[] [.pointer (some ⟨q,0,none⟩),.pointer (some ⟨q',0,none⟩)].toArray:=by
 refine jad Tryz.func80 rfl rfl (l:=[.int .i64 x,.int .i64 y,undef,undef,undef,undef]) rfl ?_
 intro cf cs K hK
 refine rs3 ?_;refine jaq rfl zq (fun q2=>k_hp (jac ?_));refine jaq rfl zq (fun q3=>k_hp (jac ?_));refine aq rfl ?_;refine rs2 ?_;refine jeG rfl zq ?_;refine d0 ?_
 refine jab (h++[⟨true,q2,.cells [.int .i64 x].toArray 3 (0,0)⟩,⟨true,q3,.cells [.int .i64 y].toArray 3 (0,0)⟩]) rfl Tryz.func80 rfl jaa ?_;refine hK _ _ ?_;exact ⟨_,rfl,q2,q3,rfl,rfl⟩
theorem f79_c (m:Md Tryz.prog B) (h:Hp) {xs:List Int} {q:Nat} {s:Nat} (hs:s<5) (rd:Rd B h ⟨q,0,none⟩ (.int .i64 (s:Int))):FnC m 79 #[rwV xs,.pointer (some ⟨q,0,none⟩)] h fun v h'=>h'=h∧v= .int .i64 (xs.getD s 0):=by
 refine jad Tryz.func79 rfl rfl (l:=[rwV xs,.pointer (some ⟨q,0,none⟩),undef,undef,undef,undef,undef]) rfl ?_
 intro cf cs K hK
 refine rs2 ?_;refine jaq rfl zq (fun q2=>k_hp (jac ?_));refine aq rfl ?_;refine rs4 ?_
 refine k_ld rfl zq (rd.keeps SubH.sub) ?_;refine jdZ rfl zq (by omega) (by omega) ?_;refine k_ld rfl zq (jcS s (by omega) (by omega)) ?_;refine d0 ?_
 refine jab (h) rfl Tryz.func79 rfl jaa ?_;refine hK _ _ ?_;exact ⟨rfl,rfl⟩
theorem f82_c (m:Md Tryz.prog B) (h:Hp) (rdp:Rp B h b pp np cp) (hp:np≤1000) {xs:List Int} (hln:xs.length=np) (hpo:PtsOk b.pts) (hsm:SmL xs) {qo q:Nat} (ro:RdN B h qo 0 (fbL b pp np cp pt nt ct pk nk ck)) {x:Int} (rq:Rd B h ⟨q,0,none⟩ (.int .i64 x)) (hx:(b.pts.getD 0 default).h≤x∧x≤(b.pts.getD (np-1) default).h):FnC m 82 #[rwV xs,.pointer (some ⟨qo,0,none⟩),.pointer (some ⟨q,0,none⟩)] h fun v h'=>h'=h∧v= .int .i64 (atI b.pts xs x):=by
 refine jad Tryz.func82 rfl rfl (l:=(rwV xs)::(.pointer (some ⟨qo,0,none⟩))::(.pointer (some ⟨q,0,none⟩))::uu7) rfl ?_
 intro cf cs K hK
 refine rs2 ?_;refine jaq rfl zq (fun q3=>k_hp (jac ?_));refine d148 ?_;(first|refine jcc rfl zq ?_|refine k_fa rfl zq ?_)
 refine jbf (vs:=fbL b pp np cp pt nt ct pk nk ck) rfl zq rfl (fun j hj=>(ro j hj).keeps SubH.sub) ?_;refine jaT rfl zq ?_;refine k_ld rfl zq (rq.keeps SubH.sub) ?_;refine jae (Post:=fun v=>v=_) rfl zq (by kernel_rfl) (fun H' hH=>f46_c m H' (rdp.keeps (sq hH)) hp (by omega) hpo hsm _ hx) ?_;rintro v rfl;refine d87 ?_
 refine jab (h) rfl Tryz.func82 rfl jaa ?_;refine hK _ _ ?_;exact ⟨rfl,rfl⟩
theorem f86_c (m:Md Tryz.prog B) (h:Hp) (rdp:Rp B h b pp np cp) (hp:np≤1000) {xs:List Int} (hln:xs.length=np) (hpo:PtsOk b.pts) (hsm:SmL xs) {qo q:Nat} (ro:RdN B h qo 0 (fbL b pp np cp pt nt ct pk nk ck)) {x:Int} (rq:Rd B h ⟨q,0,none⟩ (.int .i64 x)) (hx:(b.pts.getD 0 default).h≤x∧x≤(b.pts.getD (np-1) default).h):FnC m 86 #[rwV xs,.pointer (some ⟨qo,0,none⟩),.pointer (some ⟨q,0,none⟩)] h fun v h'=>h'=h∧v= .int .i64 (atI b.pts xs x):=by
 refine jad Tryz.func86 rfl rfl (l:=(rwV xs)::(.pointer (some ⟨qo,0,none⟩))::(.pointer (some ⟨q,0,none⟩))::uu7) rfl ?_
 intro cf cs K hK
 refine rs2 ?_;refine jaq rfl zq (fun q3=>k_hp (jac ?_));refine d148 ?_;(first|refine jcc rfl zq ?_|refine k_fa rfl zq ?_)
 refine jbf (vs:=fbL b pp np cp pt nt ct pk nk ck) rfl zq rfl (fun j hj=>(ro j hj).keeps SubH.sub) ?_;refine jaT rfl zq ?_;refine k_ld rfl zq (rq.keeps SubH.sub) ?_;refine jae (Post:=fun v=>v=_) rfl zq (by kernel_rfl) (fun H' hH=>f46_c m H' (rdp.keeps (sq hH)) hp (by omega) hpo hsm _ hx) ?_;rintro v rfl;refine d87 ?_
 refine jab (h) rfl Tryz.func86 rfl jaa ?_;refine hK _ _ ?_;exact ⟨rfl,rfl⟩
theorem f84_c (m:Md Tryz.prog B) (h:Hp) (qM:Nat) (es:Ents) (hes:OkE es) (rdp:Rp B h b pp np cp) (hp:np≤1000) {xs:List Int} (hln:xs.length=np) (hpo:PtsOk b.pts) (hsm:SmL xs) {qo qm q q':Nat} (ro:RdN B h qo 0 (fbL b pp np cp pt nt ct pk nk ck)) (rm:Rd B h ⟨qm,0,none⟩ (.map (some qM))) {f t:Int} (rf:Rd B h ⟨q,0,none⟩ (.int .i64 f)) (rt:Rd B h ⟨q',0,none⟩ (.int .i64 t)) {f' t':Nat} (hf:f=f') (he:t=t') (hft:f'≤t') (ht:t'<np):FnC m 84 #[rwV xs,.pointer (some ⟨qo,0,none⟩),.pointer (some ⟨qm,0,none⟩),.pointer (some ⟨q,0,none⟩),.pointer (some ⟨q',0,none⟩)] (h++[⟨true,qM,mapO es⟩]) fun v h'=> ∃es',h'=h++[⟨true,qM,mapO es'⟩]∧OkE es'∧v= .int .i64 (jcy b.pts xs f t):=by
 refine jad Tryz.func84 rfl rfl (l:=(rwV xs)::(.pointer (some ⟨qo,0,none⟩))::(.pointer (some ⟨qm,0,none⟩))::(.pointer (some ⟨q,0,none⟩))::(.pointer (some ⟨q',0,none⟩))::uu9) rfl ?_
 intro cf cs K hK
 refine rs2 ?_;refine jaq rfl zq (fun q5=>k_hp (jac ?_));refine aq rfl ?_;refine rs8 ?_;(first|refine jcc rfl zq ?_|refine k_fa rfl zq ?_)
 refine jbf (vs:=fbL b pp np cp pt nt ct pk nk ck) rfl zq rfl (fun j hj=>(ro j hj).keeps SubH.sub) ?_;refine k_ld rfl zq (rm.keeps SubH.sub) ?_;refine jaT rfl zq ?_;refine k_ld rfl zq (rf.keeps SubH.sub) ?_;refine k_ld rfl zq (rt.keeps SubH.sub) ?_;refine jjW (Post:=fun v es'=>OkE es'∧v=_) qM rfl zq (by kernel_rfl) (f71_i m _ qM es hes (rdp.keeps SubH.sub) hp (by omega) hpo hsm f t f' t' hf he hft ht) ?_;rintro v es2 ⟨hes2,rfl⟩;refine d87 ?_
 refine jab (h++[⟨true,qM,mapO es2⟩]) rfl Tryz.func84 rfl jaa ?_;refine hK _ _ ?_;exact ⟨es2,rfl,hes2,rfl⟩
theorem uniqT_asc {xs:List Int} (hs:SortR xs 0 xs.length): ∀t,t≤xs.length→Asc (uniqT xs t)∧(∀z∈uniqT xs t,∃i,i<t∧z=xs.getD i 0)
 |0,_=>⟨List.Pairwise.nil,by simp [uniqT]⟩
 |t+1,h=>by
  obtain ⟨h1,h2⟩:=uniqT_asc hs t (by omega)
  rw [uniqT];by_cases e:t=0∨xs.getD t 0≠xs.getD (t-1) 0
  ·rw [if_pos e];refine ⟨?_,fun z hz=>?_⟩
   ·unfold Asc at h1⊢
    rw [List.pairwise_append];refine ⟨h1,by simp,fun x hx y hy=>?_⟩
    simp only [List.mem_singleton] at hy
    subst hy
    obtain ⟨i,hi,rfl⟩:=h2 x hx
    have e1:xs.getD i 0≤xs.getD (t-1) 0:=by
     by_cases e2:i=t-1
     ·subst e2
      exact Int.le_refl _
     ·exact hs i (t-1) (by omega) (by omega) (by omega)
    have e3:xs.getD (t-1) 0≤xs.getD t 0:=hs (t-1) t (by omega) (by omega) (by omega)
    rcases e with e|e
    ·omega
    ·omega
   ·rcases List.mem_append.1 hz with hz|hz
    ·obtain ⟨i,hi,e⟩:=h2 z hz
     exact ⟨i,by omega,e⟩
    ·simp only [List.mem_singleton] at hz
     exact ⟨t,by omega,hz⟩
  ·rw [if_neg e,List.append_nil];exact ⟨h1,fun z hz=>by obtain ⟨i,hi,e⟩:=h2 z hz;exact ⟨i,by omega,e⟩⟩
theorem uniqT_mem {xs:List Int}: ∀t i,i<t→xs.getD i 0∈uniqT xs t
 |0,i,h=>by omega
 |t+1,i,h=>by
  rw [uniqT,List.mem_append];rcases Nat.lt_or_ge i t with h1|h1
  ·exact .inl (uniqT_mem t i h1)
  ·obtain rfl:i=t:=by omega
   by_cases e:i=0∨xs.getD i 0≠xs.getD (i-1) 0
   ·rw [if_pos e];exact .inr (by simp)
   ·have h0:i≠0:=fun x=>e (.inl x)
    have e2:xs.getD i 0=xs.getD (i-1) 0:=Classical.byContradiction fun x=>e (.inr x)
    rw [e2];exact .inl (uniqT_mem i (i-1) (by omega))
theorem rdN_has {B:Array Obj} {h:Hp} {q t:Nat} {rw:Bool} {f:Nat×Nat} {vs:List Value} [x:Has h q rw (.cells vs.toArray t f)]:RdN B h q 0 vs:=fun j hj=>Rd.held x.mem (by
 rw [Nat.zero_add,List.getElem?_toArray,List.getD_eq_getElem?_getD,List.getElem?_eq_getElem hj];rfl)
theorem rd_has {B:Array Obj} {h:Hp} {q t:Nat} {rw:Bool} {f:Nat×Nat} {v:Value} [x:Has h q rw (.cells [v].toArray t f)]:Rd B h ⟨q,0,none⟩ v:=Rd.held x.mem rfl
theorem own_block {v:Value} {n:Nat} {xs:List Int} {new:Hp} (o:OwnS 3 1 v n (ints xs) new) (h:0<n): ∃b c junk,v= .slice (some ⟨b,0,none⟩) n c∧new=[blkC b xs junk]∧xs.length=n∧n+junk.length=c:=by
 unfold blkC
 generalize hg:ints xs=ys at o⊢
 have hy:ys.length=xs.length:=by rw [←hg];simp
 cases o with
 |nil=>omega
 |blk hl hc hn=>exact ⟨_,_,_,rfl,rfl,by omega,by omega⟩
theorem mem_uniqT {xs:List Int} {z:Int} (hs:SortR xs 0 xs.length):z∈uniqT xs xs.length↔z∈xs:=by
 constructor
 ·intro h
  obtain ⟨i,hi,rfl⟩:=(uniqT_asc hs _ (Nat.le_refl _)).2 z h
  exact mem_getD.2 ⟨i,hi,rfl⟩
 ·intro h
  obtain ⟨i,hi,rfl⟩:=mem_getD.1 h
  exact uniqT_mem _ i hi
theorem f78_p (m:Md Tryz.prog B) (h:Hp) {p:Option Addr} {n c:Nat} {ll:List (List Int)} (rd:RdS B h 5 (.slice p n c) n (encs ll)) (hn:n≤10000) {fid:Nat} {gc gp:Array Value} {mf:Nat→Int} (hcall:ja4 Tryz.prog fid=true)
  (hf: ∀i,i<n→ ∀H':Hp,h.Sublist H'→FnC m fid (gc++[rwV (ll.getD i default)].toArray++gp) H' fun v h'=>h'=H'∧v= .int .i64 (mf i)):
  FnC m 78 #[.slice p n c,.func (.func fid) gc gp] h fun v h'=> ∃nw,h'=h++nw∧OwnS 3 1 v n (ints (jdg mf n)) nw:=by
 have:=f78_c m h rd hn (J:=fun R=>R=[]) hcall (fun i hi F R hF hR=>by
  subst hR
  rw [List.append_nil];exact CallF.mono (hf i hi F hF) fun v h' ⟨e1,e2⟩=>⟨e2,[],by simp [e1],rfl⟩) rfl
 rw [List.append_nil] at this
 refine CallF.mono this fun v h' ⟨R',nw,e,hR,o⟩=>?_
 subst hR
 exact ⟨nw,by simpa using e,o⟩
theorem openL_yes {b:Fb} {s:Int} (h:s=0):openL b s=boatsOf b:=by rw [openL,if_neg (fun e=>e h)]
theorem openL_no {b:Fb} {s:Int} (h:s≠0):openL b s=[]:=by rw [openL,if_pos h]
def jcl (ll:List (List Int)) (s:Nat):List Int:=ll.map fun l=>l.getD s 0
theorem jhE:ja4 Tryz.prog 129=true:=by kernel_rfl
theorem jjl:ja4 Tryz.prog 79=true:=by kernel_rfl
theorem f32_c (m:Md Tryz.prog B) (h:Hp) (rdp:Rp B h b pp np cp) (hp:np≤1000) (rdt:Rt B h b pt nt ct) (ht:nt≤1000) (rdk:Rk B h b pk nk ck) (hk:nk≤1000) (st:Int):FnC m 32 #[fbV b pp np cp pt nt ct pk nk ck,.int .i64 st] h fun v h'=> ∃new,h'=h++new∧ ∃w ys,v= .tuple [w,.int .i64 (openS b (if 0≤st∧st≤(np:Int)-1 then 0 else 6))].toArray∧OwnS 3 1 w ys.length (ints ys) new∧Asc ys∧ ∀z,z∈ys↔z∈jcl (openL b (openS b (if 0≤st∧st≤(np:Int)-1 then 0 else 6))) st.toNat:=by
 have hml:=rdp.elen (by decide)
 refine jad Tryz.func32 rfl rfl (l:=(fbV b pp np cp pt nt ct pk nk ck)::(.int .i64 st)::uu25) rfl ?_
 intro cf cs K hK
 refine rs4 ?_;refine jaq rfl zq (fun q2=>k_hp (jac ?_));refine jaq rfl zq (fun q3=>k_hp (jac ?_));refine d99 ?_
 refine jc7 [0,1,2,3,4,5,6,7,8,9] (by kernel_rfl) (by kernel_rfl) (List.Sublist.refl _) ?_;refine DrawT.split 2 7 (by decide) ?_ ?_
 ·refine DrawT.split 3 7 (by decide) ?_ ?_
  ·refine DrawT.leaf [(0,.read),(1,.read),(2,.keep),(3,.keep),(4,.pure),(5,.pure),(6,.pure),(7,.alloc),(8,.free),(9,.pure)] (by kernel_rfl) ?_
   refine d74 ?_
   refine jat rfl zq (by kernel_rfl) (Post:=fun v nw=> ∃q,nw=[⟨true,q,.cells [.int .i64 st].toArray 3 (0,0)⟩]∧v= .func (.func 129) #[] [.pointer (some ⟨q,0,none⟩)].toArray) (fun H' hH=>f77_c m H' st) ?_;rintro v nw ⟨qs,rfl,rfl⟩;refine jaL (jac ?_);refine jat rfl zq (by kernel_rfl) (Post:=fun v nw=>Opened b (fbV b pp np cp pt nt ct pk nk ck) (openS b (if 0≤st∧st≤(np:Int)-1 then 0 else 6)) nw v) (fun H' hH=>f76_c m H' (rdp.keeps (sq hH)) hp (rdt.keeps (sq hH)) ht (rdk.keeps (sq hH)) hk jhE (fun hbz K hK=>by simpa using f129_c m K hp ((rd_has (q:=qs)).keeps (hH.trans hK)))) ?_;rintro v nw ⟨x1,p1,n1,c1,p2,n2,c2,p3,n3,c3,z1,z2,z3,rfl,hz⟩;refine jaL (jac ?_);refine d47 ?_
   refine jaw rfl zq (fun q6=>k_hp (jac ?_));refine jaO rfl zq (by first|rfl|exact jaf _) ?_;refine d108 ?_
   refine jaF rfl zq (fun hc=>?_) (fun hc=>?_)
   ·refine d146 ?_
    refine jab (h) rfl Tryz.func32 rfl jaa ?_;refine hK _ _ ?_;exact ⟨[],by simp,_,[],rfl,OwnS.nil,List.Pairwise.nil,by rw [openL_no (by assumption)];simp [jcl]⟩
   ·refine d9 ?_;refine rs5 ?_
    have hz0:openS b (if 0≤st∧st≤(np:Int)-1 then 0 else 6)=0:=by first|assumption|omega
    obtain ⟨hz1,rfl,hzc,rdB⟩:=hz hz0
    injection hz1 with hz1
    injection hz1 with hz1
    injection hz1 with e1 hz1
    injection hz1 with e2 hz1
    injection hz1 with e3 hz1
    injection hz1 with e4 hz1
    injection e1 with _ e1
    injection e2 with u1 u2 u3
    injection e3 with u4 u5 u6
    injection e4 with u7 u8 u9
    subst e1 u1 u2 u3 u4 u5 u6 u7 u8 u9
    obtain ⟨hbz,hoz,hbne⟩:=openS_zero hz0
    have hv:=jaH hbz
    have hpo:=hv.pts
    have hv5:=hpo.five
    have hbl:=jaX hpo
    have hpos:0<(boatsOf b).length:=List.length_pos_iff.2 hbne
    have hst1:0≤st∧st≤(np:Int)-1:=Classical.byContradiction fun e=>by rw [if_neg e] at hoz;omega
    obtain ⟨s,rfl⟩:=Int.eq_ofNat_of_zero_le hst1.1
    refine d141 ?_
    refine jat rfl zq (by kernel_rfl) (Post:=fun v nw=>OwnS 3 1 v (boatsOf b).length (ints (jdg (fun i=>((boatsOf b).getD i default).getD s 0) (boatsOf b).length)) nw) (fun H' hH=>f78_p m H' (RdS.keeps rdB (sq hH)) (by omega) jjl (fun i hi K hK=>by simpa using f79_c m K (xs:=(boatsOf b).getD i default) (s:=s) (by omega) ((rd_has (q:=q3)).keeps (hH.trans hK)))) ?_;rintro v n8 ho;refine jaL (jac ?_);rw [jbB (fun l=>l.getD s 0)] at ho
    refine aq rfl ?_;refine rs2 ?_
    obtain ⟨bk,c,junk,rfl,rfl,hbk1,hbk2⟩:=own_block ho hpos
    refine mq rfl ?_
    refine jaZ rfl zq (by kernel_rfl) (f65_c m _ (f123_all m) (by decide) hbk1 (by omega)) ?_;rintro v h' ⟨rfl,ys,rfl,hsw,hso⟩;refine jac ?_;have hyl:=hsw.length
    refine jaB ?_;refine d115 ?_;refine jaZ rfl zq (by kernel_rfl) (f66_c m _ (show ys.length=_ by omega) hbk2 (by omega)) ?_;rintro v h' ⟨n11,rfl,k,hk',ho'⟩;refine jac ?_;refine d34 ?_;refine jab (h++n11) rfl Tryz.func32 rfl jaa ?_;refine hK _ _ ?_;have hyn:ys.length=(boatsOf b).length:=by omega
    rw [←hyn] at hso ho' hk'
    subst hk'
    refine ⟨n11,rfl,_,_,by rw [hz0],ho',(uniqT_asc hso _ (Nat.le_refl _)).1,fun z=>?_⟩
    rw [openL_yes hz0,mem_uniqT hso];exact (hsw.perm (by omega)).mem_iff
  ·refine DrawT.leaf [(0,.read),(1,.read),(2,.keep),(7,.alloc),(3,.keep),(4,.pure),(5,.pure),(6,.pure),(8,.free),(9,.pure)] (by kernel_rfl) ?_
   refine d74 ?_
   refine jat rfl zq (by kernel_rfl) (Post:=fun v nw=> ∃q,nw=[⟨true,q,.cells [.int .i64 st].toArray 3 (0,0)⟩]∧v= .func (.func 129) #[] [.pointer (some ⟨q,0,none⟩)].toArray) (fun H' hH=>f77_c m H' st) ?_;rintro v nw ⟨qs,rfl,rfl⟩;refine jaL (jac ?_);refine jaw rfl zq (fun q6=>k_hp (jac ?_));refine jat rfl zq (by kernel_rfl) (Post:=fun v nw=>Opened b (fbV b pp np cp pt nt ct pk nk ck) (openS b (if 0≤st∧st≤(np:Int)-1 then 0 else 6)) nw v) (fun H' hH=>f76_c m H' (rdp.keeps (sq hH)) hp (rdt.keeps (sq hH)) ht (rdk.keeps (sq hH)) hk jhE (fun hbz K hK=>by simpa using f129_c m K hp ((rd_has (q:=qs)).keeps (hH.trans hK)))) ?_;rintro v nw ⟨x1,p1,n1,c1,p2,n2,c2,p3,n3,c3,z1,z2,z3,rfl,hz⟩;refine jaL (jac ?_);refine d47 ?_
   refine jaO rfl zq (by first|rfl|exact jaf _) ?_;refine d108 ?_
   refine jaF rfl zq (fun hc=>?_) (fun hc=>?_)
   ·refine d146 ?_
    refine jab (h) rfl Tryz.func32 rfl jaa ?_;refine hK _ _ ?_;exact ⟨[],by simp,_,[],rfl,OwnS.nil,List.Pairwise.nil,by rw [openL_no (by assumption)];simp [jcl]⟩
   ·refine d9 ?_;refine rs5 ?_
    have hz0:openS b (if 0≤st∧st≤(np:Int)-1 then 0 else 6)=0:=by first|assumption|omega
    obtain ⟨hz1,rfl,hzc,rdB⟩:=hz hz0
    injection hz1 with hz1
    injection hz1 with hz1
    injection hz1 with e1 hz1
    injection hz1 with e2 hz1
    injection hz1 with e3 hz1
    injection hz1 with e4 hz1
    injection e1 with _ e1
    injection e2 with u1 u2 u3
    injection e3 with u4 u5 u6
    injection e4 with u7 u8 u9
    subst e1 u1 u2 u3 u4 u5 u6 u7 u8 u9
    obtain ⟨hbz,hoz,hbne⟩:=openS_zero hz0
    have hv:=jaH hbz
    have hpo:=hv.pts
    have hv5:=hpo.five
    have hbl:=jaX hpo
    have hpos:0<(boatsOf b).length:=List.length_pos_iff.2 hbne
    have hst1:0≤st∧st≤(np:Int)-1:=Classical.byContradiction fun e=>by rw [if_neg e] at hoz;omega
    obtain ⟨s,rfl⟩:=Int.eq_ofNat_of_zero_le hst1.1
    refine d141 ?_
    refine jat rfl zq (by kernel_rfl) (Post:=fun v nw=>OwnS 3 1 v (boatsOf b).length (ints (jdg (fun i=>((boatsOf b).getD i default).getD s 0) (boatsOf b).length)) nw) (fun H' hH=>f78_p m H' (RdS.keeps rdB (sq hH)) (by omega) jjl (fun i hi K hK=>by simpa using f79_c m K (xs:=(boatsOf b).getD i default) (s:=s) (by omega) ((rd_has (q:=q3)).keeps (hH.trans hK)))) ?_;rintro v n8 ho;refine jaL (jac ?_);rw [jbB (fun l=>l.getD s 0)] at ho
    refine aq rfl ?_;refine rs2 ?_
    obtain ⟨bk,c,junk,rfl,rfl,hbk1,hbk2⟩:=own_block ho hpos
    refine mq rfl ?_
    refine jaZ rfl zq (by kernel_rfl) (f65_c m _ (f123_all m) (by decide) hbk1 (by omega)) ?_;rintro v h' ⟨rfl,ys,rfl,hsw,hso⟩;refine jac ?_;have hyl:=hsw.length
    refine jaB ?_;refine d115 ?_;refine jaZ rfl zq (by kernel_rfl) (f66_c m _ (show ys.length=_ by omega) hbk2 (by omega)) ?_;rintro v h' ⟨n11,rfl,k,hk',ho'⟩;refine jac ?_;refine d34 ?_;refine jab (h++n11) rfl Tryz.func32 rfl jaa ?_;refine hK _ _ ?_;have hyn:ys.length=(boatsOf b).length:=by omega
    rw [←hyn] at hso ho' hk'
    subst hk'
    refine ⟨n11,rfl,_,_,by rw [hz0],ho',(uniqT_asc hso _ (Nat.le_refl _)).1,fun z=>?_⟩
    rw [openL_yes hz0,mem_uniqT hso];exact (hsw.perm (by omega)).mem_iff
 ·refine DrawT.leaf [(0,.read),(1,.read),(7,.alloc),(2,.keep),(3,.keep),(4,.pure),(5,.pure),(6,.pure),(8,.free),(9,.pure)] (by kernel_rfl) ?_
  refine d74 ?_
  refine jaw rfl zq (fun q6=>k_hp (jac ?_));refine jat rfl zq (by kernel_rfl) (Post:=fun v nw=> ∃q,nw=[⟨true,q,.cells [.int .i64 st].toArray 3 (0,0)⟩]∧v= .func (.func 129) #[] [.pointer (some ⟨q,0,none⟩)].toArray) (fun H' hH=>f77_c m H' st) ?_;rintro v nw ⟨qs,rfl,rfl⟩;refine jaL (jac ?_);refine jat rfl zq (by kernel_rfl) (Post:=fun v nw=>Opened b (fbV b pp np cp pt nt ct pk nk ck) (openS b (if 0≤st∧st≤(np:Int)-1 then 0 else 6)) nw v) (fun H' hH=>f76_c m H' (rdp.keeps (sq hH)) hp (rdt.keeps (sq hH)) ht (rdk.keeps (sq hH)) hk jhE (fun hbz K hK=>by simpa using f129_c m K hp ((rd_has (q:=qs)).keeps (hH.trans hK)))) ?_;rintro v nw ⟨x1,p1,n1,c1,p2,n2,c2,p3,n3,c3,z1,z2,z3,rfl,hz⟩;refine jaL (jac ?_);refine d47 ?_
  refine jaO rfl zq (by first|rfl|exact jaf _) ?_;refine d108 ?_
  refine jaF rfl zq (fun hc=>?_) (fun hc=>?_)
  ·refine d146 ?_
   refine jab (h) rfl Tryz.func32 rfl jaa ?_;refine hK _ _ ?_;exact ⟨[],by simp,_,[],rfl,OwnS.nil,List.Pairwise.nil,by rw [openL_no (by assumption)];simp [jcl]⟩
  ·refine d9 ?_;refine rs5 ?_
   have hz0:openS b (if 0≤st∧st≤(np:Int)-1 then 0 else 6)=0:=by first|assumption|omega
   obtain ⟨hz1,rfl,hzc,rdB⟩:=hz hz0
   injection hz1 with hz1
   injection hz1 with hz1
   injection hz1 with e1 hz1
   injection hz1 with e2 hz1
   injection hz1 with e3 hz1
   injection hz1 with e4 hz1
   injection e1 with _ e1
   injection e2 with u1 u2 u3
   injection e3 with u4 u5 u6
   injection e4 with u7 u8 u9
   subst e1 u1 u2 u3 u4 u5 u6 u7 u8 u9
   obtain ⟨hbz,hoz,hbne⟩:=openS_zero hz0
   have hv:=jaH hbz
   have hpo:=hv.pts
   have hv5:=hpo.five
   have hbl:=jaX hpo
   have hpos:0<(boatsOf b).length:=List.length_pos_iff.2 hbne
   have hst1:0≤st∧st≤(np:Int)-1:=Classical.byContradiction fun e=>by rw [if_neg e] at hoz;omega
   obtain ⟨s,rfl⟩:=Int.eq_ofNat_of_zero_le hst1.1
   refine d141 ?_
   refine jat rfl zq (by kernel_rfl) (Post:=fun v nw=>OwnS 3 1 v (boatsOf b).length (ints (jdg (fun i=>((boatsOf b).getD i default).getD s 0) (boatsOf b).length)) nw) (fun H' hH=>f78_p m H' (RdS.keeps rdB (sq hH)) (by omega) jjl (fun i hi K hK=>by simpa using f79_c m K (xs:=(boatsOf b).getD i default) (s:=s) (by omega) ((rd_has (q:=q3)).keeps (hH.trans hK)))) ?_;rintro v n8 ho;refine jaL (jac ?_);rw [jbB (fun l=>l.getD s 0)] at ho
   refine aq rfl ?_;refine rs2 ?_
   obtain ⟨bk,c,junk,rfl,rfl,hbk1,hbk2⟩:=own_block ho hpos
   refine mq rfl ?_
   refine jaZ rfl zq (by kernel_rfl) (f65_c m _ (f123_all m) (by decide) hbk1 (by omega)) ?_;rintro v h' ⟨rfl,ys,rfl,hsw,hso⟩;refine jac ?_;have hyl:=hsw.length
   refine jaB ?_;refine d115 ?_;refine jaZ rfl zq (by kernel_rfl) (f66_c m _ (show ys.length=_ by omega) hbk2 (by omega)) ?_;rintro v h' ⟨n11,rfl,k,hk',ho'⟩;refine jac ?_;refine d34 ?_;refine jab (h++n11) rfl Tryz.func32 rfl jaa ?_;refine hK _ _ ?_;have hyn:ys.length=(boatsOf b).length:=by omega
   rw [←hyn] at hso ho' hk'
   subst hk'
   refine ⟨n11,rfl,_,_,by rw [hz0],ho',(uniqT_asc hso _ (Nat.le_refl _)).1,fun z=>?_⟩
   rw [openL_yes hz0,mem_uniqT hso];exact (hsw.perm (by omega)).mem_iff
end Go.Proofs
namespace Go.Proofs
open Go.Lo
open Go.Conc (G)
set_option maxRecDepth 100000
set_option synthInstance.maxSize 100000
set_option synthInstance.maxHeartbeats 1000000
set_option maxHeartbeats 4000000
variable {B:Array Obj}
variable [LaidF B]
def minL (ys:List Int):Int:=(ys.drop 1).foldl min (ys.getD 0 0)
def maxL (ys:List Int):Int:=(ys.drop 1).foldl max (ys.getD 0 0)
theorem jiq (op:Int→Int→Int) (ys:List Int) {k:Nat} (h0:0<k) (h:k<ys.length):((ys.take (k+1)).drop 1).foldl op ((ys.take (k+1)).getD 0 0)=op (((ys.take k).drop 1).foldl op ((ys.take k).getD 0 0)) (ys.getD k 0):=by
 have e: ∀k,0<k→(ys.take k).getD 0 0=ys.getD 0 0:=fun k hk=>by
  rw [List.getD_eq_getElem?_getD,List.getD_eq_getElem?_getD,List.getElem?_take,if_pos hk]
 rw [e (k+1) (by omega),e k h0,take_snoc' ys k h,List.drop_append_of_le_length (by rw [List.length_take];omega),List.foldl_append];rfl
theorem minL_one (ys:List Int):minL (ys.take 1)=ys.getD 0 0:=by cases ys<;>rfl
theorem maxL_one (ys:List Int):maxL (ys.take 1)=ys.getD 0 0:=by cases ys<;>rfl
theorem jme (ys:List Int) {k:Nat} (h0:0<k) (h:k<ys.length):minL (ys.take (k+1))=min (minL (ys.take k)) (ys.getD k 0):=jiq min ys h0 h
theorem jmi (ys:List Int) {k:Nat} (h0:0<k) (h:k<ys.length):maxL (ys.take (k+1))=max (maxL (ys.take k)) (ys.getD k 0):=jiq max ys h0 h
theorem f172_c (m:Md Tryz.prog B) (h:Hp) {p:Option Addr} {n c:Nat} {xs:List Int} (rd:RdS B h 1 (.slice p n c) n (ints xs)) (hn:n≤10000) (h1:1≤n):FnC m 172 #[.slice p n c] h fun v h'=>h'=h∧v= .int .i64 (minL xs):=by
 have hl:=rd.ilen
 have hn63:n<9000000000000000000:=by omega
 obtain ⟨rb,ro,rfl⟩:=rd.ptr (by omega)
 refine jad Tryz.func172 rfl rfl (l:=(.slice (some ⟨rb,ro,none⟩) n c)::uu24) rfl ?_
 intro cf cs K hK
 refine d67 ?_;refine d151 ?_
 refine jap rfl zq (fun hc=>?_) (fun hc=>?_)
 ·omega
 ·refine d9 ?_;refine rs4 ?_;refine d43 ?_
  refine k_ld rfl zq (rd.iat 0 (by omega) (by omega)) ?_;refine d10 ?_;refine d98 ?_
  refine jag (fun nn l h'=> ∃(k:Nat) (mo:Int),nn=n-k∧(k≤n)∧(1≤k)∧(mo=minL (xs.take k))∧(∃U:Nat→Value,l=((.slice (some ⟨rb,ro,none⟩) n c)::(U 1)::(U 2)::(.int .i64 mo)::(.int .i64 (k:Int))::vw20 U 5 []))∧h=h') _ ⟨1,_,rfl,by omega,by omega,by rw [minL_one],exU rfl,rfl⟩ ?_;rintro nn l h' ⟨k,mo,rfl,hk,hk1,hmo,⟨U,rfl⟩,rfl⟩ hnext;refine d114 ?_
  refine jap rfl zq (fun hc=>?_) (fun hc=>?_)
  ·refine d75 ?_;refine rr7 ?_;refine d3 ?_;refine d43 ?_
   refine k_ld rfl zq (rd.iat k (by omega) (by omega)) ?_;refine k_min rfl zq ?_;refine d167 ?_;exact m.weak jaa (hnext _ _ _ (by omega) ⟨k+1,_,rfl,by omega,by omega,by rw [jme _ (by omega) (by omega),←hmo],exU rfl,rfl⟩)
  ·refine d176 ?_
   refine jab (h) rfl Tryz.func172 rfl jaa ?_;refine hK _ _ ?_;obtain rfl:k=n:=by omega
   exact ⟨rfl,by rw [hmo,List.take_of_length_le (by omega)]⟩
theorem f173_c (m:Md Tryz.prog B) (h:Hp) {p:Option Addr} {n c:Nat} {xs:List Int} (rd:RdS B h 1 (.slice p n c) n (ints xs)) (hn:n≤10000) (h1:1≤n):FnC m 173 #[.slice p n c] h fun v h'=>h'=h∧v= .int .i64 (maxL xs):=by
 have hl:=rd.ilen
 have hn63:n<9000000000000000000:=by omega
 obtain ⟨rb,ro,rfl⟩:=rd.ptr (by omega)
 refine jad Tryz.func173 rfl rfl (l:=(.slice (some ⟨rb,ro,none⟩) n c)::uu24) rfl ?_
 intro cf cs K hK
 refine d67 ?_;refine d151 ?_
 refine jap rfl zq (fun hc=>?_) (fun hc=>?_)
 ·omega
 ·refine d9 ?_;refine rs4 ?_;refine d43 ?_
  refine k_ld rfl zq (rd.iat 0 (by omega) (by omega)) ?_;refine d10 ?_;refine d98 ?_
  refine jag (fun nn l h'=> ∃(k:Nat) (mo:Int),nn=n-k∧(k≤n)∧(1≤k)∧(mo=maxL (xs.take k))∧(∃U:Nat→Value,l=((.slice (some ⟨rb,ro,none⟩) n c)::(U 1)::(U 2)::(.int .i64 mo)::(.int .i64 (k:Int))::vw20 U 5 []))∧h=h') _ ⟨1,_,rfl,by omega,by omega,by rw [maxL_one],exU rfl,rfl⟩ ?_;rintro nn l h' ⟨k,mo,rfl,hk,hk1,hmo,⟨U,rfl⟩,rfl⟩ hnext;refine d114 ?_
  refine jap rfl zq (fun hc=>?_) (fun hc=>?_)
  ·refine d75 ?_;refine rr7 ?_;refine d3 ?_;refine d43 ?_
   refine k_ld rfl zq (rd.iat k (by omega) (by omega)) ?_;refine jja rfl zq ?_;refine d167 ?_;exact m.weak jaa (hnext _ _ _ (by omega) ⟨k+1,_,rfl,by omega,by omega,by rw [jmi _ (by omega) (by omega),←hmo],exU rfl,rfl⟩)
  ·refine d176 ?_
   refine jab (h) rfl Tryz.func173 rfl jaa ?_;refine hK _ _ ?_;obtain rfl:k=n:=by omega
   exact ⟨rfl,by rw [hmo,List.take_of_length_le (by omega)]⟩
def jiT (s:Int) (ys:List Int):Value:= .tuple [.agg [.int .i64 (if s≠0 then 0 else minL ys),.int .i64 (if s≠0 then 0 else maxL ys)].toArray,.int .i64 s].toArray
theorem jeu {s:Int} {ys:List Int} (h:s≠0):jiT s ys= .tuple [.agg [.int .i64 0,.int .i64 0].toArray,.int .i64 s].toArray:=by rw [jiT,if_pos h,if_pos h]
theorem jb6 {s:Int} {ys:List Int} (h:s=0):jiT s ys= .tuple [.agg [.int .i64 (minL ys),.int .i64 (maxL ys)].toArray,.int .i64 0].toArray:=by rw [jiT,if_neg (fun e=>e h),if_neg (fun e=>e h),h]
def jcM (lt:List Int→List Int→Bool) (ll:List (List Int)):List Int:=(ll.drop 1).foldl (fun o x=>if lt x o then x else o) (ll.getD 0 [])
theorem jg7 (lt:List Int→List Int→Bool) (ll:List (List Int)):jcM lt (ll.take 1)=ll.getD 0 []:=by
 cases ll<;>rfl
theorem jdm (lt:List Int→List Int→Bool) (ll:List (List Int)) (k:Nat) (h0:0<k) (h:k<ll.length):jcM lt (ll.take (k+1))=if lt (ll.getD k []) (jcM lt (ll.take k)) then ll.getD k [] else jcM lt (ll.take k):=by
 have e: ∀k,0<k→(ll.take k).getD 0 []=ll.getD 0 []:=fun k hk=>by
  rw [List.getD_eq_getElem?_getD,List.getD_eq_getElem?_getD,List.getElem?_take,if_pos hk]
 unfold jcM
 rw [e (k+1) (by omega),e k h0,jb0 ll k h,List.drop_append_of_le_length (by rw [List.length_take];omega),List.foldl_append];rfl
theorem jg8 (lt:List Int→List Int→Bool) (ll:List (List Int)) (h:0<ll.length):jcM lt ll∈ll:=by
 have gen: ∀(r:List (List Int)) (o:List Int),o∈ll→(∀x∈r,x∈ll)→r.foldl (fun o x=>if lt x o then x else o) o∈ll:=by
  intro r
  induction r with
  |nil=>exact fun o ho _=>ho
  |cons x r ih=>
   intro o ho hr
   refine ih _ ?_ fun y hy=>hr y (List.mem_cons_of_mem _ hy)
   show (if lt x o then x else o)∈ll
   split
   ·exact hr x List.mem_cons_self
   ·exact ho
 exact gen _ _ (jai.2 ⟨0,h,rfl⟩) fun x hx=>List.mem_of_mem_drop hx
def ltArea (b:Fb) (x o:List Int):Bool:=decide (jcN b.pts x<jcN b.pts o)
def jgt (b:Fb) (ll:List (List Int)):List Int:=jcM (ltArea b) ll
theorem minL_app (x:Int) (ys:List Int):min x (minL (ys++[x]))=minL (x::ys):=by
 have gen: ∀(r:List Int) (a b:Int),r.foldl min (min a b)=min a (r.foldl min b):=by
  intro r
  induction r with
  |nil=>exact fun _ _=>rfl
  |cons c r ih=>intro a b;simp only [List.foldl_cons];rw [show min (min a b) c=min a (min b c) by omega,ih]
 cases ys with
 |nil=>simp [minL]
 |cons y r=>
  simp only [minL,List.cons_append,List.drop_one,List.tail_cons,List.foldl_append,List.foldl_cons,List.foldl_nil,List.getD_cons_zero]
  rw [gen];omega
theorem maxL_app (x:Int) (ys:List Int):max x (maxL (ys++[x]))=maxL (x::ys):=by
 have gen: ∀(r:List Int) (a b:Int),r.foldl max (max a b)=max a (r.foldl max b):=by
  intro r
  induction r with
  |nil=>exact fun _ _=>rfl
  |cons c r ih=>intro a b;simp only [List.foldl_cons];rw [show max (max a b) c=max a (max b c) by omega,ih]
 cases ys with
 |nil=>simp [maxL]
 |cons y r=>
  simp only [maxL,List.cons_append,List.drop_one,List.tail_cons,List.foldl_append,List.foldl_cons,List.foldl_nil,List.getD_cons_zero]
  rw [gen];omega
theorem weak3 {B:Array Obj} {h:Hp} {a b c:Chunk}:Weak B (h++[a,b,c]) ((h++[b])++[a]):=Weak.trans (Weak.sub (by simp:(h++[a,b]).Sublist (h++[a,b,c]))) (Weak.perm (by
 rw [List.append_assoc];exact List.Perm.append_left h (.swap _ _ [])))
theorem f131_c (m:Md Tryz.prog B) (h:Hp) {bk n c:Nat} {x:Int} {ys:List Int} {junk:List Value} (hy:ys.length=n) (hj:n+junk.length=c) (hn:n≤1000):FnC m 131 #[.int .i64 x,.slice (some ⟨bk,1,none⟩) n c] (h++[⟨true,bk,.cells ([Value.int .i64 x]++ints ys++junk).toArray 3 (0,0)⟩]) fun v h'=>h'=h∧v= .agg [.int .i64 (minL (x::ys)),.int .i64 (maxL (x::ys))].toArray:=by
 refine jad Tryz.func131 rfl rfl (l:=(.int .i64 x)::(.slice (some ⟨bk,1,none⟩) n c)::uu18) rfl ?_
 intro cf cs K hK
 refine rs1 ?_;refine jaw rfl zq (fun q4=>k_hp (jac ?_));refine d25 ?_;refine rr16 ?_;refine d127 ?_
 refine k_bs kdq rfl zq (by decide) (by decide) rfl (fun q8=>k_hp (jac ?_));refine k_appP (t':=3) (F:=h++[⟨true,q4,.cells [.int .i64 0,.int .i64 0].toArray 30 (0,0)⟩]) (pre:=[.int .i64 x]) (cs:=ints ys) (junk:=junk) (n:=n) rfl zq rfl rfl weak3 (by simp [hy]) (by simp [hy];omega) (by omega) kdq (by omega) (by omega) (fun v1 jk1 ex1 hj1 rd1=>jac ?_);have rr1:=rd1
 rw [show ints ys++[Value.int .i64 x]=ints (ys++[x]) by simp] at rr1
 obtain ⟨p1,c1,rfl,_⟩:=id rr1
 refine jae (Post:=fun v=>v=_) rfl zq (by kernel_rfl) (fun H' hH=>f172_c m H' (rr1.keeps ((List.sublist_append_right _ _).trans hH)) (by omega) (by omega)) ?_;rintro v rfl;refine jac ?_;refine k_min rfl zq ?_;refine d127 ?_;refine k_bs kdq rfl zq (by decide) (by decide) rfl (fun q15=>k_hp (jac ?_));refine k_appP (t':=3) (F:=h++[⟨true,q4,.cells [.int .i64 0,.int .i64 0].toArray 30 (0,0)⟩]) (pre:=[.int .i64 x]) (cs:=ints ys) (junk:=jk1) (n:=n) rfl zq rfl rfl jaa (by simp [hy]) (by simp [hy];omega) (by omega) kdq (by omega) (by omega) (fun v2 jk2 ex2 hj2 rd2=>jac ?_);have rr2:=rd2
 rw [show ints ys++[Value.int .i64 x]=ints (ys++[x]) by simp] at rr2
 obtain ⟨p2,c2,rfl,_⟩:=id rr2
 refine jae (Post:=fun v=>v=_) rfl zq (by kernel_rfl) (fun H' hH=>f173_c m H' (rr2.keeps ((List.sublist_append_right _ _).trans hH)) (by omega) (by omega)) ?_;rintro v rfl;refine jac ?_;refine jja rfl zq ?_;refine jcP rfl zq ?_;refine d120 ?_;refine jab (h) rfl Tryz.func131 rfl jaa ?_;refine hK _ _ ?_;exact ⟨rfl,by rw [minL_app,maxL_app]⟩
theorem f166z_c (m:Md Tryz.prog B) (h:Hp) {pp:Option Addr} {x:Int}:FnC m 131 #[.int .i64 x,.slice pp 0 0] h fun v h'=>h'=h∧v= .agg [.int .i64 x,.int .i64 x].toArray:=by
 refine jad Tryz.func131 rfl rfl (l:=(.int .i64 x)::(.slice pp 0 0)::uu18) rfl ?_
 intro cf cs K hK
 refine rs1 ?_;refine jaw rfl zq (fun q4=>k_hp (jac ?_));refine d25 ?_;refine rr16 ?_;refine d127 ?_
 refine k_bs kdq rfl zq (by decide) (by decide) rfl (fun q8=>k_hp (jac ?_));refine k_app0 rfl zq (by first|rfl|simp) (by omega) kdq (by omega) (by omega) (fun v1 ch1 rd1=>jac ?_);obtain ⟨p1,c1,rfl,_⟩:=id rd1
 have rr1:RdS B [ch1] 1 (.slice p1 (0+1) c1) (0+1) (ints [x]):=rd1
 refine jae (Post:=fun v=>v=_) rfl zq (by kernel_rfl) (fun H' hH=>f172_c m H' (rr1.keeps ((List.sublist_append_right _ _).trans hH)) (by omega) (by omega)) ?_;rintro v rfl;refine jac ?_;refine k_min rfl zq ?_;refine d127 ?_;refine k_bs kdq rfl zq (by decide) (by decide) rfl (fun q15=>k_hp (jac ?_));refine k_app0 rfl zq (by first|rfl|simp) (by omega) kdq (by omega) (by omega) (fun v2 ch2 rd2=>jac ?_);obtain ⟨p2,c2,rfl,_⟩:=id rd2
 have rr2:RdS B [ch2] 1 (.slice p2 (0+1) c2) (0+1) (ints [x]):=rd2
 refine jae (Post:=fun v=>v=_) rfl zq (by kernel_rfl) (fun H' hH=>f173_c m H' (rr2.keeps ((List.sublist_append_right _ _).trans hH)) (by omega) (by omega)) ?_;rintro v rfl;refine jac ?_;refine jja rfl zq ?_;refine jcP rfl zq ?_;refine d120 ?_;refine jab (h) rfl Tryz.func131 rfl jaa ?_;refine hK _ _ ?_;exact ⟨rfl,by simp [minL,maxL]⟩
theorem weakSw {B:Array Obj} {h:Hp} {a b:Chunk}:Weak B (h++[a,b]) ((h++[b])++[a]):=Weak.perm (by
 rw [List.append_assoc];exact List.Perm.append_left h (.swap _ _ []))
theorem jl0 {B:Array Obj} {h:Hp} {q t:Nat} {rw:Bool} {f:Nat×Nat} {cs:List Value} {v:Value} [x:Has h q rw (.cells cs.toArray t f)] (e:cs[0]?=some v):Rd B h ⟨q,0,none⟩ v:=Rd.held x.mem (by rw [List.getElem?_toArray];exact e)
theorem f81_c (m:Md Tryz.prog B) (h:Hp) {bk n c:Nat} {x:Int} {ys:List Int} {junk:List Value} (hy:ys.length+1=n) (hj:n+junk.length=c) (hn:n≤1000):FnC m 81 #[.slice (some ⟨bk,0,none⟩) n c] (h++[⟨true,bk,.cells ([Value.int .i64 x]++ints ys++junk).toArray 3 (0,0)⟩]) fun v h'=>h'=h∧v= .agg [.int .i64 (minL (x::ys)),.int .i64 (maxL (x::ys))].toArray:=by
 refine jad Tryz.func81 rfl rfl (l:=(.slice (some ⟨bk,0,none⟩) n c)::uu8) rfl ?_
 intro cf cs K hK
 refine rs1 ?_;refine jaw rfl zq (fun q2=>k_hp (jac ?_));refine d25 ?_
 rcases Nat.eq_or_lt_of_le (show 1≤c by omega) with hc|hc
 ·obtain rfl:ys=[]:=List.length_eq_zero_iff.1 (by omega)
  obtain rfl:junk=[]:=List.length_eq_zero_iff.1 (by omega)
  refine jah [(0,.pure),(1,.pure),(3,.pure),(4,.pure),(2,.read),(5,.free),(6,.free)] (by kernel_rfl) (by kernel_rfl) (List.Sublist.refl _) ?_;refine d43 ?_;refine mq rfl ?_
  refine jdS (a:=1) rfl zq rfl (by omega) ?_;rw [show n-1=0 by omega,show c-1=0 by omega];refine k_ld (v:= .int .i64 x) rfl zq (jl0 (q:=bk) rfl) ?_;refine jaZ rfl zq (by kernel_rfl) (f166z_c m _) ?_;rintro v h' ⟨rfl,rfl⟩;refine jac ?_;refine d120 ?_;refine jab (h) rfl Tryz.func81 rfl jaa ?_;refine hK _ _ ?_;exact ⟨rfl,by simp [minL,maxL]⟩
 ·refine jah [(0,.pure),(1,.pure),(3,.pure),(4,.pure),(2,.read),(5,.free),(6,.free)] (by kernel_rfl) (by kernel_rfl) (List.Sublist.refl _) ?_;refine d43 ?_;refine mq rfl ?_
  refine jdS (a:=1) rfl zq rfl (by omega) ?_;rw [show cutP 1 (some ⟨bk,0,none⟩) c 1=some ⟨bk,1,none⟩ by unfold cutP;rw [if_neg (by omega)];rfl];refine k_ld (v:= .int .i64 x) rfl zq (jl0 (q:=bk) rfl) ?_;refine jaZ rfl zq (by kernel_rfl) (CallF.weak weakSw (f131_c m _ (ys:=ys) (junk:=junk) (by omega) (by omega) (by omega))) ?_;rintro v h' ⟨rfl,rfl⟩;refine jac ?_;refine d120 ?_;refine jab (h) rfl Tryz.func81 rfl jaa ?_;refine hK _ _ ?_;exact ⟨rfl,rfl⟩
theorem f81_b (m:Md Tryz.prog B) (h:Hp) {bk n c:Nat} {zs:List Int} {junk:List Value} (hz:0<n) (hy:zs.length=n) (hj:n+junk.length=c) (hn:n≤1000):FnC m 81 #[.slice (some ⟨bk,0,none⟩) n c] (h++[blkC bk zs junk]) fun v h'=>h'=h∧v= .agg [.int .i64 (minL zs),.int .i64 (maxL zs)].toArray:=by
 cases zs with
 |nil=>exact absurd hy (by simp;omega)
 |cons x ys=>exact f81_c m h hy hj hn
end Go.Proofs
namespace Go.Proofs
open Go.Lo
open Go.Conc (G)
set_option maxRecDepth 100000
set_option synthInstance.maxSize 100000
set_option synthInstance.maxHeartbeats 1000000
set_option maxHeartbeats 4000000
variable {b:Fb} {pp:Option Addr} {np cp:Nat} {pt:Option Addr} {nt ct:Nat} {pk:Option Addr} {nk ck:Nat}
variable {B:Array Obj}
variable [LaidF B]
theorem jcn {B:Array Obj} {h:Hp} {q t:Nat} {rw:Bool} {f:Nat×Nat} {cs vs:List Value} [x:Has h q rw (.cells cs.toArray t f)] (e:cs.take vs.length=vs):RdN B h q 0 vs:=fun j hj=>Rd.held x.mem (by
 have hj':cs[j]?=vs[j]?:=by rw [←e,List.getElem?_take,if_pos hj]
 rw [Nat.zero_add,List.getElem?_toArray,hj',List.getD_eq_getElem?_getD,List.getElem?_eq_getElem hj];rfl)
theorem jdX:ja4 Tryz.prog 130=true:=by kernel_rfl
theorem jjk:ja4 Tryz.prog 82=true:=by kernel_rfl
theorem jjj:ja4 Tryz.prog 86=true:=by kernel_rfl
theorem jhC:ja4 Tryz.prog 85=true:=by kernel_rfl
theorem callB72:ja4 Tryz.prog 72=true:=by kernel_rfl
theorem f33_c (m:Md Tryz.prog B) (h:Hp) (rdp:Rp B h b pp np cp) (hp:np≤1000) (rdt:Rt B h b pt nt ct) (ht:nt≤1000) (rdk:Rk B h b pk nk ck) (hk:nk≤1000) (x:Int):FnC m 33 #[fbV b pp np cp pt nt ct pk nk ck,.int .i64 x] h fun v h'=>h'=h∧v=jiT (openS b (if (b.pts.getD 0 default).h≤x∧x≤(b.pts.getD (np-1) default).h then 0 else 1)) ((boatsOf b).map fun l=>atI b.pts l x):=by
 have hml:=rdp.elen (by decide)
 refine jad Tryz.func33 rfl rfl (l:=(fbV b pp np cp pt nt ct pk nk ck)::(.int .i64 x)::uu22) rfl ?_
 intro cf cs K hK
 refine rs4 ?_;refine jaq rfl zq (fun q2=>k_hp (jac ?_));refine jaq rfl zq (fun q3=>k_hp (jac ?_));refine jaw rfl zq (fun q4=>k_hp (jac ?_));refine d10 ?_
 refine jc7 [0,1,2,3,4,5,6,7,8,9] (by kernel_rfl) (by kernel_rfl) (List.Sublist.refl _) ?_;refine DrawT.split 2 7 (by decide) ?_ ?_
 ·refine DrawT.split 3 7 (by decide) ?_ ?_
  ·refine DrawT.leaf [(0,.read),(1,.read),(2,.keep),(3,.keep),(4,.pure),(5,.pure),(6,.pure),(7,.alloc),(8,.free),(9,.pure)] (by kernel_rfl) ?_
   refine d74 ?_
   refine jat rfl zq (by kernel_rfl) (Post:=fun v nw=> ∃q q',nw=[⟨true,q,.cells [.int .i64 x].toArray 3 (0,0)⟩,⟨true,q',.cells [.int .i64 0].toArray 3 (0,0)⟩]∧v= .func (.func 130) #[] [.pointer (some ⟨q,0,none⟩),.pointer (some ⟨q',0,none⟩)].toArray) (fun H' hH=>f80_c m H' x 0) ?_;rintro v nw ⟨qs,qt,rfl,rfl⟩;refine jaL (jac ?_);refine jat rfl zq (by kernel_rfl) (Post:=fun v nw=>Opened b (fbV b pp np cp pt nt ct pk nk ck) (openS b (if (b.pts.getD 0 default).h≤x∧x≤(b.pts.getD (np-1) default).h then 0 else 1)) nw v) (fun H' hH=>f76_c m H' (rdp.keeps (sq hH)) hp (rdt.keeps (sq hH)) ht (rdk.keeps (sq hH)) hk jdX (fun hbz K hK=>by simpa using f130_c m K (rdp.keeps ((sq hH).trans hK)) hp (by have:=(jaH hbz).pts.two;omega) ((rd_has (q:=qs)).keeps (hH.trans hK)) ((rd_has (q:=qt)).keeps (hH.trans hK)))) ?_;rintro v nw ⟨x1,p1,n1,c1,p2,n2,c2,p3,n3,c3,z1,z2,z3,rfl,hz⟩;refine jaL (jac ?_);refine d47 ?_
   refine jaw rfl zq (fun q6=>k_hp (jac ?_));refine jaO rfl zq (by first|rfl|exact jaf _) ?_;refine d108 ?_
   refine jaF rfl zq (fun hc=>?_) (fun hc=>?_)
   ·refine d178 ?_;refine d80 ?_
    refine jab (h) rfl Tryz.func33 rfl jaa ?_;refine hK _ _ ?_;exact ⟨rfl,by rw [jeu (by assumption)]⟩
   ·refine d9 ?_;refine rs7 ?_
    have hz0:openS b (if (b.pts.getD 0 default).h≤x∧x≤(b.pts.getD (np-1) default).h then 0 else 1)=0:=by first|assumption|omega
    obtain ⟨hz1,rfl,hzc,rdB⟩:=hz hz0
    injection hz1 with hz1
    injection hz1 with hz1
    injection hz1 with e1 hz1
    injection hz1 with e2 hz1
    injection hz1 with e3 hz1
    injection hz1 with e4 hz1
    injection e1 with _ e1
    injection e2 with u1 u2 u3
    injection e3 with u4 u5 u6
    injection e4 with u7 u8 u9
    subst e1 u1 u2 u3 u4 u5 u6 u7 u8 u9
    obtain ⟨hbz,hoz,hbne⟩:=openS_zero hz0
    have hv:=jaH hbz
    have hpo:=hv.pts
    have hv5:=hpo.five
    have hbl:=jaX hpo
    have hpos:0<(boatsOf b).length:=List.length_pos_iff.2 hbne
    have hx:(b.pts.getD 0 default).h≤x∧x≤(b.pts.getD (np-1) default).h:=Classical.byContradiction fun e=>by rw [if_neg e] at hoz;omega
    refine d141 ?_
    refine jat rfl zq (by kernel_rfl) (Post:=fun v nw=>OwnS 3 1 v (boatsOf b).length (ints (jdg (fun i=>atI b.pts ((boatsOf b).getD i default) x) (boatsOf b).length)) nw) (fun H' hH=>f78_p m H' (RdS.keeps rdB (sq hH)) (by omega) jjk (fun i hi K hK=>by
     have hmi:(boatsOf b).getD i default∈boatsOf b:=jai.2 ⟨i,hi,rfl⟩
     simpa using f82_c m K (rdp.keeps ((sq hH).trans hK)) hp ((jbG.1 hmi).1.trans hml) hpo (jbN hpo hmi) ((jcn (q:=q6) rfl).keeps (hH.trans hK)) ((rd_has (q:=q3)).keeps (hH.trans hK)) hx)) ?_
    rintro v n8 ho;refine jaL (jac ?_);rw [jbB (fun l=>atI b.pts l x)] at ho
    obtain ⟨bk,c,junk,rfl,rfl,hbk1,hbk2⟩:=own_block ho hpos
    refine jaZ rfl zq (by kernel_rfl) (f81_b m _ hpos hbk1 hbk2 (by omega)) ?_;rintro v h' ⟨rfl,rfl⟩;refine jac ?_;refine d80 ?_;refine jab (h) rfl Tryz.func33 rfl jaa ?_;refine hK _ _ ?_;exact ⟨rfl,by rw [jb6 hz0]⟩
  ·refine DrawT.leaf [(0,.read),(1,.read),(2,.keep),(7,.alloc),(3,.keep),(4,.pure),(5,.pure),(6,.pure),(8,.free),(9,.pure)] (by kernel_rfl) ?_
   refine d74 ?_
   refine jat rfl zq (by kernel_rfl) (Post:=fun v nw=> ∃q q',nw=[⟨true,q,.cells [.int .i64 x].toArray 3 (0,0)⟩,⟨true,q',.cells [.int .i64 0].toArray 3 (0,0)⟩]∧v= .func (.func 130) #[] [.pointer (some ⟨q,0,none⟩),.pointer (some ⟨q',0,none⟩)].toArray) (fun H' hH=>f80_c m H' x 0) ?_;rintro v nw ⟨qs,qt,rfl,rfl⟩;refine jaL (jac ?_);refine jaw rfl zq (fun q6=>k_hp (jac ?_));refine jat rfl zq (by kernel_rfl) (Post:=fun v nw=>Opened b (fbV b pp np cp pt nt ct pk nk ck) (openS b (if (b.pts.getD 0 default).h≤x∧x≤(b.pts.getD (np-1) default).h then 0 else 1)) nw v) (fun H' hH=>f76_c m H' (rdp.keeps (sq hH)) hp (rdt.keeps (sq hH)) ht (rdk.keeps (sq hH)) hk jdX (fun hbz K hK=>by simpa using f130_c m K (rdp.keeps ((sq hH).trans hK)) hp (by have:=(jaH hbz).pts.two;omega) ((rd_has (q:=qs)).keeps (hH.trans hK)) ((rd_has (q:=qt)).keeps (hH.trans hK)))) ?_;rintro v nw ⟨x1,p1,n1,c1,p2,n2,c2,p3,n3,c3,z1,z2,z3,rfl,hz⟩;refine jaL (jac ?_);refine d47 ?_
   refine jaO rfl zq (by first|rfl|exact jaf _) ?_;refine d108 ?_
   refine jaF rfl zq (fun hc=>?_) (fun hc=>?_)
   ·refine d178 ?_;refine d80 ?_
    refine jab (h) rfl Tryz.func33 rfl jaa ?_;refine hK _ _ ?_;exact ⟨rfl,by rw [jeu (by assumption)]⟩
   ·refine d9 ?_;refine rs7 ?_
    have hz0:openS b (if (b.pts.getD 0 default).h≤x∧x≤(b.pts.getD (np-1) default).h then 0 else 1)=0:=by first|assumption|omega
    obtain ⟨hz1,rfl,hzc,rdB⟩:=hz hz0
    injection hz1 with hz1
    injection hz1 with hz1
    injection hz1 with e1 hz1
    injection hz1 with e2 hz1
    injection hz1 with e3 hz1
    injection hz1 with e4 hz1
    injection e1 with _ e1
    injection e2 with u1 u2 u3
    injection e3 with u4 u5 u6
    injection e4 with u7 u8 u9
    subst e1 u1 u2 u3 u4 u5 u6 u7 u8 u9
    obtain ⟨hbz,hoz,hbne⟩:=openS_zero hz0
    have hv:=jaH hbz
    have hpo:=hv.pts
    have hv5:=hpo.five
    have hbl:=jaX hpo
    have hpos:0<(boatsOf b).length:=List.length_pos_iff.2 hbne
    have hx:(b.pts.getD 0 default).h≤x∧x≤(b.pts.getD (np-1) default).h:=Classical.byContradiction fun e=>by rw [if_neg e] at hoz;omega
    refine d141 ?_
    refine jat rfl zq (by kernel_rfl) (Post:=fun v nw=>OwnS 3 1 v (boatsOf b).length (ints (jdg (fun i=>atI b.pts ((boatsOf b).getD i default) x) (boatsOf b).length)) nw) (fun H' hH=>f78_p m H' (RdS.keeps rdB (sq hH)) (by omega) jjk (fun i hi K hK=>by
     have hmi:(boatsOf b).getD i default∈boatsOf b:=jai.2 ⟨i,hi,rfl⟩
     simpa using f82_c m K (rdp.keeps ((sq hH).trans hK)) hp ((jbG.1 hmi).1.trans hml) hpo (jbN hpo hmi) ((jcn (q:=q6) rfl).keeps (hH.trans hK)) ((rd_has (q:=q3)).keeps (hH.trans hK)) hx)) ?_
    rintro v n8 ho;refine jaL (jac ?_);rw [jbB (fun l=>atI b.pts l x)] at ho
    obtain ⟨bk,c,junk,rfl,rfl,hbk1,hbk2⟩:=own_block ho hpos
    refine jaZ rfl zq (by kernel_rfl) (f81_b m _ hpos hbk1 hbk2 (by omega)) ?_;rintro v h' ⟨rfl,rfl⟩;refine jac ?_;refine d80 ?_;refine jab (h) rfl Tryz.func33 rfl jaa ?_;refine hK _ _ ?_;exact ⟨rfl,by rw [jb6 hz0]⟩
 ·refine DrawT.leaf [(0,.read),(1,.read),(7,.alloc),(2,.keep),(3,.keep),(4,.pure),(5,.pure),(6,.pure),(8,.free),(9,.pure)] (by kernel_rfl) ?_
  refine d74 ?_
  refine jaw rfl zq (fun q6=>k_hp (jac ?_));refine jat rfl zq (by kernel_rfl) (Post:=fun v nw=> ∃q q',nw=[⟨true,q,.cells [.int .i64 x].toArray 3 (0,0)⟩,⟨true,q',.cells [.int .i64 0].toArray 3 (0,0)⟩]∧v= .func (.func 130) #[] [.pointer (some ⟨q,0,none⟩),.pointer (some ⟨q',0,none⟩)].toArray) (fun H' hH=>f80_c m H' x 0) ?_;rintro v nw ⟨qs,qt,rfl,rfl⟩;refine jaL (jac ?_);refine jat rfl zq (by kernel_rfl) (Post:=fun v nw=>Opened b (fbV b pp np cp pt nt ct pk nk ck) (openS b (if (b.pts.getD 0 default).h≤x∧x≤(b.pts.getD (np-1) default).h then 0 else 1)) nw v) (fun H' hH=>f76_c m H' (rdp.keeps (sq hH)) hp (rdt.keeps (sq hH)) ht (rdk.keeps (sq hH)) hk jdX (fun hbz K hK=>by simpa using f130_c m K (rdp.keeps ((sq hH).trans hK)) hp (by have:=(jaH hbz).pts.two;omega) ((rd_has (q:=qs)).keeps (hH.trans hK)) ((rd_has (q:=qt)).keeps (hH.trans hK)))) ?_;rintro v nw ⟨x1,p1,n1,c1,p2,n2,c2,p3,n3,c3,z1,z2,z3,rfl,hz⟩;refine jaL (jac ?_);refine d47 ?_
  refine jaO rfl zq (by first|rfl|exact jaf _) ?_;refine d108 ?_
  refine jaF rfl zq (fun hc=>?_) (fun hc=>?_)
  ·refine d178 ?_;refine d80 ?_
   refine jab (h) rfl Tryz.func33 rfl jaa ?_;refine hK _ _ ?_;exact ⟨rfl,by rw [jeu (by assumption)]⟩
  ·refine d9 ?_;refine rs7 ?_
   have hz0:openS b (if (b.pts.getD 0 default).h≤x∧x≤(b.pts.getD (np-1) default).h then 0 else 1)=0:=by first|assumption|omega
   obtain ⟨hz1,rfl,hzc,rdB⟩:=hz hz0
   injection hz1 with hz1
   injection hz1 with hz1
   injection hz1 with e1 hz1
   injection hz1 with e2 hz1
   injection hz1 with e3 hz1
   injection hz1 with e4 hz1
   injection e1 with _ e1
   injection e2 with u1 u2 u3
   injection e3 with u4 u5 u6
   injection e4 with u7 u8 u9
   subst e1 u1 u2 u3 u4 u5 u6 u7 u8 u9
   obtain ⟨hbz,hoz,hbne⟩:=openS_zero hz0
   have hv:=jaH hbz
   have hpo:=hv.pts
   have hv5:=hpo.five
   have hbl:=jaX hpo
   have hpos:0<(boatsOf b).length:=List.length_pos_iff.2 hbne
   have hx:(b.pts.getD 0 default).h≤x∧x≤(b.pts.getD (np-1) default).h:=Classical.byContradiction fun e=>by rw [if_neg e] at hoz;omega
   refine d141 ?_
   refine jat rfl zq (by kernel_rfl) (Post:=fun v nw=>OwnS 3 1 v (boatsOf b).length (ints (jdg (fun i=>atI b.pts ((boatsOf b).getD i default) x) (boatsOf b).length)) nw) (fun H' hH=>f78_p m H' (RdS.keeps rdB (sq hH)) (by omega) jjk (fun i hi K hK=>by
    have hmi:(boatsOf b).getD i default∈boatsOf b:=jai.2 ⟨i,hi,rfl⟩
    simpa using f82_c m K (rdp.keeps ((sq hH).trans hK)) hp ((jbG.1 hmi).1.trans hml) hpo (jbN hpo hmi) ((jcn (q:=q6) rfl).keeps (hH.trans hK)) ((rd_has (q:=q3)).keeps (hH.trans hK)) hx)) ?_
   rintro v n8 ho;refine jaL (jac ?_);rw [jbB (fun l=>atI b.pts l x)] at ho
   obtain ⟨bk,c,junk,rfl,rfl,hbk1,hbk2⟩:=own_block ho hpos
   refine jaZ rfl zq (by kernel_rfl) (f81_b m _ hpos hbk1 hbk2 (by omega)) ?_;rintro v h' ⟨rfl,rfl⟩;refine jac ?_;refine d80 ?_;refine jab (h) rfl Tryz.func33 rfl jaa ?_;refine hK _ _ ?_;exact ⟨rfl,by rw [jb6 hz0]⟩
theorem f35_c (m:Md Tryz.prog B) (h:Hp) (rdp:Rp B h b pp np cp) (hp:np≤1000) (rdt:Rt B h b pt nt ct) (ht:nt≤1000) (rdk:Rk B h b pk nk ck) (hk:nk≤1000):FnC m 35 #[fbV b pp np cp pt nt ct pk nk ck] h fun v h'=>h'=h∧v=jiT (openS b 0) ((boatsOf b).map fun l=>jcN b.pts l):=by
 have hml:=rdp.elen (by decide)
 refine jad Tryz.func35 rfl rfl (l:=(fbV b pp np cp pt nt ct pk nk ck)::uu21) rfl ?_
 intro cf cs K hK
 refine rs3 ?_;refine jaq rfl zq (fun q2=>k_hp (jac ?_));refine jaw rfl zq (fun q4=>k_hp (jac ?_));refine aq rfl ?_;refine d184 ?_
 refine jat rfl zq (by kernel_rfl) (Post:=fun v nw=>Opened b (fbV b pp np cp pt nt ct pk nk ck) (openS b (0:Int)) nw v) (fun H' hH=>f76_c m H' (rdp.keeps (sq hH)) hp (rdt.keeps (sq hH)) ht (rdk.keeps (sq hH)) hk jhC (fun hbz K hK=>by simpa using f85_c m K (b:=b))) ?_;rintro v nw ⟨x1,p1,n1,c1,p2,n2,c2,p3,n3,c3,z1,z2,z3,rfl,hz⟩;refine jaL (jac ?_);refine d47 ?_
 refine jaw rfl zq (fun q6=>k_hp (jac ?_));refine jaO rfl zq (by first|rfl|exact jaf _) ?_;refine d108 ?_
 refine jaF rfl zq (fun hc=>?_) (fun hc=>?_)
 ·refine d178 ?_;refine d80 ?_
  refine jab (h) rfl Tryz.func35 rfl jaa ?_;refine hK _ _ ?_;exact ⟨rfl,by rw [jeu (by assumption)]⟩
 ·refine d9 ?_;refine rs9 ?_
  have hz0:openS b (0:Int)=0:=by first|assumption|omega
  obtain ⟨hz1,rfl,hzc,rdB⟩:=hz hz0
  injection hz1 with hz1
  injection hz1 with hz1
  injection hz1 with e1 hz1
  injection hz1 with e2 hz1
  injection hz1 with e3 hz1
  injection hz1 with e4 hz1
  injection e1 with _ e1
  injection e2 with u1 u2 u3
  injection e3 with u4 u5 u6
  injection e4 with u7 u8 u9
  subst e1 u1 u2 u3 u4 u5 u6 u7 u8 u9
  obtain ⟨hbz,hoz,hbne⟩:=openS_zero hz0
  have hv:=jaH hbz
  have hpo:=hv.pts
  have hv5:=hpo.five
  have hbl:=jaX hpo
  have hpos:0<(boatsOf b).length:=List.length_pos_iff.2 hbne
  refine d1 ?_;refine d62 ?_;refine jeG rfl zq ?_
  refine jat rfl zq (by kernel_rfl) (Post:=fun v nw=>OwnS 3 1 v (boatsOf b).length (ints (jdg (fun i=>jcN b.pts ((boatsOf b).getD i default)) (boatsOf b).length)) nw) (fun H' hH=>f78_p m H' (RdS.keeps rdB (sq hH)) (by omega) callB72 (fun i hi K hK=>by
   have hmi:(boatsOf b).getD i default∈boatsOf b:=jai.2 ⟨i,hi,rfl⟩
   simpa using f72_c m K (rdp.keeps ((sq hH).trans hK)) hp hpo (jbN hpo hmi))) ?_
  rintro v n8 ho;refine jaL (jac ?_);rw [jbB (fun l=>jcN b.pts l)] at ho
  obtain ⟨bk,c,junk,rfl,rfl,hbk1,hbk2⟩:=own_block ho hpos
  refine jaZ rfl zq (by kernel_rfl) (f81_b m _ hpos hbk1 hbk2 (by omega)) ?_;rintro v h' ⟨rfl,rfl⟩;refine jac ?_;refine d80 ?_;refine jab (h) rfl Tryz.func35 rfl jaa ?_;refine hK _ _ ?_;exact ⟨rfl,by rw [jb6 hz0]⟩
def jdl (b:Fb) (x y:Int):Int:=if maxL ((boatsOf b).map fun l=>atI b.pts l x)<y then 2 else if y≤minL ((boatsOf b).map fun l=>atI b.pts l x) then 1 else 0
theorem je5 {b:Fb} {x y:Int} (h:maxL ((boatsOf b).map fun l=>atI b.pts l x)<y):jdl b x y=2:=by rw [jdl,if_pos h]
theorem jeo {b:Fb} {x y:Int} (h: ¬maxL ((boatsOf b).map fun l=>atI b.pts l x)<y) (h2:minL ((boatsOf b).map fun l=>atI b.pts l x)≥y):jdl b x y=1:=by rw [jdl,if_neg h,if_pos h2]
theorem jdF {b:Fb} {x y:Int} (h: ¬maxL ((boatsOf b).map fun l=>atI b.pts l x)<y) (h2: ¬minL ((boatsOf b).map fun l=>atI b.pts l x)≥y):jdl b x y=0:=by rw [jdl,if_neg h,if_neg h2]
theorem f36_c (m:Md Tryz.prog B) (h:Hp) (rdp:Rp B h b pp np cp) (hp:np≤1000) (rdt:Rt B h b pt nt ct) (ht:nt≤1000) (rdk:Rk B h b pk nk ck) (hk:nk≤1000) (x y:Int):FnC m 36 #[fbV b pp np cp pt nt ct pk nk ck,.int .i64 x,.int .i64 y] h fun v h'=>h'=h∧v=orNo (openS b (if ((b.pts.getD 0 default).h≤x∧x≤(b.pts.getD (np-1) default).h)∧0≤y∧y≤959 then 0 else 1)) (jdl b x y):=by
 have hml:=rdp.elen (by decide)
 refine jad Tryz.func36 rfl rfl (l:=(fbV b pp np cp pt nt ct pk nk ck)::(.int .i64 x)::(.int .i64 y)::uu34) rfl ?_
 intro cf cs K hK
 refine rs4 ?_;refine jaq rfl zq (fun q2=>k_hp (jac ?_));refine jaq rfl zq (fun q3=>k_hp (jac ?_));refine d99 ?_
 refine jc7 [0,1,2,3,4,5,6,7,8,9,10] (by kernel_rfl) (by kernel_rfl) (List.Sublist.refl _) ?_;refine DrawT.split 3 8 (by decide) ?_ ?_
 ·refine DrawT.split 4 8 (by decide) ?_ ?_
  ·refine DrawT.leaf [(2,.pure),(0,.read),(1,.read),(3,.keep),(4,.keep),(5,.pure),(6,.pure),(7,.pure),(8,.alloc),(9,.free),(10,.pure)] (by kernel_rfl) ?_
   refine mq rfl ?_;refine d74 ?_
   refine jat rfl zq (by kernel_rfl) (Post:=fun v nw=> ∃q q',nw=[⟨true,q,.cells [.int .i64 x].toArray 3 (0,0)⟩,⟨true,q',.cells [.int .i64 y].toArray 3 (0,0)⟩]∧v= .func (.func 130) #[] [.pointer (some ⟨q,0,none⟩),.pointer (some ⟨q',0,none⟩)].toArray) (fun H' hH=>f80_c m H' x y) ?_;rintro v nw ⟨qs,qt,rfl,rfl⟩;refine jaL (jac ?_);refine jat rfl zq (by kernel_rfl) (Post:=fun v nw=>Opened b (fbV b pp np cp pt nt ct pk nk ck) (openS b (if ((b.pts.getD 0 default).h≤x∧x≤(b.pts.getD (np-1) default).h)∧0≤y∧y≤959 then 0 else 1)) nw v) (fun H' hH=>f76_c m H' (rdp.keeps (sq hH)) hp (rdt.keeps (sq hH)) ht (rdk.keeps (sq hH)) hk jdX (fun hbz K hK=>by simpa using f130_c m K (rdp.keeps ((sq hH).trans hK)) hp (by have:=(jaH hbz).pts.two;omega) ((rd_has (q:=qs)).keeps (hH.trans hK)) ((rd_has (q:=qt)).keeps (hH.trans hK)))) ?_;rintro v nw ⟨x1,p1,n1,c1,p2,n2,c2,p3,n3,c3,z1,z2,z3,rfl,hz⟩;refine jaL (jac ?_);refine d47 ?_
   refine jaw rfl zq (fun q6=>k_hp (jac ?_));refine jaO rfl zq (by first|rfl|exact jaf _) ?_;refine d108 ?_
   refine jaF rfl zq (fun hc=>?_) (fun hc=>?_)
   ·refine d146 ?_
    refine jab (h) rfl Tryz.func36 rfl jaa ?_;refine hK _ _ ?_;exact ⟨rfl,by rw [jc0 (by assumption)]⟩
   ·refine d36 ?_;refine rs7 ?_
    have hz0:openS b (if ((b.pts.getD 0 default).h≤x∧x≤(b.pts.getD (np-1) default).h)∧0≤y∧y≤959 then 0 else 1)=0:=by first|assumption|omega
    obtain ⟨hz1,rfl,hzc,rdB⟩:=hz hz0
    injection hz1 with hz1
    injection hz1 with hz1
    injection hz1 with e1 hz1
    injection hz1 with e2 hz1
    injection hz1 with e3 hz1
    injection hz1 with e4 hz1
    injection e1 with _ e1
    injection e2 with u1 u2 u3
    injection e3 with u4 u5 u6
    injection e4 with u7 u8 u9
    subst e1 u1 u2 u3 u4 u5 u6 u7 u8 u9
    obtain ⟨hbz,hoz,hbne⟩:=openS_zero hz0
    have hv:=jaH hbz
    have hpo:=hv.pts
    have hv5:=hpo.five
    have hbl:=jaX hpo
    have hpos:0<(boatsOf b).length:=List.length_pos_iff.2 hbne
    have hxy:((b.pts.getD 0 default).h≤x∧x≤(b.pts.getD (np-1) default).h)∧0≤y∧y≤959:=Classical.byContradiction fun e=>by rw [if_neg e] at hoz;omega
    obtain ⟨hx,_⟩:=hxy
    refine d141 ?_
    refine jat rfl zq (by kernel_rfl) (Post:=fun v nw=>OwnS 3 1 v (boatsOf b).length (ints (jdg (fun i=>atI b.pts ((boatsOf b).getD i default) x) (boatsOf b).length)) nw) (fun H' hH=>f78_p m H' (RdS.keeps rdB (sq hH)) (by omega) jjj (fun i hi K hK=>by
     have hmi:(boatsOf b).getD i default∈boatsOf b:=jai.2 ⟨i,hi,rfl⟩
     simpa using f86_c m K (rdp.keeps ((sq hH).trans hK)) hp ((jbG.1 hmi).1.trans hml) hpo (jbN hpo hmi) ((jcn (q:=q6) rfl).keeps (hH.trans hK)) ((rd_has (q:=q3)).keeps (hH.trans hK)) hx)) ?_
    rintro v n8 ho;refine jaL (jac ?_);rw [jbB (fun l=>atI b.pts l x)] at ho
    obtain ⟨bk,c,junk,rfl,rfl,hbk1,hbk2⟩:=own_block ho hpos
    refine jaZ rfl zq (by kernel_rfl) (f81_b m _ hpos hbk1 hbk2 (by omega)) ?_;rintro v h' ⟨rfl,rfl⟩;refine jac ?_;refine jaw rfl zq (fun q10=>k_hp (jac ?_));refine jaO rfl zq rfl ?_;refine d57 ?_;refine rs5 ?_;refine d1 ?_;refine mq rfl ?_;refine jap rfl zq (fun hc=>?_) (fun hc=>?_)
    ·refine d63 ?_;refine d179 ?_
     refine jab (h) rfl Tryz.func36 rfl jaa ?_;refine hK _ _ ?_;exact ⟨rfl,by rw [ja3 hz0,je5 (b:=b) (x:=x) (y:=y) (by omega)]⟩
    ·refine d73 ?_;refine rs5 ?_;refine d1 ?_;refine mq rfl ?_
     refine jaY rfl zq (fun hc=>?_) (fun hc=>?_)
     ·refine d63 ?_;refine d179 ?_
      refine jab (h) rfl Tryz.func36 rfl jaa ?_;refine hK _ _ ?_;exact ⟨rfl,by rw [ja3 hz0,jeo (b:=b) (x:=x) (y:=y) (by omega) (by omega)]⟩
     ·refine d73 ?_;refine d117 ?_;refine d179 ?_
      refine jab (h) rfl Tryz.func36 rfl jaa ?_;refine hK _ _ ?_;exact ⟨rfl,by rw [ja3 hz0,jdF (b:=b) (x:=x) (y:=y) (by omega) (by omega)]⟩
  ·refine DrawT.leaf [(2,.pure),(0,.read),(1,.read),(3,.keep),(8,.alloc),(4,.keep),(5,.pure),(6,.pure),(7,.pure),(9,.free),(10,.pure)] (by kernel_rfl) ?_
   refine mq rfl ?_;refine d74 ?_
   refine jat rfl zq (by kernel_rfl) (Post:=fun v nw=> ∃q q',nw=[⟨true,q,.cells [.int .i64 x].toArray 3 (0,0)⟩,⟨true,q',.cells [.int .i64 y].toArray 3 (0,0)⟩]∧v= .func (.func 130) #[] [.pointer (some ⟨q,0,none⟩),.pointer (some ⟨q',0,none⟩)].toArray) (fun H' hH=>f80_c m H' x y) ?_;rintro v nw ⟨qs,qt,rfl,rfl⟩;refine jaL (jac ?_);refine jaw rfl zq (fun q6=>k_hp (jac ?_));refine jat rfl zq (by kernel_rfl) (Post:=fun v nw=>Opened b (fbV b pp np cp pt nt ct pk nk ck) (openS b (if ((b.pts.getD 0 default).h≤x∧x≤(b.pts.getD (np-1) default).h)∧0≤y∧y≤959 then 0 else 1)) nw v) (fun H' hH=>f76_c m H' (rdp.keeps (sq hH)) hp (rdt.keeps (sq hH)) ht (rdk.keeps (sq hH)) hk jdX (fun hbz K hK=>by simpa using f130_c m K (rdp.keeps ((sq hH).trans hK)) hp (by have:=(jaH hbz).pts.two;omega) ((rd_has (q:=qs)).keeps (hH.trans hK)) ((rd_has (q:=qt)).keeps (hH.trans hK)))) ?_;rintro v nw ⟨x1,p1,n1,c1,p2,n2,c2,p3,n3,c3,z1,z2,z3,rfl,hz⟩;refine jaL (jac ?_);refine d47 ?_
   refine jaO rfl zq (by first|rfl|exact jaf _) ?_;refine d108 ?_
   refine jaF rfl zq (fun hc=>?_) (fun hc=>?_)
   ·refine d146 ?_
    refine jab (h) rfl Tryz.func36 rfl jaa ?_;refine hK _ _ ?_;exact ⟨rfl,by rw [jc0 (by assumption)]⟩
   ·refine d36 ?_;refine rs7 ?_
    have hz0:openS b (if ((b.pts.getD 0 default).h≤x∧x≤(b.pts.getD (np-1) default).h)∧0≤y∧y≤959 then 0 else 1)=0:=by first|assumption|omega
    obtain ⟨hz1,rfl,hzc,rdB⟩:=hz hz0
    injection hz1 with hz1
    injection hz1 with hz1
    injection hz1 with e1 hz1
    injection hz1 with e2 hz1
    injection hz1 with e3 hz1
    injection hz1 with e4 hz1
    injection e1 with _ e1
    injection e2 with u1 u2 u3
    injection e3 with u4 u5 u6
    injection e4 with u7 u8 u9
    subst e1 u1 u2 u3 u4 u5 u6 u7 u8 u9
    obtain ⟨hbz,hoz,hbne⟩:=openS_zero hz0
    have hv:=jaH hbz
    have hpo:=hv.pts
    have hv5:=hpo.five
    have hbl:=jaX hpo
    have hpos:0<(boatsOf b).length:=List.length_pos_iff.2 hbne
    have hxy:((b.pts.getD 0 default).h≤x∧x≤(b.pts.getD (np-1) default).h)∧0≤y∧y≤959:=Classical.byContradiction fun e=>by rw [if_neg e] at hoz;omega
    obtain ⟨hx,_⟩:=hxy
    refine d141 ?_
    refine jat rfl zq (by kernel_rfl) (Post:=fun v nw=>OwnS 3 1 v (boatsOf b).length (ints (jdg (fun i=>atI b.pts ((boatsOf b).getD i default) x) (boatsOf b).length)) nw) (fun H' hH=>f78_p m H' (RdS.keeps rdB (sq hH)) (by omega) jjj (fun i hi K hK=>by
     have hmi:(boatsOf b).getD i default∈boatsOf b:=jai.2 ⟨i,hi,rfl⟩
     simpa using f86_c m K (rdp.keeps ((sq hH).trans hK)) hp ((jbG.1 hmi).1.trans hml) hpo (jbN hpo hmi) ((jcn (q:=q6) rfl).keeps (hH.trans hK)) ((rd_has (q:=q3)).keeps (hH.trans hK)) hx)) ?_
    rintro v n8 ho;refine jaL (jac ?_);rw [jbB (fun l=>atI b.pts l x)] at ho
    obtain ⟨bk,c,junk,rfl,rfl,hbk1,hbk2⟩:=own_block ho hpos
    refine jaZ rfl zq (by kernel_rfl) (f81_b m _ hpos hbk1 hbk2 (by omega)) ?_;rintro v h' ⟨rfl,rfl⟩;refine jac ?_;refine jaw rfl zq (fun q10=>k_hp (jac ?_));refine jaO rfl zq rfl ?_;refine d57 ?_;refine rs5 ?_;refine d1 ?_;refine mq rfl ?_;refine jap rfl zq (fun hc=>?_) (fun hc=>?_)
    ·refine d63 ?_;refine d179 ?_
     refine jab (h) rfl Tryz.func36 rfl jaa ?_;refine hK _ _ ?_;exact ⟨rfl,by rw [ja3 hz0,je5 (b:=b) (x:=x) (y:=y) (by omega)]⟩
    ·refine d73 ?_;refine rs5 ?_;refine d1 ?_;refine mq rfl ?_
     refine jaY rfl zq (fun hc=>?_) (fun hc=>?_)
     ·refine d63 ?_;refine d179 ?_
      refine jab (h) rfl Tryz.func36 rfl jaa ?_;refine hK _ _ ?_;exact ⟨rfl,by rw [ja3 hz0,jeo (b:=b) (x:=x) (y:=y) (by omega) (by omega)]⟩
     ·refine d73 ?_;refine d117 ?_;refine d179 ?_
      refine jab (h) rfl Tryz.func36 rfl jaa ?_;refine hK _ _ ?_;exact ⟨rfl,by rw [ja3 hz0,jdF (b:=b) (x:=x) (y:=y) (by omega) (by omega)]⟩
 ·refine DrawT.leaf [(2,.pure),(0,.read),(1,.read),(8,.alloc),(3,.keep),(4,.keep),(5,.pure),(6,.pure),(7,.pure),(9,.free),(10,.pure)] (by kernel_rfl) ?_
  refine mq rfl ?_;refine d74 ?_
  refine jaw rfl zq (fun q6=>k_hp (jac ?_));refine jat rfl zq (by kernel_rfl) (Post:=fun v nw=> ∃q q',nw=[⟨true,q,.cells [.int .i64 x].toArray 3 (0,0)⟩,⟨true,q',.cells [.int .i64 y].toArray 3 (0,0)⟩]∧v= .func (.func 130) #[] [.pointer (some ⟨q,0,none⟩),.pointer (some ⟨q',0,none⟩)].toArray) (fun H' hH=>f80_c m H' x y) ?_;rintro v nw ⟨qs,qt,rfl,rfl⟩;refine jaL (jac ?_);refine jat rfl zq (by kernel_rfl) (Post:=fun v nw=>Opened b (fbV b pp np cp pt nt ct pk nk ck) (openS b (if ((b.pts.getD 0 default).h≤x∧x≤(b.pts.getD (np-1) default).h)∧0≤y∧y≤959 then 0 else 1)) nw v) (fun H' hH=>f76_c m H' (rdp.keeps (sq hH)) hp (rdt.keeps (sq hH)) ht (rdk.keeps (sq hH)) hk jdX (fun hbz K hK=>by simpa using f130_c m K (rdp.keeps ((sq hH).trans hK)) hp (by have:=(jaH hbz).pts.two;omega) ((rd_has (q:=qs)).keeps (hH.trans hK)) ((rd_has (q:=qt)).keeps (hH.trans hK)))) ?_;rintro v nw ⟨x1,p1,n1,c1,p2,n2,c2,p3,n3,c3,z1,z2,z3,rfl,hz⟩;refine jaL (jac ?_);refine d47 ?_
  refine jaO rfl zq (by first|rfl|exact jaf _) ?_;refine d108 ?_
  refine jaF rfl zq (fun hc=>?_) (fun hc=>?_)
  ·refine d146 ?_
   refine jab (h) rfl Tryz.func36 rfl jaa ?_;refine hK _ _ ?_;exact ⟨rfl,by rw [jc0 (by assumption)]⟩
  ·refine d36 ?_;refine rs7 ?_
   have hz0:openS b (if ((b.pts.getD 0 default).h≤x∧x≤(b.pts.getD (np-1) default).h)∧0≤y∧y≤959 then 0 else 1)=0:=by first|assumption|omega
   obtain ⟨hz1,rfl,hzc,rdB⟩:=hz hz0
   injection hz1 with hz1
   injection hz1 with hz1
   injection hz1 with e1 hz1
   injection hz1 with e2 hz1
   injection hz1 with e3 hz1
   injection hz1 with e4 hz1
   injection e1 with _ e1
   injection e2 with u1 u2 u3
   injection e3 with u4 u5 u6
   injection e4 with u7 u8 u9
   subst e1 u1 u2 u3 u4 u5 u6 u7 u8 u9
   obtain ⟨hbz,hoz,hbne⟩:=openS_zero hz0
   have hv:=jaH hbz
   have hpo:=hv.pts
   have hv5:=hpo.five
   have hbl:=jaX hpo
   have hpos:0<(boatsOf b).length:=List.length_pos_iff.2 hbne
   have hxy:((b.pts.getD 0 default).h≤x∧x≤(b.pts.getD (np-1) default).h)∧0≤y∧y≤959:=Classical.byContradiction fun e=>by rw [if_neg e] at hoz;omega
   obtain ⟨hx,_⟩:=hxy
   refine d141 ?_
   refine jat rfl zq (by kernel_rfl) (Post:=fun v nw=>OwnS 3 1 v (boatsOf b).length (ints (jdg (fun i=>atI b.pts ((boatsOf b).getD i default) x) (boatsOf b).length)) nw) (fun H' hH=>f78_p m H' (RdS.keeps rdB (sq hH)) (by omega) jjj (fun i hi K hK=>by
    have hmi:(boatsOf b).getD i default∈boatsOf b:=jai.2 ⟨i,hi,rfl⟩
    simpa using f86_c m K (rdp.keeps ((sq hH).trans hK)) hp ((jbG.1 hmi).1.trans hml) hpo (jbN hpo hmi) ((jcn (q:=q6) rfl).keeps (hH.trans hK)) ((rd_has (q:=q3)).keeps (hH.trans hK)) hx)) ?_
   rintro v n8 ho;refine jaL (jac ?_);rw [jbB (fun l=>atI b.pts l x)] at ho
   obtain ⟨bk,c,junk,rfl,rfl,hbk1,hbk2⟩:=own_block ho hpos
   refine jaZ rfl zq (by kernel_rfl) (f81_b m _ hpos hbk1 hbk2 (by omega)) ?_;rintro v h' ⟨rfl,rfl⟩;refine jac ?_;refine jaw rfl zq (fun q10=>k_hp (jac ?_));refine jaO rfl zq rfl ?_;refine d57 ?_;refine rs5 ?_;refine d1 ?_;refine mq rfl ?_;refine jap rfl zq (fun hc=>?_) (fun hc=>?_)
   ·refine d63 ?_;refine d179 ?_
    refine jab (h) rfl Tryz.func36 rfl jaa ?_;refine hK _ _ ?_;exact ⟨rfl,by rw [ja3 hz0,je5 (b:=b) (x:=x) (y:=y) (by omega)]⟩
   ·refine d73 ?_;refine rs5 ?_;refine d1 ?_;refine mq rfl ?_
    refine jaY rfl zq (fun hc=>?_) (fun hc=>?_)
    ·refine d63 ?_;refine d179 ?_
     refine jab (h) rfl Tryz.func36 rfl jaa ?_;refine hK _ _ ?_;exact ⟨rfl,by rw [ja3 hz0,jeo (b:=b) (x:=x) (y:=y) (by omega) (by omega)]⟩
    ·refine d73 ?_;refine d117 ?_;refine d179 ?_
     refine jab (h) rfl Tryz.func36 rfl jaa ?_;refine hK _ _ ?_;exact ⟨rfl,by rw [ja3 hz0,jdF (b:=b) (x:=x) (y:=y) (by omega) (by omega)]⟩
theorem weakM {B:Array Obj} {X:Hp} {a M c:Chunk}:Weak B (X++[a,M,c]) ((X++[a,c])++[M]):=Weak.perm (by
 rw [List.append_assoc];exact List.Perm.append_left X (.cons a (.swap _ _ [])))
theorem callB83:ja4 Tryz.prog 83=true:=by kernel_rfl
theorem callB84:ja4 Tryz.prog 84=true:=by kernel_rfl
theorem callB88:ja4 Tryz.prog 88=true:=by kernel_rfl
theorem f34_c (m:Md Tryz.prog B) (h:Hp) (rdp:Rp B h b pp np cp) (hp:np≤1000) (rdt:Rt B h b pt nt ct) (ht:nt≤1000) (rdk:Rk B h b pk nk ck) (hk:nk≤1000) (f t:Int):FnC m 34 #[fbV b pp np cp pt nt ct pk nk ck,.int .i64 f,.int .i64 t] h fun v h'=>h'=h∧v=jiT (openS b (ordS np f t)) ((boatsOf b).map fun l=>jcy b.pts l f t):=by
 have hml:=rdp.elen (by decide)
 refine jad Tryz.func34 rfl rfl (l:=(fbV b pp np cp pt nt ct pk nk ck)::(.int .i64 f)::(.int .i64 t)::uu24) rfl ?_
 intro cf cs K hK
 refine rs5 ?_;refine jaq rfl zq (fun q3=>k_hp (jac ?_));refine jaq rfl zq (fun q4=>k_hp (jac ?_));refine jaq rfl zq (fun q5=>k_hp (jac ?_));refine jaw rfl zq (fun q6=>k_hp (jac ?_));refine aq rfl ?_;refine d181 ?_;refine jeG rfl zq ?_
 refine jat rfl zq (by kernel_rfl) (Post:=fun v nw=>Opened b (fbV b pp np cp pt nt ct pk nk ck) (openS b (ordS np f t)) nw v) (fun H' hH=>f76_c m H' (rdp.keeps (sq hH)) hp (rdt.keeps (sq hH)) ht (rdk.keeps (sq hH)) hk callB83 (fun hbz K hK=>by simpa using f83_c m K hp ((rd_has (q:=q4)).keeps (hH.trans hK)) ((rd_has (q:=q5)).keeps (hH.trans hK)))) ?_;rintro v nw ⟨x1,p1,n1,c1,p2,n2,c2,p3,n3,c3,z1,z2,z3,rfl,hz⟩;refine jaL (jac ?_);refine d47 ?_
 refine jaw rfl zq (fun q8=>k_hp (jac ?_));refine jaO rfl zq (by first|rfl|exact jaf _) ?_;refine d108 ?_
 refine jaF rfl zq (fun hc=>?_) (fun hc=>?_)
 ·refine d178 ?_;refine d80 ?_
  refine jab (h) rfl Tryz.func34 rfl jaa ?_;refine hK _ _ ?_;exact ⟨rfl,by rw [jeu (by assumption)]⟩
 ·refine d36 ?_
  have hz0:openS b (ordS np f t)=0:=by first|assumption|omega
  obtain ⟨hz1,rfl,hzc,rdB⟩:=hz hz0
  injection hz1 with hz1
  injection hz1 with hz1
  injection hz1 with e1 hz1
  injection hz1 with e2 hz1
  injection hz1 with e3 hz1
  injection hz1 with e4 hz1
  injection e1 with _ e1
  injection e2 with u1 u2 u3
  injection e3 with u4 u5 u6
  injection e4 with u7 u8 u9
  subst e1 u1 u2 u3 u4 u5 u6 u7 u8 u9
  obtain ⟨hbz,hoz,hbne⟩:=openS_zero hz0
  have hv:=jaH hbz
  have hpo:=hv.pts
  have hv5:=hpo.five
  have hbl:=jaX hpo
  have hpos:0<(boatsOf b).length:=List.length_pos_iff.2 hbne
  obtain ⟨hf0,hft,htn⟩:=jfR hoz
  obtain ⟨f',hf'⟩: ∃k:Nat,f=k:=Int.eq_ofNat_of_zero_le (by omega)
  obtain ⟨t',ht'⟩: ∃k:Nat,t=k:=Int.eq_ofNat_of_zero_le (by omega)
  refine rr3 ?_;refine jf0 rfl zq (fun qM=>k_hp (jac ?_));refine jaw rfl zq (fun q10=>k_hp (jac ?_));refine d59 ?_;refine rs7 ?_;refine d141 ?_
  refine jaZ rfl zq (by kernel_rfl) (CallF.weak weakM (f78_c m _ (RdS.keeps rdB SubH.sub) (by omega) (mf:=fun i=>jcy b.pts ((boatsOf b).getD i default) f t) (J:=fun R=> ∃es,R=[⟨true,qM,mapO es⟩]∧OkE es) callB84 (fun i hi G R hG hR=>by
   obtain ⟨es,rfl,hes⟩:=hR
   have hmi:(boatsOf b).getD i default∈boatsOf b:=jai.2 ⟨i,hi,rfl⟩
   refine CallF.mono (Post:=fun v h'=> ∃es',h'=G++[⟨true,qM,mapO es'⟩]∧OkE es'∧v= .int .i64 (jcy b.pts ((boatsOf b).getD i default) f t)) (by have:=f84_c m G qM es hes (rdp.keeps (SubH.sub.trans hG)) hp ((jbG.1 hmi).1.trans hml) hpo (jbN hpo hmi) ((jcn (q:=q8) rfl).keeps hG) ((rd_has (q:=q10)).keeps hG) ((rd_has (q:=q4)).keeps hG) ((rd_has (q:=q5)).keeps hG) hf' ht' (by omega) (by omega);show FnC m 84 _ _ _;simpa using this) ?_
   rintro v h' ⟨es',e1,e2,e3⟩;exact ⟨e3,_,e1,es',rfl,e2⟩) ⟨[],rfl,OkE.nil⟩)) ?_
  rintro v h' ⟨R',n8,rfl,⟨es',rfl,hes'⟩,ho⟩;refine jac ?_;rw [jbB (fun l=>jcy b.pts l f t)] at ho
  obtain ⟨bk,c,junk,rfl,rfl,hbk1,hbk2⟩:=own_block ho hpos
  refine jaZ rfl zq (by kernel_rfl) (f81_b m _ hpos hbk1 hbk2 (by omega)) ?_;rintro v h' ⟨rfl,rfl⟩;refine jac ?_;refine d80 ?_;refine jab (h) rfl Tryz.func34 rfl jaa ?_;refine hK _ _ ?_;exact ⟨rfl,by rw [jb6 hz0]⟩
theorem f87_c (m:Md Tryz.prog B) (h:Hp) {p:Option Addr} {n c:Nat} {ll:List (List Int)} (rd:RdS B h 5 (.slice p n c) n (encs ll)) (hn:n≤10000) (h0:0<n) {fid:Nat} {gc gp:Array Value} {mf:List Int→Int} (hcall:ja4 Tryz.prog fid=true)
  (hf: ∀a∈ll,∀z∈ll,∀H':Hp,h.Sublist H'→FnC m fid (gc++[rwV a,rwV z].toArray++gp) H' fun v h'=>h'=H'∧v= .int .i64 (mf a-mf z)):
  FnC m 87 #[.slice p n c,.func (.func fid) gc gp] h fun v h'=>h'=h∧v=rwV (jcM (fun a z=>decide (mf a<mf z)) ll):=by
 have hll:=rd.elen (by decide)
 refine jad Tryz.func87 rfl rfl (l:=(.slice p n c)::(.func (.func fid) gc gp)::uu31) rfl ?_
 intro cf cs K hK
 refine rs1 ?_;refine jaw rfl zq (fun q4=>k_hp (jac ?_));refine d25 ?_;refine d151 ?_
 refine jap rfl zq (fun hc=>?_) (fun hc=>?_)
 ·exfalso
  omega
 ·refine d36 ?_
  obtain ⟨rb,ro,rfl⟩:=rd.ptr (by omega)
  refine rr5 ?_;refine d43 ?_;refine jbf (vs:=rws (ll.getD 0 default)) rfl zq (jaf _) (rd.eat 0 (by omega) (by omega)) ?_;refine jaw rfl zq (fun q5=>k_hp (jac ?_));refine jaO rfl zq (by first|rfl|exact jaf _) ?_;refine d25 ?_;refine d98 ?_
  refine jag (fun nn l h'=> ∃(k:Nat) (w:List Int),nn=n-k∧(0<k)∧(k≤n)∧(w=jcM (fun a z=>decide (mf a<mf z)) (ll.take k))∧(w∈ll)∧(∃U:Nat→Value,l=((.slice (some ⟨rb,ro,none⟩) n c)::(.func (.func fid) gc gp)::(U 2)::(U 3)::(.pointer (some ⟨q4,0,none⟩))::(.pointer (some ⟨q5,0,none⟩))::(.int .i64 (k:Int))::vw26 U 7 []))∧h++[⟨true,q4,.cells [.int .i64 0,.int .i64 0,.int .i64 0,.int .i64 0,.int .i64 0].toArray 98 (0,0)⟩,⟨true,q5,.cells (rws w).toArray 98 (0,0)⟩]=h') _ ⟨1,ll.getD 0 [],rfl,by omega,by omega,by rw [jg7],jai.2 ⟨0,by omega,rfl⟩,exU rfl,(by simp;rfl)⟩ ?_;rintro nn l h' ⟨k,w,rfl,hk0,hk,hw,hwm,⟨U,rfl⟩,rfl⟩ hnext;refine d114 ?_
  refine jap rfl zq (fun hc=>?_) (fun hc=>?_)
  ·refine d97 ?_
   have hkm:ll.getD k []∈ll:=jai.2 ⟨k,by omega,rfl⟩
   refine jah [(0,.pure),(1,.pure),(2,.pure),(3,.pure),(4,.read),(5,.read),(6,.keep),(7,.pure)] (by kernel_rfl) (by kernel_rfl) (List.Sublist.refl _) ?_;refine d3 ?_;refine d43 ?_
   refine jbf (vs:=rws (ll.getD k [])) rfl zq (jaf _) (rd.eat k (by omega) (by omega)) ?_;refine jbf (vs:=rws w) rfl zq (jaf _) rdN_has ?_;refine jea (Post:=fun v=>v=_) rfl zq hcall (fun H' hH=>hf _ hkm _ hwm H' (sq hH)) ?_;rintro v rfl;refine jac ?_;refine jap rfl zq (fun hc=>?_) (fun hc=>?_)
   ·refine d7 ?_;refine rr5 ?_;refine d11 ?_
    refine jbf (vs:=rws (ll.getD k [])) rfl zq (jaf _) (rd.eat k (by omega) (by omega)) ?_;refine jaO rfl zq (by first|rfl|exact jaf _) ?_;refine jaB ?_;refine d170 ?_;exact m.weak jaa (hnext _ _ _ (by omega) ⟨k+1,ll.getD k [],rfl,by omega,by omega,by rw [jdm _ _ _ (by omega) (by omega),if_pos (by rw [←hw];exact decide_eq_true (show mf (ll.getD k [])<mf w by omega))],hkm,exU rfl,rfl⟩)
   ·refine d105 ?_
    exact m.weak jaa (hnext _ _ _ (by omega) ⟨k+1,w,rfl,by omega,by omega,by rw [jdm _ _ _ (by omega) (by omega),if_neg (by rw [←hw,decide_eq_true_iff];show¬mf (ll.getD k [])<mf w;omega),hw],hwm,exU rfl,rfl⟩)
  ·refine d41 ?_;refine rs2 ?_
   refine jbf (vs:=rws w) rfl zq (jaf _) rdN_has ?_;refine jaO rfl zq (by first|rfl|exact jaf _) ?_;refine jaB ?_;refine jb7 rfl ?_;refine jab (h) rfl Tryz.func87 rfl jaa ?_;refine hK _ _ ?_;obtain rfl:k=n:=by omega
   rw [List.take_of_length_le (by omega)] at hw
   exact ⟨rfl,by rw [hw]⟩
theorem f88_c (m:Md Tryz.prog B) (h:Hp) (rdp:Rp B h b pp np cp) (hp:np≤1000) {xs ys:List Int} (hpo:PtsOk b.pts) (hsx:SmL xs) (hsy:SmL ys) {qo:Nat} (ro:RdN B h qo 0 (fbL b pp np cp pt nt ct pk nk ck)) (hax: -100000000≤jcN b.pts xs∧jcN b.pts xs≤100000000) (hay: -100000000≤jcN b.pts ys∧jcN b.pts ys≤100000000):
  FnC m 88 #[rwV xs,rwV ys,.pointer (some ⟨qo,0,none⟩)] h fun v h'=>h'=h∧v= .int .i64 (jcN b.pts xs-jcN b.pts ys):=by
 refine jad Tryz.func88 rfl rfl (l:=(rwV xs)::(rwV ys)::(.pointer (some ⟨qo,0,none⟩))::uu12) rfl ?_
 intro cf cs K hK
 refine rs3 ?_;refine jaq rfl zq (fun q3=>k_hp (jac ?_));refine jaq rfl zq (fun q4=>k_hp (jac ?_));refine d10 ?_
 refine jah [(0,.pure),(4,.pure),(1,.read),(2,.read),(5,.read),(6,.read),(3,.keep),(7,.keep),(8,.pure),(9,.pure)] (by kernel_rfl) (by kernel_rfl) (List.Sublist.refl _) ?_;refine d8 ?_
 refine jbf (vs:=fbL b pp np cp pt nt ct pk nk ck) rfl zq rfl (ro.keeps SubH.sub) ?_;refine jbf (vs:=rws xs) rfl zq (jaf _) rdN_has ?_;refine jbf (vs:=fbL b pp np cp pt nt ct pk nk ck) rfl zq rfl (ro.keeps SubH.sub) ?_;refine jbf (vs:=rws ys) rfl zq (jaf _) rdN_has ?_;refine jae (Post:=fun v=>v=_) rfl zq (by kernel_rfl) (fun H' hH=>f72_c m H' (rdp.keeps (sq hH)) hp hpo hsx) ?_;rintro v rfl;refine jac ?_;refine jae (Post:=fun v=>v=_) rfl zq (by kernel_rfl) (fun H' hH=>f72_c m H' (rdp.keeps (sq hH)) hp hpo hsy) ?_;rintro v rfl;refine jac ?_;refine jcj rfl zq (by unfold In64;omega) ?_;refine d0 ?_;refine jab (h) rfl Tryz.func88 rfl jaa ?_;refine hK _ _ ?_;exact ⟨rfl,rfl⟩
theorem jkj {pts:List Pt} {l:List Int} (hp:PtsOk pts) (hs:SmL l): ∀k,k+1≤pts.length→0≤jiF pts l k∧jiF pts l k≤k*1900000
 |0,_=>by simp [jiF]
 |k+1,h=>by
  obtain ⟨h1,h2⟩:=jkj hp hs k (by omega)
  have e1:=hs k
  have e2:=hs (k+1)
  have e3:=hp.at (i:=k) (by omega)
  have e4:=hp.at (i:=k+1) (by omega)
  have e5:=hp.up k (by omega)
  simp only [jiF]
  have a1:0≤(l.getD k 0+l.getD (k+1) 0)*((pts.getD (k+1) default).h-(pts.getD k default).h):=Int.mul_nonneg (by omega) (by omega)
  have a2:=Int.mul_le_mul (show l.getD k 0+l.getD (k+1) 0≤1918 by omega) (show (pts.getD (k+1) default).h-(pts.getD k default).h≤959 by omega) (by omega) (by omega)
  have a3:((k+1:Nat):Int)*1900000=k*1900000+1900000:=by rw [Int.natCast_add,Int.add_mul];rfl
  omega
theorem jki {pts:List Pt} {l:List Int} (hp:PtsOk pts) (hs:SmL l):0≤jcN pts l∧jcN pts l≤100000000:=by
 have h2:=hp.two
 have h5:=hp.five
 obtain ⟨h1,h3⟩:=jkj hp hs (pts.length-1) (by omega)
 unfold jcN
 have:((pts.length-1:Nat):Int)*1900000≤4*1900000:=Int.mul_le_mul_of_nonneg_right (by omega) (by omega)
 omega
theorem jl2 (l:List Int):rws (padR l)=rws l:=by
 unfold rws
 congr 1
 have h:=jbp l
 generalize padR l=z at h⊢
 unfold padR
 rw [List.take_append_of_le_length (by omega),List.take_of_length_le (by omega)]
theorem f73_p (m:Md Tryz.prog B) (h:Hp) {l:List Int} (hp5:np≤5) (hl:l.length=np):FnC m 73 #[fbV b pp np cp pt nt ct pk nk ck,rwV l] h fun v h'=> ∃nw,h'=h++nw∧RdI B nw v l:=by
 have:=f73_c m h (b:=b) (pp:=pp) (cp:=cp) (pt:=pt) (nt:=nt) (ct:=ct) (pk:=pk) (nk:=nk) (ck:=ck) (ys:=padR l) (jbp l) hp5
 rw [show rwV (padR l)=rwV l by unfold rwV;rw [jl2],←hl,jh7 (by omega),hl] at this
 refine CallF.mono this fun v h' ⟨nw,e,o⟩=>⟨nw,e,?_⟩
 subst hl
 exact OwnS.rdI o
theorem f37_c (m:Md Tryz.prog B) (h:Hp) (rdp:Rp B h b pp np cp) (hp:np≤1000) (rdt:Rt B h b pt nt ct) (ht:nt≤1000) (rdk:Rk B h b pk nk ck) (hk:nk≤1000):FnC m 37 #[fbV b pp np cp pt nt ct pk nk ck] h fun v h'=> ∃new,h'=h++new∧ ∃w,v= .tuple [w,.int .i64 (if openS b 0≠0 then 0 else jcN b.pts (jgt b (boatsOf b))),.int .i64 (openS b 0)].toArray∧RdI B new w (if openS b 0≠0 then [] else jgt b (boatsOf b)):=by
 have hml:=rdp.elen (by decide)
 refine jad Tryz.func37 rfl rfl (l:=(fbV b pp np cp pt nt ct pk nk ck)::uu26) rfl ?_
 intro cf cs K hK
 refine rs4 ?_;refine jaq rfl zq (fun q1=>k_hp (jac ?_));refine k_as rfl zq ?_;refine d54 ?_;refine d184 ?_;refine jat rfl zq (by kernel_rfl) (Post:=fun v nw=>Opened b (fbV b pp np cp pt nt ct pk nk ck) (openS b (0:Int)) nw v) (fun H' hH=>f76_c m H' (rdp.keeps (sq hH)) hp (rdt.keeps (sq hH)) ht (rdk.keeps (sq hH)) hk jhC (fun hbz K hK=>by simpa using f85_c m K (b:=b))) ?_;rintro v nw ⟨x1,p1,n1,c1,p2,n2,c2,p3,n3,c3,z1,z2,z3,rfl,hz⟩;refine jaL (jac ?_);refine d47 ?_
 refine jaw rfl zq (fun q5=>k_hp (jac ?_));refine jaO rfl zq (by first|rfl|exact jaf _) ?_;refine d108 ?_
 refine jaF rfl zq (fun hc=>?_) (fun hc=>?_)
 ·refine d7 ?_;refine d115 ?_;refine k_as rfl zq ?_;refine d34 ?_
  refine jab (h) rfl Tryz.func37 rfl jaa ?_;refine hK _ _ ?_;exact ⟨[],by simp,_,by rw [if_pos (by assumption)],by rw [if_pos (by assumption)];exact RdI.nil⟩
 ·refine d36 ?_
  have hz0:openS b (0:Int)=0:=by first|assumption|omega
  obtain ⟨hz1,rfl,hzc,rdB⟩:=hz hz0
  injection hz1 with hz1
  injection hz1 with hz1
  injection hz1 with e1 hz1
  injection hz1 with e2 hz1
  injection hz1 with e3 hz1
  injection hz1 with e4 hz1
  injection e1 with _ e1
  injection e2 with u1 u2 u3
  injection e3 with u4 u5 u6
  injection e4 with u7 u8 u9
  subst e1 u1 u2 u3 u4 u5 u6 u7 u8 u9
  obtain ⟨hbz,hoz,hbne⟩:=openS_zero hz0
  have hv:=jaH hbz
  have hpo:=hv.pts
  have hv5:=hpo.five
  have hbl:=jaX hpo
  have hpos:0<(boatsOf b).length:=List.length_pos_iff.2 hbne
  have hlb:jgt b (boatsOf b)∈boatsOf b:=jg8 _ _ hpos
  have hlm:=(jbG.1 hlb).1
  refine rr6 ?_;refine d141 ?_;refine jae (Post:=fun v=>v=rwV (jgt b (boatsOf b))) rfl zq (by kernel_rfl) (fun H' hH=>f87_c m H' (RdS.keeps rdB (sq hH)) (by omega) hpos (mf:=fun l=>jcN b.pts l) callB88 (fun a ha z hz' K hK=>by
   have ha1:=jki hpo (jbN hpo ha)
   have hz1':=jki hpo (jbN hpo hz')
   simpa using f88_c m K (rdp.keeps ((sq hH).trans hK)) hp hpo (jbN hpo ha) (jbN hpo hz') ((jcn (q:=q5) rfl).keeps (hH.trans hK)) (by omega) (by omega))) ?_
  rintro v rfl;refine jac ?_;refine jaw rfl zq (fun q6=>k_hp (jac ?_));refine jaO rfl zq (by first|rfl|exact jaf _) ?_;refine d25 ?_
  refine jah [(0,.pure),(4,.pure),(1,.read),(2,.read),(5,.read),(6,.read),(3,.call),(7,.call),(8,.pure),(9,.pure),(10,.pure)] (by kernel_rfl) (by kernel_rfl) (List.Sublist.refl _) ?_;refine d8 ?_
  refine jbf (vs:=fbL b pp np cp pt nt ct pk nk ck) rfl zq rfl (jcn rfl) ?_;refine jbf (vs:=rws (jgt b (boatsOf b))) rfl zq (jaf _) rdN_has ?_;refine jbf (vs:=fbL b pp np cp pt nt ct pk nk ck) rfl zq rfl (jcn rfl) ?_;refine jbf (vs:=rws (jgt b (boatsOf b))) rfl zq (jaf _) rdN_has ?_;refine jat rfl zq (by kernel_rfl) (Post:=fun v nw=>RdI B nw v (jgt b (boatsOf b))) (fun H' hH=>f73_p m H' (b:=b) (by omega) (hlm.trans hml)) ?_;rintro v nL rL;refine jaL (jac ?_);refine jae (Post:=fun v=>v=_) rfl zq (by kernel_rfl) (fun H' hH=>f72_c m H' (rdp.keeps (sq hH)) hp hpo (jbN hpo hlb)) ?_;rintro v rfl;refine jac ?_;refine k_as rfl zq ?_;refine d34 ?_;refine jab (h++nL) rfl Tryz.func37 rfl jaa ?_;refine hK _ _ ?_;exact ⟨nL,rfl,_,by rw [hz0,if_neg (by simp)],by rw [hz0,if_neg (by simp)];exact rL⟩
theorem jlg (ll:List (List Int)) (s:Nat) (x:Int):jbJ ll s x≤ll.length:=List.length_filter_le _ _
theorem jic {ll:List (List Int)} {s:Nat} {z:Int}:z∈lefts ll s↔ ∃l∈ll,z=(jbJ ll s (l.getD s 0):Int):=by
 unfold lefts
 rw [List.mem_map];exact ⟨fun ⟨l,h1,h2⟩=>⟨l,h1,h2.symm⟩,fun ⟨l,h1,h2⟩=>⟨l,h1,h2.symm⟩⟩
theorem jeF {ll:List (List Int)} {s:Nat} {l:List Int} (h:l∈ll):(jbJ ll s (l.getD s 0):Int)≤jct ll s:=(jgP _).1 _ (jic.2 ⟨l,h,rfl⟩)
theorem jgQ {ll:List (List Int)} {s:Nat} {m:Int} (h0:0≤m) (h: ∀l∈ll,(jbJ ll s (l.getD s 0):Int)≤m):jct ll s≤m:=by
 rcases (jgP (lefts ll s)).2 with e|e
 ·unfold jct
  omega
 ·obtain ⟨l,hl,e⟩:=jic.1 e
  have:=h l hl
  unfold jct
  omega
theorem jeE (ll:List (List Int)) (s:Nat):0≤jct ll s:=jib _
theorem jiw {ll mm:List (List Int)} (h:ll.Sublist mm) (s:Nat) (x:Int):jbJ ll s x≤jbJ mm s x:=(h.filter _).length_le
theorem jfY {ll mm:List (List Int)} (h:ll.Sublist mm) (s:Nat):jct ll s≤jct mm s:=jgQ (jeE _ _) fun l hl=>by
 have h1:=jiw h s (l.getD s 0)
 have h2:=jeF (s:=s) (h.subset hl)
 omega
theorem jkU {ll:List (List Int)} (h:0<ll.length) (s:Nat):1≤jct ll s:=by
 have hm:ll.getD 0 []∈ll:=jai.2 ⟨0,h,rfl⟩
 have h1:=jeF (s:=s) hm
 have h2:0<jbJ ll s ((ll.getD 0 []).getD s 0):=List.length_pos_of_mem (List.mem_filter.2 ⟨hm,decide_eq_true rfl⟩)
 omega
theorem jfX {ll:List (List Int)} {k:Nat} (h:k<ll.length) (s:Nat):jct (ll.take (k+1)) s=max (jct (ll.take k) s) ((jbJ (ll.take k) s ((ll.getD k []).getD s 0):Int)+1):=by
 have hs:=jb0 ll k h
 have hk:ll.getD k []∈ll.take (k+1):=by rw [hs];exact List.mem_append_right _ (List.mem_singleton.2 rfl)
 have h1:=jeF (s:=s) hk
 rw [jen _ _ _ _ h rfl] at h1
 have h2:=jfY (ll:=ll.take k) (mm:=ll.take (k+1)) (by rw [hs];exact List.sublist_append_left _ _) s
 have h0:=jeE (ll.take k) s
 have h3:jct (ll.take (k+1)) s≤max (jct (ll.take k) s) ((jbJ (ll.take k) s ((ll.getD k []).getD s 0):Int)+1):=jgQ (by omega) fun l hl=>by
  by_cases e:(ll.getD k []).getD s 0=l.getD s 0
  ·rw [←e,jen _ _ _ _ h rfl];omega
  ·rw [jg3 _ _ _ _ h e];rw [hs] at hl
   rcases List.mem_append.1 hl with hl|hl
   ·have:=jeF (s:=s) hl;omega
   ·rw [List.mem_singleton.1 hl] at e
    exact absurd rfl e
 omega
def askP (ll:List (List Int)):Nat→Int×Int
 |0=>(-1,ll.length)
 |s+1=>if jct ll s<(askP ll s).2 then (s,jct ll s) else askP ll s
def askAt (b:Fb):Int:=if openS b 0≠0 then 0 else (askP (boatsOf b) b.pts.length).1
def jhF (b:Fb):Int:=if openS b 0≠0 then 0 else (askP (boatsOf b) b.pts.length).2
theorem jlp: Tryz.prog.underlying 149=some (.map 3 3):=by kernel_rfl
theorem und3: Tryz.prog.underlying 3=some (.int .i64):=by kernel_rfl
theorem f38_c (m:Md Tryz.prog B) (h:Hp) (rdp:Rp B h b pp np cp) (hp:np≤1000) (rdt:Rt B h b pt nt ct) (ht:nt≤1000) (rdk:Rk B h b pk nk ck) (hk:nk≤1000):FnC m 38 #[fbV b pp np cp pt nt ct pk nk ck] h fun v h'=>h'=h∧v= .tuple [.int .i64 (askAt b),.int .i64 (jhF b),.int .i64 (openS b 0)].toArray:=by
 have hml:=rdp.elen (by decide)
 refine jad Tryz.func38 rfl rfl (l:=(fbV b pp np cp pt nt ct pk nk ck)::uu57) rfl ?_
 intro cf cs K hK
 refine rs4 ?_;refine jaq rfl zq (fun q1=>k_hp (jac ?_));refine k_as rfl zq ?_;refine d54 ?_;refine jlQ ?_;refine d184 ?_;refine jat rfl zq (by kernel_rfl) (Post:=fun v nw=>Opened b (fbV b pp np cp pt nt ct pk nk ck) (openS b (0:Int)) nw v) (fun H' hH=>f76_c m H' (rdp.keeps (sq hH)) hp (rdt.keeps (sq hH)) ht (rdk.keeps (sq hH)) hk jhC (fun hbz K hK=>by simpa using f85_c m K (b:=b))) ?_;rintro v nw ⟨x1,p1,n1,c1,p2,n2,c2,p3,n3,c3,z1,z2,z3,rfl,hz⟩;refine jaL (jac ?_);refine d47 ?_
 refine jaw rfl zq (fun q5=>k_hp (jac ?_));refine jaO rfl zq (by first|rfl|exact jaf _) ?_;refine d108 ?_
 refine jaF rfl zq (fun hc=>?_) (fun hc=>?_)
 ·refine d7 ?_;refine d115 ?_;refine k_as rfl zq ?_;refine d34 ?_
  refine jab (h) rfl Tryz.func38 rfl jaa ?_;refine hK _ _ ?_;exact ⟨rfl,by rw [askAt,if_pos (by assumption),jhF,if_pos (by assumption)]⟩
 ·refine d36 ?_
  have hz0:openS b (0:Int)=0:=by first|assumption|omega
  obtain ⟨hz1,rfl,hzc,rdB⟩:=hz hz0
  injection hz1 with hz1
  injection hz1 with hz1
  injection hz1 with e1 hz1
  injection hz1 with e2 hz1
  injection hz1 with e3 hz1
  injection hz1 with e4 hz1
  injection e1 with _ e1
  injection e2 with u1 u2 u3
  injection e3 with u4 u5 u6
  injection e4 with u7 u8 u9
  subst e1 u1 u2 u3 u4 u5 u6 u7 u8 u9
  obtain ⟨hbz,hoz,hbne⟩:=openS_zero hz0
  have hv:=jaH hbz
  have hpo:=hv.pts
  have hv5:=hpo.five
  have hbl:=jaX hpo
  have hpos:0<(boatsOf b).length:=List.length_pos_iff.2 hbne
  refine jah [(0,.pure),(3,.pure),(1,.read),(2,.pure),(4,.pure)] (by kernel_rfl) (by kernel_rfl) (List.Sublist.refl _) ?_;(first|refine jcc rfl zq ?_|refine k_fa rfl zq ?_);refine k_as rfl zq ?_;refine jbb rfl zq ?_;refine jcO rfl zq ?_;refine d10 ?_;refine jlS ?_;refine jak ?_;refine rs4 ?_;refine d1 ?_;refine d130 ?_
  refine jag (fun nn l h'=> ∃(j:Nat) (a c:Int),nn=np-j∧(j≤np)∧((a,c)=askP (boatsOf b) j)∧(1≤c)∧(∃U:Nat→Value,l=((fbV b pp np cp pt nt ct pk nk ck)::(.pointer (some ⟨q1,0,none⟩))::(.int .i64 a)::(.int .i64 c)::(U 4)::(.pointer (some ⟨q5,0,none⟩))::vw18 U 6 ((.int .i64 (np:Int))::(.int .i64 (j:Int))::vw32 U 26 [])))∧h++[⟨true,q1,.cells (fbL b pp np cp pt nt ct pk nk ck).toArray 26 (0,0)⟩]++nw++[⟨true,q5,.cells ([.int .i64 b.plank,.slice pp np cp,.slice pt nt ct,.slice pk nk ck,.slice z1 (boatsOf b).length z3]:List Value).toArray 139 (0,0)⟩]=h') _ ⟨0,-1,((boatsOf b).length:Int),rfl,by omega,rfl,by omega,exU rfl,rfl⟩ ?_;rintro nn l h' ⟨j,a,c,rfl,hj,hac,hc1,⟨U,rfl⟩,rfl⟩ hnext1;refine rs1 ?_;refine jap rfl zq (fun hc=>?_) (fun hc=>?_)
  ·refine d106 ?_;refine d16 ?_;refine aq rfl ?_;refine rs2 ?_
   refine k_mkmapI rfl zq (fun qM=>k_hp (jac ?_));refine aq rfl ?_;refine d67 ?_;refine rs4 ?_;refine d1 ?_;refine d130 ?_
   refine jag (fun nn l h'=> ∃(k:Nat) (es:List (Int×Int)) (w:Int),nn=(boatsOf b).length-k∧(k≤(boatsOf b).length)∧(∀x,cntI es x=(jbJ ((boatsOf b).take k) j x:Int))∧(w=jct ((boatsOf b).take k) j)∧(w<c)∧(∃U:Nat→Value,l=((fbV b pp np cp pt nt ct pk nk ck)::(.pointer (some ⟨q1,0,none⟩))::(.int .i64 a)::(.int .i64 c)::(U 4)::(.pointer (some ⟨q5,0,none⟩))::(.int .i64 (j:Int))::(.map (some qM))::(.int .i64 w)::vw15 U 9 ((.int .i64 (np:Int))::(.int .i64 (j:Int))::vw4 U 26 ((.slice z1 (boatsOf b).length z3)::(.int .i64 ((boatsOf b).length:Int))::(.int .i64 (k:Int))::vw25 U 33 []))))∧h++[⟨true,q1,.cells (fbL b pp np cp pt nt ct pk nk ck).toArray 26 (0,0)⟩]++nw++[⟨true,q5,.cells ([.int .i64 b.plank,.slice pp np cp,.slice pt nt ct,.slice pk nk ck,.slice z1 (boatsOf b).length z3]:List Value).toArray 139 (0,0)⟩]++[⟨true,qM,mapI es⟩]=h') _ ⟨0,[],0,rfl,by omega,fun x=>rfl,rfl,by omega,exU rfl,(by simp)⟩ ?_;rintro nn l h' ⟨k,es,w,rfl,hk9,hes,hw,hwc,⟨U,rfl⟩,rfl⟩ hnext2;refine rs1 ?_;refine jap rfl zq (fun hc=>?_) (fun hc=>?_)
   ·refine d106 ?_;refine jak ?_
    obtain ⟨zb,zo,rfl⟩:=RdS.ptr (B:=B) rdB (by omega)
    refine rr4 ?_;refine jaJ rfl zq (by first|rfl|assumption) (by omega) (by omega) ?_;refine jbf (vs:=rws ((boatsOf b).getD k [])) rfl zq (jaf _) (rdB.eat k (by omega) (by omega)) ?_;refine jaw rfl zq (fun q10=>k_hp (jac ?_));refine jaO rfl zq (by first|rfl|exact jaf _) ?_;refine jaB ?_;refine rs7 ?_;refine d139 ?_;refine k_ld rfl zq (jcS j (by omega) (by omega)) ?_;refine jij jlp und3 rfl zq ?_;have hcx:=hes (((boatsOf b).getD k []).getD j 0)
    have hcl:=jlg ((boatsOf b).take k) j (((boatsOf b).getD k []).getD j 0)
    rw [List.length_take] at hcl
    refine jdz rfl zq (by unfold In64;omega) ?_;refine jmt jlp und3 rfl zq ?_;refine jaB ?_;refine rs8 ?_;refine d127 ?_;refine jdZ rfl zq (by omega) (by omega) ?_;refine k_ld rfl zq (jcS j (by omega) (by omega)) ?_;refine jij jlp und3 rfl zq ?_;rw [jix,if_pos rfl];refine jja rfl zq ?_;refine aq rfl ?_;refine d175 ?_;refine jaY rfl zq (fun hc=>?_) (fun hc=>?_)
    ·refine d7 ?_;refine jbU rfl ?_;refine d78 ?_
     exact m.weak jaa (hnext1 _ _ _ (by omega) ⟨j+1,_,_,rfl,by omega,by rw [askP,←hac,if_neg (by show¬jct (boatsOf b) j<c;have h5:=jfX (ll:=boatsOf b) (k:=k) (by omega) j;rw [←hw,←hes] at h5;have:=jfY (List.take_sublist (k+1) (boatsOf b)) j;omega)],hc1,exU rfl,rfl⟩)
    ·refine d177 ?_
     exact m.weak jaa (hnext2 _ _ _ (by omega) ⟨k+1,jgv es (((boatsOf b).getD k []).getD j 0) (cntI es (((boatsOf b).getD k []).getD j 0)+1),_,rfl,by omega,fun x=>by
      rw [jix];by_cases e:x=((boatsOf b).getD k []).getD j 0
      ·rw [if_pos e,e,hes,jen _ _ _ _ (by omega) rfl];rfl
      ·rw [if_neg e,hes,jg3 _ _ _ _ (by omega) (fun y=>e y.symm)],by rw [jfX (by omega),←hw,hes],by omega,exU rfl,rfl⟩)
   ·refine d107 ?_;refine rr4 ?_;refine d3 ?_;refine k_as rfl zq ?_;refine d145 ?_
    obtain rfl:k=(boatsOf b).length:=by omega
    rw [List.take_length] at hw
    exact m.weak jaa (hnext1 _ _ _ (by omega) ⟨j+1,_,_,rfl,by omega,by rw [askP,←hac,if_pos (by show jct (boatsOf b) j<c;omega),hw],by have:=jkU hpos j;omega,exU rfl,rfl⟩)
  ·refine d107 ?_;refine rs5 ?_;refine d3 ?_;refine k_as rfl zq ?_;refine d34 ?_
   refine jab (h) rfl Tryz.func38 rfl jaa ?_;refine hK _ _ ?_;obtain rfl:np=j:=by omega
   exact ⟨rfl,by rw [askAt,if_neg (fun e=>e hz0),jhF,if_neg (fun e=>e hz0),hml,←hac,hz0]⟩
end Go.Proofs
namespace Go.Proofs
open Go.Lo
set_option maxRecDepth 100000
set_option maxHeartbeats 4000000
theorem jeI (n:Nat):(jbP n).length=n:=by simp [jbP]
theorem jeQ: ∀xs:List Int,jbn xs xs=false
 |[]=>rfl
 |a::r=>by unfold jbn;rw [if_pos rfl];exact jeQ r
theorem jfn: ∀xs ys zs:List Int,jbn xs ys=true→jbn ys zs=true→jbn xs zs=true
 |[],[],_,h,_=>by simp [jbn] at h
 |[],_::_,[],_,h=>by simp [jbn] at h
 |[],_::_,_::_,_,_=>rfl
 |_::_,[],_,h,_=>by simp [jbn] at h
 |_::_,_::_,[],_,h=>by simp [jbn] at h
 |a::r,c::s,d::t,h1,h2=>by
  unfold jbn at h1 h2⊢
  by_cases e1:a=c
  ·by_cases e2:c=d
   ·rw [if_pos e1] at h1
    rw [if_pos e2] at h2
    rw [if_pos (e1.trans e2)];exact jfn r s t h1 h2
   ·rw [if_neg e2] at h2
    rw [if_neg (e1▸e2),e1];exact h2
  ·rw [if_neg e1] at h1
   have h1:=of_decide_eq_true h1
   by_cases e2:c=d
   ·rw [if_neg (e2▸e1),←e2];exact decide_eq_true h1
   ·rw [if_neg e2] at h2
    have h2:=of_decide_eq_true h2
    rw [if_neg (by omega)];exact decide_eq_true (by omega)
theorem jiu (xs:List Int): ¬jeJ xs xs:=by
 rintro (h|⟨_,h⟩)
 ·omega
 ·rw [jeQ] at h
  cases h
theorem jf8 {xs ys zs:List Int} (h1:jeJ xs ys) (h2:jeJ ys zs):jeJ xs zs:=by
 rcases h1 with h1|⟨h1,h1'⟩<;>rcases h2 with h2|⟨h2,h2'⟩
 ·exact .inl (by omega)
 ·exact .inl (by omega)
 ·exact .inl (by omega)
 ·exact .inr ⟨by omega,jfn _ _ _ h1' h2'⟩
theorem jiE: ∀xs ys:List Int,xs=ys∨jbn xs ys=true∨jbn ys xs=true
 |[],[]=> .inl rfl
 |[],_::_=> .inr (.inl rfl)
 |_::_,[]=> .inr (.inr rfl)
 |a::r,c::s=>by
  unfold jbn
  by_cases e:a=c
  ·rw [if_pos e,if_pos e.symm];rcases jiE r s with h|h|h
   ·exact .inl (by rw [e,h])
   ·exact .inr (.inl h)
   ·exact .inr (.inr h)
  ·rw [if_neg e,if_neg (fun x=>e x.symm)];rcases Int.lt_or_gt_of_ne e with h|h
   ·exact .inr (.inl (decide_eq_true h))
   ·exact .inr (.inr (decide_eq_true h))
theorem jkb (xs ys:List Int):xs=ys∨jeJ xs ys∨jeJ ys xs:=by
 unfold jeJ
 rcases jiE xs ys with h|h|h
 ·exact .inl h
 ·rcases Nat.lt_trichotomy xs.length ys.length with e|e|e
  ·exact .inr (.inl (.inl e))
  ·exact .inr (.inl (.inr ⟨e,h⟩))
  ·exact .inr (.inr (.inl e))
 ·rcases Nat.lt_trichotomy xs.length ys.length with e|e|e
  ·exact .inr (.inl (.inl e))
  ·exact .inr (.inr (.inr ⟨e.symm,h⟩))
  ·exact .inr (.inr (.inl e))
theorem je0 {p:Int→Bool} {k:Nat} {z:Int}:z∈(jbP k).filter p↔ ∃i:Nat,i<k∧z=(i:Int)∧p i=true:=by
 rw [List.mem_filter];unfold jbP
 rw [List.mem_map];constructor
 ·rintro ⟨⟨i,hi,rfl⟩,h⟩;exact ⟨i,List.mem_range.1 hi,rfl,h⟩
 ·rintro ⟨i,hi,rfl,h⟩;exact ⟨⟨i,List.mem_range.2 hi,rfl⟩,h⟩
theorem je8 {xs:List Int} (h:Asc xs) (p:Int→Bool):Asc (xs.filter p):=List.Pairwise.sublist List.filter_sublist h
theorem jg9 (k:Nat):Asc (jbP k):=by
 unfold jbP
 refine List.pairwise_map.2 ?_
 exact List.Pairwise.imp (fun h=>by omega) List.pairwise_lt_range
theorem jdG (mm k:Nat):Asc (jaQ mm k):=je8 (jg9 _) _
theorem jcu {mm k:Nat} (h:bitN mm k=1):jaQ mm (k+1)=jaQ mm k++[(k:Int)]:=by
 rw [jaQ,jf7,List.filter_append,←jaQ,List.filter_cons,Int.toNat_natCast,if_pos (decide_eq_true h)];rfl
theorem jjT {mm k:Nat} (h:bitN mm k≠1):jaQ mm (k+1)=jaQ mm k:=by
 rw [jaQ,jf7,List.filter_append,←jaQ,List.filter_cons,Int.toNat_natCast,if_neg (by rw [decide_eq_true_iff];exact h)];simp
theorem jjU (mm k:Nat):(jaQ mm k).length≤k:=by
 have:=List.length_filter_le (fun i:Int=>decide (bitN mm i.toNat=1)) (jbP k)
 rw [jeI] at this
 exact this
def jgh (p:Nat→Bool):Nat→Nat
 |0=>0
 |n+1=>if p n then 2^n+jgh p n else jgh p n
theorem jgg (p:Nat→Bool): ∀n,jgh p n<2^n
 |0=>Nat.one_pos
 |n+1=>by
  have:=jgg p n
  rw [jgh,Nat.pow_succ];split<;>omega
theorem je7 (p:Nat→Bool): ∀n i,i<n→(jgh p n).testBit i=p i
 |0,i,h=>by omega
 |n+1,i,h=>by
  rw [jgh];by_cases e:i=n
  ·subst e
   have h1:=Nat.testBit_lt_two_pow (jgg p i)
   split
   ·rw [Nat.testBit_two_pow_add_eq,h1];rename_i h
    rw [h];rfl
   ·rename_i h
    rw [h1];exact (Bool.eq_false_iff.2 h).symm
  ·have ih:=je7 p n i (by omega)
   split
   ·rw [Nat.testBit_two_pow_add_gt (by omega)];exact ih
   ·exact ih
theorem jiD (mm i:Nat):bitN mm i=1↔mm.testBit i=true:=by
 rw [Nat.testBit_eq_decide_div_mod_eq];unfold bitN
 simp
theorem jid {mm k:Nat} {z:Int}:z∈jaQ mm k↔ ∃i:Nat,i<k∧z=(i:Int)∧bitN mm i=1:=by
 unfold jaQ
 rw [je0];simp
theorem jmp {n:Nat} {xs:List Int} (ha:Asc xs) (h: ∀x∈xs,0≤x∧x<n): ∃mm,mm<2^n∧xs=jaQ mm n:=by
 refine ⟨jgh (fun i=>decide ((i:Int)∈xs)) n,jgg _ _,Asc.eq ha (jdG _ _) fun z=>?_⟩
 rw [jid];constructor
 ·intro hz
  have h1:=h z hz
  refine ⟨z.toNat,by omega,by omega,(jiD _ _).2 ?_⟩
  rw [je7 _ _ _ (by omega),show ((z.toNat:Nat):Int)=z by omega];exact decide_eq_true hz
 ·rintro ⟨i,hi,rfl,hb⟩;have:=(jiD _ _).1 hb
  rw [je7 _ _ _ hi] at this
  exact of_decide_eq_true this
theorem jna {ys:List Int} (h:Asc ys):ys.Nodup:=List.Pairwise.imp (fun h=>by omega) h
theorem jjn {xs:List Int} {n:Nat} (h:Asc xs) (hx: ∀x∈xs,0≤x∧x<n):xs.length≤n:=by
 have:=List.Nodup.length_le_of_subset (l₂:=jbP n) (jna h) fun z hz=>by
  obtain ⟨h1,h2⟩:=hx z hz
  unfold jbP
  exact List.mem_map.2 ⟨z.toNat,List.mem_range.2 (by omega),by omega⟩
 rwa [jeI] at this
def isT (b:Fb) (x:Int):Bool:=decide (x<b.tapes.length)
theorem jhs {b:Fb} {x:Int} (h:x<b.tapes.length):isT b x=true:=decide_eq_true h
theorem jjY {b:Fb} {x:Int} (h: ¬x<b.tapes.length):isT b x=false:=decide_eq_false h
def jca (b:Fb) (xs:List Int):List Tp:=(xs.filter fun x=>isT b x).map fun x:Int=>b.tapes.getD x.toNat default
def jcb (b:Fb) (xs:List Int):List Sk:=(xs.filter fun x=>!isT b x).map fun x:Int=>b.sticks.getD (x-(b.tapes.length:Int)).toNat default
def jfr (b:Fb) (xs:List Int):Fb:=⟨b.plank,b.pts,jca b xs,jcb b xs⟩
theorem jl3 {b:Fb} {xs:List Int} {x:Int} (h:x<b.tapes.length):jca b (xs++[x])=jca b xs++[b.tapes.getD x.toNat default]:=by
 unfold jca
 rw [List.filter_append,List.map_append,List.filter_cons,if_pos (jhs h)];rfl
theorem jjK {b:Fb} {xs:List Int} {x:Int} (h: ¬x<b.tapes.length):jca b (xs++[x])=jca b xs:=by
 unfold jca
 rw [List.filter_append,List.map_append,List.filter_cons,if_neg (by rw [jjY h];simp)];simp
theorem jl6 {b:Fb} {xs:List Int} {x:Int} (h: ¬x<b.tapes.length):jcb b (xs++[x])=jcb b xs++[b.sticks.getD (x-(b.tapes.length:Int)).toNat default]:=by
 unfold jcb
 rw [List.filter_append,List.map_append,List.filter_cons,if_pos (by rw [jjY h];rfl)];rfl
theorem jjM {b:Fb} {xs:List Int} {x:Int} (h:x<b.tapes.length):jcb b (xs++[x])=jcb b xs:=by
 unfold jcb
 rw [List.filter_append,List.map_append,List.filter_cons,if_neg (by rw [jhs h];simp)];simp
def allN (b:Fb):Nat:=b.tapes.length+b.sticks.length
def InB (b:Fb) (xs:List Int):Prop:= ∀x∈xs,0≤x∧x<allN b
theorem jl4 {b:Fb} {xs:List Int} (hx:InB b xs): ∀t∈jca b xs,t∈b.tapes:=fun t ht=>by
 obtain ⟨x,h1,rfl⟩:=List.mem_map.1 ht
 obtain ⟨h1,h2⟩:=List.mem_filter.1 h1
 have h2:x<b.tapes.length:=of_decide_eq_true h2
 have:=hx x h1
 exact jai.2 ⟨x.toNat,by omega,rfl⟩
theorem jl7 {b:Fb} {xs:List Int} (hx:InB b xs): ∀t∈jcb b xs,t∈b.sticks:=fun t ht=>by
 obtain ⟨x,h1,rfl⟩:=List.mem_map.1 ht
 obtain ⟨h1,h2⟩:=List.mem_filter.1 h1
 have h2: ¬x<b.tapes.length:=of_decide_eq_false (by simpa [isT] using h2)
 have:=hx x h1
 unfold allN at this
 exact jai.2 ⟨(x-(b.tapes.length:Int)).toNat,by omega,rfl⟩
theorem jjL {b:Fb} {xs:List Int} (ha:Asc xs) (hx:InB b xs):(jca b xs).length≤b.tapes.length:=by
 unfold jca
 rw [List.length_map];exact jjn (je8 ha _) fun x h=>by
  obtain ⟨h1,h2⟩:=List.mem_filter.1 h
  exact ⟨(hx x h1).1,of_decide_eq_true h2⟩
theorem jm9 {xs:List Int} (h:Asc xs) (k:Int):Asc (xs.map (· -k)):=List.pairwise_map.2 (List.Pairwise.imp (fun h=>by omega) h)
theorem jjN {b:Fb} {xs:List Int} (ha:Asc xs) (hx:InB b xs):(jcb b xs).length≤b.sticks.length:=by
 unfold jcb
 rw [List.length_map];have:=jjn (n:=b.sticks.length) (jm9 (je8 ha fun x=>!isT b x) b.tapes.length) fun x h=>by
  obtain ⟨y,h1,rfl⟩:=List.mem_map.1 h
  obtain ⟨h1,h2⟩:=List.mem_filter.1 h1
  have h2: ¬y<b.tapes.length:=of_decide_eq_false (by simpa [isT] using h2)
  have:=hx y h1
  unfold allN at this
  omega
 rwa [List.length_map] at this
theorem onlyI_ok {b:Fb} (v:FOk b) {xs:List Int} (ha:Asc xs) (hx:InB b xs):FOk (jfr b xs):=
 ⟨v.plank,v.pts,Nat.le_trans (jjL ha hx) v.few,fun t ht=>v.tapes t (jl4 hx t ht),Nat.le_trans (jjN ha hx) v.few',fun t ht=>v.sticks t (jl7 hx t ht)⟩
theorem jlU {b c:Fb} (hp:c.pts=b.pts) (ht: ∀t∈c.tapes,t∈b.tapes) (hk: ∀t∈c.sticks,t∈b.sticks) {l:List Int} (h:jbO b l):jbO c l:=
 ⟨fun t h1=>by have:=h.1 t (ht t h1);unfold jd3 at this⊢;rw [hp];exact this,fun t h1=>by have:=h.2 t (hk t h1);unfold jcW at this⊢;rw [hp];exact this⟩
theorem jm6 {b c:Fb} (hp:c.pts=b.pts) (ht: ∀t∈c.tapes,t∈b.tapes) (hk: ∀t∈c.sticks,t∈b.sticks) {l:List Int} (h:l∈boatsOf b):l∈boatsOf c:=by
 obtain ⟨h1,h2,h3⟩:=jbG.1 h
 exact jbG.2 ⟨by rw [hp];exact h1,by unfold je9 at h2⊢;rw [hp];exact h2,jlU hp ht hk h3⟩
theorem jl9 (b:Fb):jfr b (jbP (allN b))=b:=by
 have e:jbP (allN b)=jbP b.tapes.length++(List.range b.sticks.length).map fun i:Nat=>((b.tapes.length+i:Nat):Int):=by
  unfold jbP allN
  rw [List.range_add,List.map_append,List.map_map];rfl
 have e1:jca b (jbP (allN b))=b.tapes:=by
  unfold jca
  rw [e,List.filter_append,List.filter_eq_self.2 (fun x hx=>by
   obtain ⟨i,hi,rfl⟩:=List.mem_map.1 hx
   have:=List.mem_range.1 hi
   exact decide_eq_true (by omega)),List.filter_eq_nil_iff.2 (fun x hx=>by
   obtain ⟨i,hi,rfl⟩:=List.mem_map.1 hx
   unfold isT
   rw [decide_eq_true_iff];omega),List.append_nil]
  unfold jbP
  rw [List.map_map];refine List.ext_getElem (by simp) fun i h1 h2=>?_
  rw [List.getElem_map,List.getElem_range];show b.tapes.getD ((i:Int).toNat) default=_
  rw [Int.toNat_natCast,List.getD_eq_getElem?_getD,List.getElem?_eq_getElem h2];rfl
 have e2:jcb b (jbP (allN b))=b.sticks:=by
  unfold jcb
  rw [e,List.filter_append,List.filter_eq_nil_iff.2 (fun x hx=>by
   obtain ⟨i,hi,rfl⟩:=List.mem_map.1 hx
   have:=List.mem_range.1 hi
   unfold isT
   rw [decide_eq_true (by omega)];simp),List.filter_eq_self.2 (fun x hx=>by
   obtain ⟨i,hi,rfl⟩:=List.mem_map.1 hx
   unfold isT
   rw [decide_eq_false (by omega)];rfl),List.nil_append,List.map_map]
  refine List.ext_getElem (by simp) fun i h1 h2=>?_
  rw [List.getElem_map,List.getElem_range];show b.sticks.getD (((b.tapes.length+i:Nat):Int)-b.tapes.length).toNat default=_
  rw [show (((b.tapes.length+i:Nat):Int)-b.tapes.length).toNat=i by omega,List.getD_eq_getElem?_getD,List.getElem?_eq_getElem h2];rfl
 unfold jfr
 rw [e1,e2]
theorem jjZ (b:Fb) (mm:Nat):InB b (jaQ mm (allN b)):=fun x hx=>by
 obtain ⟨i,hi,rfl,_⟩:=jid.1 hx
 omega
theorem jk0 (b:Fb):InB b (jbP (allN b)):=fun x hx=>by
 obtain ⟨i,hi,rfl⟩:=List.mem_map.1 hx
 have:=List.mem_range.1 hi;omega
def jcf (b:Fb) (g:List Int):Prop:=if fbS b≠0∨boatsOf b≠[] then g=[] else
 Asc g∧InB b g∧boatsOf (jfr b g)=[]∧ ∀xs,Asc xs→InB b xs→boatsOf (jfr b xs)=[]→ ¬jeJ xs g
theorem jli {b:Fb} {g g2:List Int} (h:jcf b g) (h2:jcf b g2):g=g2:=by
 unfold jcf at h h2
 split at h
 ·rename_i e
  rw [if_pos e] at h2
  rw [h,h2]
 ·rename_i e
  rw [if_neg e] at h2
  obtain ⟨a1,a2,a3,a4⟩:=h
  obtain ⟨c1,c2,c3,c4⟩:=h2
  rcases jkb g g2 with e|e|e
  ·exact e
  ·exact absurd e (c4 g a1 a2 a3)
  ·exact absurd e (a4 g2 c1 c2 c3)
theorem clash_le {b:Fb} {g:List Int} (h:jcf b g):Asc g∧InB b g∧g.length≤allN b:=by
 unfold jcf at h
 split at h
 ·subst h
  exact ⟨List.Pairwise.nil,fun x hx=>by simp at hx,Nat.zero_le _⟩
 ·exact ⟨h.1,h.2.1,jjn h.1 h.2.1⟩
theorem clash_of {b:Fb} {g:List Int} (h0:fbS b=0) (hb:boatsOf b=[]) (mm:Nat) (hm:boatsOf (jfr b (jaQ mm (allN b)))=[]) (hg:g=jaQ mm (allN b)) (hl: ∀nn,nn<2^allN b→boatsOf (jfr b (jaQ nn (allN b)))=[]→ ¬jeJ (jaQ nn (allN b)) g):jcf b g:=by
 unfold jcf
 rw [if_neg (by rintro (e|e);exact e h0;exact e hb)];subst hg
 refine ⟨jdG _ _,jjZ b mm,hm,fun xs ha hx he=>?_⟩
 obtain ⟨nn,n1,rfl⟩:=jmp ha hx
 exact hl nn n1 he
def gT (b:Fb) (g:List Int):List Int:=g.filter fun x=>isT b x
def gK (b:Fb) (g:List Int):List Int:=(g.filter fun x=>!isT b x).map (· -(b.tapes.length:Int))
theorem gT_yes {b:Fb} {xs:List Int} {x:Int} (h:x<b.tapes.length):gT b (xs++[x])=gT b xs++[x]:=by
 unfold gT
 rw [List.filter_append,List.filter_cons,if_pos (jhs h)];rfl
theorem gT_no {b:Fb} {xs:List Int} {x:Int} (h: ¬x<b.tapes.length):gT b (xs++[x])=gT b xs:=by
 unfold gT
 rw [List.filter_append,List.filter_cons,if_neg (by rw [jjY h];simp)];simp
theorem gK_yes {b:Fb} {xs:List Int} {x:Int} (h: ¬x<b.tapes.length):gK b (xs++[x])=gK b xs++[x-(b.tapes.length:Int)]:=by
 unfold gK
 rw [List.filter_append,List.map_append,List.filter_cons,if_pos (by rw [jjY h];rfl)];rfl
theorem gK_no {b:Fb} {xs:List Int} {x:Int} (h:x<b.tapes.length):gK b (xs++[x])=gK b xs:=by
 unfold gK
 rw [List.filter_append,List.map_append,List.filter_cons,if_neg (by rw [jhs h];simp)];simp
end Go.Proofs
