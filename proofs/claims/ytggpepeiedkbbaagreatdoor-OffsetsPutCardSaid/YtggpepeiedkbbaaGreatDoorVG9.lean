/- A part of the proof of a law. Condition of each theorem: as its statement says. -/
import Derived.Test.YtggpepeiedkbbaaGreatDoorVG8
set_option linter.all false
variable {B:Array Go.Obj} {N ns ks nw cw nb cb s i q n k qx q5 q6 ch:Nat} {b:Go.Lo.Tb} {ps pw pb p qv p2 ap:Option Go.Addr} {v gv:Go.Value} {d:Option Go.Tmp} {a ys:List Int} {z j:Int} {f:Go.Lo.Str} {L:List Go.Lo.Bo} {tv l l' junk vs:List Go.Value} {u ty t e:Go.TypeId} {P:Go.Program} {ops:Array Go.Oper} {S h h' H M hb:Go.Lo.Hp} {C:List Go.Value→Go.Lo.Hp→Prop} {kd:Go.Lo.Kd} {r:List (Nat×Go.Lo.Kd)} {pos:String} {af:Array Go.Edge} {g:Option (Nat×Bool)} {cs:List Go.Frame} {xs lps:List Go.Lo.Lp} {lns ls:List Go.Lo.Ln} {ss:List Go.Lo.Str} {got:List Nat} {ds:List Go.Deferred} {hit:Nat→Bool} {K:Go.Goroutine→Go.Lo.Hp→Prop}
set_option maxHeartbeats 4000000
set_option maxRecDepth 100000
set_option synthInstance.maxHeartbeats 1000000
set_option synthInstance.maxSize 100000
namespace Go.Proofs
open Go.Lo
open Go.Conc (G)
section
variable [LaidO B]
theorem f150_s (m:Md Tryz.prog B):PdqC m 12:=by
 intro h bk n c xs junk lim hl hn hk0 hk1
 refine jaf Tryz.func150 rfl rfl (l:=(.slice (some ⟨bk,0,none⟩) n c)::(.int .i64 0)::(.int .i64 (n:Int))::(.int .i64 lim)::jr9) rfl ?_
 intro cf cs K hK
 refine Z9 ?_
 refine jai (fun nn l h'=> ∃(k:Nat),nn=k+1∧(k=0)∧(∃U:Nat→Value,l=((.slice (some ⟨bk,0,none⟩) n c)::(.int .i64 0)::(.int .i64 (n:Int))::(.int .i64 lim)::vw130 U 4 []))∧h++[jbU bk xs junk]=h') _ ⟨0,rfl,rfl,exU rfl,rfl⟩ ?_;rintro nn l h' ⟨k,rfl,hk,⟨U,rfl⟩,rfl⟩ hnext;refine Z12 ?_
 refine jcn rfl zq (fun hc=>?_) (fun hc=>?_)
 ·refine Z7 ?_;refine ja7 rfl zq zK (f181_c m h hl zO 0 n zO (Nat.le_refl _)) ?_
  rintro v h' ⟨rfl,ys,rfl,hsw,hso⟩;refine Z3 ?_;refine jad (h++[jbU bk ys junk]) rfl Tryz.func150 rfl jab ?_;refine Zs ?_
  exact ⟨rfl,ys,rfl,hsw,hso⟩
 ·exfalso
  omega
theorem f29_n (m:Md Tryz.prog B) (h:Hp) (hP:PdqC m N) (hN:N≤60000) (ra:RawTb B h b ps ns ks pw nw cw pb nb cb) (c:Ce) (hbN:tbS b=0→(jac b).length≤N):FnC m 29 #[tbV b ps ns ks pw nw cw pb nb cb,cV c.butt c.line c.st] h fun v h'=> ∃new,h'=h++new∧ ∃w,v= .tuple [w,.int .i64 (jaJ b (jdv b c))].toArray∧RdI B new w (jeu b c):=by
 refine jaf Tryz.func29 rfl rfl (l:=(tbV b ps ns ks pw nw cw pb nb cb)::(cV c.butt c.line c.st)::uu51) rfl ?_
 intro cf cs K hK
 refine Z2 ?_
 refine jaX rfl zq (fun q2=>jau (jae ?_));refine jaX rfl zq (fun q3=>jau (jae ?_));refine Z4 ?_;refine jb3 [0,1,2,3,4,5,6,7,8,9] zK zK (List.Sublist.refl _) ?_
 refine DrawT.split 2 7 zA (DrawT.split 3 7 zA ?_ ?_) ?_
 refine D84 ?_;refine Z2 ?_;refine D7 ?_
 rintro v nz ⟨qs,rfl,rfl⟩;refine jaH (jae ?_);refine D5 ?_
 rintro v n8 ⟨qp,p8,m8,c8,rfl,hz⟩;refine jaH (jae ?_);refine Z3 ?_
 refine jax rfl zq (fun q6=>jau (jae ?_));rotate_left
 refine D85 ?_;refine Z2 ?_;refine D7 ?_
 rintro v nz ⟨qs,rfl,rfl⟩;refine jaH (jae ?_);refine jax rfl zq (fun q6=>jau (jae ?_));refine D5 ?_
 rintro v n8 ⟨qp,p8,m8,c8,rfl,hz⟩;refine jaH (jae ?_);refine Z3 ?_
 rotate_left
 refine D86 ?_;refine Z2 ?_
 refine jax rfl zq (fun q6=>jau (jae ?_));refine D7 ?_
 rintro v nz ⟨qs,rfl,rfl⟩;refine jaH (jae ?_);refine D5 ?_
 rintro v n8 ⟨qp,p8,m8,c8,rfl,hz⟩;refine jaH (jae ?_);refine Z3 ?_
 all_goals
  refine D6 ?_;refine Z6 ?_
  refine jbK rfl zq (fun hc=>?_) (fun hc=>?_)
  ·refine Z9 ?_;refine jad (h) rfl Tryz.func29 rfl jab ?_;refine Zs ?_
   exact ⟨[],by simp,_,rfl,by rw [jeu,if_neg zD];exact ⟨none,0,rfl,⟨none,0,rfl,rfl,.inl ⟨rfl,rfl⟩⟩⟩⟩
  ·refine Z4 ?_
   have hz0:jaJ b (jdv b c)=0:=by first|assumption|omega
   obtain ⟨q9,rfl,sh,rfl,hc8,rdB⟩:=hz hz0
   obtain ⟨hzb,hzo,hzn⟩:=jeL hz0
   have hk:=jaN.1 hzb
   have hbl:=jbC hk
   have h12:=jbH hk
   have hin:c∈jaa b:=Classical.byContradiction fun e=>by rw [jdv,if_neg e] at hzo;cases hzo
   have hpl:=jkY.2 hin
   obtain ⟨kk,hkk⟩: ∃kk,kk=plN b c:=⟨_,rfl⟩
   rw [←hkk] at hpl
   obtain ⟨mrw,qm,hm1,hm2⟩:=sh.map
   haveI hmh:Has n8 qm mrw (jhz (jaa b)):=⟨hm2⟩
   refine jar [Zp 0,Zr 1,Zp 2,Zp 3,Zr 4,Zr 5,Zr 6,Zp 7] zK zK (List.Sublist.refl _) ?_;refine Z4 ?_;refine jaW rfl zq (hm1.keeps (by first|exact SubH.sub|exact List.sublist_append_right _ _)) ?_;refine Zs ?_;refine jnH (c:=c) (cs:=jaa b) (k:=37) (e:=3) zK rfl zq ?_;rw [jjv hin,←hkk,Option.getD_some];refine Z15 ?_;refine D30 ?_
   refine jai (fun nn l h'=> ∃(j:Nat) (wp:Option Addr) (wc:Nat) (M:Hp),nn=(jac b).length-j∧(j≤(jac b).length)∧(OwnS 3 1 (.slice wp (jk0 (jac b) kk j).length wc) (jk0 (jac b) kk j).length (jaI (jk0 (jac b) kk j)) M)∧((jk0 (jac b) kk j)=[]→wp=none∧wc=0∧M=[])∧(∃U:Nat→Value,l=((tbV b ps ns ks pw nw cw pb nb cb)::(cV c.butt c.line c.st)::(U 2)::(.pointer (some ⟨q3,0,none⟩))::(U 4)::(U 5)::(.pointer (some ⟨q6,0,none⟩))::(U 7)::(.int .i64 (kk:Int))::(.slice wp (jk0 (jac b) kk j).length wc)::jr6 U 10 ((.slice p8 (jac b).length c8)::(.int .i64 ((jac b).length:Int))::(.int .i64 (j:Int))::jr6 U 33 [])))∧h++[⟨true,q2,.cells (tbL b ps ns ks pw nw cw pb nb cb).toArray 25 (0,0)⟩,⟨true,q3,.cells (ceL c).toArray 37 (0,0)⟩]++[⟨true,qs,.cells (ceL c).toArray 37 (0,0)⟩]++n8++[⟨true,q6,.cells [.pointer (some ⟨q9,0,none⟩),.slice p8 (jac b).length c8].toArray 112 (0,0)⟩]++M=h') _ ⟨0,none,0,[],rfl,by omega,OwnS.nil,fun _=>⟨rfl,rfl,rfl⟩,exU rfl,(by rw [List.append_nil])⟩ ?_;rintro nn l h' ⟨j,wp,wc,M,rfl,hj,how,hze,⟨U,rfl⟩,rfl⟩ hnext;have hol:=outK_le (jac b) kk j
   refine Z2 ?_
   refine jao rfl zq (fun hc=>?_) (fun hc=>?_)
   ·refine Z7 ?_
    obtain ⟨rb,ro,hrp⟩:=rdB.ptr zO
    have rdB':=rdB
    rw [hrp] at rdB'
    have hxm:(jac b).getD j []∈jac b:=by rw [List.getD_eq_getElem?_getD,List.getElem?_eq_getElem zO];exact E52
    have hxl:=jb2 hxm
    refine Zs ?_;refine D65 ?_;refine D83 ?_
    obtain ⟨x,hx⟩: ∃x,x=(jac b).getD j []:=⟨_,rfl⟩
    rw [←hx] at hxm hxl⊢
    have hxb:=jdr (x:=x) zO
    refine jax rfl zq (fun q11=>jau (jae ?_));refine jnB rfl zq (ja2 x) ?_;refine Z6 ?_;refine jag (Post:=fun v=>IsB _ v) rfl zq zK (fun H' hH=>f98_b m H' (jcf x) kk hxb zO) ?_;rintro v (⟨hc,rfl⟩|⟨hc,rfl⟩);refine Z5 ?_
    rotate_left
    refine Z9 ?_;refine jaW rfl zq (bo_at kk zO) ?_
    refine jdk kdq rfl zq zA zA rfl (fun q46=>jau (jae ?_));refine jbL rfl zq rfl how kdq zO zO (fun w47 n47 o47=>jae ?_);obtain ⟨p47,c47,rfl,hc47,r47⟩:=jav (B:=B) o47
    refine Z2 ?_
    all_goals
     refine Z5 ?_
    ·have hxs:xA x kk=some ((xA x kk).getD 0):=by
      cases e:xA x kk with
      |none=>exact absurd (by rw [jir zO,e];rfl) hc
      |some v=>rfl
     have hks:=js9 (L:=jac b) (k:=kk) (j:=j) zO (hx▸hxs)
     have hkl:(jk0 (jac b) kk (j+1)).length=(jk0 (jac b) kk j).length+1:=by rw [hks];simp
     rw [←hkl];refine m.weak (h':=h++[⟨true,q2,.cells (tbL b ps ns ks pw nw cw pb nb cb).toArray 25 (0,0)⟩,⟨true,q3,.cells (ceL c).toArray 37 (0,0)⟩]++[⟨true,qs,.cells (ceL c).toArray 37 (0,0)⟩]++n8++[⟨true,q6,.cells [.pointer (some ⟨q9,0,none⟩),.slice p8 (jac b).length c8].toArray 112 (0,0)⟩]++n47) jls ?_
     exact hnext _ _ _ zO ⟨j+1,p47,c47,n47,rfl,by omega,by rw [hkl,hks,jcx,←hx];exact o47,fun e=>by rw [hks] at e;simp at e,exU rfl,rfl⟩
    ·have hks:=jta (L:=jac b) (k:=kk) (j:=j) zO (by
      have e:=hc
      rw [jir zO,Option.isNone_iff_eq_none] at e
      rw [←hx];exact e)
     rw [←hks];refine m.weak (h':=h++[⟨true,q2,.cells (tbL b ps ns ks pw nw cw pb nb cb).toArray 25 (0,0)⟩,⟨true,q3,.cells (ceL c).toArray 37 (0,0)⟩]++[⟨true,qs,.cells (ceL c).toArray 37 (0,0)⟩]++n8++[⟨true,q6,.cells [.pointer (some ⟨q9,0,none⟩),.slice p8 (jac b).length c8].toArray 112 (0,0)⟩]++M) jls ?_
     exact hnext _ _ _ zO ⟨j+1,wp,wc,M,rfl,by omega,by rw [hks];exact how,by rw [hks];exact hze,exU rfl,rfl⟩
   ·refine Z5 ?_
    have hbN2:=hbN hzb
    obtain rfl:j=(jac b).length:=by omega
    by_cases h0:jk0 (jac b) kk (jac b).length=[]
    ·obtain ⟨rfl,rfl,rfl⟩:=hze h0
     rw [show (jk0 (jac b) kk (jac b).length).length=0 by rw [h0];rfl];refine Z2 ?_;refine jag (Post:=fun _=>True) rfl zq zK (fun H' hH=>CallF.mono (f99_z m H') fun v h' e=>⟨e,trivial⟩) ?_
     rintro v _;refine Z5 ?_;refine jag (Post:=fun v=>v= .slice none 0 0) rfl zq zK (fun H' hH=>f100_z m H') ?_
     rintro v rfl;refine Z5 ?_;refine jad (h) rfl Tryz.func29 rfl jab ?_;refine Zs ?_
     have hcl:jeu b c=jck (cdT b) (jac b) kk:=by rw [jeu,if_pos hz0,←hkk]
     have hce:jck (cdT b) (jac b) kk=[]:=by
      rw [List.eq_nil_iff_forall_not_mem];intro z hzz
      rw [jp4 _ jhr,←jp3,h0] at hzz
      cases hzz
     exact ⟨[],by simp,_,by rw [hz0],by rw [hcl,hce];exact ⟨none,0,rfl,⟨none,0,rfl,rfl,.inl ⟨rfl,rfl⟩⟩⟩⟩
    ·obtain ⟨bk,c9,junk,hw9,rfl,hbk1,hbk2⟩:=js8 how (List.length_pos_iff.2 h0)
     cases hw9
     refine Z2 ?_;refine ja7 rfl zq zK (f99_c m _ hP hN hbk1 zO) ?_
     rintro v h' ⟨rfl,ys,rfl,hsw,hso⟩;refine Zs ?_
     have hyl:=hsw.length
     refine Z4 ?_;refine ja7 rfl zq zK (f100_c m _ (show ys.length=_ by omega) hbk2 zO) ?_
     rintro v h' ⟨n11,rfl,k11,hk',ho'⟩;refine Z5 ?_;refine jad (h++n11) rfl Tryz.func29 rfl jab ?_;refine Zs ?_
     have hcl:jeu b c=jck (cdT b) (jac b) kk:=by rw [jeu,if_pos hz0,←hkk]
     have hyn:ys.length=(jk0 (jac b) kk (jac b).length).length:=by omega
     rw [←hyn] at hso ho' hk'
     subst hk'
     have hye:jdE ys ys.length=jck (cdT b) (jac b) kk:=jmt (ji1 hso _ (Nat.le_refl _)).1 (jmu hpl) fun z=>by
      rw [jtu hso,jp4 _ jhr,←jp3];exact (hsw.perm zO).mem_iff
     rw [hye] at ho'
     obtain ⟨p11,c11,rfl,_,r11⟩:=jav (B:=B) ho'
     exact ⟨n11,rfl,_,by rw [hz0],by rw [hcl];exact ⟨p11,c11,rfl,r11⟩⟩
theorem f29_c (m:Md Tryz.prog B) (h:Hp) (ra:RawTb B h b ps ns ks pw nw cw pb nb cb) (c:Ce):FnC m 29 #[tbV b ps ns ks pw nw cw pb nb cb,cV c.butt c.line c.st] h fun v h'=> ∃new,h'=h++new∧ ∃w,v= .tuple [w,.int .i64 (jaJ b (jdv b c))].toArray∧RdI B new w (jeu b c):=by
 exact f29_n m h (f150_all m) zA ra c fun hz=>Nat.le_trans (jbC (jaN.1 hz)) zA
theorem f29_s (m:Md Tryz.prog B) (h:Hp) (ra:RawTb B h b ps ns ks pw nw cw pb nb cb) (c:Ce) (hb:(jac b).length≤12):FnC m 29 #[tbV b ps ns ks pw nw cw pb nb cb,cV c.butt c.line c.st] h fun v h'=> ∃new,h'=h++new∧ ∃w,v= .tuple [w,.int .i64 (jaJ b (jdv b c))].toArray∧RdI B new w (jeu b c):=f29_n m h (f150_s m) zA ra c fun _=>hb
end
section
variable [LaidO B]
section
variable {bt:Bool} {st p v lo hi:Int} {d:Cd} {o:Option Int} {s:Int×Int}
theorem jdg (h:d.st≠st):jbQ bt st p d o s=s:=by cases o with|none=>rfl|some v=>rw [jbQ,if_pos h]
theorem jeD:jbQ bt st p d none s=s:=rfl
theorem jeo (h:d.st=st) (hb:d.butt=bt):jbQ bt st p d (some v) (lo,hi)=(if d.lat≤p then max lo v else lo,if p≤d.lat then min hi v else hi):=by
 rw [jbQ,if_neg (fun e=>e h),if_pos hb]
theorem jdh (h:d.st=st) (hb:d.butt≠bt):jbQ bt st p d (some v) (lo,hi)=(if v<p then max lo d.lat else lo,if p<v then min hi d.lat else hi):=by
 rw [jbQ,if_neg (fun e=>e h),if_neg hb]
end
theorem jan {a c:Prop} [Decidable a] [Decidable c] {x y w:Int}:(a→c→((if a then x else y,if c then z else w):Int×Int)=(x,z))∧(a→ ¬c→((if a then x else y,if c then z else w):Int×Int)=(x,w))∧(¬a→c→((if a then x else y,if c then z else w):Int×Int)=(y,z))∧(¬a→ ¬c→((if a then x else y,if c then z else w):Int×Int)=(y,w)):=
 ⟨fun h k=>by rw [if_pos h,if_pos k],fun h k=>by rw [if_pos h,if_neg k],fun h k=>by rw [if_neg h,if_pos k],fun h k=>by rw [if_neg h,if_neg k]⟩
theorem bdK_in {D:List Cd} {x:Bo} {bt:Bool} {st p:Int} (hd: ∀i,0≤(dA D i).lat∧(dA D i).lat≤959) (hx: ∀i v,xA x i=some v→0≤v∧v≤959): ∀k,(0≤(bdK D x bt st p k).1∧(bdK D x bt st p k).1≤959)∧(0≤(bdK D x bt st p k).2∧(bdK D x bt st p k).2≤959)
 |0=>⟨⟨Int.le_refl 0,by show (0:Int)≤959;decide⟩,⟨by show (0:Int)≤959;decide,Int.le_refl 959⟩⟩
 |k+1=>by
  have ih:=bdK_in (bt:=bt) (st:=st) (p:=p) hd hx k
  rw [jbD];generalize bdK D x bt st p k=s at ih⊢
  obtain ⟨lo,hi⟩:=s
  simp only at ih
  have h1:=hd k
  cases hv:xA x k with
  |none=>exact ih
  |some v=>
   have h2:=hx k v hv
   by_cases e:(dA D k).st=st
   ·by_cases e2:(dA D k).butt=bt
    ·rw [jeo e e2];simp only
     constructor<;>split<;>omega
    ·rw [jdh e e2];simp only
     constructor<;>split<;>omega
   ·rw [jdg e];exact ih
theorem meaS_in {s:Str} (h:z∈jbl s):0≤z∧z≤959:=by
 rw [jbl] at h
 split at h
 ·rw [jdJ,List.mem_map] at h
  obtain ⟨n,hn,rfl⟩:=h
  rw [List.mem_filter,List.mem_range] at hn
  omega
 ·cases h
theorem cd_lat (k:TbOk b) (i:Nat):0≤(dA (cdT b) i).lat∧(dA (cdT b) i).lat≤959:=by
 by_cases h:i<(jaa b).length
 ·rw [jaF b h];have hm:(jaa b).getD i default∈jaa b:=jah h
  exact ((k.lines _).ok _ (jbz (jaA hm).1)).lat
 ·rw [dA,List.getD_eq_getElem?_getD,List.getElem?_eq_none (by rw [jaq];omega)];decide
theorem boat_in {x:Bo} (h:x∈jac b) {v:Int} (hv:xA x i=some v):0≤v∧v≤959:=by
 have h1:=(jcv.1 (jhr x h)).2.1 i v hv
 have hi:i<(jaa b).length:=Classical.byContradiction fun e=>by
  rw [xA,List.getD_eq_getElem?_getD,List.getElem?_eq_none (by rw [jb2 h];omega)] at hv
  cases hv
 rw [jaF b hi] at h1
 exact meaS_in h1
theorem bdA_in (k:TbOk b) {x:Bo} (h:x∈jac b) (bt:Bool) (st p:Int):(0≤(bdA (cdT b) x bt st p).1∧(bdA (cdT b) x bt st p).1≤959)∧(0≤(bdA (cdT b) x bt st p).2∧(bdA (cdT b) x bt st p).2≤959):=bdK_in (cd_lat k) (fun i v hv=>boat_in h hv) _
def jdT (b:Tb) (bt:Bool) (st p:Int):Int×Int:=spB (fun x=>bdA (cdT b) x bt st p) (jac b)
def jfJ (b:Tb) (st p:Int):Int:=if¬(0≤st∧st≤(b.sts.length:Int)-1) then 6 else if¬(0≤p∧p≤959) then 1 else 0
def jaE (b:Tb) (bt:Bool) (st p:Int):Int×Int:=if jaJ b (jfJ b st p)=0 then jdT b bt st p else (0,0)
theorem spBK_one {f:Bo→Int×Int} (h:0<L.length) (h1:(f (L.getD 0 [])).1≤959) (h2:0≤(f (L.getD 0 [])).2):jsx f L 1=f (L.getD 0 []):=by
 rw [jmZ f L 0 h];have:jsx f L 0=(959,0):=by rw [jsx,List.take_zero];rfl
 rw [this];refine Prod.ext ?_ ?_
 ·show min 959 _=_
  omega
 ·show max 0 _=_
  omega
theorem f146_c (m:Md Tryz.prog B) (h:Hp) (sh:Sheet B h b q tv) {x:Bo} (hx:x.length=(jaa b).length) (bt:Bool) (st p:Int):FnC m 146 #[.pointer (some ⟨q,0,none⟩),boV x,.bool bt,.int .i64 st,.int .i64 p] h fun v h'=>h'=h∧v= .tuple [.int .i64 (bdA (cdT b) x bt st p).1,.int .i64 (bdA (cdT b) x bt st p).2].toArray:=by
 have h12:=sh.twelve
 obtain ⟨pc,cc,hcv,hcc,hcr⟩:=sh.cells
 refine jaf Tryz.func146 rfl rfl (l:=(.pointer (some ⟨q,0,none⟩))::(boV x)::(.bool bt)::(.int .i64 st)::(.int .i64 p)::uu81) rfl ?_
 intro cf cs K hK
 refine Z2 ?_
 refine jaX rfl zq (fun q6=>jau (jae ?_));refine Z13 ?_;refine D66 ?_;refine Z4 ?_
 refine jai (fun nn l h'=> ∃(i:Nat) (lo hi:Int),nn=(jaa b).length-i∧(i≤(jaa b).length)∧(bdK (cdT b) x bt st p i=(lo,hi))∧(∃U:Nat→Value,l=((.pointer (some ⟨q,0,none⟩))::(boV x)::(.bool bt)::(.int .i64 st)::(.int .i64 p)::(U 5)::(.pointer (some ⟨q6,0,none⟩))::(U 7)::(U 8)::(U 9)::(.int .i64 lo)::(.int .i64 hi)::vw8 U 12 ((.slice pc (jaa b).length cc)::(.int .i64 ((jaa b).length:Int))::(.int .i64 (i:Int))::vw63 U 23 [])))∧h++[⟨true,q6,.cells (boL x).toArray 136 (0,0)⟩]=h') _ ⟨0,0,959,rfl,by omega,rfl,exU rfl,rfl⟩ ?_;rintro nn l h' ⟨i,lo,hi,rfl,hi9,hbd,⟨U,rfl⟩,rfl⟩ hnext;refine Z2 ?_
 refine jao rfl zq (fun hc=>?_) (fun hc=>?_)
 ·refine Z7 ?_
  obtain ⟨pcb,pco,hpc⟩:=hcr.ptr zO
  have hcr':=hcr
  rw [hpc] at hcr'
  refine Z2 ?_;refine D93 ?_;refine jc5 (vs:=[.bool (jcI b ((jaa b).getD i default)).butt,.int .i64 ((jaa b).getD i default).line,.int .i64 (jcI b ((jaa b).getD i default)).st]) rfl zq rfl (hcr'.eat i zO zO) ?_
  refine jax rfl zq (fun q13=>jau (jae ?_));refine Zs ?_;refine D6 ?_;refine Z7 ?_
  refine jbK rfl zq (fun hc=>?_) (fun hc=>?_)
  ·refine Z13 ?_
   exact m.weak jab (hnext _ _ _ zO ⟨i+1,_,_,rfl,by omega,by
    rw [jbD,hbd,jaF b zO];first
     |exact jdg zD
     |(rw [hv];first
       |exact jeD
       |(rw [jeo zD hbt];exact E53)
       |(rw [jdh zD hbt];exact E53)),exU rfl,rfl⟩)
  ·refine Z4 ?_;refine jag (Post:=fun v=>IsB _ v) rfl rfl zK (fun H' hH=>f98_b m H' (jcf x) i (jdr zO) zO) ?_
   rintro v (⟨hc,rfl⟩|⟨hc,rfl⟩)
   ·refine Zs ?_
    have hv:xA x i=none:=by
     rw [jir zO] at hc
     exact Option.isNone_iff_eq_none.1 hc
    refine Z8 ?_
    exact m.weak jab (hnext _ _ _ zO ⟨i+1,_,_,rfl,by omega,by
     rw [jbD,hbd,jaF b zO];first
      |exact jdg zD
      |(rw [hv];first
        |exact jeD
        |(rw [jeo zD hbt];exact E53)
        |(rw [jdh zD hbt];exact E53)),exU rfl,rfl⟩)
   ·refine Zs ?_
    obtain ⟨v,hv⟩: ∃v,xA x i=some v:=by
     cases e:xA x i with
     |none=>exact absurd (by rw [jir zO,e];rfl) hc
     |some v=>exact ⟨v,rfl⟩
    refine Z5 ?_;refine jar [Zp 0,Zp 1,Zp 2,Zp 3,Zp 4,Zp 6,Zp 7,Zp 8,Zr 5,Zp 10,Zr 9,Zp 11] zK zK (List.Sublist.refl _) ?_;refine Z8 ?_;refine D76 ?_;refine Zs ?_;refine jaW rfl zq (bo_at i zO) ?_
    rw [hv,Option.getD_some];refine Z7 ?_
    refine jnK rfl zq zK (fun hbt=>?_) (fun hbt=>?_);refine Z10 ?_
    rotate_left
    refine Z15 ?_
    all_goals
     refine Z5 ?_
    ·refine jao rfl zq (fun hc=>?_) (fun hc=>?_)
     ·refine Z13 ?_;refine jrw rfl zq ?_;refine Z6 ?_
      refine jaY rfl zq (fun hc=>?_) (fun hc=>?_)
      ·refine Z13 ?_;refine jnE rfl zq ?_;refine Z7 ?_
       exact m.weak jab (hnext _ _ _ zO ⟨i+1,_,_,rfl,by omega,by
        rw [jbD,hbd,jaF b zO];first
         |exact jdg zD
         |(rw [hv];first
           |exact jeD
           |(rw [jeo zD hbt];exact E53)
           |(rw [jdh zD hbt];exact E53)),exU rfl,rfl⟩)
      ·refine Z3 ?_
       refine jaS rfl rfl (fun hc=>?_) (fun hc=>?_);refine Z3 ?_
       rotate_left
       refine Z3 ?_
       all_goals
        refine Z9 ?_
        exact m.weak jab (hnext _ _ _ zO ⟨i+1,_,_,rfl,by omega,by
         rw [jbD,hbd,jaF b zO];first
          |exact jdg zD
          |(rw [hv];first
            |exact jeD
            |(rw [jeo zD hbt];exact E53)
            |(rw [jdh zD hbt];exact E53)),exU rfl,rfl⟩)
     ·refine Z3 ?_
      refine jaS rfl rfl (fun hc=>?_) (fun hc=>?_);refine Z3 ?_
      rotate_left
      refine Z3 ?_
      all_goals
       refine Z8 ?_
       refine jaY rfl zq (fun hc=>?_) (fun hc=>?_)
       ·refine Z13 ?_;refine jnE rfl zq ?_;refine Z7 ?_
        exact m.weak jab (hnext _ _ _ zO ⟨i+1,_,_,rfl,by omega,by
         rw [jbD,hbd,jaF b zO];first
          |exact jdg zD
          |(rw [hv];first
            |exact jeD
            |(rw [jeo zD hbt];exact E53)
            |(rw [jdh zD hbt];exact E53)),exU rfl,rfl⟩)
       ·refine Z3 ?_
        refine jaS rfl rfl (fun hc=>?_) (fun hc=>?_);refine Z3 ?_
        rotate_left
        refine Z3 ?_
        all_goals
         refine Z9 ?_
         exact m.weak jab (hnext _ _ _ zO ⟨i+1,_,_,rfl,by omega,by
          rw [jbD,hbd,jaF b zO];first
           |exact jdg zD
           |(rw [hv];first
             |exact jeD
             |(rw [jeo zD hbt];exact E53)
             |(rw [jdh zD hbt];exact E53)),exU rfl,rfl⟩)
    ·refine jao rfl zq (fun hc=>?_) (fun hc=>?_)
     ·refine Z13 ?_;refine jrw rfl zq ?_;refine Z6 ?_
      refine jaY rfl zq (fun hc=>?_) (fun hc=>?_)
      ·refine Z13 ?_;refine jnE rfl zq ?_;refine Z7 ?_
       exact m.weak jab (hnext _ _ _ zO ⟨i+1,_,_,rfl,by omega,by
        rw [jbD,hbd,jaF b zO];first
         |exact jdg zD
         |(rw [hv];first
           |exact jeD
           |(rw [jeo zD hbt];exact E53)
           |(rw [jdh zD hbt];exact E53)),exU rfl,rfl⟩)
      ·refine Z3 ?_
       refine jaS rfl rfl (fun hc=>?_) (fun hc=>?_);refine Z9 ?_;refine jnE rfl zq ?_;refine Z2 ?_
       rotate_left
       refine Z7 ?_
       all_goals
        refine Z5 ?_
        exact m.weak jab (hnext _ _ _ zO ⟨i+1,_,_,rfl,by omega,by
         rw [jbD,hbd,jaF b zO];first
          |exact jdg zD
          |(rw [hv];first
            |exact jeD
            |(rw [jeo zD hbt];exact E53)
            |(rw [jdh zD hbt];exact E53)),exU rfl,rfl⟩)
     ·refine Z3 ?_
      refine jaS rfl rfl (fun hc=>?_) (fun hc=>?_);refine Z9 ?_;refine jrw rfl zq ?_;refine Z2 ?_
      rotate_left
      refine Z7 ?_
      all_goals
       refine Z4 ?_
       refine jaY rfl zq (fun hc=>?_) (fun hc=>?_)
       ·refine Z13 ?_;refine jnE rfl zq ?_;refine Z7 ?_
        exact m.weak jab (hnext _ _ _ zO ⟨i+1,_,_,rfl,by omega,by
         rw [jbD,hbd,jaF b zO];first
          |exact jdg zD
          |(rw [hv];first
            |exact jeD
            |(rw [jeo zD hbt];exact E53)
            |(rw [jdh zD hbt];exact E53)),exU rfl,rfl⟩)
       ·refine Z3 ?_
        refine jaS rfl rfl (fun hc=>?_) (fun hc=>?_);refine Z9 ?_;refine jnE rfl zq ?_;refine Z2 ?_
        rotate_left
        refine Z7 ?_
        all_goals
         refine Z5 ?_
         exact m.weak jab (hnext _ _ _ zO ⟨i+1,_,_,rfl,by omega,by
          rw [jbD,hbd,jaF b zO];first
           |exact jdg zD
           |(rw [hv];first
             |exact jeD
             |(rw [jeo zD hbt];exact E53)
             |(rw [jdh zD hbt];exact E53)),exU rfl,rfl⟩)
 ·refine Z12 ?_;refine jad (h) rfl Tryz.func146 rfl jab ?_;refine Zs ?_
  obtain rfl:i=(jaa b).length:=by omega
  exact ⟨rfl,by rw [bdA,jaq,hbd]⟩
theorem f91_c (m:Md Tryz.prog B) (h:Hp) (sh:Sheet B h b q tv) {x:Bo} (hx:x.length=(jaa b).length) (st p:Int):FnC m 91 #[.pointer (some ⟨q,0,none⟩),boV x,.int .i64 st,.int .i64 p] h fun v h'=>h'=h∧v= .tuple [.int .i64 (bdA (cdT b) x false st p).1,.int .i64 (bdA (cdT b) x false st p).2].toArray:=by
 refine jaf Tryz.func91 rfl rfl (l:=(.pointer (some ⟨q,0,none⟩))::(boV x)::(.int .i64 st)::(.int .i64 p)::uu13) rfl ?_
 intro cf cs K hK
 refine Z2 ?_
 refine jaX rfl zq (fun q5=>jau (jae ?_));refine Z6 ?_;refine jc5 (vs:=boL x) rfl zq (ja2 x) (jnl (Has.mem (b:=q5)) (seg_all (ja2 x)).eq) ?_;refine Z2 ?_;refine jag (Post:=fun v=>v=_) rfl zq zK (fun H' hH=>f146_c m H' (sh.keeps (sq hH)) hx false st p) ?_
 rintro v rfl;refine Z7 ?_;refine jad (h) rfl Tryz.func91 rfl jab ?_;refine Zs ?_
 exact ⟨rfl,rfl⟩
theorem f93_c (m:Md Tryz.prog B) (h:Hp) (sh:Sheet B h b q tv) {x:Bo} (hx:x.length=(jaa b).length) (st p:Int):FnC m 93 #[.pointer (some ⟨q,0,none⟩),boV x,.int .i64 st,.int .i64 p] h fun v h'=>h'=h∧v= .tuple [.int .i64 (bdA (cdT b) x true st p).1,.int .i64 (bdA (cdT b) x true st p).2].toArray:=by
 refine jaf Tryz.func93 rfl rfl (l:=(.pointer (some ⟨q,0,none⟩))::(boV x)::(.int .i64 st)::(.int .i64 p)::uu13) rfl ?_
 intro cf cs K hK
 refine Z2 ?_
 refine jaX rfl zq (fun q5=>jau (jae ?_));refine Z6 ?_;refine jc5 (vs:=boL x) rfl zq (ja2 x) (jnl (Has.mem (b:=q5)) (seg_all (ja2 x)).eq) ?_;refine Z2 ?_;refine jag (Post:=fun v=>v=_) rfl zq zK (fun H' hH=>f146_c m H' (sh.keeps (sq hH)) hx true st p) ?_
 rintro v rfl;refine Z7 ?_;refine jad (h) rfl Tryz.func93 rfl jab ?_;refine Zs ?_
 exact ⟨rfl,rfl⟩
theorem f90_c (m:Md Tryz.prog B) (h:Hp) {c:Nat} (rd:RdS B h 13 (.slice p n c) n (jaC L)) (hc0:n≤c) (hn:0<n∧n≤100000) {fid:Nat} {gc gp:Array Value} {f:Bo→Int×Int} {st x:Int} (hcall:jcF Tryz.prog fid=true) (hf: ∀i,i<n→ ∀H':Hp,h.Sublist H'→FnC m fid (gc++[boV (L.getD i []),.int .i64 st,.int .i64 x].toArray++gp) H' fun v h'=>h'=H'∧v= .tuple [.int .i64 (f (L.getD i [])).1,.int .i64 (f (L.getD i [])).2].toArray) (h1:(f (L.getD 0 [])).1≤959) (h2:0≤(f (L.getD 0 [])).2):FnC m 90 #[.agg [.pointer qv,.slice p n c].toArray,.func (.func fid) gc gp,.int .i64 st,.int .i64 x] h fun v h'=>h'=h∧v= .agg [.int .i64 (spB f L).1,.int .i64 (spB f L).2].toArray:=by
 refine jaf Tryz.func90 rfl rfl (l:=(.agg [.pointer qv,.slice p n c].toArray)::(.func (.func fid) gc gp)::(.int .i64 st)::(.int .i64 x)::uu51) rfl ?_
 intro cf cs K hK
 refine Z2 ?_
 refine jaX rfl zq (fun q4=>jau (jae ?_));refine jax rfl zq (fun q8=>jau (jae ?_));refine Z2 ?_
 obtain ⟨rb,ro,hrp⟩:=rd.ptr zO
 have rd':=rd
 rw [hrp] at rd'
 have hll:=rd.elen zA
 have rdc:=rd.cut (lo:=1) zO hc0
 rw [←jj4] at rdc
 refine rr13 ?_;refine Z3 ?_;refine D65 ?_;refine jc5 (vs:=boL (L.getD 0 [])) rfl zq (ja2 _) (rd'.eat 0 zO zO) ?_;refine Z2 ?_;refine jgt (Post:=fun v=>v=_) rfl zq hcall (fun H' hH=>hf 0 zO H' (sq hH)) ?_;rintro v rfl;refine Z11 ?_;refine D37 ?_
 refine jax rfl zq (fun q11=>jau (jae ?_));refine D6 ?_;refine Z6 ?_;refine jiR (a:=1) rfl zq rfl zO ?_;refine Z4 ?_
 refine jai (fun nn l h'=> ∃(k:Nat),nn=n-k∧(k+1≤n)∧(∃U:Nat→Value,l=((.agg [.pointer qv,.slice p n c].toArray)::(.func (.func fid) gc gp)::(.int .i64 st)::(.int .i64 x)::(.pointer (some ⟨q4,0,none⟩))::(U 5)::(U 6)::(U 7)::(.pointer (some ⟨q8,0,none⟩))::(U 9)::(U 10)::(.pointer (some ⟨q11,0,none⟩))::vw18 U 12 ((.slice (jop 13 p c 1) (n-1) (c-1))::(.int .i64 ((n-1:Nat):Int))::(.int .i64 (k:Int))::vw22 U 33 [])))∧h++[⟨true,q4,.cells [.pointer qv,.slice p n c].toArray 112 (0,0)⟩,⟨true,q8,.cells [.int .i64 0,.int .i64 0].toArray 29 (0,0)⟩,⟨true,q11,.cells [.int .i64 (jsx f L (k+1)).1,.int .i64 (jsx f L (k+1)).2].toArray 29 (0,0)⟩]=h') _ ⟨0,rfl,by omega,exU rfl,(by rw [spBK_one zO h1 h2])⟩ ?_;rintro nn l h' ⟨k,rfl,hk,⟨U,rfl⟩,rfl⟩ hnext;refine Z2 ?_
 refine jao rfl zq (fun hc=>?_) (fun hc=>?_)
 ·refine Z7 ?_
  obtain ⟨cb,co,hcp⟩:=rdc.ptr zO
  have rdc':=rdc
  rw [hcp] at rdc'
  have hge:(L.drop 1).getD k default=L.getD (k+1) []:=by rw [List.getD_eq_getElem?_getD,List.getElem?_drop,Nat.add_comm 1 k,List.getD_eq_getElem?_getD];rfl
  refine Zs ?_;refine jcq rfl zq hcp zO zO ?_;refine jc5 (vs:=boL (L.getD (k+1) [])) rfl zq (ja2 _) (hge▸rdc'.eat k zO zO) ?_
  refine jax rfl zq (fun q13=>jau (jae ?_));refine jnB rfl zq (ja2 _) ?_;refine Z4 ?_;refine jc5 (vs:=boL (L.getD (k+1) [])) rfl zq (ja2 _) (jnl (Has.mem (b:=q13)) (seg_all (ja2 _)).eq) ?_;refine Z2 ?_;refine jgt (Post:=fun v=>v=_) rfl zq hcall (fun H' hH=>hf (k+1) zO H' (sq hH)) ?_;rintro v rfl;refine Z11 ?_;refine jnE rfl zq ?_;refine Z3 ?_;refine jrw rfl zq ?_;refine D37 ?_;refine D6 ?_;refine Z6 ?_
  exact m.weak jab (hnext _ _ _ zO ⟨k+1,rfl,by omega,exU rfl,(by rw [jmZ f L (k+1) zO])⟩)
 ·refine Z7 ?_;refine D6 ?_;refine Z2 ?_;refine jad (h) rfl Tryz.func90 rfl jab ?_;refine Zs ?_
  obtain rfl:n=k+1:=by omega
  rw [show k+1=L.length by omega,spBK_all];exact ⟨rfl,rfl⟩
theorem callB91:jcF Tryz.prog 91=true:=by kernel_rfl
theorem callB145:jcF Tryz.prog 145=true:=by kernel_rfl
theorem f21_c (m:Md Tryz.prog B) (h:Hp) (ra:RawTb B h b ps ns ks pw nw cw pb nb cb) (st x:Int):FnC m 21 #[tbV b ps ns ks pw nw cw pb nb cb,.int .i64 st,.int .i64 x] h fun v h'=>h'=h∧v= .tuple [.agg [.int .i64 (jaE b false st x).1,.int .i64 (jaE b false st x).2].toArray,.int .i64 (jaJ b (jfJ b st x))].toArray:=by
 have hsl:b.sts.length=ns:=ra.s.elen zA
 have hns:=ra.sn
 refine jaf Tryz.func21 rfl rfl (l:=(tbV b ps ns ks pw nw cw pb nb cb)::(.int .i64 st)::(.int .i64 x)::uu26) rfl ?_
 intro cf cs K hK
 refine Z2 ?_
 refine jaX rfl zq (fun q3=>jau (jae ?_));refine jax rfl zq (fun q6=>jau (jae ?_));refine Z3 ?_;refine jb3 [0,1,2,3,4,5,6,7,8,9,10] zK zK (List.Sublist.refl _) ?_
 refine DrawT.split 3 8 zA (DrawT.split 4 8 zA ?_ ?_) ?_
 refine D73 ?_;refine Z3 ?_;refine D4 ?_
 rintro v nz ⟨qs,qa,rfl,rfl⟩;refine jaH (jae ?_);refine D2 ?_
 rintro v n8 ⟨qp,p8,m8,c8,rfl,hz⟩;refine jaH (jae ?_);refine Z3 ?_
 refine jax rfl zq (fun q8=>jau (jae ?_));rotate_left
 refine D74 ?_;refine Z3 ?_;refine D4 ?_
 rintro v nz ⟨qs,qa,rfl,rfl⟩;refine jaH (jae ?_);refine jax rfl zq (fun q8=>jau (jae ?_));refine D2 ?_
 rintro v n8 ⟨qp,p8,m8,c8,rfl,hz⟩;refine jaH (jae ?_);refine Z3 ?_
 rotate_left
 refine D75 ?_;refine Z3 ?_
 refine jax rfl zq (fun q8=>jau (jae ?_));refine D4 ?_
 rintro v nz ⟨qs,qa,rfl,rfl⟩;refine jaH (jae ?_);refine D2 ?_
 rintro v n8 ⟨qp,p8,m8,c8,rfl,hz⟩;refine jaH (jae ?_);refine Z3 ?_
 all_goals
  refine D6 ?_;refine Z6 ?_
  refine jbK rfl zq (fun hc=>?_) (fun hc=>?_)
  ·refine Z4 ?_;refine D37 ?_;refine Zs ?_;refine jhx ?_;refine jad (h) rfl Tryz.func21 rfl jab ?_;refine Zs ?_
   exact ⟨rfl,by rw [jaE,if_neg zD]⟩
  ·refine Z4 ?_
   have hz0:jaJ b (jfJ b st x)=0:=by first|assumption|omega
   obtain ⟨q9,rfl,sh,rfl,hc8,rdB⟩:=hz hz0
   obtain ⟨hzb,hzo,hzn⟩:=jeL hz0
   have hk:=jaN.1 hzb
   have hbl:=jbC hk
   have hpos:0<(jac b).length:=List.length_pos_iff.2 hzn
   have hxm: ∀i,i<(jac b).length→(jac b).getD i []∈jac b:=fun i hi=>by rw [List.getD_eq_getElem?_getD,List.getElem?_eq_getElem hi];exact E52
   have hin0:=bdA_in hk (hxm 0 hpos) false st x
   refine Z4 ?_;refine jiB rfl zq ?_;refine Z2 ?_;refine jag (Post:=fun v=>v= .agg [.int .i64 (jdT b false st x).1,.int .i64 (jdT b false st x).2].toArray) rfl zq zK (fun H' hH=>f90_c m H' (rdB.keeps (sq hH)) hc8 ⟨hpos,by omega⟩ (f:=fun y=>bdA (cdT b) y false st x) callB91 (fun i hi K hK=>by simpa using f91_c m K (sh.keeps (SubH.sub.trans (hH.trans hK))) (jb2 (hxm i hi)) st x) hin0.1.2 hin0.2.1) ?_
   rintro v rfl;refine Zs ?_;refine jhx ?_;refine jad (h) rfl Tryz.func21 rfl jab ?_;refine Zs ?_
   exact ⟨rfl,by rw [jaE,if_pos hz0,hz0]⟩
theorem callB93:jcF Tryz.prog 93=true:=by kernel_rfl
theorem f23_c (m:Md Tryz.prog B) (h:Hp) (ra:RawTb B h b ps ns ks pw nw cw pb nb cb) (st x:Int):FnC m 23 #[tbV b ps ns ks pw nw cw pb nb cb,.int .i64 st,.int .i64 x] h fun v h'=>h'=h∧v= .tuple [.agg [.int .i64 (jaE b true st x).1,.int .i64 (jaE b true st x).2].toArray,.int .i64 (jaJ b (jfJ b st x))].toArray:=by
 have hsl:b.sts.length=ns:=ra.s.elen zA
 have hns:=ra.sn
 refine jaf Tryz.func23 rfl rfl (l:=(tbV b ps ns ks pw nw cw pb nb cb)::(.int .i64 st)::(.int .i64 x)::uu26) rfl ?_
 intro cf cs K hK
 refine Z2 ?_
 refine jaX rfl zq (fun q3=>jau (jae ?_));refine jax rfl zq (fun q6=>jau (jae ?_));refine Z3 ?_;refine jb3 [0,1,2,3,4,5,6,7,8,9,10] zK zK (List.Sublist.refl _) ?_
 refine DrawT.split 3 8 zA (DrawT.split 4 8 zA ?_ ?_) ?_
 refine D73 ?_;refine Z3 ?_;refine D4 ?_
 rintro v nz ⟨qs,qa,rfl,rfl⟩;refine jaH (jae ?_);refine D2 ?_
 rintro v n8 ⟨qp,p8,m8,c8,rfl,hz⟩;refine jaH (jae ?_);refine Z3 ?_
 refine jax rfl zq (fun q8=>jau (jae ?_));rotate_left
 refine D74 ?_;refine Z3 ?_;refine D4 ?_
 rintro v nz ⟨qs,qa,rfl,rfl⟩;refine jaH (jae ?_);refine jax rfl zq (fun q8=>jau (jae ?_));refine D2 ?_
 rintro v n8 ⟨qp,p8,m8,c8,rfl,hz⟩;refine jaH (jae ?_);refine Z3 ?_
 rotate_left
 refine D75 ?_;refine Z3 ?_
 refine jax rfl zq (fun q8=>jau (jae ?_));refine D4 ?_
 rintro v nz ⟨qs,qa,rfl,rfl⟩;refine jaH (jae ?_);refine D2 ?_
 rintro v n8 ⟨qp,p8,m8,c8,rfl,hz⟩;refine jaH (jae ?_);refine Z3 ?_
 all_goals
  refine D6 ?_;refine Z6 ?_
  refine jbK rfl zq (fun hc=>?_) (fun hc=>?_)
  ·refine Z4 ?_;refine D37 ?_;refine Zs ?_;refine jhx ?_;refine jad (h) rfl Tryz.func23 rfl jab ?_;refine Zs ?_
   exact ⟨rfl,by rw [jaE,if_neg zD]⟩
  ·refine Z4 ?_
   have hz0:jaJ b (jfJ b st x)=0:=by first|assumption|omega
   obtain ⟨q9,rfl,sh,rfl,hc8,rdB⟩:=hz hz0
   obtain ⟨hzb,hzo,hzn⟩:=jeL hz0
   have hk:=jaN.1 hzb
   have hbl:=jbC hk
   have hpos:0<(jac b).length:=List.length_pos_iff.2 hzn
   have hxm: ∀i,i<(jac b).length→(jac b).getD i []∈jac b:=fun i hi=>by rw [List.getD_eq_getElem?_getD,List.getElem?_eq_getElem hi];exact E52
   have hin0:=bdA_in hk (hxm 0 hpos) true st x
   refine Z4 ?_;refine jiB rfl zq ?_;refine Z2 ?_;refine jag (Post:=fun v=>v= .agg [.int .i64 (jdT b true st x).1,.int .i64 (jdT b true st x).2].toArray) rfl zq zK (fun H' hH=>f90_c m H' (rdB.keeps (sq hH)) hc8 ⟨hpos,by omega⟩ (f:=fun y=>bdA (cdT b) y true st x) callB93 (fun i hi K hK=>by simpa using f93_c m K (sh.keeps (SubH.sub.trans (hH.trans hK))) (jb2 (hxm i hi)) st x) hin0.1.2 hin0.2.1) ?_
   rintro v rfl;refine Zs ?_;refine jhx ?_;refine jad (h) rfl Tryz.func23 rfl jab ?_;refine Zs ?_
   exact ⟨rfl,by rw [jaE,if_pos hz0,hz0]⟩
end
section
variable [LaidO B]
theorem jhc (L:List Bo) (i:Nat): ∀(l:List Bo) (s:Nat),s≤(l.foldl (fun s x=>match xA x i with|some v=>max s (jcy L i v)|none=>s) s)∧(∀x∈l,∀v,xA x i=some v→jcy L i v≤(l.foldl (fun s x=>match xA x i with|some v=>max s (jcy L i v)|none=>s) s))∧((l.foldl (fun s x=>match xA x i with|some v=>max s (jcy L i v)|none=>s) s)=s∨ ∃x∈l,∃v,xA x i=some v∧(l.foldl (fun s x=>match xA x i with|some v=>max s (jcy L i v)|none=>s) s)=jcy L i v)
 |[],s=>⟨Nat.le_refl _,by simp,.inl rfl⟩
 |x::l,s=>by
  rw [List.foldl_cons];cases hx:xA x i with
  |none=>
   obtain ⟨h1,h2,h3⟩:=jhc L i l s
   refine ⟨h1,fun y hy v hv=>?_,h3.imp id fun ⟨y,hy,h⟩=>⟨y,List.mem_cons_of_mem _ hy,h⟩⟩
   rcases List.mem_cons.1 hy with rfl|hy
   ·rw [hx] at hv
    cases hv
   ·exact h2 y hy v hv
  |some u=>
   obtain ⟨h1,h2,h3⟩:=jhc L i l (max s (jcy L i u))
   simp only
   refine ⟨by omega,fun y hy v hv=>?_,?_⟩
   ·rcases List.mem_cons.1 hy with rfl|hy
    ·rw [hx] at hv
     cases hv
     omega
    ·exact h2 y hy v hv
   ·rcases h3 with h3|⟨y,hy,h⟩
    ·rcases (by omega:max s (jcy L i u)=s∨max s (jcy L i u)=jcy L i u) with e|e
     ·exact .inl (h3.trans e)
     ·exact .inr ⟨x,by simp,u,hx,h3.trans e⟩
    ·exact .inr ⟨y,List.mem_cons_of_mem _ hy,h⟩
theorem leftA_ge {x:Bo} {v:Int} (hx:x∈L) (hv:xA x i=some v):jcy L i v≤jel L i:=(jhc L i L 0).2.1 x hx v hv
theorem jhb (L:List Bo) (i:Nat):jel L i=0∨ ∃x∈L,∃v,xA x i=some v∧jel L i=jcy L i v:=(jhc L i L 0).2.2
theorem jfO (L:List Bo) (i:Nat) (v:Int):jcy L i v≤jel L i:=by
 by_cases h: ∃x∈L,xA x i=some v
 ·obtain ⟨x,hx,hv⟩:=h
  exact leftA_ge hx hv
 ·have:jcy L i v=0:=by
   rw [jcy,List.countP_eq_zero];intro x hx hh
   exact h ⟨x,hx,of_decide_eq_true hh⟩
  omega
theorem jhq (L:List Bo) (i:Nat) (x:Bo) (v:Int):jcy (L++[x]) i v=jcy L i v+if xA x i=some v then 1 else 0:=by
 rw [jcy,List.countP_append,List.countP_singleton];simp [jcy]
theorem jjI {x:Bo} (h:xA x i=none):jel (L++[x]) i=jel L i:=by
 have e: ∀v,jcy (L++[x]) i v=jcy L i v:=fun v=>by rw [jhq,h];simp
 refine Nat.le_antisymm ?_ ?_
 ·rcases jhb (L++[x]) i with h1|⟨y,_,v,_,h1⟩
  ·omega
  ·rw [h1,e];exact jfO L i v
 ·rcases jhb L i with h1|⟨y,_,v,_,h1⟩
  ·omega
  ·rw [h1,←e];exact jfO _ i v
theorem jjH {x:Bo} {u:Int} (h:xA x i=some u):jel (L++[x]) i=max (jel L i) (jcy L i u+1):=by
 have e: ∀v,jcy (L++[x]) i v=jcy L i v+if u=v then 1 else 0:=fun v=>by rw [jhq,h];simp
 refine Nat.le_antisymm ?_ ?_
 ·rcases jhb (L++[x]) i with h1|⟨y,_,v,_,h1⟩
  ·omega
  ·rw [h1,e];have:=jfO L i v
   split
   ·rename_i e2
    subst e2
    omega
   ·omega
 ·have h1:=jfO (L++[x]) i u
  rw [e,if_pos rfl] at h1
  have h2:jel L i≤jel (L++[x]) i:=by
   rcases jhb L i with h1|⟨y,_,v,_,h1⟩
   ·omega
   ·have:=jfO (L++[x]) i v
    rw [e] at this
    omega
  omega
theorem jqN {j:Nat} (h:j<L.length):L.take (j+1)=L.take j++[L.getD j []]:=by
 rw [List.take_add_one,List.getElem?_eq_getElem h,List.getD_eq_getElem?_getD,List.getElem?_eq_getElem h];rfl
theorem leftA_le (L:List Bo) (i:Nat):jel L i≤L.length:=by
 rcases jhb L i with h|⟨x,_,v,_,h⟩
 ·omega
 ·rw [h];exact List.countP_le_length
theorem juI (L:List Bo): ∀k,(joj L k).2≤L.length
 |0=>Nat.le_refl _
 |k+1=>by
  have:=juI L k
  rw [jhu,jia];split
  ·simp only
   omega
  ·exact this
def cOfA (b:Tb) (o:Option Nat):Ce:=match o with|some j=>(jaa b).getD j default|none=>default
def askR (b:Tb):Option Nat×Nat:=if jaJ b 0=0 then joj (jac b) (jaa b).length else (none,0)
theorem callB108:jcF Tryz.prog 108=true:=by kernel_rfl
instance {c:Ce}:At (ceL c) 0 (.bool c.butt):=⟨rfl⟩
theorem f50_c (m:Md Tryz.prog B) (h:Hp) (ra:RawTb B h b ps ns ks pw nw cw pb nb cb):FnC m 50 #[tbV b ps ns ks pw nw cw pb nb cb] h fun v h'=>h'=h∧v= .tuple [ceV (cOfA b (askR b).1),.int .i64 ((askR b).2:Int),.bool (askR b).1.isSome,.int .i64 (jaJ b 0)].toArray:=by
 refine jaf Tryz.func50 rfl rfl (l:=(tbV b ps ns ks pw nw cw pb nb cb)::uu77) rfl ?_
 intro cf cs K hK
 refine Z2 ?_
 refine jaX rfl zq (fun q1=>jau (jae ?_));refine jax rfl zq (fun q2=>jau (jae ?_));refine Z7 ?_;refine jaD rfl zq zK (Post:=fun v nz=>jic B b (tbL b ps ns ks pw nw cw pb nb cb) (jaJ b 0) nz v) (fun H' hH=>f88_c m H' (ra.keeps (sq hH)) callB108 (fun hk K q hKs hs=>by simpa using f108_c m K _)) ?_
 rintro v n8 ⟨qp,p8,m8,c8,rfl,hz⟩;refine jaH (jae ?_);refine Z3 ?_
 refine jax rfl zq (fun q6=>jau (jae ?_));refine D6 ?_;refine Z6 ?_
 refine jbK rfl zq (fun hc=>?_) (fun hc=>?_)
 ·refine Z4 ?_;refine D37 ?_;refine Zs ?_;refine D6 ?_;refine Z5 ?_;refine jad (h) rfl Tryz.func50 rfl jab ?_;refine Zs ?_
  exact ⟨rfl,by rw [askR,if_neg zD];rfl⟩
 ·refine Z4 ?_
  have hz0:jaJ b 0=0:=by first|assumption|omega
  obtain ⟨q9,rfl,sh,rfl,hc8,rdB⟩:=hz hz0
  obtain ⟨hzb,hzo,hzn⟩:=jeL hz0
  have hk:=jaN.1 hzb
  have hbl:=jbC hk
  have h12:=jbH hk
  obtain ⟨pc,cc,hcv,hcc,hcr⟩:=sh.cells
  refine Z13 ?_;refine D66 ?_;refine Z4 ?_
  refine jai (fun nn l h'=> ∃(i:Nat) (fd:Bool),nn=(jaa b).length-i∧(i≤(jaa b).length)∧(fd=(joj (jac b) i).1.isSome)∧(∃U:Nat→Value,l=((tbV b ps ns ks pw nw cw pb nb cb)::(U 1)::(.pointer (some ⟨q2,0,none⟩))::(.int .i64 ((joj (jac b) i).2:Int))::(.bool fd)::(U 5)::(.pointer (some ⟨q6,0,none⟩))::vw22 U 7 ((.slice pc (jaa b).length cc)::(.int .i64 ((jaa b).length:Int))::(.int .i64 (i:Int))::vw46 U 32 [])))∧h++[⟨true,q1,.cells (tbL b ps ns ks pw nw cw pb nb cb).toArray 25 (0,0)⟩,⟨true,q2,.cells (ceL (cOfA b (joj (jac b) i).1)).toArray 37 (0,0)⟩]++n8++[⟨true,q6,.cells [.pointer (some ⟨q9,0,none⟩),.slice p8 (jac b).length c8].toArray 112 (0,0)⟩]=h') _ ⟨0,false,rfl,by omega,rfl,exU rfl,rfl⟩ ?_;rintro nn l h' ⟨i,fd,rfl,hi,hfd,⟨U,rfl⟩,rfl⟩ hnext1;have hal:=juI (jac b) i
  refine Z2 ?_
  refine jao rfl zq (fun hc=>?_) (fun hc=>?_)
  ·refine Z7 ?_
   obtain ⟨pcb,pco,hpc⟩:=hcr.ptr zO
   have hcr':=hcr
   rw [hpc] at hcr'
   refine Z2 ?_;refine D93 ?_;refine jc5 (vs:=ceL ((jaa b).getD i default)) rfl zq rfl (hcr'.eat i zO zO) ?_
   refine jax rfl zq (fun q8=>jau (jae ?_));refine Zs ?_;refine jhx ?_
   refine k_mkmapI rfl zq (fun qm=>jau (jae ?_));refine Z15 ?_
   refine jai (fun nn l h'=> ∃(j:Nat) (es:List (Int×Int)),nn=(jac b).length-j∧(j≤(jac b).length)∧(∀v,cntI es v=(jcy ((jac b).take j) i v:Int))∧(∃U:Nat→Value,l=((tbV b ps ns ks pw nw cw pb nb cb)::(U 1)::(.pointer (some ⟨q2,0,none⟩))::(.int .i64 ((joj (jac b) i).2:Int))::(.bool fd)::(U 5)::(.pointer (some ⟨q6,0,none⟩))::(.int .i64 (i:Int))::(.pointer (some ⟨q8,0,none⟩))::(.map (some qm))::(.int .i64 (jel ((jac b).take j) i:Int))::vw18 U 11 ((.slice pc (jaa b).length cc)::(.int .i64 ((jaa b).length:Int))::(.int .i64 (i:Int))::vw6 U 32 ((.slice p8 (jac b).length c8)::(.int .i64 ((jac b).length:Int))::(.int .i64 (j:Int))::vw37 U 41 []))))∧h++[⟨true,q1,.cells (tbL b ps ns ks pw nw cw pb nb cb).toArray 25 (0,0)⟩,⟨true,q2,.cells (ceL (cOfA b (joj (jac b) i).1)).toArray 37 (0,0)⟩]++n8++[⟨true,q6,.cells [.pointer (some ⟨q9,0,none⟩),.slice p8 (jac b).length c8].toArray 112 (0,0)⟩,⟨true,q8,.cells (ceL ((jaa b).getD i default)).toArray 37 (0,0)⟩,⟨true,qm,jty es⟩]=h') _ ⟨0,[],rfl,by omega,fun v=>rfl,exU rfl,rfl⟩ ?_;rintro nn l h' ⟨j,es,rfl,hj,hes,⟨U,rfl⟩,rfl⟩ hnext2;have hlt:=leftA_le ((jac b).take j) i
   have hlj:=List.length_take_le j (jac b)
   refine Z2 ?_
   refine jao rfl zq (fun hc=>?_) (fun hc=>?_)
   ·refine Z7 ?_
    obtain ⟨rb,ro,hrp⟩:=rdB.ptr zO
    have rdB':=rdB
    rw [hrp] at rdB'
    have hxm:(jac b).getD j []∈jac b:=by rw [List.getD_eq_getElem?_getD,List.getElem?_eq_getElem zO];exact E52
    have hxl:=jb2 hxm
    have htk:=jqN (L:=jac b) (j:=j) zO
    refine Zs ?_;refine D65 ?_;refine D83 ?_
    obtain ⟨x,hx⟩: ∃x,x=(jac b).getD j []:=⟨_,rfl⟩
    rw [←hx] at hxm hxl htk⊢
    have hxb:=jdr (x:=x) zO
    refine jax rfl zq (fun q12=>jau (jae ?_));refine jnB rfl zq (ja2 x) ?_;refine Z6 ?_;refine jag (Post:=fun v=>IsB _ v) rfl zq zK (fun H' hH=>f98_b m H' (jcf x) i hxb zO) ?_;rintro v (⟨hc,rfl⟩|⟨hc,rfl⟩)
    ·refine Z10 ?_
     have hxn:xA x i=none:=by
      have e:=hc
      rw [jir zO] at e
      exact Option.isNone_iff_eq_none.1 e
     have hls:jel ((jac b).take (j+1)) i=jel ((jac b).take j) i:=by rw [htk];exact jjI hxn
     rw [←hls];exact m.weak jab (hnext2 _ _ _ zO ⟨j+1,es,rfl,by omega,fun v=>by rw [hes v,htk,jhq,hxn];simp,exU rfl,rfl⟩)
    ·refine Zs ?_
     obtain ⟨u,hxv⟩: ∃u,xA x i=some u:=by
      cases e:xA x i with
      |none=>exact absurd (by rw [jir zO,e];rfl) hc
      |some v=>exact ⟨v,rfl⟩
     refine Z9 ?_;refine jaW rfl zq (bo_at i zO) ?_
     rw [hxv,Option.getD_some];refine jnG (k:=3) (e:=3) zK zK rfl zq ?_;refine jrz rfl zq (by
      have h1:=hes u
      have h2:jcy ((jac b).take j) i u≤_:=List.countP_le_length
      unfold jfx
      omega) ?_
     refine jtM (k:=3) (e:=3) zK zK rfl zq ?_;refine Z7 ?_;refine jaW rfl zq (bo_at i zO) ?_;rw [hxv,Option.getD_some];refine jnG (k:=3) (e:=3) zK zK rfl zq ?_;refine jrw rfl zq ?_;refine Z7 ?_;have hls:jel ((jac b).take (j+1)) i=max (jel ((jac b).take j) i) (jcy ((jac b).take j) i u+1):=by rw [htk];exact jjH hxv
     rw [joc,if_pos rfl,show max (jel ((jac b).take j) i:Int) (cntI es u+1)=((jel ((jac b).take (j+1)) i:Nat):Int) by rw [hls,hes];omega];exact m.weak jab (hnext2 _ _ _ zO ⟨j+1,jkE es u (cntI es u+1),rfl,by omega,fun v=>by
      rw [joc,htk,jhq,hxv,hes,hes];by_cases e:v=u
      ·subst e
       simp
      ·rw [if_neg e,if_neg (by simp;exact fun a=>e a.symm)];simp,exU rfl,rfl⟩)
   ·refine Z5 ?_
    obtain rfl:j=(jac b).length:=by omega
    rw [List.take_length] at hlt⊢
    refine Z2 ?_
    refine jaY rfl zq (fun hc=>?_) (fun hc=>?_)
    ·refine Z3 ?_
     refine jao rfl rfl (fun hc=>?_) (fun hc=>?_);refine Z6 ?_;refine jhx ?_
     rotate_left
     refine Z4 ?_
     all_goals
      refine Z5 ?_
     ·have hst:joj (jac b) (i+1)=joj (jac b) i:=by rw [jhu,jia,if_neg zO]
      rw [←hst];exact E54
     ·have hst:joj (jac b) (i+1)=(some i,jel (jac b) i):=by rw [jhu,jia,if_pos ⟨by omega,by omega⟩]
      rw [show (jel (jac b) i:Int)=(((joj (jac b) (i+1)).2:Nat):Int) by rw [hst],show (jaa b).getD i default=cOfA b (joj (jac b) (i+1)).1 by rw [hst];rfl];exact m.weak jab (hnext1 _ _ _ zO ⟨i+1,true,rfl,by omega,by rw [hst];rfl,exU rfl,rfl⟩)
    ·refine Z13 ?_
     have hst:joj (jac b) (i+1)=joj (jac b) i:=by rw [jhu,jia,if_neg zO]
     rw [←hst];exact E54
  ·refine Z9 ?_;refine D6 ?_;refine Z5 ?_;refine jad (h) rfl Tryz.func50 rfl jab ?_;refine Zs ?_
   obtain rfl:i=(jaa b).length:=by omega
   exact ⟨rfl,by rw [askR,if_pos hz0,hz0,hfd]⟩
end
section
variable [LaidO B]
section
variable {m:Md P B}
omit [LaidO B] in
theorem jq0 {dd:Nat} (ht:P.underlying t=some (.slice e)) (p:Option Addr) (n c:Nat):Reads P B (Op.equalIn (dd+1) t (.slice p n c) (.slice none 0 0)) h p.isNone:=by
 unfold Op.equalIn
 refine Reads.bind (jaj ht).reads ?_
 cases p with
 |none=>exact Reads.pure _
 |some a=>exact Reads.pure _
omit [LaidO B] in
theorem jhe {x:Operand} {c:Nat} (ho:ops[i]?=some ⟨d,.binOp .eql t x (.const (.slice none 0 0)) u,ty,pos,af,g⟩) (hw:Wt ops l g) [KHeap kd S h H] [ex:OpV l x (.slice p n c)] (ht:P.underlying t=some (.slice e)) [PutV l d (.bool p.isNone) l'] (c:RegK m S ops r l' h C):RegK m S ops ((i,kd)::r) l h C:=
 RegK.rd (v:= .bool p.isNone) ho hw (by
  have ey:ev l (.const (.slice none 0 0))= .slice none 0 0:=rfl
  simp only [execOp,ex.eq,ey]
  refine Reads.value (Reads.bind (a:=()) ?_ ?_)
  ·exact Reads.pure _
  ·show Reads P B (Op.equal t (.slice p n _) (.slice none 0 0)>>=fun b=>pure (Value.bool b)) H _
   exact Reads.bind (jq0 (dd:=9999) ht p n _) (Reads.pure _)) c
end
theorem jc2 {t:Nat} {cs:List Value} {new:Hp} (o:OwnS t k v n cs new) (h0:0<n): ∃q cap junk,v= .slice (some ⟨q,0,none⟩) n cap∧new=[⟨true,q,.cells (cs++junk).toArray t (0,0)⟩]∧cs.length=n*k∧cs.length+junk.length=cap*k∧n≤cap:=by
 cases o with
 |nil=>omega
 |blk hl hc hn=>exact ⟨_,_,_,rfl,by simp,hl,hc,hn⟩
theorem jpM {c:Nat} {ys:List Value} (rd:RdS B h k (.slice none n c) n ys):ys=[]:=by
 obtain ⟨p',c',e,hl,hr⟩:=rd
 rcases hr with ⟨_,rfl⟩|⟨b,o,e2,_⟩
 ·exact List.length_eq_zero_iff.1 zO
 ·cases e
  cases e2
theorem jnn (t k q:Nat):OwnS t k (.slice (some ⟨q,0,none⟩) 0 0) 0 [] [⟨true,q,.cells ([]:List Value).toArray t (0,0)⟩]:=OwnS.blk (cs:=[]) (junk:=[]) zS zS (Nat.le_refl 0)
inductive OwnF:List Lp→Hp→Prop
 |nil:OwnF [] []
 |snoc {xs:List Lp} {M F:Hp} {x:Lp} (o:OwnF xs M) (f:OwnS 9 1 (.slice x.p x.ln.figs.length x.c) x.ln.figs.length (jaC x.ln.figs) F):OwnF (xs++[x]) (M++F)
theorem OwnF.at (o:OwnF xs M) (hk:k<xs.length): ∃M1 F M2,M=M1++F++M2∧OwnS 9 1 (.slice (xs.getD k default).p (xs.getD k default).ln.figs.length (xs.getD k default).c) (xs.getD k default).ln.figs.length (jaC (xs.getD k default).ln.figs) F∧ ∀x' F',OwnS 9 1 (.slice x'.p x'.ln.figs.length x'.c) x'.ln.figs.length (jaC x'.ln.figs) F'→OwnF (xs.set k x') (M1++F'++M2):=by
 induction o with
 |nil=>simp at hk
 | @snoc xs M F x o f ih=>
  rw [List.length_append,List.length_singleton] at hk
  by_cases e:k<xs.length
  ·obtain ⟨M1,F1,M2,rfl,h1,h2⟩:=ih e
   refine ⟨M1,F1,M2++F,by simp only [List.append_assoc],?_,fun x' F' hf=>?_⟩
   ·rw [show (xs++[x]).getD k default=xs.getD k default by rw [jhi,if_pos e]];exact h1
   ·rw [List.set_append_left _ _ e,←List.append_assoc];exact .snoc (h2 x' F' hf) f
  ·obtain rfl:k=xs.length:=by omega
   refine ⟨M,F,[],by rw [List.append_nil],?_,fun x' F' hf=>?_⟩
   ·rw [show (xs++[x]).getD xs.length default=x by rw [jhi,if_neg zO,if_pos rfl]];exact f
   ·rw [List.set_append_right _ _ (Nat.le_refl _),Nat.sub_self,List.set_cons_zero,List.append_nil];exact .snoc o hf
theorem OwnF.rd (o:OwnF xs M): ∀x∈xs,x.ln.figs.length≤x.c∧RdS B M 1 (.slice x.p x.ln.figs.length x.c) x.ln.figs.length (jaC x.ln.figs):=by
 induction o with
 |nil=>simp
 | @snoc xs M F x o f ih=>
  intro y hy
  rcases List.mem_append.1 hy with hy|hy
  ·exact ⟨(ih y hy).1,(ih y hy).2.keeps (List.sublist_append_left _ _)⟩
  ·obtain rfl:y=x:=by simpa using hy
   exact ⟨f.cap,f.rd (List.sublist_append_right _ _)⟩
def HalfO (v:Value) (n:Nat) (lns:List Ln) (M:Hp):Prop:= ∃(lps:List Lp) (lp:Option Addr) (lc:Nat) (W FM:Hp),v= .slice lp n lc∧lps.map (·.ln)=lns∧OwnS 121 2 (.slice lp n lc) n (jaC lps) W∧OwnF lps FM∧M=W++FM
theorem HalfO.rd (o:HalfO v n lns M): ∃p c,v= .slice p n c∧RdLn B M (.slice p n c) n lns:=by
 obtain ⟨lps,lp,lc,W,FM,rfl,e,ow,of',rfl⟩:=o
 exact ⟨lp,lc,rfl,lps,e,ow.rd (List.sublist_append_left _ _),fun x hx=>⟨(of'.rd (B:=B) x hx).1,fun _=>(of'.rd x hx).2.keeps (List.sublist_append_right _ _)⟩⟩
theorem jj3 {α:Type} [Enc α k] [Inhabited α] (xs:List α) (i:Nat) (h:i<xs.length) (x:α):jaC (xs.set i x)=(jaC xs).take (i*k)++Enc.enc x++(jaC xs).drop ((i+1)*k):=by
 have e:xs.set i x=xs.take i++[x]++xs.drop (i+1):=by rw [List.set_eq_take_append_cons_drop,if_pos h];simp
 rw [e,jbB,jbB,jn8,jj4];simp [jaC]
theorem jb7 (xs:List Lp):(jaC xs).length=xs.length*2:=jbf xs
theorem jtz (xs:List Lp) (i:Nat) (h:i<xs.length) (j:Nat) (hj:j<2):(jaC xs)[i*2+j]?=(lpL (xs.getD i default))[j]?:=by
 have e:xs=xs.take i++[xs.getD i default]++xs.drop (i+1):=by
  rw [List.append_assoc,List.singleton_append];rw [List.getD_eq_getElem?_getD,List.getElem?_eq_getElem h];simp
 have e2:jaC xs=jaC (xs.take i)++lpL (xs.getD i default)++jaC (xs.drop (i+1)):=by
  conv=>lhs;rw [e]
  rw [jbB,jbB];simp only [jaC,List.append_nil]
  rfl
 have hl:(jaC (xs.take i)).length=i*2:=by rw [jb7,List.length_take];congr 1;omega
 rw [e2,List.append_assoc,List.getElem?_append_right zO,hl,show i*2+j-i*2=j by omega,List.getElem?_append_left zN]
theorem jm5 (h:i<xs.length) {x:Lp} (hln:x.ln=(xs.getD i default).ln):SetSeg (jaC xs++junk) (0+(i:Int).toNat*2+1) [.slice x.p x.ln.figs.length x.c] (jaC (xs.set i x)++junk):=by
 have hl:=jb7 xs
 refine jd3 zN ?_
 rw [Int.toNat_natCast,Nat.zero_add,List.set_append_left _ _ zO];congr 1
 refine List.ext_getElem? fun a=>?_
 rw [jj3 xs i h,List.getElem?_set];have h1:=jtz xs i h 0 zO
 have hlt:((jaC xs).take (i*2)).length=i*2:=by rw [List.length_take];omega
 by_cases e:i*2+1=a
 ·subst e
  rw [if_pos rfl,if_pos zO,List.append_assoc,List.getElem?_append_right zO,hlt,show i*2+1-i*2=1 by omega];rfl
 ·rw [if_neg e];by_cases e1:a<i*2
  ·rw [List.append_assoc,List.getElem?_append_left zO,List.getElem?_take,if_pos e1]
  ·by_cases e2:a=i*2
   ·subst e2
    rw [List.append_assoc,List.getElem?_append_right zO,hlt,Nat.sub_self,show i*2=i*2+0 by omega,h1];show some (Value.int .i64 x.ln.lat)=_
    rw [hln];rfl
   ·have hen:(Enc.enc x).length=2:=rfl
    rw [List.append_assoc,List.getElem?_append_right zO,hlt,List.getElem?_append_right (by rw [hen];omega),hen,List.getElem?_drop];congr 1
    omega
theorem jdZ (h:i<xs.length) {x:Lp} (hx:lpL x=lpL (xs.getD i default)):jaC (xs.set i x)=jaC xs:=by
 rw [jj3 xs i h];have e:=jj3 xs i h (xs.getD i default)
 have hs:xs.set i (xs.getD i default)=xs:=by
  rw [List.getD_eq_getElem?_getD,List.getElem?_eq_getElem h];simp
 rw [hs] at e
 conv=>rhs;rw [e]
 show _++lpL x++_=_++lpL _++_
 rw [hx]
theorem f162_c (m:Md Tryz.prog B) (h:Hp) {c:Nat} (rd:RdS B h 1 (.slice p n c) n (jaC ss)) (hn:n≤1000):FnC m 162 #[.slice p n c] h fun v h'=> ∃new,h'=h++new∧OwnS 9 1 v n (jaC ss) new:=by
 refine jaf Tryz.func162 rfl rfl (l:=(.slice p n c)::uu7) rfl ?_
 intro cf cs K hK
 refine Z8 ?_
 rcases (by cases p<;>simp:p=none∨ ∃pa,p=some pa) with rfl|⟨pa,rfl⟩
 ·refine jhe (e:=9) rfl zq zK ?_;refine Z7 ?_;refine jad (h) rfl Tryz.func162 rfl jab ?_;refine Zs ?_;have hys:=jpM rd
  have hn0:n=0:=by
   have h1:=rd.elen zA
   have h2:=congrArg List.length hys
   rw [jbf,h1] at h2
   simp at h2
   omega
  subst hn0
  rw [hys];exact ⟨[],by simp,OwnS.nil⟩
 ·refine jhe (e:=9) rfl zq zK ?_;refine Z5 ?_;refine jtR kdq rfl zq (fun q5=>jau (jae ?_));refine Zs ?_
  refine k_app (F:=h) rfl zq (Weak.refl B _) (jnn 9 1 q5) (rd.keeps SubH.sub) (jfh ss) (.inl rfl) zO zO (fun v' new' o'=>jae ?_);rw [Nat.zero_add,List.nil_append] at o'
  refine Z3 ?_;refine jad (h++new') rfl Tryz.func162 rfl jab ?_;refine Zs ?_
  exact ⟨new',rfl,o'⟩
theorem f163_c (m:Md Tryz.prog B) (h:Hp) {c:Nat} {ss:List Lp} (rd:RdS B h 2 (.slice p n c) n (jaC ss)) (hn:n≤1000):FnC m 163 #[.slice p n c] h fun v h'=> ∃new,h'=h++new∧OwnS 121 2 v n (jaC ss) new:=by
 refine jaf Tryz.func163 rfl rfl (l:=(.slice p n c)::uu7) rfl ?_
 intro cf cs K hK
 refine Z8 ?_
 rcases (by cases p<;>simp:p=none∨ ∃pa,p=some pa) with rfl|⟨pa,rfl⟩
 ·refine jhe (e:=121) rfl zq zK ?_;refine Z7 ?_;refine jad (h) rfl Tryz.func163 rfl jab ?_;refine Zs ?_;have hys:=jpM rd
  have hn0:n=0:=by
   have h1:=rd.elen zA
   have h2:=congrArg List.length hys
   rw [jbf,h1] at h2
   simp at h2
   omega
  subst hn0
  rw [hys];exact ⟨[],by simp,OwnS.nil⟩
 ·refine jhe (e:=121) rfl zq zK ?_;refine Z5 ?_;refine jtR kdq rfl zq (fun q5=>jau (jae ?_));refine Zs ?_
  refine k_app (F:=h) rfl zq (Weak.refl B _) (jnn 121 2 q5) (rd.keeps SubH.sub) (jfh ss) (.inl rfl) zO zO (fun v' new' o'=>jae ?_);rw [Nat.zero_add,List.nil_append] at o'
  refine Z3 ?_;refine jad (h++new') rfl Tryz.func163 rfl jab ?_;refine Zs ?_
  exact ⟨new',rfl,o'⟩
end
section
variable [LaidO B]
theorem lp_rd {t:Nat} {rw:Bool} {fr:Nat×Nat} [hh:Has h q rw (.cells (jaC xs++junk).toArray t fr)] (hj:j=i) (hi:i<xs.length):Rd B h ⟨q,0+j.toNat*2+1,none⟩ (.slice (xs.getD i default).p (xs.getD i default).ln.figs.length (xs.getD i default).c):=by
 subst hj
 refine Rd.held hh.mem ?_
 have:=jb7 xs
 rw [List.getElem?_toArray,List.getElem?_append_left zO,show 0+(i:Int).toNat*2+1=i*2+1 by omega,jtz xs i hi 1 zO];rfl
theorem jip {y:Lp} (hy:y.ln=(xs.getD i default).ln):(xs.set i y).map (·.ln)=xs.map (·.ln):=by
 refine List.ext_getElem zS fun a h1 h2=>?_
 simp only [List.getElem_map,List.getElem_set]
 split
 ·rename_i e
  subst e
  rw [hy,List.getD_eq_getElem?_getD,List.getElem?_eq_getElem (by simpa using h2)];rfl
 ·rfl
theorem jmP (h:i<xs.length) (y:Lp):(xs.set i y).take (i+1)=xs.take i++[y]:=by
 rw [List.set_eq_take_append_cons_drop,if_pos h,List.take_append,List.length_take,show i+1-min i xs.length=1 by omega];simp [List.take_take]
theorem jnT {j:Nat} (h:i≠j) (y:Lp):(xs.set i y).getD j default=xs.getD j default:=by
 rw [List.getD_eq_getElem?_getD,List.getElem?_set_ne h,List.getD_eq_getElem?_getD]
theorem jhH (hj:j=i) (h:i<ss.length) (s:Str):SetSeg (jaC ss++junk) (0+j.toNat*1) [str s] (jaC (ss.set i s)++junk):=by
 subst hj
 have hl:(jaC ss).length=ss.length:=by rw [jbf,Nat.mul_one]
 refine jd3 zN ?_
 rw [Int.toNat_natCast,Nat.zero_add,Nat.mul_one,List.set_append_left _ _ zO,jbT,jbT,List.map_set]
theorem jqg {c:Ce} (hi:i<2) (h:c.butt=decide (i=1)):hL (jat b c f) i=jex (hL b i) c.line.toNat c.st.toNat f:=by
 rw [jmd _ hi,jmd _ hi,jbb,if_pos h.symm]
theorem jt2 {c:Ce} (hi:i<2) (h:c.butt≠decide (i=1)):hL (jat b c f) i=hL b i:=by
 rw [jmd _ hi,jmd _ hi,jbb,if_neg (fun e=>h e.symm)]
theorem jsa (h: ∀l∈ls,l.figs.length≤1000∧ ∀f∈l.figs,f.length≤100000) (hf:f.length≤100000): ∀l∈jex ls i k f,l.figs.length≤1000∧ ∀f∈l.figs,f.length≤100000:=by
 intro l hl
 rcases List.mem_or_eq_of_mem_set hl with hl|rfl
 ·exact h l hl
 ·have hd:(ls.getD i default).figs.length≤1000∧ ∀f∈(ls.getD i default).figs,f.length≤100000:=by
   by_cases hi:i<ls.length
   ·exact h _ (jah hi)
   ·rw [List.getD_eq_getElem?_getD,List.getElem?_eq_none zO];exact ⟨Nat.zero_le _,fun f hf=>by cases hf⟩
  refine ⟨by simpa using hd.1,fun g hg=>?_⟩
  rcases List.mem_or_eq_of_mem_set hg with hg|rfl
  ·exact hd.2 g hg
  ·exact hf
theorem jjk (h:TbSm b) {c:Ce} (hf:f.length≤100000):TbSm (jat b c f):=by
 unfold jat
 split
 ·exact ⟨h.sts,h.wat,jsa h.but hf⟩
 ·exact ⟨h.sts,jsa h.wat hf,h.but⟩
theorem jiE (A W M:Hp) (x:Chunk):Weak B (A++[x]++W++M) (A++(W++M)):=by
 rw [List.append_assoc (A++[x])];exact (Weak.sub ((List.sublist_append_left A [x]).append_right _))
theorem jiL (e:xs.map (·.ln)=ls) (h:i<xs.length) (f:Str) (p:Option Addr) (c:Nat):(xs.set i ⟨⟨(xs.getD i default).ln.lat,(xs.getD i default).ln.figs.set k f⟩,p,c⟩).map (·.ln)=jex ls i k f:=by
 subst e
 rw [jex,List.map_set];congr 1
 have:(xs.map (·.ln)).getD i default=(xs.getD i default).ln:=by
  rw [List.getD_eq_getElem?_getD,List.getElem?_map,List.getElem?_eq_getElem h,List.getD_eq_getElem?_getD,List.getElem?_eq_getElem h];rfl
 rw [this]
theorem f112_c (m:Md Tryz.prog B) (h:Hp) (rd:RdTb B h b ps ns ks pw nw cw pb nb cb) {c:Ce} (hc0:jbO b c=true) (f:Str) (hf:f.length≤100000):FnC m 112 #[tbV b ps ns ks pw nw cw pb nb cb,cV c.butt c.line c.st,str f] h fun v h'=> ∃new ps' ks' pw' cw' pb' cb',h'=h++new∧v=tbV (jat b c f) ps' ns ks' pw' nw cw' pb' nb cb'∧RawTb B new (jat b c f) ps' ns ks' pw' nw cw' pb' nb cb':=by
 have hsl0:=rd.sl
 have hn1:=rd.n1
 have hn3:=rd.n3
 have hw2:=rd.w2
 have hb2:=rd.b2
 refine jaf Tryz.func112 rfl rfl (l:=(tbV b ps ns ks pw nw cw pb nb cb)::(cV c.butt c.line c.st)::(str f)::uu64) rfl ?_
 intro cf cs K hK
 refine Z2 ?_
 refine jaX rfl zq (fun q3=>jau (jae ?_));refine jaX rfl zq (fun q4=>jau (jae ?_));refine jax rfl zq (fun q6=>jau (jae ?_));refine Z5 ?_;refine jaD rfl zq zK (Post:=fun v nz=>OwnS 9 1 v ns (jaC b.sts) nz) (fun H' hH=>f162_c m H' (rd.s.keeps (sq hH)) zO) ?_
 rintro v n14 o14;refine jaH (jae ?_);obtain ⟨p14,c14,rfl,hc14,r14⟩:=jav (B:=B) o14
 refine Zs ?_;refine D9 ?_;refine Z4 ?_;refine jc5 (vs:=halvesL) rfl zq rfl jgL ?_;refine Z3 ?_
 refine jai (fun nn l h'=> ∃(i:Nat) (wp:Option Addr) (wc:Nat) (bp:Option Addr) (bc:Nat) (M0 M1:Hp),nn=2-i∧(i≤2)∧(i=0→pw=wp∧cw=wc∧M0=[])∧(i≤1→pb=bp∧cb=bc∧M1=[])∧(1≤i→HalfO (.slice wp nw wc) nw (hL (jat b c f) 0) M0)∧(2≤i→HalfO (.slice bp nb bc) nb (hL (jat b c f) 1) M1)∧(∃U:Nat→Value,l=((tbV b ps ns ks pw nw cw pb nb cb)::(cV c.butt c.line c.st)::(str f)::(.pointer (some ⟨q3,0,none⟩))::(.pointer (some ⟨q4,0,none⟩))::(U 5)::(.pointer (some ⟨q6,0,none⟩))::vw9 U 7 ((.agg halvesL.toArray)::(.int .i64 (i:Int))::vw49 U 18 [])))∧h++[⟨true,q3,.cells [.int .i64 b.wrong,.slice p14 ns c14,.slice wp nw wc,.slice bp nb bc].toArray 25 (0,0)⟩,⟨true,q4,.cells [.bool c.butt,.int .i64 c.line,.int .i64 c.st].toArray 37 (0,0)⟩,⟨true,q6,.cells [.int .i64 0,.slice none 0 0,.slice none 0 0,.slice none 0 0].toArray 25 (0,0)⟩]++n14++M0++M1=h') _ ⟨0,pw,cw,pb,cb,[],[],rfl,by omega,fun _=>⟨rfl,rfl,rfl⟩,fun _=>⟨rfl,rfl,rfl⟩,fun e=>by omega,fun e=>by omega,exU rfl,(by rw [List.append_nil,List.append_nil])⟩ ?_;rintro nn l h' ⟨i,wp,wc,bp,bc,M0,M1,rfl,hi,hz0,hz1,hz2,hz3,⟨U,rfl⟩,rfl⟩ hnext1;refine Z2 ?_
 refine jao rfl zq (fun hc=>?_) (fun hc=>?_)
 ·refine Z7 ?_
  rcases (by omega:i=0∨i=1) with rfl|rfl
  obtain ⟨rfl,rfl,rfl⟩:=hz0 rfl
  obtain ⟨rfl,rfl,rfl⟩:=hz1 zO
  obtain ⟨lps0,hle,rl,hfig⟩:=rd.w
  have hll:=rl.elen zA
  replace hle:lps0.map (·.ln)=hL b 0:=hle
  have hwf: ∀l∈hL b 0,l.figs.length=ns∧ ∀f∈l.figs,jbx f=true:=rd.wf
  rw [List.append_nil,List.append_nil];refine Zs ?_;refine jqa rfl zq zO zO (jjP 0 zO) ?_
  refine jax rfl zq (fun q8=>jau (jae ?_));refine D6 ?_;refine Z5 ?_;refine jgt (Post:=fun v=>v= .pointer (some ⟨q3,2,none⟩)) rfl zq (jjQ 0 zO) (fun H' hH=>jt3 m H' q3 0 zO) ?_
  rintro v rfl;refine Z9 ?_;refine jaD rfl zq zK (Post:=fun v nz=>OwnS 121 2 v nw (jaC lps0) nz) (fun H' hH=>f163_c m H' (rl.keeps (sq hH)) zO) ?_
  rotate_left
  obtain ⟨rfl,rfl,rfl⟩:=hz1 zO
  have hh0:=hz2 zO
  obtain ⟨lps0,hle,rl,hfig⟩:=rd.u
  have hll:=rl.elen zA
  replace hle:lps0.map (·.ln)=hL b 1:=hle
  have hwf: ∀l∈hL b 1,l.figs.length=ns∧ ∀f∈l.figs,jbx f=true:=rd.bf
  rw [List.append_nil];refine Zs ?_;refine jqa rfl zq zO zO (jjP 1 zO) ?_
  refine jax rfl zq (fun q8=>jau (jae ?_));refine D6 ?_;refine Z5 ?_;refine jgt (Post:=fun v=>v= .pointer (some ⟨q3,3,none⟩)) rfl zq (jjQ 1 zO) (fun H' hH=>jt3 m H' q3 1 zO) ?_
  rintro v rfl;refine Z9 ?_;refine jaD rfl zq zK (Post:=fun v nz=>OwnS 121 2 v nb (jaC lps0) nz) (fun H' hH=>f163_c m H' (rl.keeps (sq hH)) zO) ?_
  all_goals
   rintro v n27 o27;refine jaH (jae ?_);obtain ⟨p27,c27,rfl,hc27,r27⟩:=jav (B:=B) o27
   refine Zs ?_;refine D9 ?_;refine Z11 ?_
  ·refine jai (fun nn l h'=> ∃(k:Nat) (lps:List Lp) (W FM:Hp),nn=nb-k∧(k≤nb)∧(lps.length=nb)∧(lps.map (·.ln)=hL b 1)∧(∀j,k≤j→lps.getD j default=lps0.getD j default)∧(OwnS 121 2 (.slice p27 nb c27) nb (jaC lps) W)∧(OwnF (lps.take k) FM)∧(∃U:Nat→Value,l=((tbV b ps ns ks pw nw cw pb nb cb)::(cV c.butt c.line c.st)::(str f)::(.pointer (some ⟨q3,0,none⟩))::(.pointer (some ⟨q4,0,none⟩))::(U 5)::(.pointer (some ⟨q6,0,none⟩))::(U 7)::(.pointer (some ⟨q8,0,none⟩))::(.pointer (some ⟨q3,3,none⟩))::vw6 U 10 ((.agg halvesL.toArray)::(.int .i64 1)::vw13 U 18 ((.slice p27 nb c27)::(.int .i64 (nb:Int))::(.int .i64 (k:Int))::vw33 U 34 []))))∧h++[⟨true,q3,.cells [.int .i64 b.wrong,.slice p14 ns c14,.slice wp nw wc,.slice p27 nb c27].toArray 25 (0,0)⟩,⟨true,q4,.cells [.bool c.butt,.int .i64 c.line,.int .i64 c.st].toArray 37 (0,0)⟩,⟨true,q6,.cells [.int .i64 0,.slice none 0 0,.slice none 0 0,.slice none 0 0].toArray 25 (0,0)⟩]++n14++M0++[⟨true,q8,.cells [str (hwS 1),.bool (decide (1=1)),.func (.func (261+1)) #[] #[]].toArray 184 (0,0)⟩]++W++FM=h') _ ⟨0,lps0,n27,[],rfl,by omega,hll,hle,fun j _=>rfl,o27,by rw [List.take_zero];exact .nil,exU rfl,(by rw [List.append_nil])⟩ ?_;rintro nn l h' ⟨k,lps,W,FM,rfl,hk,hlen,hmap,hsame,how,hof,⟨U,rfl⟩,rfl⟩ hnext2;refine Z2 ?_
   refine jao rfl zq (fun hc=>?_) (fun hc=>?_)
   ·refine Z7 ?_
    have rdW:=how.rd (B:=B) (List.Sublist.refl _)
    obtain ⟨bl,lc1,junk,hwv,rfl,hwl,hwc,hwn⟩:=jc2 how zO
    cases hwv
    have hxk:=hsame k (Nat.le_refl k)
    obtain ⟨x,hx⟩: ∃x,x=lps0.getD k default:=⟨_,rfl⟩
    rw [←hx] at hxk
    have hxm:x∈lps0:=hx▸jah zO
    obtain ⟨hxc,rdf0⟩:=hfig x hxm
    have hxf:x.ln.figs.length=ns:=(hwf x.ln (by rw [←hle];exact List.mem_map.2 ⟨x,hxm,rfl⟩)).1
    have rdf:=rdf0 (by have:=rd.n1;omega)
    refine Z2 ?_;refine D12 ?_;refine jc5 (vs:=lpL x) rfl zq rfl (hxk▸rdW.eat k zO zO) ?_
    refine jax rfl zq (fun q11=>jau (jae ?_));refine Zs ?_;refine D6 ?_;refine Zs ?_;refine D64 ?_;refine Z6 ?_;refine D80 ?_
    rintro v n44 o44;refine jaH (jae ?_);obtain ⟨p44,c44,rfl,hc44,r44⟩:=jav (B:=B) o44
    refine D12 ?_;refine Zs ?_
    haveI hsl2:=jm5 (xs:=lps) (junk:=junk) (i:=k) zO (x:=⟨x.ln,p44,c44⟩) (by rw [hxk])
    refine D9 ?_;refine Z6 ?_;refine m.weak (h':=h++[⟨true,q3,.cells [.int .i64 b.wrong,.slice p14 ns c14,.slice wp nw wc,.slice (some ⟨bl,0,none⟩) nb c27].toArray 25 (0,0)⟩,⟨true,q4,.cells [.bool c.butt,.int .i64 c.line,.int .i64 c.st].toArray 37 (0,0)⟩,⟨true,q6,.cells [.int .i64 0,.slice none 0 0,.slice none 0 0,.slice none 0 0].toArray 25 (0,0)⟩]++n14++M0++[⟨true,q8,.cells [str (hwS 1),.bool (decide (1=1)),.func (.func (261+1)) #[] #[]].toArray 184 (0,0)⟩]++[⟨true,bl,.cells (jaC (lps.set k ⟨x.ln,p44,c44⟩)++junk).toArray 121 (0,0)⟩]++(FM++n44)) jd7 ?_
    exact E55
   ·refine Z10 ?_
    obtain rfl:nb=k:=by omega
    rw [List.take_of_length_le zO] at hof
    refine jnK rfl zq zK (fun hbt=>?_) (fun hbt=>?_)
    ·refine Z2 ?_
     have hbe:c.butt=decide (1=1):=hbt.symm
     have hce:=jbk.1 hc0
     have hlL:c.line.toNat<lps.length:=by
      have h1:(jap b c.butt).length=nb:=by rw [hbe,←jmd b zO,←hmap,List.length_map,hlen]
      omega
     obtain ⟨li,hli⟩:=Int.eq_ofNat_of_zero_le hce.1
     obtain ⟨sj,hsj⟩:=Int.eq_ofNat_of_zero_le hce.2.2.1
     obtain ⟨M1f,Fb,M2f,rfl,hofb,hset⟩:=hof.at hlL
     obtain ⟨bl,lc1,junk,hwv,rfl,hwl,hwc,hwn⟩:=jc2 how zO
     cases hwv
     rw [show c.line.toNat=li by omega] at hlL hofb hset
     obtain ⟨y,hy⟩: ∃y,y=lps.getD li default:=⟨_,rfl⟩
     rw [←hy] at hofb
     have hyl:y.ln∈hL b 1:=by rw [←hmap];exact List.mem_map.2 ⟨y,hy▸jah hlL,rfl⟩
     have hyf:y.ln.figs.length=ns:=(hwf y.ln hyl).1
     obtain ⟨bf,fc,junkf,hfv,rfl,hfl,hfc,hfn⟩:=jc2 hofb zO
     injection hfv with hyp _ hyc
     haveI hsf:=jhH (ss:=y.ln.figs) (junk:=junkf) (j:=c.st) (i:=sj) hsj zO f
     refine D48 ?_;refine Z7 ?_;refine D12 ?_;refine Zs ?_;refine jaW rfl zq (lp_rd (xs:=lps) (junk:=junk) hli hlL) ?_
     rw [←hy];refine Zs ?_;refine D119 ?_;refine D9 ?_;refine Z6 ?_
     have hy2:OwnS 9 1 (.slice y.p (y.ln.figs.set sj f).length y.c) (y.ln.figs.set sj f).length (jaC (y.ln.figs.set sj f)) [⟨true,bf,.cells (jaC (y.ln.figs.set sj f)++junkf).toArray 9 (0,0)⟩]:=by
      rw [hyp,hyc];exact E56
     have hnew:=hset ⟨⟨y.ln.lat,y.ln.figs.set sj f⟩,y.p,y.c⟩ _ hy2
     have hHalf:HalfO (.slice (some ⟨bl,0,none⟩) nb c27) nb (hL (jat b c f) 1) ([⟨true,bl,.cells (jaC lps++junk).toArray 121 (0,0)⟩]++(M1f++[⟨true,bf,.cells (jaC (y.ln.figs.set sj f)++junkf).toArray 9 (0,0)⟩]++M2f)):=by
      refine ⟨_,_,_,_,_,rfl,?_,?_,hnew,rfl⟩
      ·rw [jqg zO hbe,show c.line.toNat=li by omega,show c.st.toNat=sj by omega];have:=jiL hmap hlL (k:=sj) f y.p y.c
       rw [←hy] at this
       exact this
      ·rw [jdZ hlL (by rw [←hy];simp [lpL])];exact how
     refine m.weak (h':=h++[⟨true,q3,.cells [.int .i64 b.wrong,.slice p14 ns c14,.slice wp nw wc,.slice (some ⟨bl,0,none⟩) nb c27].toArray 25 (0,0)⟩,⟨true,q4,.cells [.bool c.butt,.int .i64 c.line,.int .i64 c.st].toArray 37 (0,0)⟩,⟨true,q6,.cells [.int .i64 0,.slice none 0 0,.slice none 0 0,.slice none 0 0].toArray 25 (0,0)⟩]++n14++M0++([⟨true,bl,.cells (jaC lps++junk).toArray 121 (0,0)⟩]++(M1f++[⟨true,bf,.cells (jaC (y.ln.figs.set sj f)++junkf).toArray 9 (0,0)⟩]++M2f))) (jiE _ _ _ _) ?_
     exact E57
    ·refine Z8 ?_
     have hHalf:HalfO (.slice p27 nb c27) nb (hL (jat b c f) 1) (W++FM):=⟨lps,p27,c27,W,FM,rfl,by rw [jt2 zO (fun e=>hbt e.symm)];exact hmap,how,hof,rfl⟩
     refine m.weak (h':=h++[⟨true,q3,.cells [.int .i64 b.wrong,.slice p14 ns c14,.slice wp nw wc,.slice p27 nb c27].toArray 25 (0,0)⟩,⟨true,q4,.cells [.bool c.butt,.int .i64 c.line,.int .i64 c.st].toArray 37 (0,0)⟩,⟨true,q6,.cells [.int .i64 0,.slice none 0 0,.slice none 0 0,.slice none 0 0].toArray 25 (0,0)⟩]++n14++M0++(W++FM)) (jiE _ _ _ _) ?_
     exact E57
  ·refine jai (fun nn l h'=> ∃(k:Nat) (lps:List Lp) (W FM:Hp),nn=nw-k∧(k≤nw)∧(lps.length=nw)∧(lps.map (·.ln)=hL b 0)∧(∀j,k≤j→lps.getD j default=lps0.getD j default)∧(OwnS 121 2 (.slice p27 nw c27) nw (jaC lps) W)∧(OwnF (lps.take k) FM)∧(∃U:Nat→Value,l=((tbV b ps ns ks pw nw cw pb nb cb)::(cV c.butt c.line c.st)::(str f)::(.pointer (some ⟨q3,0,none⟩))::(.pointer (some ⟨q4,0,none⟩))::(U 5)::(.pointer (some ⟨q6,0,none⟩))::(U 7)::(.pointer (some ⟨q8,0,none⟩))::(.pointer (some ⟨q3,2,none⟩))::vw6 U 10 ((.agg halvesL.toArray)::(.int .i64 0)::vw13 U 18 ((.slice p27 nw c27)::(.int .i64 (nw:Int))::(.int .i64 (k:Int))::vw33 U 34 []))))∧h++[⟨true,q3,.cells [.int .i64 b.wrong,.slice p14 ns c14,.slice p27 nw c27,.slice pb nb cb].toArray 25 (0,0)⟩,⟨true,q4,.cells [.bool c.butt,.int .i64 c.line,.int .i64 c.st].toArray 37 (0,0)⟩,⟨true,q6,.cells [.int .i64 0,.slice none 0 0,.slice none 0 0,.slice none 0 0].toArray 25 (0,0)⟩]++n14++[⟨true,q8,.cells [str (hwS 0),.bool (decide (0=1)),.func (.func (261+0)) #[] #[]].toArray 184 (0,0)⟩]++W++FM=h') _ ⟨0,lps0,n27,[],rfl,by omega,hll,hle,fun j _=>rfl,o27,by rw [List.take_zero];exact .nil,exU rfl,(by rw [List.append_nil])⟩ ?_;rintro nn l h' ⟨k,lps,W,FM,rfl,hk,hlen,hmap,hsame,how,hof,⟨U,rfl⟩,rfl⟩ hnext2;refine Z2 ?_
   refine jao rfl zq (fun hc=>?_) (fun hc=>?_)
   ·refine Z7 ?_
    have rdW:=how.rd (B:=B) (List.Sublist.refl _)
    obtain ⟨bl,lc1,junk,hwv,rfl,hwl,hwc,hwn⟩:=jc2 how zO
    cases hwv
    have hxk:=hsame k (Nat.le_refl k)
    obtain ⟨x,hx⟩: ∃x,x=lps0.getD k default:=⟨_,rfl⟩
    rw [←hx] at hxk
    have hxm:x∈lps0:=hx▸jah zO
    obtain ⟨hxc,rdf0⟩:=hfig x hxm
    have hxf:x.ln.figs.length=ns:=(hwf x.ln (by rw [←hle];exact List.mem_map.2 ⟨x,hxm,rfl⟩)).1
    have rdf:=rdf0 (by have:=rd.n1;omega)
    refine Z2 ?_;refine D12 ?_;refine jc5 (vs:=lpL x) rfl zq rfl (hxk▸rdW.eat k zO zO) ?_
    refine jax rfl zq (fun q11=>jau (jae ?_));refine Zs ?_;refine D6 ?_;refine Zs ?_;refine D64 ?_;refine Z6 ?_;refine D80 ?_
    rintro v n44 o44;refine jaH (jae ?_);obtain ⟨p44,c44,rfl,hc44,r44⟩:=jav (B:=B) o44
    refine D12 ?_;refine Zs ?_
    haveI hsl2:=jm5 (xs:=lps) (junk:=junk) (i:=k) zO (x:=⟨x.ln,p44,c44⟩) (by rw [hxk])
    refine D9 ?_;refine Z6 ?_;refine m.weak (h':=h++[⟨true,q3,.cells [.int .i64 b.wrong,.slice p14 ns c14,.slice (some ⟨bl,0,none⟩) nw c27,.slice pb nb cb].toArray 25 (0,0)⟩,⟨true,q4,.cells [.bool c.butt,.int .i64 c.line,.int .i64 c.st].toArray 37 (0,0)⟩,⟨true,q6,.cells [.int .i64 0,.slice none 0 0,.slice none 0 0,.slice none 0 0].toArray 25 (0,0)⟩]++n14++[⟨true,q8,.cells [str (hwS 0),.bool (decide (0=1)),.func (.func (261+0)) #[] #[]].toArray 184 (0,0)⟩]++[⟨true,bl,.cells (jaC (lps.set k ⟨x.ln,p44,c44⟩)++junk).toArray 121 (0,0)⟩]++(FM++n44)) jd7 ?_
    exact E55
   ·refine Z10 ?_
    obtain rfl:nw=k:=by omega
    rw [List.take_of_length_le zO] at hof
    refine jnK rfl zq zK (fun hbt=>?_) (fun hbt=>?_)
    ·refine Z2 ?_
     have hbe:c.butt=decide (0=1):=hbt.symm
     have hce:=jbk.1 hc0
     have hlL:c.line.toNat<lps.length:=by
      have h1:(jap b c.butt).length=nw:=by rw [hbe,←jmd b zO,←hmap,List.length_map,hlen]
      omega
     obtain ⟨li,hli⟩:=Int.eq_ofNat_of_zero_le hce.1
     obtain ⟨sj,hsj⟩:=Int.eq_ofNat_of_zero_le hce.2.2.1
     obtain ⟨M1f,Fb,M2f,rfl,hofb,hset⟩:=hof.at hlL
     obtain ⟨bl,lc1,junk,hwv,rfl,hwl,hwc,hwn⟩:=jc2 how zO
     cases hwv
     rw [show c.line.toNat=li by omega] at hlL hofb hset
     obtain ⟨y,hy⟩: ∃y,y=lps.getD li default:=⟨_,rfl⟩
     rw [←hy] at hofb
     have hyl:y.ln∈hL b 0:=by rw [←hmap];exact List.mem_map.2 ⟨y,hy▸jah hlL,rfl⟩
     have hyf:y.ln.figs.length=ns:=(hwf y.ln hyl).1
     obtain ⟨bf,fc,junkf,hfv,rfl,hfl,hfc,hfn⟩:=jc2 hofb zO
     injection hfv with hyp _ hyc
     haveI hsf:=jhH (ss:=y.ln.figs) (junk:=junkf) (j:=c.st) (i:=sj) hsj zO f
     refine D48 ?_;refine Z7 ?_;refine D12 ?_;refine Zs ?_;refine jaW rfl zq (lp_rd (xs:=lps) (junk:=junk) hli hlL) ?_
     rw [←hy];refine Zs ?_;refine D119 ?_;refine D9 ?_;refine Z6 ?_
     have hy2:OwnS 9 1 (.slice y.p (y.ln.figs.set sj f).length y.c) (y.ln.figs.set sj f).length (jaC (y.ln.figs.set sj f)) [⟨true,bf,.cells (jaC (y.ln.figs.set sj f)++junkf).toArray 9 (0,0)⟩]:=by
      rw [hyp,hyc];exact E56
     have hnew:=hset ⟨⟨y.ln.lat,y.ln.figs.set sj f⟩,y.p,y.c⟩ _ hy2
     have hHalf:HalfO (.slice (some ⟨bl,0,none⟩) nw c27) nw (hL (jat b c f) 0) ([⟨true,bl,.cells (jaC lps++junk).toArray 121 (0,0)⟩]++(M1f++[⟨true,bf,.cells (jaC (y.ln.figs.set sj f)++junkf).toArray 9 (0,0)⟩]++M2f)):=by
      refine ⟨_,_,_,_,_,rfl,?_,?_,hnew,rfl⟩
      ·rw [jqg zO hbe,show c.line.toNat=li by omega,show c.st.toNat=sj by omega];have:=jiL hmap hlL (k:=sj) f y.p y.c
       rw [←hy] at this
       exact this
      ·rw [jdZ hlL (by rw [←hy];simp [lpL])];exact how
     refine m.weak (h':=h++[⟨true,q3,.cells [.int .i64 b.wrong,.slice p14 ns c14,.slice (some ⟨bl,0,none⟩) nw c27,.slice pb nb cb].toArray 25 (0,0)⟩,⟨true,q4,.cells [.bool c.butt,.int .i64 c.line,.int .i64 c.st].toArray 37 (0,0)⟩,⟨true,q6,.cells [.int .i64 0,.slice none 0 0,.slice none 0 0,.slice none 0 0].toArray 25 (0,0)⟩]++n14++([⟨true,bl,.cells (jaC lps++junk).toArray 121 (0,0)⟩]++(M1f++[⟨true,bf,.cells (jaC (y.ln.figs.set sj f)++junkf).toArray 9 (0,0)⟩]++M2f))) (jiE _ _ _ _) ?_
     exact E58
    ·refine Z8 ?_
     have hHalf:HalfO (.slice p27 nw c27) nw (hL (jat b c f) 0) (W++FM):=⟨lps,p27,c27,W,FM,rfl,by rw [jt2 zO (fun e=>hbt e.symm)];exact hmap,how,hof,rfl⟩
     refine m.weak (h':=h++[⟨true,q3,.cells [.int .i64 b.wrong,.slice p14 ns c14,.slice p27 nw c27,.slice pb nb cb].toArray 25 (0,0)⟩,⟨true,q4,.cells [.bool c.butt,.int .i64 c.line,.int .i64 c.st].toArray 37 (0,0)⟩,⟨true,q6,.cells [.int .i64 0,.slice none 0 0,.slice none 0 0,.slice none 0 0].toArray 25 (0,0)⟩]++n14++(W++FM)) (jiE _ _ _ _) ?_
     exact E58
 ·refine Z5 ?_
  obtain rfl:i=2:=by omega
  obtain ⟨_,_,hw1,hwr⟩:=(hz2 zO).rd (B:=B)
  cases hw1
  obtain ⟨_,_,hb1,hbr⟩:=(hz3 zO).rd (B:=B)
  cases hb1
  refine Z2 ?_;refine D6 ?_;refine Z2 ?_;refine jad (h++n14++M0++M1) rfl Tryz.func112 rfl jab ?_;refine Zs ?_
  exact ⟨n14++M0++M1,p14,c14,wp,wc,bp,bc,by simp only [List.append_assoc],by rw [tbV,tbL,setF_wrong],⟨by rw [jbF];exact r14.keeps (List.Sublist.trans (List.sublist_append_left _ _) (List.sublist_append_left _ _)),hc14,by omega,hwr.keeps (List.Sublist.trans (List.sublist_append_right _ _) (List.sublist_append_left _ _)),by omega,hbr.keeps (List.sublist_append_right _ _),by omega,jjk rd.sm hf⟩⟩
end
section
variable [LaidO B]
def jhA (b:Tb) (c:Ce) (f:Str):Int:=if tbS b≠0 then tbS b else if c∉jaa b then 6 else if ja6 f=false then 3 else 0
def jqH (b:Tb) (c:Ce) (f:Str):List Int:=if jhA b c f=0 then jal (jbo b c) else [0,0,0]
def jrn (b:Tb) (c:Ce) (f:Str):List Int:=if jhA b c f=0 then jal f else [0,0,0]
theorem jn1 {c:Ce} (h:jhA b c f=0):tbS b=0∧c∈jaa b∧ja6 f=true:=by
 unfold jhA at h
 split at h
 ·contradiction
 ·rename_i h1
  split at h
  ·cases h
  ·rename_i h2
   split at h
   ·cases h
   ·rename_i h3
    exact ⟨Classical.not_not.1 h1,Classical.not_not.1 h2,by simpa using h3⟩
abbrev zeroL:List Value:=[.int .i64 0,.slice none 0 0,.slice none 0 0,.slice none 0 0]
def jrX (B:Array Obj) (s:Int) (b:Tb) (new:Hp) (v:Value):Prop:= ∃x0 y1 z1 w1 y2 z2 w2 y3 z3 w3,v= .tuple [.agg [Value.int .i64 x0,.slice y1 z1 w1,.slice y2 z2 w2,.slice y3 z3 w3].toArray,.int .i64 s].toArray∧(s≠0→[Value.int .i64 x0,.slice y1 z1 w1,.slice y2 z2 w2,.slice y3 z3 w3]=zeroL)∧(s=0→ ∃ps ns ks pw nw cw pb nb cb,[Value.int .i64 x0,.slice y1 z1 w1,.slice y2 z2 w2,.slice y3 z3 w3]=tbL b ps ns ks pw nw cw pb nb cb∧RawTb B new b ps ns ks pw nw cw pb nb cb)
theorem ji6 {s:Int} (h:s≠0):jrX B s b [] (.tuple [.agg zeroL.toArray,.int .i64 s].toArray):=⟨_,_,_,_,_,_,_,_,_,_,rfl,fun _=>rfl,fun e=>absurd e h⟩
theorem jiD {p o:List Int} (hp:PtOk p) (ho:PtOk o):PtOk (jba p o):=by
 have e: ∀j,j<3→(jba p o).getD j 0=if p.getD j 0= -1 then o.getD j 0 else p.getD j 0:=fun j hj=>by
  rw [jba,List.getD_eq_getElem?_getD,List.getElem?_map,List.getElem?_range hj];rfl
 refine ⟨by simp [jba],fun j=>?_,fun j hj=>?_⟩
 ·by_cases hj:j<3
  ·rw [e j hj];split
   ·exact ho.lo j
   ·exact hp.lo j
  ·rw [List.getD_eq_getElem?_getD,List.getElem?_eq_none (by simp [jba];omega)];decide
 ·rw [e j hj];split
  ·exact ho.hi j hj
  ·exact hp.hi j hj
theorem digS_le (n:Nat):(jdj n).length≤2:=by unfold jdj;split<;>simp
theorem jbW (x:Int):(jaG x).length≤2:=by unfold jaG;split;simp;exact digS_le _
theorem jpt {v:List Int} (h:v.length=3):(jcJ v).length≤8:=by
 match v,h with
 |[a,b,c],_=>
  have h1:=jbW a
  have h2:=jbW b
  have h3:=jbW c
  simp [jcJ,jl9]
  omega
def jeC (b:Tb) (c:Ce) (f:Str):List Int:=jba (jqH b c f) (jrn b c f)
def jgE (b:Tb) (c:Ce) (f:Str):Int:=if jhA b c f≠0 then jhA b c f else if jba (jrn b c f) (jqH b c f)≠jeC b c f then 9 else jaJ (jat b c (jcJ (jeC b c f))) 0
def putS (b:Tb) (c:Ce) (f:Str):Int:=if jhA b c f≠0 then jhA b c f else jaJ (jat b c f) 0
theorem callB161:jcF Tryz.prog 161=true:=by kernel_rfl
theorem lp_get2 (h:lps.map (·.ln)=ls) (k:Nat):(lps.getD k default).ln=ls.getD k default:=by
 subst h
 rw [List.getD_eq_getElem?_getD,List.getD_eq_getElem?_getD,List.getElem?_map];cases lps[k]?<;>rfl
theorem figT_sm (h:TbSm b) (c:Ce):(jbo b c).length≤100000:=by
 have gen: ∀ls:List Ln,(∀l∈ls,l.figs.length≤1000∧ ∀f∈l.figs,f.length≤100000)→ ∀i j,((ls.getD i default).figs.getD j []).length≤100000:=fun ls hl i j=>by
  by_cases hi:i<ls.length
  ·by_cases hj:j<(ls.getD i default).figs.length
   ·exact (hl _ (jah hi)).2 _ (jah (l:=(ls.getD i default).figs) hj)
   ·rw [List.getD_eq_getElem?_getD (l:=(ls.getD i default).figs),List.getElem?_eq_none zO];simp
  ·rw [List.getD_eq_getElem?_getD (l:=ls),List.getElem?_eq_none zO];simp [default,instInhabitedLn.default]
 unfold jbo jaT jap
 split
 ·exact gen _ h.but _ _
 ·exact gen _ h.wat _ _
theorem f109_c (m:Md Tryz.prog B) (h:Hp) (ra:RawTb B h b ps ns ks pw nw cw pb nb cb) (c:Ce) (f:Str) (hf:f.length≤100000):FnC m 109 #[tbV b ps ns ks pw nw cw pb nb cb,cV c.butt c.line c.st,str f] h fun v h'=>h'=h∧v= .tuple [.agg (jaI (jqH b c f)).toArray,.agg (jaI (jrn b c f)).toArray,.int .i64 (jhA b c f)].toArray:=by
 refine jaf Tryz.func109 rfl rfl (l:=(tbV b ps ns ks pw nw cw pb nb cb)::(cV c.butt c.line c.st)::(str f)::uu58) rfl ?_
 intro cf cs K hK
 refine Z2 ?_
 refine jaX rfl zq (fun q3=>jau (jae ?_));refine jaX rfl zq (fun q4=>jau (jae ?_));refine jax rfl zq (fun q6=>jau (jae ?_));refine jax rfl zq (fun q7=>jau (jae ?_));refine Z6 ?_;refine D53 ?_
 rintro v rfl;refine Z6 ?_
 refine jbK rfl zq (fun hc=>?_) (fun hc=>?_)
 ·refine Z4 ?_;refine D49 ?_;refine D49 ?_;refine Zs ?_;refine D6 ?_;refine jhx ?_;refine D118 ?_;refine Zs ?_
  have eb:jhA b c f=tbS b:=by rw [jhA,if_pos hc]
  exact ⟨rfl,by rw [jqH,jrn,eb,if_neg hc,if_neg hc];rfl⟩
 ·refine Z5 ?_
  have hz0:tbS b=0:=by omega
  have hk:=jaN.1 hz0
  refine jb3 [0,1,2,3,4,5] zK zK (List.Sublist.refl _) ?_;refine DrawT.leaf [Zr 0,Zr 2,Zk 1,Zk 3,Zk 4,Zp 5] zK ?_;refine Z2 ?_;refine D7 ?_;rintro v nz ⟨qs,rfl,rfl⟩;refine jaH (jae ?_);refine D18 ?_
  rintro v n9 ⟨q9,rfl,sh⟩;refine jaH (jae ?_);refine jgt (Post:=fun v=>v= .int .i64 (jdv b c)) rfl zq jmr (fun H' hH=>by
   have hs9:n9.Sublist H':=List.Sublist.trans zW hH
   simpa [jdv] using f149_c m H' (sh.keeps hs9) (c:=c) (RdN.keepsN (jlM (q:=qs)) hH)) ?_
  rintro v rfl;refine Z6 ?_
  refine jbK rfl zq (fun hc=>?_) (fun hc=>?_)
  ·refine Z4 ?_;refine D49 ?_;refine D49 ?_;refine Zs ?_;refine D6 ?_;refine jhx ?_;refine D118 ?_;refine Zs ?_
   have hno:c∉jaa b:=fun e=>by
    have hcc:=hc
    rw [jdv,if_pos e] at hcc
    exact hcc rfl
   have e6:jhA b c f=6:=by rw [jhA,if_neg (fun e=>e hz0),if_pos hno]
   exact ⟨rfl,by rw [jqH,jrn,e6,jdv,if_neg hno];rfl⟩
  ·refine Z6 ?_;refine jag (Post:=fun v=>v=_) rfl zq zK (fun H' hH=>f119_c m H' _ hf) ?_
   rintro v rfl;refine Z4 ?_;refine D55 ?_;refine Z4 ?_
   cases hfo:ja6 f
   refine Z7 ?_;refine D49 ?_;refine D49 ?_;refine D6 ?_
   haveI hsz:SetSeg (jaI (jal f)) 0 [.int .i64 0,.int .i64 0,.int .i64 0] [.int .i64 0,.int .i64 0,.int .i64 0]:=jkP (by rw [List.length_map,(jbi f).len];rfl)
   refine jhx ?_;refine D118 ?_;refine Zs ?_
   rotate_left
   refine Z7 ?_
   all_goals
    have hin:c∈jaa b:=Classical.byContradiction fun e=>by
     have hcc:=hc
     rw [jdv,if_neg e] at hcc
     omega
    have hht:=(jaA hin).1
   ·have hce:=jbk.1 hht
    obtain ⟨li,hli⟩:=Int.eq_ofNat_of_zero_le hce.1
    obtain ⟨sj,hsj⟩:=Int.eq_ofNat_of_zero_le hce.2.2.1
    have hf2:(jbo b c).length≤100000:=figT_sm ra.sm c
    have rd:=ra.rd hk
    have hsl:=rd.sl
    have e0:jhA b c f=0:=by rw [jhA,if_neg (fun e=>e hz0),if_neg (fun e=>e hin),if_neg (by rw [hfo];simp)]
    refine Z11 ?_
    refine jcS (fun hc=>?_) (fun hc=>?_);first|replace hc:=of_decide_eq_true hc|replace hc:=of_decide_eq_false hc|skip
    refine Z5 ?_
    rotate_left
    first|replace hc:=of_decide_eq_true hc|replace hc:=of_decide_eq_false hc|skip
    refine Zs ?_
    all_goals
     refine Zs ?_;refine jar [Zp 0,Zp 1,Zp 6,Zr 2,Zp 3,Zp 4,Zr 5,Zr 7,Zp 8,Zr 9,Zk 10,Zp 11,Zp 12,Zp 13,Zf 14] zK zK (List.Sublist.refl _) ?_
     have hlines: ∃p n c',RdLn B h (.slice p n c') n (jap b c.butt)∧n≤1000∧(c.butt=true→p=pb∧n=nb∧c'=cb)∧(c.butt=false→p=pw∧n=nw∧c'=cw):=by
      cases hcb:c.butt with
      |true=>exact ⟨pb,nb,cb,ra.u,ra.un,fun _=>⟨rfl,rfl,rfl⟩,by intro e;cases e⟩
      |false=>exact ⟨pw,nw,cw,ra.w,ra.wn,(by intro e;cases e),fun _=>⟨rfl,rfl,rfl⟩⟩
     obtain ⟨pl,nl,cl,hln,hnl,hl1,hl2⟩:=hlines
     obtain ⟨lps,hle,rl,hfig⟩:=hln
     have hll:=rl.elen zA
     have hlen:(jap b c.butt).length=nl:=by rw [←hle,List.length_map,hll]
     have hlx:li<nl:=by omega
     obtain ⟨x,hx⟩: ∃x,x=lps.getD li default:=⟨_,rfl⟩
     have hxm:x∈lps:=hx▸jah zO
     obtain ⟨hxc,rdf0⟩:=hfig x hxm
     have hxl:x.ln=jaT b c:=by rw [hx,lp_get2 hle,jaT,show c.line.toNat=li by omega]
     have hxf:x.ln.figs.length=ns:=by rw [hxl,((hk.lines c.butt).ok _ (jbz hht)).len,hsl]
     have hfg:jbo b c=x.ln.figs.getD sj []:=by rw [jbo,←hxl,show c.st.toNat=sj by omega]
     obtain ⟨rlb,rlo,hrlp⟩:=rl.ptr zO
     have rdf:=rdf0 zO
     obtain ⟨rfb,rfo,hrfp⟩:=rdf.ptr zO
     have rl':=rl
     rw [hrlp] at rl'
     have rdf':=rdf
     rw [hrfp] at rdf'
     first
      |(have hq:=hl1 hc;obtain ⟨rfl,rfl,rfl⟩:=hq)
      |(have hq:=hl2 hc;obtain ⟨rfl,rfl,rfl⟩:=hq)
     refine Z4 ?_;refine jcq rfl zq hrlp zO zO ?_;refine Zs ?_;refine jaW (v:= .slice x.p x.ln.figs.length x.c) rfl zq (hx▸rl'.fat li 1 zO zO rfl) ?_;refine Zs ?_;refine jcq rfl zq hrfp zO zO ?_;refine jaW rfl zq (rdf'.sat sj zO zO) ?_
     rw [←hfg];refine jag (Post:=fun v=>v= .tuple [.agg (jaI (jal (jbo b c))).toArray,.bool (ja6 (jbo b c))].toArray) rfl zq zK (fun H' hH=>f119_c m H' _ hf2) ?_;rintro v rfl;refine Z4 ?_;refine D55 ?_;refine Z2 ?_
     haveI hs1:Seg (jaI (jal f)) 0 3 (jaI (jal f)):=seg_all (by rw [List.length_map,(jbi f).len])
     haveI hs2:Seg (jaI (jal (jbo b c))) 0 3 (jaI (jal (jbo b c))):=seg_all (by rw [List.length_map,(jbi (jbo b c)).len])
     refine jar (S:=[⟨true,q7,.cells (jaI (jal f)).toArray 145 (0,0)⟩]) [Zr 1,Zk 0,Zk 2,Zf 3,Zp 4] zK zK SubH.sub ?_;refine D40 ?_;refine D40 ?_;refine jfq rfl zq (jbi _).len (by rw [List.length_map,(jbi _).len]) ?_;refine jfq rfl zq (jbi _).len (by rw [List.length_map,(jbi _).len]) ?_;refine Z3 ?_;refine D118 ?_;refine Zs ?_;exact ⟨rfl,by rw [jqH,jrn,e0];rfl⟩
   ·have e3:jhA b c f=3:=by rw [jhA,if_neg (fun e=>e hz0),if_neg (fun e=>e hin),if_pos hfo]
    exact ⟨rfl,by rw [jqH,jrn,e3];rfl⟩
end
section
variable [LaidO B]
theorem jfy (b:Tb) (c:Ce) (f:Str):PtOk (jqH b c f):=by unfold jqH;split;exact jbi _;exact PtOk.zero
theorem jfM (b:Tb) (c:Ce) (f:Str):PtOk (jrn b c f):=by unfold jrn;split;exact jbi _;exact PtOk.zero
theorem f111_c (m:Md Tryz.prog B) (h:Hp) (ra:RawTb B h b ps ns ks pw nw cw pb nb cb):FnC m 111 #[tbV b ps ns ks pw nw cw pb nb cb] h fun v h'=>h'=h∧ ∃x0 y1 z1 w1 y2 z2 w2 y3 z3 w3,v= .tuple [.agg [Value.int .i64 x0,.slice y1 z1 w1,.slice y2 z2 w2,.slice y3 z3 w3].toArray,.int .i64 (jaJ b 0)].toArray∧(jaJ b 0≠0→[Value.int .i64 x0,.slice y1 z1 w1,.slice y2 z2 w2,.slice y3 z3 w3]=zeroL)∧(jaJ b 0=0→[Value.int .i64 x0,.slice y1 z1 w1,.slice y2 z2 w2,.slice y3 z3 w3]=(tbL b ps ns ks pw nw cw pb nb cb)):=by
 refine jaf Tryz.func111 rfl rfl (l:=(tbV b ps ns ks pw nw cw pb nb cb)::uu15) rfl ?_
 intro cf cs K hK
 refine Z2 ?_
 refine jaX rfl zq (fun q1=>jau (jae ?_));refine jax rfl zq (fun q2=>jau (jae ?_));refine Z6 ?_;refine jaD rfl zq zK (Post:=fun v nz=>jic B b (tbL b ps ns ks pw nw cw pb nb cb) (jaJ b 0) nz v) (fun H' hH=>f88_c m H' (ra.keeps (sq hH)) callB161 (fun hk K q hKs hs=>by simpa using f161_c m K _)) ?_
 rintro v n8 ⟨qp,p8,m8,c8,rfl,hz⟩;refine jaH (jae ?_);refine Z3 ?_
 refine jax rfl zq (fun q4=>jau (jae ?_));refine D6 ?_;refine Z5 ?_
 refine jbK rfl zq (fun hc=>?_) (fun hc=>?_);refine Z4 ?_;refine D37 ?_;refine Zs ?_
 rotate_left
 refine Z6 ?_
 all_goals
  refine jhx ?_;refine jad (h) rfl Tryz.func111 rfl jab ?_;refine Zs ?_
 ·have hz0:jaJ b 0=0:=by omega
  exact ⟨rfl,_,_,_,_,_,_,_,_,_,_,by rw [hz0],fun e=>absurd hz0 e,fun _=>rfl⟩
 ·exact ⟨rfl,_,_,_,_,_,_,_,_,_,_,rfl,fun _=>rfl,fun e=>absurd e zD⟩
theorem f60_c (m:Md Tryz.prog B) (h:Hp) (ra:RawTb B h b ps ns ks pw nw cw pb nb cb) (c:Ce) (f:Str) (hf:f.length≤100000):FnC m 60 #[tbV b ps ns ks pw nw cw pb nb cb,cV c.butt c.line c.st,str f] h fun v h'=> ∃new,h'=h++new∧jrX B (putS b c f) (jat b c f) new v:=by
 refine jaf Tryz.func60 rfl rfl (l:=(tbV b ps ns ks pw nw cw pb nb cb)::(cV c.butt c.line c.st)::(str f)::uu27) rfl ?_
 intro cf cs K hK
 refine Z2 ?_
 refine jaX rfl zq (fun q3=>jau (jae ?_));refine jaX rfl zq (fun q4=>jau (jae ?_));refine jax rfl zq (fun q6=>jau (jae ?_));refine Z4 ?_;refine rr13 ?_;refine Z3 ?_;refine D52 ?_
 rintro v rfl;refine Z4 ?_;refine jnJ rfl zq ?_
 refine jax rfl zq (fun q8=>jau (jae ?_));refine jax rfl zq (fun q9=>jau (jae ?_));refine D135 ?_;refine Z5 ?_
 refine jbK rfl zq (fun hc=>?_) (fun hc=>?_)
 ·refine Z4 ?_;refine D37 ?_;refine Zs ?_;refine jhx ?_;refine jad (h) rfl Tryz.func60 rfl jab ?_;refine Zs ?_
  have e1:putS b c f=jhA b c f:=by rw [putS,if_pos hc]
  exact ⟨[],by simp,by rw [e1];exact ji6 hc⟩
 ·refine Z4 ?_
  have ef:jhA b c f=0:=by omega
  obtain ⟨hz0,hin,hfo⟩:=jn1 ef
  have hk:=jaN.1 hz0
  have hht:=(jaA hin).1
  have rd:=ra.rd hk
  have e0:putS b c f=jaJ (jat b c f) 0:=by rw [putS,if_neg (fun e=>e ef)]
  refine Z4 ?_;refine jaD rfl zq zK (Post:=fun v nz=> ∃ps' ks' pw' cw' pb' cb',v=tbV (jat b c f) ps' ns ks' pw' nw cw' pb' nb cb'∧RawTb B nz (jat b c f) ps' ns ks' pw' nw cw' pb' nb cb') (fun H' hH=>CallF.mono (f112_c m H' (rd.keeps (sq hH)) hht f hf) fun v h' ⟨nz,p1,k1,p2,k2,p3,k3,e1,e2,e3⟩=>⟨nz,e1,p1,k1,p2,k2,p3,k3,e2,e3⟩) ?_
  rintro v n37 ⟨p1,k1,p2,k2,p3,k3,rfl,ra2⟩;refine jaH (jae ?_);refine jag (Post:=fun v=> ∃x0 y1 z1 w1 y2 z2 w2 y3 z3 w3,v= .tuple [.agg [Value.int .i64 x0,.slice y1 z1 w1,.slice y2 z2 w2,.slice y3 z3 w3].toArray,.int .i64 (jaJ (jat b c f) 0)].toArray∧(jaJ (jat b c f) 0≠0→[Value.int .i64 x0,.slice y1 z1 w1,.slice y2 z2 w2,.slice y3 z3 w3]=zeroL)∧(jaJ (jat b c f) 0=0→[Value.int .i64 x0,.slice y1 z1 w1,.slice y2 z2 w2,.slice y3 z3 w3]=tbL (jat b c f) p1 ns k1 p2 nw k2 p3 nb k3)) rfl zq zK (fun H' hH=>f111_c m H' (ra2.keeps (List.Sublist.trans (List.sublist_append_right _ _) hH))) ?_;rintro v ⟨x0,y1,z1,w1,y2,z2,w2,y3,z3,w3,rfl,ha1,ha2⟩;refine Z3 ?_;refine jhx ?_;refine jad (h++n37) rfl Tryz.func60 rfl jab ?_;refine Zs ?_
  exact E59
theorem f53_c (m:Md Tryz.prog B) (h:Hp) (ra:RawTb B h b ps ns ks pw nw cw pb nb cb) (c:Ce) (f:Str) (hf:f.length≤100000):FnC m 53 #[tbV b ps ns ks pw nw cw pb nb cb,cV c.butt c.line c.st,str f] h fun v h'=> ∃new,h'=h++new∧jrX B (jgE b c f) (jat b c (jcJ (jeC b c f))) new v:=by
 refine jaf Tryz.func53 rfl rfl (l:=(tbV b ps ns ks pw nw cw pb nb cb)::(cV c.butt c.line c.st)::(str f)::uu38) rfl ?_
 intro cf cs K hK
 refine Z2 ?_
 refine jaX rfl zq (fun q3=>jau (jae ?_));refine jaX rfl zq (fun q4=>jau (jae ?_));refine jax rfl zq (fun q6=>jau (jae ?_));refine Z3 ?_;refine rr13 ?_;refine Z3 ?_;refine D52 ?_
 rintro v rfl;refine Z4 ?_;refine jnJ rfl zq ?_
 refine jax rfl zq (fun q8=>jau (jae ?_));refine jax rfl zq (fun q9=>jau (jae ?_));refine D135 ?_;refine Z6 ?_
 refine jbK rfl zq (fun hc=>?_) (fun hc=>?_)
 ·refine Z4 ?_;refine D37 ?_;refine Zs ?_;refine jhx ?_;refine jad (h) rfl Tryz.func53 rfl jab ?_;refine Zs ?_
  have e1:jgE b c f=jhA b c f:=by rw [jgE,if_pos hc]
  exact ⟨[],by simp,by rw [e1];exact ji6 hc⟩
 ·refine Z4 ?_
  have ef:jhA b c f=0:=by omega
  obtain ⟨hz0,hin,hfo⟩:=jn1 ef
  have hk:=jaN.1 hz0
  have hht:=(jaA hin).1
  have rd:=ra.rd hk
  have hbo:PtOk (jeC b c f):=jiD (jfy b c f) (jfM b c f)
  refine Zs ?_;refine jdR rfl zq (jfy b c f).len ?_;refine jdR rfl zq (jfM b c f).len ?_;refine jag (Post:=fun v=>v= .agg (jaI (jeC b c f)).toArray) rfl zq zK (fun H' hH=>f110_c m H' (jfy b c f).len (jfM b c f).len) ?_
  rintro v rfl;refine Zs ?_
  refine jax rfl zq (fun q11=>jau (jae ?_));refine jfq rfl zq hbo.len (by rw [hbo.len];rfl) ?_;refine Z3 ?_;refine D102 ?_;refine jdR rfl zq (jfM b c f).len ?_;refine jdR rfl zq (jfy b c f).len ?_;refine jdR rfl zq hbo.len ?_;refine jag (Post:=fun v=>v= .agg (jaI (jba (jrn b c f) (jqH b c f))).toArray) rfl zq zK (fun H' hH=>f110_c m H' (jfM b c f).len (jfy b c f).len) ?_;rintro v rfl;refine Zs ?_
  refine k_neqA3 rfl zq zK zK (jiD (jfM b c f) (jfy b c f)).len hbo.len (fun hne=>?_) (fun hne=>?_)
  ·refine Z4 ?_;refine D37 ?_;refine jhx ?_;refine jad (h) rfl Tryz.func53 rfl jab ?_;refine Zs ?_
   have e1:jgE b c f=9:=by rw [jgE,if_neg (fun e=>e ef),if_pos hne]
   exact ⟨[],by simp,by rw [e1];exact ji6 zA⟩
  ·refine Z4 ?_
   have e0:jgE b c f=jaJ (jat b c (jcJ (jeC b c f))) 0:=by rw [jgE,if_neg (fun e=>e ef),if_neg (fun e=>e hne)]
   refine jar [Zr 0,Zr 1,Zr 2,Zk 3,Zk 4,Zk 5,Zp 6,Zp 7,Zf 8,Zp 9] zK zK (List.Sublist.refl _) ?_;refine Z2 ?_;refine jdR rfl zq hbo.len ?_;refine jag (Post:=fun v=>v=str (jcJ (jeC b c f))) rfl zq zK (fun H' hH=>f113_c m H' hbo) ?_;rintro v rfl;refine Zs ?_;refine jaD rfl zq zK (Post:=fun v nz=> ∃ps' ks' pw' cw' pb' cb',v=tbV (jat b c (jcJ (jeC b c f))) ps' ns ks' pw' nw cw' pb' nb cb'∧RawTb B nz (jat b c (jcJ (jeC b c f))) ps' ns ks' pw' nw cw' pb' nb cb') (fun H' hH=>CallF.mono (f112_c m H' (rd.keeps (sq hH)) hht (jcJ (jeC b c f)) (Nat.le_trans (jpt hbo.len) zO)) fun v h' ⟨nz,p1,k1,p2,k2,p3,k3,e1,e2,e3⟩=>⟨nz,e1,p1,k1,p2,k2,p3,k3,e2,e3⟩) ?_
   rintro v n37 ⟨p1,k1,p2,k2,p3,k3,rfl,ra2⟩;refine jaH (jae ?_);refine jag (Post:=fun v=> ∃x0 y1 z1 w1 y2 z2 w2 y3 z3 w3,v= .tuple [.agg [Value.int .i64 x0,.slice y1 z1 w1,.slice y2 z2 w2,.slice y3 z3 w3].toArray,.int .i64 (jaJ (jat b c (jcJ (jeC b c f))) 0)].toArray∧(jaJ (jat b c (jcJ (jeC b c f))) 0≠0→[Value.int .i64 x0,.slice y1 z1 w1,.slice y2 z2 w2,.slice y3 z3 w3]=zeroL)∧(jaJ (jat b c (jcJ (jeC b c f))) 0=0→[Value.int .i64 x0,.slice y1 z1 w1,.slice y2 z2 w2,.slice y3 z3 w3]=tbL (jat b c (jcJ (jeC b c f))) p1 ns k1 p2 nw k2 p3 nb k3)) rfl zq zK (fun H' hH=>f111_c m H' (ra2.keeps (List.Sublist.trans (List.sublist_append_right _ _) hH))) ?_;rintro v ⟨x0,y1,z1,w1,y2,z2,w2,y3,z3,w3,rfl,ha1,ha2⟩;refine Z3 ?_;refine jhx ?_;refine jad (h++n37) rfl Tryz.func53 rfl jab ?_;refine Zs ?_
   exact E59
end
end Go.Proofs
namespace Go.Proofs
open Go.Lo
open Go.Conc (G dcall)
section
variable {C:Crew} {Y:SyC Tryz.prog B C.pro} {kn r:Nat} {z:Bool}
theorem k_putQ {D:Nat} {b:Frame} {k:List Item} [p:PutV l d v l'] (n:(Im.quit Tryz.prog D).R (Gr b l' ds k cs)):(Im.quit Tryz.prog D).R (Gr b (put l d v) ds k cs):=by rw [p.eq];exact n
theorem addW_c (hM:C.n≤4100) (hz:C.hit kn=true→z=true) {c:Frame} (hq:(Im.quit Tryz.prog 0).R (G (c.finish (.tuple #[])) cs)):
  ((SyC.kid Tryz.prog B C.pro i).im 0 (.w kn .on z) h).R (G (Frame.enter Tryz.prog 153 [.pointer (some ⟨C.wg,0,none⟩),.int .i64 (-1)].toArray .normal) (c::cs)):=by
 refine jfS Tryz.func153 rfl rfl (l:=(.pointer (some ⟨C.wg,0,none⟩))::(.int .i64 (-1))::uu115) rfl ?_;refine Z6 ?_;refine jc6 (v:= .bool true) rfl zq zA (jp0 zA) ?_;refine Z4 ?_;refine D112 ?_;refine y_bye hz extMerge rfl zq ?_;refine Z3 ?_;refine jiW jh0 rfl zq ?_;refine Z2 ?_;refine jo2 (args:=[]) rfl zq rfl zA ?_;refine Z8 ?_;refine i_ext jn4 rfl zq rfl ?_;refine Z9 ?_;refine jfT (n':=18446744073709551615) rfl zq zK zA ?_;refine jhW (v:= .int .u64 18446744069414584320) rfl zq (.inl rfl) (op_shl zA zA) ?_;refine D103 ?_;refine jfS Tryz.func199 rfl rfl (l:=(.pointer (some ⟨C.wg,0,none⟩))::(.int .u64 18446744069414584320)::uu8) rfl ?_;refine Z10 ?_;refine y_wgSub zO hM hz jqn rfl zq (fun v wt hv70 hwt hvw=>?_) (jeR ?_)
 ·show (Im.quit Tryz.prog 1).R _
  refine k_putQ ?_;refine Z3 ?_;refine jdx rfl Tryz.func199 (jcj rfl) ?_;refine jhX rfl ?_;refine Z6 ?_;refine jc6 (v:= .int .u64 0) rfl zq zA (jgs ((jdD v wt hv70 hwt).flag)) ?_;refine D22 ?_;refine Z10 ?_;refine jhW (v:= .int .u64 (v:Int)) rfl zq (.inr rfl) (jpZ zA (jdD v wt hv70 hwt).hi) ?_;refine jfT rfl zq zK (jdD v wt hv70 hwt).hi32 ?_;refine Z5 ?_;refine jc6 (v:= .int .u64 (wt:Int)) rfl zq zA (jgs ((jdD v wt hv70 hwt).lo)) ?_;refine jfT rfl zq zK (jdD v wt hv70 hwt).lo32 ?_;refine Z6 ?_;refine jr0 rfl rfl ?_;refine D90 ?_;refine D87 ?_;refine Z13 ?_;refine D100 ?_;refine Z5 ?_;rcases (by omega:wt=0∨(wt=1∧0<v)) with rfl|⟨rfl,hv0⟩
  ·refine Z2 ?_;refine D22 ?_;refine Z17 ?_;refine jc6 (v:= .bool (decide ((v:Int)>0))) rfl zq zA (jnt rfl) ?_
   by_cases hv0:0<v
   ·rw [decide_eq_true (show (v:Int)>0 by omega)];refine Z3 ?_;refine D87 ?_;refine Z3 ?_;refine jdt rfl jdA ?_;refine D81 ?_
    exact hq
   ·rw [decide_eq_false (show¬(v:Int)>0 by omega)];refine Zs ?_;refine jr0 rfl rfl ?_;refine jc6 (v:= .bool true) rfl rfl zA (jik zA) ?_;refine Z4 ?_;refine jdt rfl jdA ?_;refine D81 ?_
    exact hq
  ·refine Z2 ?_;refine D111 ?_;refine Zs ?_;refine jr0 rfl rfl ?_;refine D90 ?_;refine D87 ?_;refine Z13 ?_;refine D101 ?_;refine Z3 ?_;refine D87 ?_;refine Z3 ?_;refine jdt rfl jdA ?_;refine D81 ?_
   exact hq
 ·refine Z3 ?_;refine jdx rfl Tryz.func199 (jcj rfl) ?_;refine jhX rfl ?_;refine Z6 ?_;refine jc6 (v:= .int .u64 0) rfl zq zA (jgs ((jdD 0 1 zO zO).flag)) ?_;refine D22 ?_;refine Z10 ?_;refine jhW (v:= .int .u64 0) rfl zq (.inr rfl) (jpZ zA (jdD 0 1 zO zO).hi) ?_;refine jfT rfl zq zK (jdD 0 1 zO zO).hi32 ?_;refine Z5 ?_;refine jc6 (v:= .int .u64 1) rfl zq zA (jgs ((jdD 0 1 zO zO).lo)) ?_;refine jfT rfl zq zK (jdD 0 1 zO zO).lo32 ?_;refine Z6 ?_;refine jr0 rfl rfl ?_;refine D90 ?_;refine D87 ?_;refine Z13 ?_;refine jc6 (v:= .bool false) rfl zq zA (jp0 zA) ?_;refine Z7 ?_;refine D111 ?_;refine Zs ?_;refine jr0 rfl rfl ?_;refine D90 ?_;refine D87 ?_;refine Z13 ?_;refine jc6 (v:= .bool false) rfl zq zA (jnt zA) ?_;refine Zs ?_;refine jr0 rfl rfl ?_;refine jc6 (v:= .bool false) rfl rfl zA (jik zA) ?_;refine Z10 ?_;refine D103 ?_;refine D98 ?_;refine Z9 ?_
  refine jmC zO hz jj1 rfl zq (jeR ?_)
  refine Z3 ?_;refine D110 ?_;refine jhX rfl ?_;refine Zs ?_;refine D22 ?_;refine Z8 ?_;refine D103 ?_;refine jfS Tryz.func202 rfl rfl (l:=(.pointer (some ⟨C.wg,0,none⟩))::(.int .u64 0)::uu7) rfl ?_;refine Z5 ?_
  refine jlq zO hz jrJ rfl zq (jeR ?_)
  refine Zs ?_;refine jrC rfl ?_;refine jdx rfl Tryz.func202 (jds rfl) ?_;refine jhX rfl ?_;refine Z8 ?_;refine jma ?_;refine i_loop ?_;refine Z4 ?_;refine D111 ?_;refine Z4 ?_;refine jma ?_;refine Z4 ?_;refine jmB extSemG rfl zq ?_
  show (Im.quit Tryz.prog 1).R _
  refine k_putQ ?_;refine Zs ?_;refine jnP ?_;refine Z2 ?_;refine jc6 (v:= .int .u32 0) rfl zq zA (op_sub zA) ?_;refine Z2 ?_;refine jqf ?_;refine Z4 ?_;refine D22 ?_;refine Z2 ?_;refine i_exit rfl ?_;refine jrC rfl ?_;refine jdt rfl jdA ?_;refine D81 ?_;exact hq
theorem juq (hM:C.n≤4100) (hz:C.hit kn=true→z=true) {b:Frame} {todo:List Item} {fn:Func} {kf:Frame} (hk:b.kind= .deferred) (hf: Tryz.prog.funcs[b.fn]?=some fn) (hres:fn.results= #[]) (hkf:kf={(default:Frame) with fn:= Tryz.prog.funcs.size,defers:=[],mode:= .panicking [goexitEntry]}) (hcat:kf.catches Tryz.prog=false):
  ((SyC.kid Tryz.prog B C.pro i).im 0 (.w kn .on z) h).R (jf0 b l [dcall 155 [.pointer (some ⟨C.wg,0,none⟩)].toArray] todo [kf]):=by
 refine i_unwind Tryz.func155 zK rfl rfl (l1:=[.pointer (some ⟨C.wg,0,none⟩),undef,undef,undef]) rfl ?_;refine Z2 ?_;refine i_cal rfl zq zK (addW_c hM hz ?_);refine jhX rfl ?_;refine Zs ?_;refine jrC rfl ?_;refine i_leaveD rfl Tryz.func155 rfl rfl ?_;exact jpQ hk hf hres hkf hcat
theorem addZ_c (h0:Y.i=0) (hM:C.n≤4100) {c:Frame} (hitc:(Y.im 0 (.m r .adds got false) h).R (G (c.finish (.tuple #[])) cs)):
  (Y.im 0 (.m r .idle got false) h).R (G (Frame.enter Tryz.prog 153 [.pointer (some ⟨C.wg,0,none⟩),.int .i64 1].toArray .normal) (c::cs)):=by
 refine jfS Tryz.func153 rfl rfl (l:=(.pointer (some ⟨C.wg,0,none⟩))::(.int .i64 1)::uu115) rfl ?_;refine Z6 ?_;refine jc6 (v:= .bool false) rfl zq zA (jp0 zA) ?_;refine Z5 ?_;refine jiW jh0 rfl zq ?_;refine Z2 ?_;refine jo2 (args:=[]) rfl zq rfl zA ?_;refine Z8 ?_;refine i_ext jn4 rfl zq rfl ?_;refine Z9 ?_;refine jfT (n':=1) rfl zq zK zA ?_;refine jhW (v:= .int .u64 4294967296) rfl zq (.inl rfl) (op_shl zA zA) ?_;refine D103 ?_;refine jfS Tryz.func199 rfl rfl (l:=(.pointer (some ⟨C.wg,0,none⟩))::(.int .u64 4294967296)::uu8) rfl ?_;refine Z10 ?_;refine y_wgAdd h0 hM jqn rfl zq (fun v hv0 hv70=>jeR ?_)
 refine Z3 ?_;refine jdx rfl Tryz.func199 (jcj rfl) ?_;refine jhX rfl ?_;refine Z6 ?_;refine jc6 (v:= .int .u64 0) rfl zq zA (jgs ((jdD v 0 hv70 zO).flag)) ?_;refine D22 ?_;refine Z10 ?_;refine D131 ?_;refine Z5 ?_;refine D134 ?_;refine Z6 ?_;refine jr0 rfl rfl ?_;refine jc6 (v:= .bool true) rfl rfl zA (jnt zA) ?_;refine D87 ?_;refine Zs ?_;refine jr0 rfl rfl ?_;refine jr0 rfl rfl ?_;refine jfT (n':=1) rfl rfl zK zA ?_;refine jc6 (v:= .bool (decide ((v:Int)=1))) rfl rfl zA (jik rfl) ?_
 by_cases hv1:v=1
 ·rw [decide_eq_true (show (v:Int)=1 by omega)];refine D87 ?_;refine Z6 ?_;refine jr3 rfl zq ⟨rfl,.inr rfl⟩ jqI.1 jqI.2.1 jqI.2.2 ?_
  refine y_said (.inl rfl) h0 extRead rfl zq (jeR ?_)
  refine Z5 ?_;refine D100 ?_;refine Z7 ?_;refine D22 ?_;refine Z17 ?_;refine D101 ?_;refine Z3 ?_;refine D87 ?_;refine Z3 ?_;refine jgn rfl jdA ?_;refine D81 ?_
  exact hitc
 ·rw [decide_eq_false (show¬(v:Int)=1 by omega)];refine D87 ?_;refine Z7 ?_;refine D100 ?_;refine Z7 ?_;refine D22 ?_;refine Z17 ?_;refine D101 ?_;refine Z3 ?_;refine D87 ?_;refine Z3 ?_;refine jgn rfl jdA ?_;refine D81 ?_
  exact hitc
theorem waitC_c (hM:C.n≤4100) {kk:Nat} {c:Frame} (hitc:(Y.im 0 (.c .done) h).R (G (c.finish (.tuple #[])) cs)):
  (Y.im 0 (.c (.look kk)) h).R (G (Frame.enter Tryz.prog 158 [.pointer (some ⟨C.wg,0,none⟩)].toArray .normal) (c::cs)):=by
 refine jfS Tryz.func158 rfl rfl (l:=(.pointer (some ⟨C.wg,0,none⟩))::uu83) rfl ?_;refine Z3 ?_;refine jiW jh0 rfl zq ?_;refine Zs ?_;refine jma ?_;refine jr4 (fun nn D' s' h' l'=> ∃kk:Nat,D'=1∧s'= .c (.look kk)∧h=h'∧nn=kk*1∧ ∃U:Nat→Value,l'=((.pointer (some ⟨C.wg,0,none⟩))::vw83 U 1 [])) _ ⟨kk,rfl,rfl,rfl,rfl,exU rfl⟩ ?_;rintro nn _ _ _ _ ⟨kk,rfl,rfl,rfl,rfl,U,rfl⟩ hnext;refine jma ?_;refine Z5 ?_;refine D103 ?_;refine D98 ?_;refine Z9 ?_;refine y_wgLoad hM jj1 rfl zq (jeR ?_) (fun v hv0 hv70=>jeR ?_)
 ·refine Z3 ?_;refine D110 ?_;refine jhX rfl ?_;refine Z5 ?_;refine jhW (v:= .int .u64 0) rfl zq (.inr rfl) (jpZ zA (jdD 0 0 zO zO).hi) ?_;refine jfT rfl zq zK (jdD 0 0 zO zO).hi32 ?_;refine Z5 ?_;refine jc6 (v:= .int .u64 0) rfl zq zA (jgs ((jdD 0 0 zO zO).lo)) ?_;refine jfT rfl zq zK (jdD 0 0 zO zO).lo32 ?_;refine Z6 ?_;refine jc6 (v:= .bool true) rfl zq zA (jik zA) ?_;refine Z6 ?_;refine jpk jdA rfl zq ?_;refine Z3 ?_;refine D112 ?_;refine y_join jlc rfl zq ?_;refine Z5 ?_;refine jc6 (v:= .bool true) rfl zq zA (jik zA) ?_;refine Zs ?_;refine jr0 rfl rfl ?_;refine jc6 (v:= .int .u64 0) rfl rfl zA (jgs ((jdD 0 0 zO zO).flag)) ?_;refine jc6 (v:= .bool false) rfl rfl zA (jtj zA) ?_;refine D87 ?_;refine Z8 ?_;refine jdx rfl Tryz.func158 (jds rfl) ?_
  exact hitc
 ·refine Z3 ?_;refine D110 ?_;refine jhX rfl ?_;refine Z5 ?_;refine D131 ?_;refine Z5 ?_;refine D134 ?_;refine Z6 ?_;refine jc6 (v:= .bool false) rfl zq zA (jik (decide_eq_false zO)) ?_;refine Z10 ?_;refine jc6 (v:= .int .u64 (wgN v 1)) rfl zq zA (op_add ((jdD v 0 hv70 zO).wait)) ?_;refine D103 ?_;refine jfS Tryz.func207 rfl rfl (l:=(.pointer (some ⟨C.wg,0,none⟩))::(.int .u64 (wgN v 0))::(.int .u64 (wgN v 1))::uu10) rfl ?_;refine Z11 ?_
  refine y_wgCas extCas64 rfl zq (jeR ?_) (fun hk=>jeR ?_)
  ·refine Z3 ?_;refine jdx rfl Tryz.func207 (jcj rfl) ?_;refine jhX rfl ?_;refine Z6 ?_;refine jr0 rfl rfl ?_;refine jc6 (v:= .bool true) rfl rfl zA (jik zA) ?_;refine D87 ?_;refine Z6 ?_;refine jr3 rfl zq ⟨rfl,.inr rfl⟩ jqI.1 jqI.2.1 jqI.2.2 ?_
   refine y_saidC (.inr rfl) extWrite rfl zq (jeR ?_)
   refine Z9 ?_;refine jc6 (v:= .int .u64 0) rfl zq zA (jgs ((jdD v 0 hv70 zO).flag)) ?_;refine D22 ?_;refine Z12 ?_
   refine y_wgPark extSemW rfl zq (jeR ?_)
   refine Z6 ?_;refine D103 ?_;refine D98 ?_;refine Z9 ?_
   refine y_wgEnd jj1 rfl zq (jeR ?_)
   refine Z3 ?_;refine D110 ?_;refine jhX rfl ?_;refine D22 ?_;refine Z6 ?_;refine jpk jdA rfl zq ?_;refine Z3 ?_;refine D112 ?_;refine y_join jlc rfl zq ?_;refine Z9 ?_;refine jdx rfl Tryz.func158 (jds rfl) ?_
   exact hitc
  ·refine Z3 ?_;refine jdx rfl Tryz.func207 (jcj rfl) ?_;refine jhX rfl ?_;refine Z3 ?_;refine jnP ?_
   exact hnext _ _ _ _ _ zO ⟨kk-1,rfl,rfl,rfl,rfl,exU rfl⟩
end
end Go.Proofs
namespace Go.Proofs
open Go.Lo
open Go.Conc (G)
section
variable [LaidO B]
theorem jc0: ∀{xs ys:List Int},xs.length=ys.length→(juy xs ys<0↔jbX xs ys=true)
 |[],[],_=>by simp [juy,jbX]
 |[],_::_,h=>by simp at h
 |_::_,[],h=>by simp at h
 |a::r,c::s,h=>by
  have ih:=jc0 (xs:=r) (ys:=s) (by simpa using h)
  unfold juy jbX
  by_cases e:a=c
  ·subst e
   rw [if_neg zO,if_neg zO,if_pos rfl];exact ih
  ·rw [if_neg e,decide_eq_true_iff];by_cases e1:a<c
   ·rw [if_pos e1];exact ⟨fun _=>e1,fun _=>by decide⟩
   ·rw [if_neg e1,if_pos zO];exact ⟨fun h=>by omega,fun h=>absurd h e1⟩
def ltW (xs ys:List Int):Bool:=decide (xs.length<ys.length)||(decide (xs.length=ys.length)&&jbX xs ys)
theorem jjF {xs:List Int}:ltW xs ys=true↔jff xs ys:=by simp [ltW,jff]
def jh8 (a:List Int) (ll:List (List Int)):List Int:=ll.foldl (fun o x=>if ltW x o then x else o) a
theorem jll (a:List Int) (ll:List (List Int)) (k:Nat) (h:k<ll.length):jh8 a (ll.take (k+1))=if ltW (ll.getD k []) (jh8 a (ll.take k)) then ll.getD k [] else jh8 a (ll.take k):=by
 rw [jh8,List.take_add_one,List.getElem?_eq_getElem h,Option.toList_some,List.foldl_append,List.getD_eq_getElem?_getD,List.getElem?_eq_getElem h];rfl
theorem jkh: ∀(ll:List (List Int)) (a:List Int),jh8 a ll∈a::ll∧ ∀x∈a::ll,¬jff x (jh8 a ll)
 |[],a=>⟨by simp [jh8],fun x hx=>by rw [List.mem_singleton.1 hx];exact jn2 _⟩
 |y::r,a=>by
  have e:jh8 a (y::r)=jh8 (if ltW y a then y else a) r:=rfl
  obtain ⟨h1,h2⟩:=jkh r (if ltW y a then y else a)
  rw [e];by_cases hy:ltW y a=true
  ·rw [if_pos hy] at h1 h2⊢
   refine ⟨List.mem_cons_of_mem _ h1,fun x hx=>?_⟩
   rcases List.mem_cons.1 hx with rfl|hx
   ·exact fun hf=>h2 y zS (jj0 (jjF.1 hy) hf)
   ·exact h2 x hx
  ·rw [if_neg hy] at h1 h2⊢
   refine ⟨?_,fun x hx=>?_⟩
   ·rcases List.mem_cons.1 h1 with h1|h1
    ·rw [h1];simp
    ·simp [h1]
   ·rcases List.mem_cons.1 hx with rfl|hx
    ·exact h2 _ zS
    ·rcases List.mem_cons.1 hx with rfl|hx
     ·intro hf
      have e1: ¬jff x a:=fun hh=>hy (jjF.2 hh)
      rcases jqm x a with rfl|e2|e2
      ·exact h2 x zS hf
      ·exact e1 e2
      ·exact h2 a zS (jj0 e2 hf)
     ·exact h2 x (by simp [hx])
def jcA (p:List Int→Prop) (n:Nat) (g:List Int):Prop:=Asc g∧(∀x∈g,0≤x∧x<n)∧p g∧ ∀xs,Asc xs→(∀x∈xs,0≤x∧x<n)→p xs→ ¬jff xs g
theorem jk5 {p:List Int→Prop} {g g2:List Int} (h:jcA p n g) (h2:jcA p n g2):g=g2:=by
 rcases jqm g g2 with e|e|e
 ·exact e
 ·exact absurd e (h2.2.2.2 g h.1 h.2.1 h.2.2.1)
 ·exact absurd e (h.2.2.2 g2 h2.1 h2.2.1 h2.2.2.1)
theorem clr_all (hn:n≤12) (hs:s<2^n):bClr .u64 ((2^n-1:Nat):Int) (s:Int)=((2^n-1-s:Nat):Int):=by
 have h:((List.range 13).all fun n=>(List.range (2^n)).all fun s=>bClr .u64 ((2^n-1:Nat):Int) (s:Int)==((2^n-1-s:Nat):Int))=true:=by kernel_rfl
 have h1:=List.all_eq_true.1 h n (List.mem_range.2 zO)
 simpa using List.all_eq_true.1 h1 s (List.mem_range.2 hs)
theorem jpV (hs:s<2^n):jeq (2^n-1-s) n=(jeq s n).map (!·):=by
 rw [jeq,jeq,List.map_map];refine List.map_congr_left fun i hi=>?_
 rw [List.mem_range] at hi
 have:=Nat.testBit_two_pow_sub_succ hs i
 rw [show 2^n-(s+1)=2^n-1-s by omega] at this
 rw [this];simp [hi]
theorem jod (hs:s<2^(jaa b).length):jg4 (cdT b) (jeq (2^(jaa b).length-1-s) (jaa b).length)≠[]↔jbJ (jaM (jeq s (jaa b).length) (cdT b))=true:=by
 rw [jpV hs];exact jga (by rw [jbP,jaq])
theorem callB160:jcF Tryz.prog 160=true:=by kernel_rfl
section
variable {m:Md P B}
omit [LaidO B] in
theorem jtS {x y:Operand} {a b:Int} {k:IntKind} (v:Int) (ho:ops[i]?=some ⟨d,.binOp .andNot t x y u,ty,pos,af,g⟩) (hw:Wt ops l g) [KHeap kd S h H] [ex:OpV l x (.int k a)] [ey:OpV l y (.int k b)] (hv:bClr k a b=v) [PutV l d (.int k v) l'] (n:RegK m S ops r l' h C):RegK m S ops ((i,kd)::r) l h C:=
 RegK.rd (v:= .int k v) ho hw (jbm ex.eq ey.eq zS (op_clr hv)) n
def RdK (B:Array Obj) (h:Hp) (w:Value) (xs:List Int):Prop:= ∃p c,w= .slice p xs.length c∧RdS B h 1 (.slice p xs.length c) xs.length (jaI xs)∧xs.length≤c
theorem RdK.rdI {w:Value} {xs:List Int} (r:RdK B h w xs):RdI B h w xs:=by
 obtain ⟨p,c,e,r,_⟩:=r
 exact ⟨p,c,e,r⟩
theorem RdK.nil:RdK B h (.slice none 0 0) []:=⟨none,0,rfl,⟨none,0,rfl,rfl,.inl ⟨rfl,rfl⟩⟩,Nat.le_refl _⟩
end
theorem f160_c (m:Md Tryz.prog B) (h:Hp) {c:Nat} {xs:List Int} (rd:RdS B h 1 (.slice p n c) n (jaI xs)) (hn:n≤1000000) {n2 c2:Nat} (rd2:RdS B h 1 (.slice p2 n2 c2) n2 (jaI ys)) (hn2:n2≤1000000):FnC m 160 #[.slice p n c,.slice p2 n2 c2] h fun v h'=>h'=h∧IsB (jff xs ys) v:=by
 have hl:=rd.ilen
 have hl2:=rd2.ilen
 refine jaf Tryz.func160 rfl rfl (l:=(.slice p n c)::(.slice p2 n2 c2)::uu21) rfl ?_
 intro cf cs K hK
 refine Z5 ?_;refine jaK [Zf 0,Zf 1,Zf 2,Zf 3,Zf 4,Zf 5,Zf 6,Zf 7,Zf 8,Zf 9,Zf 10,Zf 11,Zf 12,Zf 13,Zf 14,Zf 15,Zf 16,Zf 17,Zf 18] zK zK ?_;refine Z4 ?_
 refine jao rfl zq (fun hc=>?_) (fun hc=>?_)
 ·refine Z16 ?_;refine jad (h) rfl Tryz.func160 rfl jab ?_;refine Zs ?_
  refine ⟨rfl,?_⟩
  unfold jff
  first
   |exact IsB.yes (.inl zO)
   |exact E60
   |exact E61
   |exact E62
 ·refine Z5 ?_
  refine jaS rfl rfl (fun hc=>?_) (fun hc=>?_)
  ·refine Z3 ?_;refine jag (Post:=fun v=>v= .int .i64 (juy xs ys)) rfl rfl zK (fun H' hH=>f210_c m H' (rd.keeps (sq hH)) hn (rd2.keeps (sq hH))) ?_
   rintro v rfl;refine Zs ?_
   refine jao rfl rfl (fun hc=>?_) (fun hc=>?_);all_goals
    refine Z5 ?_;refine jad (h) rfl Tryz.func160 rfl jab ?_;refine Zs ?_
    refine ⟨rfl,?_⟩
    unfold jff
    first
     |exact IsB.yes (.inl zO)
     |exact E60
     |exact E61
     |exact E62
  ·refine Z10 ?_;refine jad (h) rfl Tryz.func160 rfl jab ?_;refine Zs ?_
   refine ⟨rfl,?_⟩
   unfold jff
   first
    |exact IsB.yes (.inl zO)
    |exact E60
    |exact E61
    |exact E62
theorem f159_k (m:Md Tryz.prog B) (h:Hp) {c:Nat} {ll:List (List Int)} (rdv:RdS B h 1 (.slice p ll.length c) ll.length vs) (rde:RdE B h vs ll) (hn:ll.length≤10000) (hl: ∀l∈ll,l.length≤1000) {ac:Nat} (ra:RdS B h 1 (.slice ap a.length ac) a.length (jaI a)) (hal:a.length≤1000) (hac:a.length≤ac):
  FnC m 159 #[.func (.func 160) #[] #[],.slice ap a.length ac,.slice p ll.length c] h fun v h'=>h'=h∧RdK B h v (jh8 a ll):=by
 refine jaf Tryz.func159 rfl rfl (l:=(.func (.func 160) #[] #[])::(.slice ap a.length ac)::(.slice p ll.length c)::uu19) rfl ?_
 intro cf cs K hK
 refine Z12 ?_
 refine jai (fun nn l h'=> ∃(k:Nat) (gp:Option Addr) (gc:Nat) (w:List Int),nn=ll.length-k∧(k≤ll.length)∧(w=jh8 a (ll.take k))∧(RdS B h 1 (.slice gp w.length gc) w.length (jaI w))∧(w.length≤1000)∧(w.length≤gc)∧(∃U:Nat→Value,l=((.func (.func 160) #[] #[])::(.slice gp w.length gc)::(.slice p ll.length c)::vw6 U 3 ((.slice p ll.length c)::(.int .i64 (ll.length:Int))::(.int .i64 (k:Int))::vw10 U 12 [])))∧h=h') _ ⟨0,ap,ac,a,rfl,by omega,by rw [List.take_zero];rfl,ra,hal,hac,exU rfl,rfl⟩ ?_;rintro nn l h' ⟨k,gp,gc,w,rfl,hk,hw,hwr,hwl,hwc,⟨U,rfl⟩,rfl⟩ hnext;refine Z2 ?_
 refine jao rfl zq (fun hc=>?_) (fun hc=>?_)
 ·refine Z7 ?_
  obtain ⟨rb,ro,hrp⟩:=rdv.ptr zO
  have rdv':=rdv
  rw [hrp] at rdv'
  obtain ⟨ep,ec,ee,er⟩:=rde.2 k zO
  have hck:=rde.cap (i:=k) zO ee
  have hlk:(ll.getD k []).length≤1000:=hl _ (jtv.2 ⟨k,by omega,rfl⟩)
  refine Zs ?_;refine D65 ?_;refine jaW (v:= .slice ep (ll.getD k []).length ec) rfl zq (by rw [←ee];exact rdv'.vat k zO zO) ?_;refine Z7 ?_
  refine jgt (Post:=fun v=>IsB (jff (ll.getD k []) w) v) rfl zq callB160 (fun H' hH=>by
   have h1:=f160_c m H' (er.keeps (sq hH)) zO (hwr.keeps (sq hH)) zO
   simpa using h1) ?_
  rintro v (⟨hc,rfl⟩|⟨hc,rfl⟩);refine Z7 ?_
  rotate_left
  refine Z4 ?_
  all_goals
   refine Z5 ?_
  ·exact m.weak jab (hnext _ _ _ zO ⟨k+1,gp,gc,w,rfl,by omega,by rw [jll _ _ _ zO,←hw,if_neg (fun e=>hc (jjF.1 e))],hwr,hwl,hwc,exU rfl,rfl⟩)
  ·exact m.weak jab (hnext _ _ _ zO ⟨k+1,ep,ec,ll.getD k [],rfl,by omega,by rw [jll _ _ _ zO,←hw,if_pos (jjF.2 hc)],er,hlk,hck,exU rfl,rfl⟩)
 ·refine Z10 ?_;refine jad (h) rfl Tryz.func159 rfl jab ?_;refine Zs ?_
  obtain rfl:k=ll.length:=by omega
  rw [List.take_of_length_le zO] at hw
  rw [←hw];exact ⟨rfl,gp,gc,rfl,hwr,hwc⟩
theorem f105_c (m:Md Tryz.prog B) (h:Hp) (sh:Sheet B h b q tv) (rx:Rd B h ⟨qx,0,none⟩ (.pointer (some ⟨q,0,none⟩))) (hs:s<2^(jaa b).length):FnC m 105 #[.int .u64 (s:Int),.pointer (some ⟨qx,0,none⟩)] h fun v h'=>h'=h∧IsB (¬jbJ (jaM (jeq s (jaa b).length) (cdT b))=true) v:=by
 have h12:=sh.twelve
 obtain ⟨pc,cc,hcv,hcc,hcr⟩:=sh.cells
 have hs2:2^(jaa b).length-1-s<4096:=by
  have:=Nat.pow_le_pow_right (show 0<2 by omega) h12
  omega
 refine jaf Tryz.func105 rfl rfl (l:=(.int .u64 (s:Int))::(.pointer (some ⟨qx,0,none⟩))::uu13) rfl ?_
 intro cf cs K hK
 refine Z5 ?_;refine jar [Zp 7,Zr 0,Zr 1,Zp 2,Zp 3,Zr 4,Zp 5,Zk 6,Zp 8,Zk 9,Zp 10,Zp 11] zK zK (List.Sublist.refl _) ?_;refine Zs ?_;refine D116 ?_;refine D116 ?_;refine Z2 ?_;refine D66 ?_;refine Zs ?_;refine jag (Post:=fun v=>v= .int .u64 ((2^(jaa b).length-1:Nat):Int)) rfl zq zK (fun H' hH=>f106_c m H' _ h12) ?_
 rintro v rfl;refine Zs ?_;refine jtS ((2^(jaa b).length-1-s:Nat):Int) rfl zq (clr_all h12 hs) ?_;refine jag (Post:=fun v=>IsB _ v) rfl zq zK (fun H' hH=>f104_c m H' (sh.keeps (sq hH)) hs2) ?_
 rintro v (⟨hc,rfl⟩|⟨hc,rfl⟩);refine Z2 ?_
 rotate_left
 refine Z2 ?_
 all_goals
  refine Z3 ?_;refine jad (h) rfl Tryz.func105 rfl jab ?_;refine Zs ?_
  first|exact ⟨rfl,IsB.no fun e=>e ((jod hs).1 hc)⟩|exact ⟨rfl,IsB.yes fun e=>hc ((jod hs).2 e)⟩
end
section
variable [LaidO B]
def jmo (N:Nat) (hit:Nat→Bool) (q6 ch:Nat):Crew:=⟨N,hit,fun k v hp=>OwnS 3 1 v (jb6 k 12).length (jaI (jb6 k 12)) hp,q6,203,ch⟩
theorem callB154:jcF Tryz.prog 154=true:=by kernel_rfl
theorem callB157:jcF Tryz.prog 157=true:=by kernel_rfl
theorem jfP:(kidF Tryz.prog).catches Tryz.prog=false:=by kernel_rfl
def Asks (B:Array Obj) (gv:Value) (hb:Hp) (N:Nat) (hit:Nat→Bool):Prop:= ∀(m:Md Tryz.prog B) (k:Nat) (H':Hp),k<N→hb.Sublist H'→CallV m gv [.int .u64 (k:Int)] H' fun v h'=>h'=H'∧IsB (hit k=true) v
theorem kid154 {q3 q7 kn:Nat} (hN:N≤4096) (hk:kn<N) (hg:Asks B gv hb N hit):
  ((SyC.kid Tryz.prog B (jmo N hit q6 ch).pro i).im 0 (.w kn .on false) (hb++[⟨false,q3,.cells [gv].toArray 141 (0,0)⟩,⟨false,q5,.cells [.chan (some ch)].toArray 193 (0,0)⟩,⟨true,q7,.cells [.int .u64 (kn:Int)].toArray 134 (0,0)⟩])).R (kid0 Tryz.prog {target:= .fn (.func 154) [.pointer (some ⟨q6,0,none⟩),.pointer (some ⟨q3,0,none⟩),.pointer (some ⟨q7,0,none⟩),.pointer (some ⟨q5,0,none⟩)].toArray,args:= #[]++ #[]}):=by
 have hM:(jmo N hit q6 ch).n≤4100:=show N≤4100 by omega
 refine jk6 (hg:=fun e=>e) (al:=[.pointer (some ⟨q6,0,none⟩),.pointer (some ⟨q3,0,none⟩),.pointer (some ⟨q7,0,none⟩),.pointer (some ⟨q5,0,none⟩)]) (l:=(.pointer (some ⟨q6,0,none⟩))::(.pointer (some ⟨q3,0,none⟩))::(.pointer (some ⟨q7,0,none⟩))::(.pointer (some ⟨q5,0,none⟩))::uu6) callB154 Tryz.func154 rfl rfl rfl rfl ?_;refine Md.kidC.to (hg:=fun e=>e) ?_;refine Zs ?_;refine Md.kidC.of ?_;refine Zs ?_;refine jo2 rfl zq rfl zA ?_;refine Zs ?_;refine Md.kidC.to (hg:=fun e=>e) ?_;refine Z4 ?_;refine jhU rfl zq (hg _ kn _ hk SubH.sub) ?_
 rintro _ _ ⟨rfl,⟨hc,rfl⟩|⟨hc,rfl⟩⟩
 ·refine Z3 ?_;refine jsO 3 [Zr 0,Zr 1,Zc 2] [0,1,2,3] zK zK zK (List.Sublist.refl _) ?_;refine Z2 ?_;refine jaD rfl zq zK (fun H' hH=>f156_c _ H' kn zO) ?_
  rintro v new ov;refine Z2 ?_;refine Md.kidC.of ?_;refine SyC.weaken (h':=[]++new) (by rw [List.nil_append];exact jab) ?_;refine y_send (hr:=[]) (hp:=new) rfl hc ov ?_;refine Zs ?_;refine jrC rfl ?_
  exact juq hM (fun _=>rfl) rfl Tryz.func154 rfl rfl jfP
 ·refine Z4 ?_;refine Md.kidC.of ?_;refine jrC rfl ?_
  exact juq hM (fun e=>absurd e hc) rfl Tryz.func154 rfl rfl jfP
theorem kid157 (hN:N≤4096):
  ((SyC.kid Tryz.prog B (jmo N hit q6 ch).pro i).im 0 (.c (.look N)) (hb++[⟨false,q5,.cells [.chan (some ch)].toArray 193 (0,0)⟩])).R (kid0 Tryz.prog {target:= .fn (.func 157) [.pointer (some ⟨q6,0,none⟩),.pointer (some ⟨q5,0,none⟩)].toArray,args:= #[]++ #[]}):=by
 have hM:(jmo N hit q6 ch).n≤4100:=show N≤4100 by omega
 refine jk6 (hg:=fun e=>e) (al:=[.pointer (some ⟨q6,0,none⟩),.pointer (some ⟨q5,0,none⟩)]) (l:=[.pointer (some ⟨q6,0,none⟩),.pointer (some ⟨q5,0,none⟩),undef,undef]) callB157 Tryz.func157 rfl rfl rfl rfl ?_;refine Md.kidC.to (hg:=fun e=>e) ?_;refine Zs ?_;refine Md.kidC.of ?_;refine Zs ?_
 refine i_cal rfl zq zK (waitC_c hM ?_);refine jhX rfl ?_;refine Zs ?_;refine Md.kidC.to (hg:=fun e=>e) ?_;refine D115 ?_;refine Z2 ?_;refine Md.kidC.of ?_;refine SyC.weaken (h':=[]) (Weak.sub (List.nil_sublist _)) ?_;refine y_close zA rfl ?_;show (Im.quit Tryz.prog 0).R _
 refine Zs ?_;refine jrC rfl ?_
 exact jpQ rfl Tryz.func157 rfl rfl jfP
end
section
variable [LaidO B]
theorem jdl {mm:Nat} (h:mm<2^k):jbS (jb6 mm k)=mm:=by
 refine Nat.eq_of_testBit_eq fun i=>?_
 rw [jed fun z hz=>by obtain ⟨j,_,rfl,_⟩:=jek.1 hz;omega];by_cases hi:i<k
 ·by_cases hb:mm.testBit i=true
  ·rw [hb,decide_eq_true_iff];exact jek.2 ⟨i,hi,rfl,(jdB mm i).2 hb⟩
  ·rw [Bool.not_eq_true] at hb
   rw [hb,decide_eq_false_iff_not];intro hz
   obtain ⟨j,_,e,h2⟩:=jek.1 hz
   obtain rfl:i=j:=by omega
   rw [(jdB mm i).1 h2] at hb
   cases hb
 ·have h1:mm.testBit i=false:=Nat.testBit_lt_two_pow (Nat.lt_of_lt_of_le h (Nat.pow_le_pow_right zO zO))
  rw [h1,decide_eq_false_iff_not];intro hz
  obtain ⟨j,hj,e,_⟩:=jek.1 hz
  omega
theorem jiP {mm:Nat} (h:mm<2^n): ∀x∈jb6 mm k,0≤x∧x<(n:Int):=fun x hx=>by
 obtain ⟨j,_,rfl,h2⟩:=jek.1 hx
 refine ⟨by omega,?_⟩
 rcases Nat.lt_or_ge j n with hj|hj
 ·omega
 ·have:=Nat.testBit_lt_two_pow (Nat.lt_of_lt_of_le h (Nat.pow_le_pow_right (show 0<2 by omega) hj))
  rw [(jdB mm j).1 h2] at this
  cases this
def llW (got:List Nat):List (List Int):=got.map fun k=>jb6 k 12
theorem jp5 (got:List Nat) (k:Nat):llW (got++[k])=llW got++[jb6 k 12]:=by simp [llW]
theorem llW_len (got:List Nat):(llW got).length=got.length:=List.length_map _
theorem got_le (h: ∀k∈got,k<n) (hd:got.Nodup):got.length≤n:=by
 have:=List.Nodup.length_le_of_subset (l₂:=List.range n) hd fun z hz=>List.mem_range.2 (h z hz)
 rwa [List.length_range] at this
theorem jrI (hn:n≤12) (hall: ∀k,k∈got↔k<2^n∧hit k=true) (h1:hit (2^n-1)=true):jcA (fun l=>hit (jbS l)=true) n (jh8 (jb6 (2^n-1) 12) (llW got)):=by
 obtain ⟨hm,hb⟩:=jkh (llW got) (jb6 (2^n-1) 12)
 have hp:0<2^n:=Nat.two_pow_pos n
 have h12:2^n≤2^12:=Nat.pow_le_pow_right zO hn
 obtain ⟨k,hk,hh,e⟩: ∃k,k<2^n∧hit k=true∧jh8 (jb6 (2^n-1) 12) (llW got)=jb6 k 12:=by
  rcases List.mem_cons.1 hm with hm|hm
  ·exact ⟨2^n-1,by omega,h1,hm⟩
  ·obtain ⟨k,hk,e⟩:=List.mem_map.1 hm
   obtain ⟨h2,h3⟩:=(hall k).1 hk
   exact ⟨k,h2,h3,e.symm⟩
 rw [e] at hb⊢
 refine ⟨jdC _ _,jiP hk,by show hit (jbS _)=true;rw [jdl zO];exact hh,fun xs ha hx hxs=>?_⟩
 obtain ⟨mm,hmm,rfl⟩:=jtD ha (n:=12) fun x hx'=>by have:=hx x hx';omega
 have hlt:mm<2^n:=by
  refine Classical.byContradiction fun hge=>?_
  obtain ⟨i,hi,hbit⟩:=Nat.exists_ge_and_testBit_of_ge_two_pow (show 2^n≤mm by omega)
  have hi12:i<12:=by
   refine Classical.byContradiction fun h=>?_
   have:=Nat.testBit_lt_two_pow (Nat.lt_of_lt_of_le hmm (Nat.pow_le_pow_right (show 0<2 by omega) (show 12≤i by omega)))
   rw [hbit] at this
   cases this
  have:=hx _ (jek.2 ⟨i,hi12,rfl,(jdB mm i).2 hbit⟩)
  omega
 have hxs':hit (jbS (jb6 mm 12))=true:=hxs
 rw [jdl hmm] at hxs'
 exact hb _ (List.mem_cons_of_mem _ (List.mem_map.2 ⟨mm,(hall mm).2 ⟨hlt,hxs'⟩,rfl⟩))
theorem run_midC {C:Crew} {g:Goroutine} (n:((SyC.zero P B C.pro K).im 0 (.m C.n .idle [] false) h').R g):(Md.starC P B).R K g (h'++[C.wgC 0 0 0]++[⟨true,C.ch,.chan 0 #[] false 0 0 false⟩]):=jqE n
theorem run_putm {m:Md P B} {b:Frame} {k:List Item} [p:PutV l d v l'] (n:m.R K (Gr b l' ds k cs) h):m.R K (Gr b (put l d v) ds k cs) h:=by rw [p.eq];exact n
theorem weakOff3 {F1 F2 F3 X Y Z:Hp} [a:Off h' Z F1] [b:Off F1 Y F2] [c:Off F2 X F3] [s:SubH H F3]:Weak B h' (H++X++Y++Z):=
 Weak.trans (Weak.perm a.perm) (Weak.apps (Weak.trans (Weak.perm b.perm) (Weak.apps (Weak.trans (Weak.perm c.perm) (Weak.apps (Weak.sub s.sub) X)) Y)) Z)
theorem apAll {F:Hp} (hF: ∀c∈F,c.rw=false) (hH: ∀c∈H,c.rw=false):ApH F H:=fun c hc d hd hr=>by rw [hF c hc,hH d hd] at hr;simp at hr
section
variable {m:Md P B}
omit [LaidO B] in
theorem k_addW {k:IntKind} {x y:Operand} {a b:Int} (z:Int) (ho:ops[i]?=some ⟨d,.binOp .add t x y u,ty,pos,af,g⟩) (hw:Wt ops l g) [KHeap kd S h H] [ex:OpV l x (.int k a)] [ey:OpV l y (.int k b)] (hr:k.wrap (a+b)=z) [PutV l d (.int k z) l']
  (n:RegK m S ops r l' h C):RegK m S ops ((i,kd)::r) l h C:=
 RegK.rd (v:= .int k z) ho hw (jbm ex.eq ey.eq zS (by simp [binOp,Op.intArith,hr];rfl)) n
end
theorem jpl (h:n<5000):IntKind.wrap .u64 ((n:Nat):Int)=(n:Int):=by
 simp [IntKind.wrap,IntKind.bits,IntKind.signed]
 omega
theorem jo4 {q3:Nat} {c3 c5:Array Value}:Weak B (h++[⟨true,q3,.cells c3 141 (0,0)⟩]++[⟨true,ch,.chan 0 #[] false 0 0 false⟩,⟨true,q5,.cells c5 193 (0,0)⟩,⟨true,q6,.cells ([.int .u64 0,.int .u32 0]:List Value).toArray 203 (0,0)⟩]) ((ro h++[⟨false,q3,.cells c3 141 (0,0)⟩,⟨false,q5,.cells c5 193 (0,0)⟩])++[(jmo N hit q6 ch).wgC 0 0 0]++[⟨true,ch,.chan 0 #[] false 0 0 false⟩]):=by
 have h0:Weak B (h++[⟨true,q3,.cells c3 141 (0,0)⟩]++[⟨true,ch,.chan 0 #[] false 0 0 false⟩,⟨true,q5,.cells c5 193 (0,0)⟩,⟨true,q6,.cells ([.int .u64 0,.int .u32 0]:List Value).toArray 203 (0,0)⟩]) ((h++[⟨true,q3,.cells c3 141 (0,0)⟩,⟨true,q5,.cells c5 193 (0,0)⟩])++[⟨true,q6,.cells ([.int .u64 0,.int .u32 0]:List Value).toArray 203 (0,0)⟩,⟨true,ch,.chan 0 #[] false 0 0 false⟩]):=by
  refine Weak.perm ?_
  simp only [List.append_assoc,List.cons_append,List.nil_append]
  refine List.Perm.append_left _ (.cons _ ?_)
  exact List.perm_append_comm (l₁:=[_]) (l₂:=[_,_])
 refine h0.trans ?_
 have h1:=jr5 (B:=B) (h++[⟨true,q3,.cells c3 141 (0,0)⟩,⟨true,q5,.cells c5 193 (0,0)⟩]) [⟨true,q6,.cells ([.int .u64 0,.int .u32 0]:List Value).toArray 203 (0,0)⟩,⟨true,ch,.chan 0 #[] false 0 0 false⟩]
 refine Weak.trans h1 ?_;refine Weak.perm ?_
 simp only [ro,List.map_append,List.map_cons,List.map_nil,List.append_assoc,List.cons_append,List.nil_append]
 exact .refl _
theorem f103_k (h:Hp) (sh:Sheet B h b q tv) [cgv:CellsV gv [gv]] (hg:Asks B gv (ro h) (2^(jaa b).length) hit) (hh1:hit (2^(jaa b).length-1)=true):FnC (Md.starC Tryz.prog B) 103 #[.pointer (some ⟨q,0,none⟩),gv] h fun v h'=> ∃nw,h'=ro h++nw∧ ∃g,RdK B h' v g∧jcA (fun l=>hit (jbS l)=true) (jaa b).length g:=by
 have h12:=sh.twelve
 obtain ⟨pc,cc,hcv,hcc,hcr⟩:=sh.cells
 have hp0:0<2^(jaa b).length:=Nat.two_pow_pos _
 have hp12:2^(jaa b).length≤2^12:=Nat.pow_le_pow_right zO h12
 obtain ⟨N,hN⟩: ∃N:Nat,N=2^(jaa b).length:=⟨_,rfl⟩
 rw [←hN] at hg
 have hM: ∀q6 ch,(jmo N hit q6 ch).n≤4100:=fun _ _=>show N≤4100 by omega
 refine jaf Tryz.func103 rfl rfl (l:=(.pointer (some ⟨q,0,none⟩))::gv::uu40) rfl ?_
 intro cf cs K hK
 refine Z2 ?_
 refine jaX rfl zq (fun q3=>jau (jae ?_));refine Z4 ?_
 refine k_mkchan (.inl rfl) rfl zq zK (fun ch=>jae ?_);refine jax rfl zq (fun q5=>jau (jae ?_));refine D9 ?_;refine Z3 ?_
 refine jax rfl zq (fun q6=>jau (jae ?_));refine Z7 ?_;refine D66 ?_;refine Zs ?_;refine D92 ?_
 rintro v rfl;refine Zs ?_;refine k_addW (N:Int) rfl zq (by rw [show ((2^(jaa b).length-1:Nat):Int)+1=((N:Nat):Int) by omega];exact jpl zO) ?_;refine Z3 ?_;refine (Md.starC Tryz.prog B).weak (h':=(ro h++[⟨false,q3,.cells [gv].toArray 141 (0,0)⟩,⟨false,q5,.cells [.chan (some ch)].toArray 193 (0,0)⟩])++[(jmo N hit q6 ch).wgC 0 0 0]++[⟨true,ch,.chan 0 #[] false 0 0 false⟩]) jo4 ?_;refine run_midC (C:=(jmo N hit q6 ch)) ?_;refine jr4 (fun nn D' s' h' l'=> ∃(t:Nat),D'=0∧s'= .m (N-t) .idle [] false∧ro h++[⟨false,q3,.cells [gv].toArray 141 (0,0)⟩,⟨false,q5,.cells [.chan (some ch)].toArray 193 (0,0)⟩]=h'∧nn=N-t∧t≤N∧ ∃U:Nat→Value,l'=((.pointer (some ⟨q,0,none⟩))::gv::(U 2)::(.pointer (some ⟨q3,0,none⟩))::(.slice none 0 0)::(.pointer (some ⟨q5,0,none⟩))::(.pointer (some ⟨q6,0,none⟩))::vw10 U 7 ((.int .u64 (N:Int))::(.int .u64 (t:Int))::vw23 U 19 []))) _ ⟨0,rfl,rfl,rfl,rfl,by omega,exU rfl⟩ ?_
 rintro nn _ _ _ _ ⟨t,rfl,rfl,rfl,rfl,ht,U,rfl⟩ hnext1;refine Md.midC.to ?_
 try dsimp only
 refine Z2 ?_
 refine jao rfl zq (fun hc=>?_) (fun hc=>?_)
 ·refine Z9 ?_
  refine jax rfl zq (fun q7=>jau (jae ?_));refine D9 ?_;refine Z2 ?_
  obtain ⟨r,hr⟩: ∃r,N-t=r+1:=⟨N-t-1,by omega⟩
  rw [hr];refine Md.midC.of ?_;refine Zs ?_
  refine i_cal rfl zq zK (addZ_c rfl (hM q6 ch) ?_);refine jhX rfl ?_;refine Zs ?_;refine Md.midC.to ?_;refine D115 ?_;refine jiB rfl zq ?_;refine Zs ?_;refine Md.midC.of ?_;refine jqD (h':=ro h++[⟨false,q3,.cells [gv].toArray 141 (0,0)⟩,⟨false,q5,.cells [.chan (some ch)].toArray 193 (0,0)⟩]) (hc:=ro h++[⟨false,q3,.cells [gv].toArray 141 (0,0)⟩,⟨false,q5,.cells [.chan (some ch)].toArray 193 (0,0)⟩,⟨true,q7,.cells [.int .u64 (t:Int)].toArray 134 (0,0)⟩]) rfl (show r+1≤N by omega) jab jab (fun w sw=>?_) (fun j hj=>by
   rw [show (jmo N hit q6 ch).n-(r+1)=t from (by omega:N-(r+1)=t)];exact kid154 zO zO hg) ?_
  ·refine ap_last (F:=ro h++[⟨false,q3,.cells [gv].toArray 141 (0,0)⟩,⟨false,q5,.cells [.chan (some ch)].toArray 193 (0,0)⟩]) (q:=q7) (o:= .cells [.int .u64 (t:Int)].toArray 134 (0,0)) (by simpa using sw) (fun c hc=>?_) (fun d hd hr=>?_)
   ·rcases List.mem_append.1 hc with hc|hc
    ·exact (jjo hc).1
    ·simp only [List.mem_cons,List.not_mem_nil,or_false] at hc
     rcases hc with rfl|rfl<;>rfl
   ·rcases List.mem_append.1 hd with hd|hd
    ·rw [(jjo hd).1] at hr
     cases hr
    ·simp only [List.mem_cons,List.not_mem_nil,or_false] at hd
     rcases hd with rfl|rfl|rfl
     ·cases hr
     ·cases hr
     ·rfl
  refine Md.midC.to ?_;refine jb5 ?_;refine Z2 ?_;refine k_addW ((t+1:Nat):Int) rfl zq (by rw [show (t:Int)+1=((t+1:Nat):Int) by omega];exact jpl zO) ?_;refine Z2 ?_;refine Md.midC.of ?_;refine SyC.weaken (h':=ro h++[⟨false,q3,.cells [gv].toArray 141 (0,0)⟩,⟨false,q5,.cells [.chan (some ch)].toArray 193 (0,0)⟩]) jab ?_
  exact hnext1 _ _ _ _ _ zO ⟨t+1,rfl,by rw [show r=N-(t+1) by omega],rfl,rfl,by omega,exU rfl⟩
 ·refine Z5 ?_
  obtain rfl:N=t:=by omega
  rw [Nat.sub_self];refine D115 ?_;refine jiB rfl zq ?_;refine Zs ?_;refine Md.midC.of ?_
  refine jos (h':=ro h++[⟨false,q3,.cells [gv].toArray 141 (0,0)⟩,⟨false,q5,.cells [.chan (some ch)].toArray 193 (0,0)⟩]) (hc:=ro h++[⟨false,q5,.cells [.chan (some ch)].toArray 193 (0,0)⟩]) rfl jab jab (fun w sw=>?_) (fun j hj=>kid157 zO) ?_
  ·refine apAll (fun c hc=>?_) (fun c hc=>?_)
   ·rcases List.mem_append.1 hc with hc|hc
    ·exact (jjo hc).1
    ·simp only [List.mem_cons,List.not_mem_nil,or_false] at hc
     rcases hc with rfl|rfl<;>rfl
   ·rcases List.mem_append.1 hc with hc|hc
    ·exact (jjo hc).1
    ·simp only [List.mem_cons,List.not_mem_nil,or_false] at hc
     rcases hc with rfl
     rfl
  refine Md.midC.to ?_;refine jb5 ?_;refine Z10 ?_;refine Md.midC.of ?_;refine jr4 (fun nn D' s' h' l'=> ∃(got:List Nat) (sp:Option Addr) (sc:Nat) (ws:List Value) (X W:Hp),D'=0∧s'= .m 0 .idle got true∧ro h++[⟨false,q3,.cells [gv].toArray 141 (0,0)⟩,⟨false,q5,.cells [.chan (some ch)].toArray 193 (0,0)⟩]++X++W=h'∧nn=N-got.length∧(got.Nodup∧ ∀k∈got,k<N)∧OwnS 42 1 (.slice sp (llW got).length sc) (llW got).length ws W∧RdE B X ws (llW got)∧ ∃U:Nat→Value,l'=((.pointer (some ⟨q,0,none⟩))::gv::(U 2)::(.pointer (some ⟨q3,0,none⟩))::(.slice none 0 0)::(.pointer (some ⟨q5,0,none⟩))::(.pointer (some ⟨q6,0,none⟩))::(U 7)::(.slice sp (llW got).length sc)::vw8 U 9 ((.int .u64 (N:Int))::vw7 U 18 ((.chan (some ch))::vw16 U 26 [])))) _ ⟨[],none,0,[],[],[],rfl,rfl,by simp,rfl,⟨List.nodup_nil,fun k hk=>by cases hk⟩,OwnS.nil,RdE.nil,exU rfl⟩ ?_
  rintro nn _ _ _ _ ⟨got,sp,sc,ws,X,W,rfl,rfl,rfl,rfl,⟨hnd,hlt⟩,oW,eX,U,rfl⟩ hnext2;refine Md.midC.to ?_
  try dsimp only
  have hgl:=got_le hlt hnd
  have hll:(llW got).length=got.length:=llW_len got
  refine Zs ?_;refine jjm [] [0,1] zK zK ?_;refine Zs ?_;refine Md.midC.of ?_
  refine jr2 (dir:=0) (z:= .slice none 0 0) rfl rfl Mute.zero (fun kn v hp hh hkn hnin hP=>?_) (fun hnd2 hall=>?_)
  ·have hnd2:(got++[kn]).Nodup:=by
    rw [List.nodup_append];exact ⟨hnd,by simp,fun a ha c hc=>by rw [List.mem_singleton] at hc;subst hc;exact fun e=>hnin (e▸ha)⟩
   have hlt2: ∀k∈got++[kn],k<N:=fun k hk=>by
    rcases List.mem_append.1 hk with hk|hk
    ·exact hlt k hk
    ·rw [List.mem_singleton] at hk
     subst hk
     exact hkn
   have hgl2:=got_le hlt2 hnd2
   rw [List.length_append,List.length_singleton] at hgl2
   have hP':OwnS 3 1 v (jb6 kn 12).length (jaI (jb6 kn 12)) hp:=hP
   obtain ⟨vp,vc,rfl,hvc,rV⟩:=jav (B:=B) hP'
   refine jeR ?_;refine Md.midC.to ?_;refine jnb [Zf 1] zK rfl ?_;refine Z2 ?_;skip
   refine Z12 ?_
   refine jdk kdq rfl zq zA zA rfl (fun q31=>jau (jae ?_));refine jbL rfl zq rfl oW kdq zO zO (fun w32 n32 o32=>jae ?_);have e1:(llW (got++[kn])).length=(llW got).length+1:=by rw [jp5,List.length_append];rfl
   obtain ⟨p32,c32,rfl,_⟩:=o32.len
   refine Z3 ?_;refine Md.midC.of ?_;refine SyC.weaken (h':=ro h++[⟨false,q3,.cells [gv].toArray 141 (0,0)⟩,⟨false,q5,.cells [.chan (some ch)].toArray 193 (0,0)⟩]++X++hp++n32) weakOff3 ?_
   exact hnext2 _ _ _ _ _ (by rw [List.length_append];show N-(got.length+1)<_;omega) ⟨got++[kn],p32,c32,_,X++hp,n32,rfl,rfl,by simp only [List.append_assoc],rfl,⟨hnd2,hlt2⟩,by rw [e1];exact o32,by rw [jp5];exact (eX.keeps (List.sublist_append_left _ _)).snoc rfl (rV.keeps (List.sublist_append_right _ _)) hvc,by rw [e1];exact exU rfl⟩
  ·show (Md.starC Tryz.prog B).R K _ _
   refine run_putm ?_;refine jnb [Zf 1] zK rfl ?_;refine Z2 ?_;skip
   refine Z8 ?_;refine jaW rfl zq (hcv.ro.keeps SubH.sub) ?_;refine Zs ?_;refine D92 ?_
   rintro v rfl;refine Zs ?_;refine jaD rfl zq zK (fun H' hH=>f156_c _ H' (2^(jaa b).length-1) zO) ?_
   rintro v nA oA;refine Zs ?_
   obtain ⟨ap,ac,rfl,hac,rA⟩:=jav (B:=B) oA
   refine Zs ?_;refine ja7 rfl zq zK (f159_k _ _ ((oW.rd (List.Sublist.refl _)).keeps SubH.sub) (eX.keeps SubH.sub) zO (fun l hl=>by obtain ⟨k,_,rfl⟩:=List.mem_map.1 hl;have:=jl7 k 12;omega) (rA.keeps SubH.sub) (by have:=jl7 (2^(jaa b).length-1) 12;omega) hac) ?_
   rintro v h' ⟨rfl,rv⟩;refine Z4 ?_;refine jad (ro h++[⟨false,q3,.cells [gv].toArray 141 (0,0)⟩,⟨false,q5,.cells [.chan (some ch)].toArray 193 (0,0)⟩]++X++W++nA) rfl Tryz.func103 rfl jab ?_;refine Zs ?_
   refine ⟨[⟨false,q3,.cells [gv].toArray 141 (0,0)⟩,⟨false,q5,.cells [.chan (some ch)].toArray 193 (0,0)⟩]++X++W++nA,by simp only [List.append_assoc],_,rv,jrI h12 (fun k=>?_) hh1⟩
   rw [←hN];exact hall k
end
section
variable [LaidO B]
theorem callB104:jcF Tryz.prog 104=true:=by kernel_rfl
theorem callB105:jcF Tryz.prog 105=true:=by kernel_rfl
def jn3 (b:Tb) (k:Nat):Bool:=!(jg4 (cdT b) (jeq k (jaa b).length)).isEmpty
def jc4 (b:Tb) (k:Nat):Bool:=!jbJ (jaM (jeq k (jaa b).length) (cdT b))
theorem jdY:jn3 b k=true↔jg4 (cdT b) (jeq k (jaa b).length)≠[]:=by
 unfold jn3
 cases jg4 (cdT b) (jeq k (jaa b).length)<;>simp
theorem jh2:jc4 b k=true↔ ¬jbJ (jaM (jeq k (jaa b).length) (cdT b))=true:=by simp [jc4]
theorem jjx {α:Type}: ∀(D:List α) (p:List Bool),(∀x∈p,x=true)→p.length=D.length→jaM p D=D
 |[],[],_,_=>rfl
 |[],_::_,_,h=>by simp at h
 |_::_,[],_,h=>by simp at h
 |d::D,x::p,h,hl=>by
  obtain rfl:=h x zS
  show d::jaM p D=d::D
  rw [jjx D p (fun y hy=>h y (by simp [hy])) (by simpa using hl)]
theorem jjz (n:Nat): ∀x∈jeq (2^n-1) n,x=true:=fun x hx=>by
 rw [jeq,List.mem_map] at hx
 obtain ⟨i,hi,rfl⟩:=hx
 rw [List.mem_range] at hi
 rw [Nat.testBit_two_pow_sub_one];simpa using hi
theorem js4 (n:Nat):jeq 0 n=(jeq (2^n-1) n).map (!·):=by
 rw [←jpV (by have:=Nat.two_pow_pos n;omega),Nat.sub_self]
theorem jpW: ∀(D:List Cd) (p:List Bool),(∀x∈p,x=true)→p.length=D.length→jg4 D p≠[]
 |[],_,_,_=>by simp [jg4]
 |_::_,[],_,h=>by simp at h
 |d::D,x::p,h,hl=>by
  obtain rfl:=h x zS
  show (jg4 D p).map _≠[]
  have:=jpW D p (fun y hy=>h y (by simp [hy])) (by simpa using hl)
  simpa using this
theorem jue (b:Tb):jn3 b (2^(jaa b).length-1)=true:=jdY.2 (jpW _ _ (jjz _) (by rw [jbP,jaq]))
theorem jm0 (b:Tb):jg4 (cdT b) (jeq 0 (jaa b).length)≠[]↔jbJ (cdT b)=true:=by
 rw [js4,jga (by rw [jbP,jaq]),jjx _ _ (jjz _) (by rw [jbP,jaq])]
theorem jpd (h: ¬jbJ (cdT b)=true):jc4 b (2^(jaa b).length-1)=true:=jh2.2 (by rw [jjx _ _ (jjz _) (by rw [jbP,jaq])];exact h)
theorem Sheet.ro (s:Sheet B H b q tv):Sheet B (Lo.ro H) b q tv:=by
 obtain ⟨h0,h1,⟨p,c,h2,h3,h4⟩,⟨rw,qm,h5,h6⟩,h7,h8⟩:=s
 refine ⟨h0,fun j hj=>(h1 j hj).ro,⟨p,c,h2.ro,h3,h4.ro⟩,⟨false,qm,h5.ro,List.mem_map.2 ⟨_,h6,rfl⟩⟩,fun i hi=>(h7 i hi).ro,fun i hi=>?_⟩
 obtain ⟨p,c,a1,a2,a3⟩:=h8 i hi
 exact ⟨p,c,a1.ro,a2,a3.ro⟩
theorem asks104 (sh:Sheet B hb b q tv):Asks B (.func (.func 104) #[.pointer (some ⟨q,0,none⟩)] #[]) hb (2^(jaa b).length) (jn3 b):=fun m k H' hk hs=>by
 have h12:2^(jaa b).length≤2^12:=Nat.pow_le_pow_right zO sh.twelve
 refine CallV.mono (CallV.fn' (vs:= #[.pointer (some ⟨q,0,none⟩),.int .u64 (k:Int)]) callB104 zS (f104_c m H' (sh.keeps hs) zO)) fun v h' ⟨e,p⟩=>⟨e,?_⟩
 rcases p with ⟨c,e⟩|⟨c,e⟩
 ·exact .inl ⟨jdY.2 c,e⟩
 ·exact .inr ⟨fun x=>c (jdY.1 x),e⟩
theorem asks105 (sh:Sheet B hb b q tv) (rx:Rd B hb ⟨qx,0,none⟩ (.pointer (some ⟨q,0,none⟩))):Asks B (.func (.func 105) #[] #[.pointer (some ⟨qx,0,none⟩)]) hb (2^(jaa b).length) (jc4 b):=fun m k H' hk hs=>by
 refine CallV.mono (CallV.fn' (vs:= #[.int .u64 (k:Int),.pointer (some ⟨qx,0,none⟩)]) callB105 zS (f105_c m H' (sh.keeps hs) (rx.keeps hs) hk)) fun v h' ⟨e,p⟩=>⟨e,?_⟩
 rcases p with ⟨c,e⟩|⟨c,e⟩
 ·exact .inl ⟨jh2.2 c,e⟩
 ·exact .inr ⟨fun x=>c (jh2.1 x),e⟩
theorem jfp (a c:Hp):ro (a++c)=ro a++ro c:=List.map_append
theorem f40_c (h:Hp) (ra:RawTb B h b ps ns ks pw nw cw pb nb cb):FnC (Md.starC Tryz.prog B) 40 #[tbV b ps ns ks pw nw cw pb nb cb] h fun v h'=> ∃nw w g,h'=ro h++nw∧v= .tuple [w,.int .i64 (tbS b)].toArray∧RdI B h' w g∧(tbS b≠0→g=[])∧(tbS b=0→jcA (fun l=>jn3 b (jbS l)=true) (jaa b).length g):=by
 refine jaf Tryz.func40 rfl rfl (l:=(tbV b ps ns ks pw nw cw pb nb cb)::uu16) rfl ?_
 intro cf cs K hK
 refine Z2 ?_
 refine jaX rfl zq (fun q1=>jau (jae ?_));refine Z7 ?_;refine jag (Post:=fun v=>v=_) rfl zq zK (fun H' hH=>f65_r _ H' (ra.keeps (sq hH))) ?_
 rintro v rfl;refine Z6 ?_
 refine jbK rfl zq (fun hc=>?_) (fun hc=>?_)
 ·refine Z9 ?_;refine jad (h) rfl Tryz.func40 rfl jab ?_;refine D104 ?_;refine Zs ?_
  have hne:tbS b≠0:=by omega
  exact ⟨[],_,[],by simp,rfl,RdI.nil,fun _=>rfl,fun e=>absurd e hne⟩
 ·refine Z4 ?_
  have hz0:tbS b=0:=by omega
  have hk:=jaN.1 hz0
  have h12:=jbH hk
  refine Z2 ?_;refine D56 ?_
  rintro v n12 ⟨q,rfl,sh⟩;refine Z7 ?_;refine jiB rfl zq ?_;refine ja7 rfl zq zK (f103_k _ (sh.keeps SubH.sub) (asks104 (sh.keeps SubH.sub).ro) (jue b)) ?_
  rintro v h' ⟨nz,rfl,g,rg,hl⟩;obtain ⟨gp,gc,rfl,rg,hgc⟩:=rg
  refine Z5 ?_;refine jad (ro (h++[⟨true,q1,.cells (tbL b ps ns ks pw nw cw pb nb cb).toArray 25 (0,0)⟩]++n12)++nz) rfl Tryz.func40 rfl jab ?_;refine Zs ?_
  exact ⟨ro [⟨true,q1,.cells (tbL b ps ns ks pw nw cw pb nb cb).toArray 25 (0,0)⟩]++ro n12++nz,_,g,by simp only [jfp,List.append_assoc],by rw [hz0],⟨gp,gc,rfl,rg⟩,fun e=>absurd hz0 e,fun _=>hl⟩
theorem f41_k (h:Hp) (ra:RawTb B h b ps ns ks pw nw cw pb nb cb):FnC (Md.starC Tryz.prog B) 41 #[tbV b ps ns ks pw nw cw pb nb cb] h fun v h'=> ∃nw w g,h'=ro h++nw∧v= .tuple [w,.int .i64 (tbS b)].toArray∧RdK B h' w g∧(tbS b≠0→g=[])∧(tbS b=0→jbJ (cdT b)=true→g=[])∧(tbS b=0→ ¬jbJ (cdT b)=true→jcA (fun l=>jc4 b (jbS l)=true) (jaa b).length g):=by
 refine jaf Tryz.func41 rfl rfl (l:=(tbV b ps ns ks pw nw cw pb nb cb)::uu17) rfl ?_
 intro cf cs K hK
 refine Z2 ?_
 refine jaX rfl zq (fun q1=>jau (jae ?_));refine Z7 ?_;refine jag (Post:=fun v=>v=_) rfl zq zK (fun H' hH=>f65_r _ H' (ra.keeps (sq hH))) ?_
 rintro v rfl;refine Z6 ?_
 refine jbK rfl zq (fun hc=>?_) (fun hc=>?_)
 ·refine Z9 ?_;refine jad (h) rfl Tryz.func41 rfl jab ?_;refine D104 ?_;refine Zs ?_
  have hne:tbS b≠0:=by omega
  exact ⟨[],_,[],by simp,rfl,RdK.nil,fun _=>rfl,fun _ _=>rfl,fun e=>absurd e hne⟩
 ·refine Z4 ?_
  have hz0:tbS b=0:=by omega
  have hk:=jaN.1 hz0
  have h12:=jbH hk
  refine Z2 ?_;refine D56 ?_
  rintro v n12 ⟨q,rfl,sh⟩;refine Zs ?_
  refine jax rfl zq (fun q5=>jau (jae ?_));refine D9 ?_;refine Z5 ?_;refine jag (Post:=fun v=>IsB _ v) rfl zq zK (fun H' hH=>f104_c _ H' (sh.keeps (sq hH)) (s:=0) zO) ?_
  rintro v (⟨hc,rfl⟩|⟨hc,rfl⟩)
  ·refine Zs ?_
   have hsd:=(jm0 b).1 hc
   refine Z8 ?_;refine jad (h) rfl Tryz.func41 rfl jab ?_;refine D104 ?_;refine Zs ?_
   exact ⟨[],_,[],by simp,by rw [hz0],RdK.nil,fun _=>rfl,fun _ _=>rfl,fun _ e=>absurd hsd e⟩
  ·refine Zs ?_
   have hcl:=fun e=>hc ((jm0 b).2 e)
   refine Z6 ?_;refine jiB rfl zq ?_;refine ja7 rfl zq zK (f103_k _ (sh.keeps SubH.sub) (asks105 (sh.keeps SubH.sub).ro (qx:=q5) (Rd.ro (Rd.held (show (⟨true,q5,.cells [.pointer (some ⟨q,0,none⟩)].toArray 109 (0,0)⟩:Chunk)∈_ by simp) rfl))) (jpd hcl)) ?_
   rintro v h' ⟨nz,rfl,g,rg,hl⟩;obtain ⟨gp,gc,rfl,rg,hgc⟩:=rg
   refine Z5 ?_;refine jad (ro (h++[⟨true,q1,.cells (tbL b ps ns ks pw nw cw pb nb cb).toArray 25 (0,0)⟩]++n12++[⟨true,q5,.cells [.pointer (some ⟨q,0,none⟩)].toArray 109 (0,0)⟩])++nz) rfl Tryz.func41 rfl jab ?_;refine Zs ?_
   exact ⟨ro [⟨true,q1,.cells (tbL b ps ns ks pw nw cw pb nb cb).toArray 25 (0,0)⟩]++ro n12++ro [⟨true,q5,.cells [.pointer (some ⟨q,0,none⟩)].toArray 109 (0,0)⟩]++nz,_,g,by simp only [jfp,List.append_assoc],by rw [hz0],⟨gp,gc,rfl,rg,hgc⟩,fun e=>absurd hz0 e,fun _ e=>absurd e hcl,fun _ _=>hl⟩
theorem f41_c (h:Hp) (ra:RawTb B h b ps ns ks pw nw cw pb nb cb):FnC (Md.starC Tryz.prog B) 41 #[tbV b ps ns ks pw nw cw pb nb cb] h fun v h'=> ∃nw w g,h'=ro h++nw∧v= .tuple [w,.int .i64 (tbS b)].toArray∧RdI B h' w g∧(tbS b≠0→g=[])∧(tbS b=0→jbJ (cdT b)=true→g=[])∧(tbS b=0→ ¬jbJ (cdT b)=true→jcA (fun l=>jc4 b (jbS l)=true) (jaa b).length g):=
 CallF.mono (f41_k h ra) fun v h' ⟨nw,w,g,e1,e2,e3,e4⟩=>⟨nw,w,g,e1,e2,e3.rdI,e4⟩
end
section
variable [LaidO B]
def badL (l:Ln):Prop:=20<l.figs.length∨ ∃k,k<l.figs.length∧100<(l.figs.getD k []).length
def grL (ls:List Ln):Prop:= ∃i,i<ls.length∧badL (ls.getD i default)
def jqz (b:Tb):Prop:=20<b.sts.length∨20<b.waters.length∨20<b.butts.length∨(∃j,j<b.sts.length∧100<(b.sts.getD j []).length)∨grL b.waters∨grL b.butts
def FitT (b:Tb):Prop:= ¬jqz b∧tbS b=0
theorem jpD (h: ¬grL ls): ∀l∈ls,l.figs.length≤1000∧ ∀f∈l.figs,f.length≤100000:=fun l hl=>by
 obtain ⟨i,hi,e⟩:=List.mem_iff_getElem.1 hl
 have hg:ls.getD i default=l:=by rw [List.getD_eq_getElem?_getD,List.getElem?_eq_getElem hi,Option.getD_some,e]
 have hb: ¬badL l:=fun x=>h ⟨i,hi,by rw [hg];exact x⟩
 refine ⟨Nat.le_of_not_lt fun x=>hb (.inl zO),fun f hf=>Nat.le_of_not_lt fun x=>?_⟩
 obtain ⟨k,hk,e⟩:=List.mem_iff_getElem.1 hf
 exact hb (.inr ⟨k,hk,by rw [List.getD_eq_getElem?_getD,List.getElem?_eq_getElem hk,Option.getD_some,e];omega⟩)
theorem jpC (h: ¬jqz b):TbSm b:=by
 refine ⟨fun s hs=>Nat.le_of_not_lt fun x=>?_,jpD fun e=>h (.inr (.inr (.inr (.inr (.inl e))))),jpD fun e=>h (.inr (.inr (.inr (.inr (.inr e)))))⟩
 obtain ⟨k,hk,e⟩:=List.mem_iff_getElem.1 hs
 exact h (.inr (.inr (.inr (.inl ⟨k,hk,by rw [List.getD_eq_getElem?_getD,List.getElem?_eq_getElem hk,Option.getD_some,e];omega⟩))))
theorem f86_c (m:Md Tryz.prog B) (h:Hp) {c:Nat} (hln:RdLn B h (.slice p n c) n ls) (hn:n≤20):FnC m 86 #[.slice p n c] h fun v h'=>h'=h∧IsB (grL ls) v:=by
 obtain ⟨lps,rfl,rl,hfig⟩:=hln
 have hll:=rl.elen zA
 refine jaf Tryz.func86 rfl rfl (l:=(.slice p n c)::uu37) rfl ?_
 intro cf cs K hK
 refine Z10 ?_
 refine jai (fun nn l h'=> ∃(i:Nat),nn=n-i∧(i≤n)∧(∀j,j<i→ ¬badL (lps.getD j default).ln)∧(∃U:Nat→Value,l=((.slice p n c)::(U 1)::(U 2)::(.int .i64 (i:Int))::vw34 U 4 []))∧h=h') _ ⟨0,rfl,by omega,fun j hj=>absurd hj zO,exU rfl,rfl⟩ ?_;rintro nn l h' ⟨i,rfl,hi,hgo,⟨U,rfl⟩,rfl⟩ hnext1;refine Z6 ?_
 refine jao rfl zq (fun hc=>?_) (fun hc=>?_)
 ·refine Z7 ?_
  obtain ⟨rlb,rlo,hrp⟩:=rl.ptr zO
  have rl2:=rl
  rw [hrp] at rl2
  obtain ⟨hxc,rdf0⟩:=hfig _ (jah (l:=lps) (i:=i) zO)
  refine Z3 ?_;refine D65 ?_;refine Zs ?_;refine D46 ?_;refine Zs ?_
  refine jaY rfl zq (fun hc=>?_) (fun hc=>?_)
  ·refine Z7 ?_;refine jad (h) rfl Tryz.func86 rfl jab ?_;refine Zs ?_
   exact ⟨rfl,IsB.yes ⟨i,by rw [List.length_map];omega,by rw [ja1 _ _ zO];exact .inl zO⟩⟩
  ·refine Z8 ?_
   refine jai (fun nn l h'=> ∃(k:Nat),nn=(lps.getD i default).ln.figs.length-k∧(k≤(lps.getD i default).ln.figs.length)∧(∀j,j<k→ ¬100<((lps.getD i default).ln.figs.getD j []).length)∧(∃U:Nat→Value,l=((.slice p n c)::(U 1)::(U 2)::(.int .i64 (i:Int))::(.int .i64 (k:Int))::vw33 U 5 []))∧h=h') _ ⟨0,rfl,by omega,fun j hj=>absurd hj zO,exU rfl,rfl⟩ ?_;rintro nn l h' ⟨k,rfl,hk,hfk,⟨U,rfl⟩,rfl⟩ hnext2;refine Z6 ?_;refine D65 ?_;refine Zs ?_;refine D46 ?_;refine Zs ?_
   refine jao rfl zq (fun hc=>?_) (fun hc=>?_)
   ·refine Z6 ?_
    have rdf:=rdf0 zO
    obtain ⟨fb,fo,hfp⟩:=rdf.ptr zO
    have rdg:=rdf
    rw [hfp] at rdg
    refine Z3 ?_;refine D65 ?_;refine Zs ?_;refine D46 ?_;refine Zs ?_;refine D54 ?_;refine D99 ?_;refine Zs ?_
    refine jaY rfl zq (fun hc=>?_) (fun hc=>?_)
    ·refine Z7 ?_;refine jad (h) rfl Tryz.func86 rfl jab ?_;refine Zs ?_
     exact ⟨rfl,IsB.yes ⟨i,by rw [List.length_map];omega,by rw [ja1 _ _ zO];exact .inr ⟨k,by omega,by omega⟩⟩⟩
    ·refine Z9 ?_
     exact m.weak jab (hnext2 _ _ _ zO ⟨k+1,rfl,by omega,fun j hj=>by
      by_cases e:j<k
      ·exact hfk j e
      ·obtain rfl:j=k:=by omega
       omega,exU rfl,rfl⟩)
   ·refine Z9 ?_
    exact m.weak jab (hnext1 _ _ _ zO ⟨i+1,rfl,by omega,fun j hj=>by
     by_cases e:j<i
     ·exact hgo j e
     ·obtain rfl:j=i:=by omega
      rintro (e|⟨k2,hk2,e⟩)
      ·omega
      ·exact hfk k2 zO e,exU rfl,rfl⟩)
 ·refine Z8 ?_;refine jad (h) rfl Tryz.func86 rfl jab ?_;refine Zs ?_
  refine ⟨rfl,IsB.no ?_⟩
  rintro ⟨j,hj,e⟩;rw [List.length_map] at hj
  rw [ja1 _ _ zO] at e
  exact hgo j zO e
theorem f19_c (m:Md Tryz.prog B) (h:Hp) (rds:RdS B h 1 (.slice ps ns ks) ns (jaC b.sts)) (hcs:ns≤ks) (rdw:RdLn B h (.slice pw nw cw) nw b.waters) (rdb:RdLn B h (.slice pb nb cb) nb b.butts):FnC m 19 #[tbV b ps ns ks pw nw cw pb nb cb] h fun v h'=>h'=h∧IsB (jqz b) v:=by
 have hml:=rds.elen zA
 have hwl:=jaV rdw
 have hbl:=jaV rdb
 refine jaf Tryz.func19 rfl rfl (l:=(tbV b ps ns ks pw nw cw pb nb cb)::uu41) rfl ?_
 intro cf cs K hK
 refine Z2 ?_
 refine jaX rfl zq (fun q1=>jau (jae ?_));refine Z4 ?_;refine D41 ?_;refine Z3 ?_
 refine jaY rfl zq (fun hc=>?_) (fun hc=>?_)
 ·refine Z19 ?_;refine D94 ?_;refine Zs ?_
  first
   |exact E63
   |exact E64
   |exact E65
   |exact E66
   |exact E67
   |exact E68
   |exact ⟨rfl,IsB.no fun e=>by
     rcases e with e|e|e|⟨i,hi,e⟩|e|e
     ·omega
     ·omega
     ·omega
     ·exact hgo i zO e
     ·exact hgw e
     ·exact hgb e⟩
 ·refine Z4 ?_
  refine jaY rfl rfl (fun hc=>?_) (fun hc=>?_)
  ·refine Z14 ?_;refine D94 ?_;refine Zs ?_
   first
    |exact E63
    |exact E64
    |exact E65
    |exact E66
    |exact E67
    |exact E68
    |exact ⟨rfl,IsB.no fun e=>by
      rcases e with e|e|e|⟨i,hi,e⟩|e|e
      ·omega
      ·omega
      ·omega
      ·exact hgo i zO e
      ·exact hgw e
      ·exact hgb e⟩
  ·refine Z5 ?_
   refine jaY rfl rfl (fun hc=>?_) (fun hc=>?_)
   ·refine Z8 ?_;refine D94 ?_;refine Zs ?_
    first
     |exact E63
     |exact E64
     |exact E65
     |exact E66
     |exact E67
     |exact E68
     |exact ⟨rfl,IsB.no fun e=>by
       rcases e with e|e|e|⟨i,hi,e⟩|e|e
       ·omega
       ·omega
       ·omega
       ·exact hgo i zO e
       ·exact hgw e
       ·exact hgb e⟩
   ·refine Z10 ?_
    refine jai (fun nn l h'=> ∃(j:Nat),nn=ns-j∧(j≤ns)∧(∀i,i<j→ ¬100<(b.sts.getD i []).length)∧(∃U:Nat→Value,l=((tbV b ps ns ks pw nw cw pb nb cb)::(.pointer (some ⟨q1,0,none⟩))::(U 2)::(.int .i64 (j:Int))::vw38 U 4 []))∧h++[⟨true,q1,.cells (tbL b ps ns ks pw nw cw pb nb cb).toArray 25 (0,0)⟩]=h') _ ⟨0,rfl,by omega,fun i hi=>absurd hi zO,exU rfl,rfl⟩ ?_;rintro nn l h' ⟨j,rfl,hj,hgo,⟨U,rfl⟩,rfl⟩ hnext;refine Z7 ?_
    refine jao rfl zq (fun hc=>?_) (fun hc=>?_)
    ·refine Z6 ?_
     obtain ⟨sb,so,hsp⟩:=rds.ptr zO
     have rds2:=rds
     rw [hsp] at rds2
     refine Z4 ?_;refine jcq rfl zq hsp zO zO ?_;refine jaW rfl zq ((rds2.sat j zO zO).keeps (List.sublist_append_left _ _)) ?_;refine Zs ?_
     refine jaY rfl zq (fun hc=>?_) (fun hc=>?_)
     ·refine Z7 ?_;refine D94 ?_;refine Zs ?_
      first
       |exact E63
       |exact E64
       |exact E65
       |exact E66
       |exact E67
       |exact E68
       |exact ⟨rfl,IsB.no fun e=>by
         rcases e with e|e|e|⟨i,hi,e⟩|e|e
         ·omega
         ·omega
         ·omega
         ·exact hgo i zO e
         ·exact hgw e
         ·exact hgb e⟩
     ·refine Z9 ?_
      exact m.weak jab (hnext _ _ _ zO ⟨j+1,rfl,by omega,fun i hi=>by
       by_cases e:i<j
       ·exact hgo i e
       ·obtain rfl:i=j:=by omega
        omega,exU rfl,rfl⟩)
    ·refine Z7 ?_;refine jag (Post:=fun v=>IsB _ v) rfl zq zK (fun H' hH=>f86_c m H' (rdw.keeps (sq hH)) zO) ?_
     rintro v (⟨hc,rfl⟩|⟨hc,rfl⟩)
     ·refine Zs ?_
      have hgw:=hc
      refine Z8 ?_;refine D94 ?_;refine Zs ?_
      first
       |exact E63
       |exact E64
       |exact E65
       |exact E66
       |exact E67
       |exact E68
       |exact ⟨rfl,IsB.no fun e=>by
         rcases e with e|e|e|⟨i,hi,e⟩|e|e
         ·omega
         ·omega
         ·omega
         ·exact hgo i zO e
         ·exact hgw e
         ·exact hgb e⟩
     ·refine Zs ?_
      have hgw:=hc
      refine Z3 ?_;refine jag (Post:=fun v=>IsB _ v) rfl rfl zK (fun H' hH=>f86_c m H' (rdb.keeps (sq hH)) zO) ?_
      rintro v (⟨hc,rfl⟩|⟨hc,rfl⟩);all_goals
       refine Zs ?_
       have hgb:=hc
       refine Z4 ?_;refine D94 ?_;refine Zs ?_
       first
        |exact E63
        |exact E64
        |exact E65
        |exact E66
        |exact E67
        |exact E68
        |exact ⟨rfl,IsB.no fun e=>by
          rcases e with e|e|e|⟨i,hi,e⟩|e|e
          ·omega
          ·omega
          ·omega
          ·exact hgo i zO e
          ·exact hgw e
          ·exact hgb e⟩
theorem f25_c (m:Md Tryz.prog B) (h:Hp) (rds:RdS B h 1 (.slice ps ns ks) ns (jaC b.sts)) (hcs:ns≤ks) (rdw:RdLn B h (.slice pw nw cw) nw b.waters) (rdb:RdLn B h (.slice pb nb cb) nb b.butts):FnC m 25 #[tbV b ps ns ks pw nw cw pb nb cb] h fun v h'=>h'=h∧IsB (FitT b) v:=by
 have hml:=rds.elen zA
 have hwl:=jaV rdw
 have hbl:=jaV rdb
 refine jaf Tryz.func25 rfl rfl (l:=(tbV b ps ns ks pw nw cw pb nb cb)::uu10) rfl ?_
 intro cf cs K hK
 refine Z2 ?_
 refine jaX rfl zq (fun q1=>jau (jae ?_));refine Z5 ?_;refine jag (Post:=fun v=>IsB _ v) rfl zq zK (fun H' hH=>f19_c m H' (rds.keeps (sq hH)) hcs (rdw.keeps (sq hH)) (rdb.keeps (sq hH))) ?_
 rintro v (⟨hc,rfl⟩|⟨hc,rfl⟩)
 ·refine Zs ?_
  have hgr:=hc
  refine Z9 ?_;refine jad (h) rfl Tryz.func25 rfl jab ?_;refine Zs ?_
  exact E69
 ·refine Zs ?_
  have hgr:=hc
  have hl1:ns≤20:=Nat.le_of_not_lt fun x=>hgr (.inl zO)
  have hl2:nw≤20:=Nat.le_of_not_lt fun x=>hgr (.inr (.inl zO))
  have hl3:nb≤20:=Nat.le_of_not_lt fun x=>hgr (.inr (.inr (.inl zO)))
  have hsm:=jpC hgr
  refine Z3 ?_;refine jag (Post:=fun v=>v=_) rfl rfl zK (fun H' hH=>f66_c m H' (rds.keeps (sq hH)) hcs zO hsm.sts (rdw.keeps (sq hH)) zO (rdb.keeps (sq hH)) zO hsm) ?_
  rintro v rfl;refine Zs ?_
  refine jaS rfl rfl (fun hc=>?_) (fun hc=>?_);all_goals
   refine Z4 ?_;refine jad (h) rfl Tryz.func25 rfl jab ?_;refine Zs ?_
   exact E69
theorem f61_c (m:Md Tryz.prog B) (h:Hp) {c n2 c2:Nat} {xs:List Int} (rd:RdS B h 1 (.slice p n c) n (jaI xs)) (hn:n≤1000000) (rd2:RdS B h 1 (.slice p2 n2 c2) n2 (jaI ys)):FnC m 61 #[.slice p n c,.slice p2 n2 c2] h fun v h'=>h'=h∧IsB (xs=ys) v:=by
 refine jaf Tryz.func61 rfl rfl (l:=(.slice p n c)::(.slice p2 n2 c2)::uu6) rfl ?_
 intro cf cs K hK
 refine Z8 ?_;refine jag (Post:=fun v=>IsB _ v) rfl zq zK (fun H' hH=>f42_c m H' (rd.keeps (sq hH)) hn (rd2.keeps (sq hH))) ?_
 rintro v (⟨hc,rfl⟩|⟨hc,rfl⟩);all_goals
  refine Z4 ?_;refine jad (h) rfl Tryz.func61 rfl jab ?_;refine Zs ?_
 ·exact ⟨rfl,IsB.yes hc⟩
 ·exact ⟨rfl,IsB.no hc⟩
end
end Go.Proofs
