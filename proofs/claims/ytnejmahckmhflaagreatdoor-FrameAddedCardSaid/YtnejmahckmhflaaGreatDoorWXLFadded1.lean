/- A part of the proof of a law: my own separation logic over the machine, and walks of the program. Condition of each theorem: as its statement says. -/
import Derived.Test.YtnejmahckmhflaaGreatDoorWB9
set_option linter.all false
namespace Go.Lo
open Go.Conc (G)
section
variable {α:Type} {k:Nat} [Enc α k]
theorem encs_cut: ∀(xs:List α) (i:Nat),(encs xs).take (i*k)=encs (xs.take i)∧(encs xs).drop (i*k)=encs (xs.drop i)
 |[],i=>by simp [encs]
 |a::r,0=>by simp [encs]
 |a::r,i+1=>by
  obtain ⟨h1,h2⟩:=encs_cut r i
  have hl:(Enc.enc a).length=k:=Enc.len a
  have e:(i+1)*k=(Enc.enc a).length+i*k:=by rw [hl,Nat.add_mul];omega
  refine ⟨?_,?_⟩
  ·show (Enc.enc a++encs r).take ((i+1)*k)=Enc.enc a++encs (r.take i)
   rw [e,List.take_length_add_append,h1]
  ·show (Enc.enc a++encs r).drop ((i+1)*k)=encs (r.drop i)
   rw [e,List.drop_length_add_append,h2]
theorem encs_take (xs:List α) (i:Nat):encs (xs.take i)=(encs xs).take (i*k):=(encs_cut xs i).1.symm
theorem encs_drop (xs:List α) (i:Nat):encs (xs.drop i)=(encs xs).drop (i*k):=(encs_cut xs i).2.symm
end
section
variable {B:Array Obj} {h H:Hp}
end
end Go.Lo
namespace Go.Lo
open Go.Conc (G)
section
variable {B:Array Obj} {h:Hp}
theorem RdS.okp {k n c:Nat} {p:Option Addr} {ys:List Value} (rd:RdS B h k (.slice p n c) n ys):OkP p:=by
 obtain ⟨p',c',e,_,⟨rfl,_⟩|⟨b,o,rfl,_⟩⟩:=rd
 ·exact .inl (Value.slice.inj e).1
 ·exact .inr ⟨b,o,(Value.slice.inj e).1⟩
theorem RdS.cut {k n c:Nat} {p:Option Addr} {ys:List Value} (rd:RdS B h k (.slice p n c) n ys) {lo:Nat} (hlo:lo≤n) (hc:n≤c):RdS B h k (.slice (cutP k p c lo) (n-lo) (c-lo)) (n-lo) (ys.drop (lo*k)):=by
 obtain ⟨p',c',e,hl,hr⟩:=rd
 obtain ⟨rfl,_,rfl⟩:=Value.slice.inj e
 refine ⟨_,_,rfl,by rw [List.length_drop,hl,Nat.sub_mul],?_⟩
 rcases hr with ⟨rfl,rfl⟩|⟨b,o,rfl,rd⟩
 ·refine .inl ⟨?_,by omega⟩
  unfold cutP
  split<;>rfl
 ·have out: ∀o',(c=lo→o'=o)→(c≠lo→o'=o+lo*k)→RdN B h b o' (ys.drop (lo*k)):=fun o' h1 h2 j hj=>by
   rw [List.length_drop,hl] at hj
   have hne:c≠lo:=by
    rintro rfl;have:n=c:=by omega
    subst this
    omega
   have:=rd (lo*k+j) (by omega)
   rw [List.getD_eq_getElem?_getD] at this⊢
   rw [List.getElem?_drop,h2 hne,Nat.add_assoc];exact this
  unfold cutP
  split
  ·rename_i e1
   exact .inr ⟨b,o,rfl,out o (fun _=>rfl) (fun e=>absurd e1 e)⟩
  ·rename_i e1
   exact .inr ⟨b,o+lo*k,by simp [Addr.add_none],out _ (fun e=>absurd e e1) (fun _=>rfl)⟩
end
section
variable {P:Program} {B:Array Obj} {m:Md P B} {ops:Array Oper} {l l':List Value} {S h h' H:Hp} {C:List Value→Hp→Prop} {i:Nat} {kd:Kd} {r:List (Nat×Kd)}
 {d:Option Tmp} {ty:TypeId} {pos:String} {af:Array Edge} {g:Option (Nat×Bool)}
end
end Go.Lo
namespace Go.Lo
open Go.Conc (G)
section
variable {P:Program} {B:Array Obj} {m:Md P B} {S:Hp} {ops:Array Oper}
theorem DrawT.mono {l:List Value} {h:Hp} {C C':List Value→Hp→Prop} (hc: ∀l h,C l h→C' l h) {E:List (Nat×Nat)} (t:DrawT m S ops l h C E):DrawT m S ops l h C' E:=by
 induction t with
 |leaf r hok t=>exact .leaf r hok (RegK.mono hc t)
 |split a b hab _ _ ih1 ih2=>exact .split a b hab ih1 ih2
theorem run_drawC (C:List Value→Hp→Prop) {b:Frame} {ds:List Deferred} {k:List Item} {cs:List Frame} {K:Goroutine→Hp→Prop} {id:Nat} {l:List Value} {h:Hp} (r0:List Nat) (hm:(P.follows .mixedOrders||!Region.departs ops)=true)
  (hok:(topoOk ops [] (r0.map fun i=>(i,Kd.free))&&(List.range ops.size).all fun i=>r0.contains i)=true) (hS:S.Sublist h) (t:DrawT m S ops l h C []) (n: ∀l' h',C l' h'→m.R K (Gr b l' ds k cs) h'):m.R K (Gr b l ds (.code (.region id ops true)::k) cs) h:=
 run_drawT r0 hm hok hS (t.mono n)
end
end Go.Lo
namespace Go.Lo
theorem rootN_ge {n k:Nat} (h:k*k≤n):k≤rootN n:=by
 rcases Nat.lt_or_ge (rootN n) k with h1|h1
 ·have h2:=sq_le (show rootN n+1≤k by omega)
  have h3:=(rootN_spec n).2
  omega
 ·exact h1
theorem rootN_lef {n k:Nat} (h:n≤k*k):rootN n≤k:=by
 have h2:k*k<(k+1)*(k+1):=Nat.mul_lt_mul_of_lt_of_le (by omega) (by omega) (by omega)
 have:=rootN_lt (n:=n) (k:=k+1) (by omega)
 omega
theorem sq_abs (x:Int):x*x=((x.natAbs*x.natAbs:Nat):Int):=by
 rw [Int.natCast_mul];rcases Int.natAbs_eq x with h|h
 ·rw [←h]
 ·generalize x.natAbs=n at h
  subst h
  rw [Int.neg_mul_neg]
theorem rootI_sum (x y:Int):rootI (x*x+y*y)=(rootN (x.natAbs*x.natAbs+y.natAbs*y.natAbs):Int):=by
 rw [sq_abs x,sq_abs y,←Int.natCast_add,rootI,Int.toNat_natCast]
theorem root_ge (x y:Nat):x≤rootN (x*x+y*y)∧y≤rootN (x*x+y*y):=⟨rootN_ge (by omega),rootN_ge (by omega)⟩
theorem root_le (x y:Nat):rootN (x*x+y*y)≤x+y:=rootN_lef (by
 have:(x+y)*(x+y)=x*x+y*y+(x*y+y*x):=by
  rw [Nat.add_mul,Nat.mul_add,Nat.mul_add];omega
 omega)
theorem sq_le_of {a b:Nat} (h:a*a≤b*b):a≤b:=by
 rcases Nat.lt_or_ge b a with h1|h1
 ·exact absurd (Nat.mul_lt_mul_of_lt_of_le h1 (Nat.le_of_lt h1) (by omega)) (by omega)
 ·exact h1
theorem sq_lt_of {a b:Nat} (h:a*a<b*b):a<b:=by
 rcases Nat.lt_or_ge a b with h1|h1
 ·exact h1
 ·exact absurd (sq_le h1) (by omega)
theorem line_id (p q r s:Nat) (h:p*s=r*q):(p*p+q*q)*(r*r+s*s)=(p*r+q*s)*(p*r+q*s):=by
 have e1:(p*p+q*q)*(r*r+s*s)=(p*r)*(p*r)+(q*s)*(q*s)+((p*s)*(p*s)+(r*q)*(r*q)):=by
  simp only [Nat.add_mul,Nat.mul_add]
  have a1:p*p*(r*r)=p*r*(p*r):=by ac_rfl
  have a2:q*q*(r*r)=r*q*(r*q):=by ac_rfl
  have a3:p*p*(s*s)=p*s*(p*s):=by ac_rfl
  have a4:q*q*(s*s)=q*s*(q*s):=by ac_rfl
  omega
 have e2:(p*r+q*s)*(p*r+q*s)=(p*r)*(p*r)+(q*s)*(q*s)+((p*s)*(r*q)+(r*q)*(p*s)):=by
  simp only [Nat.add_mul,Nat.mul_add]
  have a1:p*r*(q*s)=(p*s)*(r*q):=by ac_rfl
  have a2:q*s*(p*r)=(r*q)*(p*s):=by ac_rfl
  omega
 rw [e1,e2,h]
theorem root_line (p q r s:Nat) (h:p*s=r*q):rootN (p*p+q*q)+rootN (r*r+s*s)≤rootN ((p+r)*(p+r)+(q+s)*(q+s))∧rootN ((p+r)*(p+r)+(q+s)*(q+s))≤rootN (p*p+q*q)+rootN (r*r+s*s)+1:=by
 have hid:=line_id p q r s h
 obtain ⟨a1,a2⟩:=rootN_spec (p*p+q*q)
 obtain ⟨b1,b2⟩:=rootN_spec (r*r+s*s)
 generalize rootN (p*p+q*q)=a at a1 a2⊢
 generalize rootN (r*r+s*s)=b at b1 b2⊢
 have big:(p+r)*(p+r)+(q+s)*(q+s)=(p*p+q*q)+(r*r+s*s)+2*(p*r+q*s):=by
  simp only [Nat.add_mul,Nat.mul_add]
  have e1:r*p=p*r:=Nat.mul_comm _ _
  have e2:s*q=q*s:=Nat.mul_comm _ _
  omega
 rw [big];generalize p*p+q*q=A at*
 generalize r*r+s*s=C at*
 generalize p*r+q*s=D at*
 have h1:a*b≤D:=sq_le_of (by
  rw [←hid,show a*b*(a*b)=(a*a)*(b*b) by ac_rfl];exact Nat.mul_le_mul a1 b1)
 have h2:D<(a+1)*(b+1):=sq_lt_of (by
  rw [←hid,show (a+1)*(b+1)*((a+1)*(b+1))=((a+1)*(a+1))*((b+1)*(b+1)) by ac_rfl];exact Nat.mul_lt_mul_of_lt_of_le a2 (Nat.le_of_lt b2) (Nat.mul_pos (by omega) (by omega)))
 refine ⟨rootN_ge ?_,?_⟩
 ·have:(a+b)*(a+b)=a*a+b*b+2*(a*b):=by
   simp only [Nat.add_mul,Nat.mul_add]
   have:b*a=a*b:=Nat.mul_comm _ _
   omega
  omega
 ·have:(a+b+2)*(a+b+2)=(a+1)*(a+1)+(b+1)*(b+1)+2*((a+1)*(b+1)):=by
   rw [show a+b+2=(a+1)+(b+1) by omega];generalize a+1=x
   generalize b+1=y
   simp only [Nat.add_mul,Nat.mul_add]
   have:y*x=x*y:=Nat.mul_comm _ _
   omega
  have:=rootN_lt (n:=A+C+2*D) (k:=a+b+2) (by omega)
  omega
theorem side_bounds {pts:List Pt} {l:List Int} {i:Nat} (h:(pts.getD i default).h≤(pts.getD (i+1) default).h):(pts.getD (i+1) default).h-(pts.getD i default).h≤sideI pts l i∧l.getD (i+1) 0-l.getD i 0≤sideI pts l i∧l.getD i 0-l.getD (i+1) 0≤sideI pts l i∧
  sideI pts l i≤(pts.getD (i+1) default).h-(pts.getD i default).h+max (l.getD (i+1) 0-l.getD i 0) (l.getD i 0-l.getD (i+1) 0):=by
 unfold sideI
 rw [rootI_sum];obtain ⟨h1,h2⟩:=root_ge ((pts.getD (i+1) default).h-(pts.getD i default).h).natAbs (l.getD (i+1) 0-l.getD i 0).natAbs
 have h3:=root_le ((pts.getD (i+1) default).h-(pts.getD i default).h).natAbs (l.getD (i+1) 0-l.getD i 0).natAbs
 generalize rootN _=r at*
 omega
def stepsI (l:List Int) (f:Nat):Nat→Int
 |0=>0
 |k+1=>stepsI l f k+max (l.getD (f+k+1) 0-l.getD (f+k) 0) (l.getD (f+k) 0-l.getD (f+k+1) 0)
theorem girth_bounds {pts:List Pt} {l:List Int} (up: ∀i,i+1<pts.length→(pts.getD i default).h<(pts.getD (i+1) default).h) (f:Nat): ∀k,f+k<pts.length→(pts.getD (f+k) default).h-(pts.getD f default).h≤girthF pts l f k∧l.getD (f+k) 0-l.getD f 0≤girthF pts l f k∧l.getD f 0-l.getD (f+k) 0≤girthF pts l f k∧
  girthF pts l f k≤(pts.getD (f+k) default).h-(pts.getD f default).h+stepsI l f k
 |0,_=>by simp [girthF,stepsI]
 |k+1,h=>by
  obtain ⟨h1,h2,h3,h4⟩:=girth_bounds (l:=l) up f k (by omega)
  have hu:=up (f+k) (by omega)
  obtain ⟨s1,s2,s3,s4⟩:=side_bounds (pts:=pts) (l:=l) (i:=f+k) (by omega)
  rw [show f+(k+1)=f+k+1 by omega];simp only [girthF,stepsI]
  omega
theorem girthF_add (pts:List Pt) (l:List Int) (f k:Nat): ∀j,girthF pts l f (k+j)=girthF pts l f k+girthF pts l (f+k) j
 |0=>by simp [girthF]
 |j+1=>by
  rw [show k+(j+1)=k+j+1 by omega];simp only [girthF]
  rw [girthF_add pts l f k j,show f+(k+j)=f+k+j by omega];omega
theorem segN_at {pts:List Pt} {hh:Int} {i:Nat} (up: ∀i,i+1<pts.length→(pts.getD i default).h<(pts.getD (i+1) default).h) (hi:i+1<pts.length) (h1:(pts.getD i default).h<hh) (h2:hh≤(pts.getD (i+1) default).h):segN pts hh=i:=by
 have mono: ∀j k,j≤k→k<pts.length→(pts.getD j default).h≤(pts.getD k default).h:=by
  intro j k hjk
  induction k with
  |zero=>
       intro _
       obtain rfl:j=0:=by omega
       exact Int.le_refl _
  |succ k ih=>
   intro hk
   rcases Nat.lt_or_ge j (k+1) with h|h
   ·have:=ih (by omega) (by omega);have:=up k hk;omega
   ·obtain rfl:j=k+1:=by omega
    exact Int.le_refl _
 refine segN_eq hi (fun k hk=>?_) h2
 have:=mono (k+1) i (by omega) (by omega)
 omega
theorem mono_h {pts:List Pt} (up: ∀i,i+1<pts.length→(pts.getD i default).h<(pts.getD (i+1) default).h): ∀j k,j≤k→k<pts.length→(pts.getD j default).h≤(pts.getD k default).h:=by
 intro j k hjk
 induction k with
 |zero=>
      intro _
      obtain rfl:j=0:=by omega
      exact Int.le_refl _
 |succ k ih=>
  intro hk
  rcases Nat.lt_or_ge j (k+1) with h|h
  ·have:=ih (by omega) (by omega);have:=up k hk;omega
  ·obtain rfl:j=k+1:=by omega
   exact Int.le_refl _
theorem atI_between {pts:List Pt} {l:List Int} {hh:Int} {i:Nat} (up: ∀i,i+1<pts.length→(pts.getD i default).h<(pts.getD (i+1) default).h) (hi:i+1<pts.length) (h1:(pts.getD i default).h≤hh) (h2:hh≤(pts.getD (i+1) default).h):
  atI pts l hh=l.getD i 0+((l.getD (i+1) 0-l.getD i 0)*(hh-(pts.getD i default).h))/((pts.getD (i+1) default).h-(pts.getD i default).h):=by
 rcases Int.lt_or_eq_of_le h1 with h|h
 ·unfold atI downI
  rw [segN_at up hi h h2]
 ·subst h
  rw [Int.sub_self,Int.mul_zero,Int.zero_ediv,Int.add_zero];cases i with
  |zero=>
   unfold atI downI
   rw [segN_eq (i:=0) hi (fun k hk=>by omega) h2];simp
  |succ i=>
   have hu:=up i (by omega)
   unfold atI downI
   rw [segN_at (i:=i) up (by omega) hu (Int.le_refl _)];have:(pts.getD (i+1) default).h-(pts.getD i default).h≠0:=by omega
   simp only
   rw [Int.mul_ediv_cancel _ this];omega
theorem seg_exists {pts:List Pt} {hh:Int} (h0:(pts.getD 0 default).h≤hh): ∀n,n+1<pts.length→hh≤(pts.getD (n+1) default).h→ ∃i,i≤n∧(pts.getD i default).h≤hh∧hh≤(pts.getD (i+1) default).h
 |0,_,h=>⟨0,Nat.le_refl _,h0,h⟩
 |n+1,hn,h=>by
  rcases Int.lt_or_le (pts.getD (n+1) default).h hh with h1|h1
  ·exact ⟨n+1,Nat.le_refl _,by omega,h⟩
  ·obtain ⟨i,hi,h2⟩:=seg_exists h0 n (by omega) h1
   exact ⟨i,by omega,h2⟩
theorem PtsOk.seg {pts:List Pt} (k:PtsOk pts) {hh:Int} (h0:(pts.getD 0 default).h≤hh) (h1:hh≤(pts.getD (pts.length-1) default).h): ∃i,i+1<pts.length∧(pts.getD i default).h≤hh∧hh≤(pts.getD (i+1) default).h:=by
 have:=k.two
 obtain ⟨i,hi,h2⟩:=seg_exists h0 (pts.length-2) (by omega) (by rw [show pts.length-2+1=pts.length-1 by omega];exact h1)
 exact ⟨i,by omega,h2⟩
theorem mean_eq {a c t d:Int} (hd:0<d):a+((c-a)*t)/d=(a*(d-t)+c*t)/d:=by
 have:a*(d-t)+c*t=(c-a)*t+a*d:=by
  rw [Int.mul_sub,Int.sub_mul];omega
 rw [this,Int.add_mul_ediv_right _ _ (by omega)];omega
theorem mean_mono {a c a' c' t d:Int} (hd:0<d) (h0:0≤t) (h1:t≤d) (ha:a≤a') (hc:c≤c'):a+((c-a)*t)/d≤a'+((c'-a')*t)/d:=by
 rw [mean_eq hd,mean_eq hd];refine Int.ediv_le_ediv hd ?_
 have e1:=Int.mul_le_mul_of_nonneg_right ha (show 0≤d-t by omega)
 have e2:=Int.mul_le_mul_of_nonneg_right hc h0
 omega
theorem mean_const {a t d:Int}:a+((a-a)*t)/d=a:=by
 rw [Int.sub_self,Int.zero_mul,Int.zero_ediv];omega
end Go.Lo
namespace Go.Lo
def insL {α:Type} (xs:List α) (i:Nat) (x:α):List α:=xs.take (i+1)++x::xs.drop (i+1)
section
variable {α:Type} {xs:List α} {i j:Nat} {x d:α}
theorem insL_length (h:i<xs.length):(insL xs i x).length=xs.length+1:=by
 unfold insL
 rw [List.length_append,List.length_cons,List.length_take,List.length_drop];omega
theorem insL_lo (h:i<xs.length) (hj:j≤i):(insL xs i x).getD j d=xs.getD j d:=by
 unfold insL
 rw [List.getD_eq_getElem?_getD,List.getD_eq_getElem?_getD,List.getElem?_append_left (by rw [List.length_take];omega),List.getElem?_take,if_pos (by omega)]
theorem insL_at (h:i<xs.length):(insL xs i x).getD (i+1) d=x:=by
 unfold insL
 have e:(xs.take (i+1)).length=i+1:=by rw [List.length_take];omega
 rw [List.getD_eq_getElem?_getD,List.getElem?_append_right (by omega),e,Nat.sub_self];rfl
theorem insL_hi (h:i<xs.length) (hj:i+1≤j):(insL xs i x).getD (j+1) d=xs.getD j d:=by
 unfold insL
 have e:(xs.take (i+1)).length=i+1:=by rw [List.length_take];omega
 rw [List.getD_eq_getElem?_getD,List.getD_eq_getElem?_getD,List.getElem?_append_right (by omega),e,show j+1-(i+1)=(j-i-1)+1 by omega,List.getElem?_cons_succ,List.getElem?_drop,show i+1+(j-i-1)=j by omega]
end
theorem div_scale {a b c d:Int} (hb:0<b) (hd:0<d) (h:a*d=c*b):a/b=c/d:=by
 rw [←Int.mul_ediv_mul_of_pos_left a b hd,h,Int.mul_comm b d,Int.mul_ediv_mul_of_pos_left c d hb]
theorem mid_lo {W D t m u:Int} (hD:0<D) (ht:0<t) (hm:m*D=W*t):(m*u)/t=(W*u)/D:=
 div_scale ht hD (by rw [Int.mul_right_comm,hm,Int.mul_right_comm])
theorem mid_hi {W D t m v:Int} (hD:0<D) (ht:t<D) (hm:m*D=W*t):m+((W-m)*v)/(D-t)=(W*(t+v))/D:=by
 have e1:((W-m)*v)/(D-t)=(W*v)/D:=div_scale (by omega) hD (by
  have:(W-m)*D=W*(D-t):=by rw [Int.sub_mul,hm,Int.mul_sub]
  rw [Int.mul_right_comm,this,Int.mul_right_comm])
 rw [e1,Int.mul_add,←hm,Int.add_comm (m*D),Int.add_mul_ediv_right _ _ (by omega)];omega
theorem area_mid {l D W t m:Int} (hm:m*D=W*t):(l+(l+m))*t+((l+m)+(l+W))*(D-t)=(l+(l+W))*D:=by
 simp only [Int.add_mul,Int.mul_sub]
 omega
theorem pos_of_mul {a b c:Int} (hb:0<b) (h:a*b=c) (hc:0≤c):0≤a:=by
 rcases Int.lt_or_le a 0 with h1|h1
 ·have:=Int.mul_neg_of_neg_of_pos h1 hb;omega
 ·exact h1
theorem sides_mid {W D t m:Int} (ht:0<t) (htD:t<D) (hm:m*D=W*t):
  rootI (t*t+m*m)+rootI ((D-t)*(D-t)+(W-m)*(W-m))≤rootI (D*D+W*W)∧rootI (D*D+W*W)≤rootI (t*t+m*m)+rootI ((D-t)*(D-t)+(W-m)*(W-m))+1:=by
 rw [rootI_sum,rootI_sum,rootI_sum];have hwm:(W-m)*D=W*(D-t):=by rw [Int.sub_mul,hm,Int.mul_sub]
 have hcol:t*(W-m)=(D-t)*m:=by
  rw [Int.mul_sub,Int.sub_mul,Int.mul_comm t W,←hm,Int.mul_comm D m]
 have hsum:W.natAbs=m.natAbs+(W-m).natAbs:=by
  rcases Int.le_total 0 W with h|h
  ·have h1:=pos_of_mul (show 0<D by omega) hm (Int.mul_nonneg h (by omega))
   have h2:=pos_of_mul (show 0<D by omega) hwm (Int.mul_nonneg h (by omega))
   omega
  ·have h1:=pos_of_mul (a:= -m) (show 0<D by omega) rfl (by rw [Int.neg_mul,hm,←Int.neg_mul];exact Int.mul_nonneg (by omega) (by omega))
   have h2:=pos_of_mul (a:= -(W-m)) (show 0<D by omega) rfl (by rw [Int.neg_mul,hwm,←Int.neg_mul];exact Int.mul_nonneg (by omega) (by omega))
   omega
 have hD:D.natAbs=t.natAbs+(D-t).natAbs:=by omega
 have hn:t.natAbs*(W-m).natAbs=(D-t).natAbs*m.natAbs:=by rw [←Int.natAbs_mul,←Int.natAbs_mul,hcol]
 rw [hsum,hD];have:=root_line t.natAbs m.natAbs (D-t).natAbs (W-m).natAbs hn
 omega
section
variable {pts:List Pt} {l:List Int} {i:Nat} {x:Pt} {n:Int}
theorem up_ins (up: ∀i,i+1<pts.length→(pts.getD i default).h<(pts.getD (i+1) default).h) (hi:i+1<pts.length) (h1:(pts.getD i default).h<x.h) (h2:x.h<(pts.getD (i+1) default).h):
  ∀j,j+1<(insL pts i x).length→((insL pts i x).getD j default).h<((insL pts i x).getD (j+1) default).h:=by
 intro j hj
 rw [insL_length (by omega)] at hj
 rcases Nat.lt_trichotomy j i with h|h|h
 ·rw [insL_lo (by omega) (by omega),insL_lo (by omega) (by omega)];exact up j (by omega)
 ·subst h
  rw [insL_lo (by omega) (by omega),insL_at (by omega)];exact h1
 ·rcases Nat.lt_or_ge (i+1) j with h'|h'
  ·obtain ⟨j,rfl⟩: ∃j',j=j'+1:=⟨j-1,by omega⟩
   rw [insL_hi (by omega) (by omega),insL_hi (by omega) (by omega)];exact up j (by omega)
  ·obtain rfl:j=i+1:=by omega
   rw [insL_at (by omega),insL_hi (by omega) (by omega)];exact h2
theorem atI_ins {hh m:Int} (k:PtsOk pts) (hl:l.length=pts.length) (hi:i+1<pts.length) (h1:(pts.getD i default).h<x.h) (h2:x.h<(pts.getD (i+1) default).h)
  (hm:m*((pts.getD (i+1) default).h-(pts.getD i default).h)=(l.getD (i+1) 0-l.getD i 0)*(x.h-(pts.getD i default).h)) (hn:n=l.getD i 0+m)
  (ha:(pts.getD 0 default).h≤hh) (hb:hh≤(pts.getD (pts.length-1) default).h):atI (insL pts i x) (insL l i n) hh=atI pts l hh:=by
 have up':=up_ins k.up hi h1 h2
 have hlen:=insL_length (xs:=pts) (i:=i) (x:=x) (by omega)
 obtain ⟨j,hj,hj1,hj2⟩:=k.seg ha hb
 rw [atI_between k.up hj hj1 hj2];rcases Nat.lt_trichotomy j i with h|h|h
 ·rw [atI_between (i:=j) up' (by omega) (by rw [insL_lo (by omega) (by omega)];exact hj1) (by rw [insL_lo (by omega) (by omega)];exact hj2)];rw [insL_lo (xs:=pts) (by omega) (by omega),insL_lo (xs:=pts) (by omega) (by omega),insL_lo (xs:=l) (by omega) (by omega),insL_lo (xs:=l) (by omega) (by omega)]
 ·subst h
  rcases Int.le_total hh x.h with h|h
  ·rw [atI_between (i:=j) up' (by omega) (by rw [insL_lo (by omega) (by omega)];exact hj1) (by rw [insL_at (by omega)];exact h)];rw [insL_lo (xs:=pts) (by omega) (by omega),insL_at (xs:=pts) (by omega),insL_lo (xs:=l) (by omega) (by omega),insL_at (xs:=l) (by omega)];rw [show n-l.getD j 0=m by omega,mid_lo (D:=(pts.getD (j+1) default).h-(pts.getD j default).h) (W:=l.getD (j+1) 0-l.getD j 0) (by omega) (by omega) hm]
  ·rw [atI_between (i:=j+1) up' (by omega) (by rw [insL_at (by omega)];exact h) (by rw [insL_hi (by omega) (by omega)];exact hj2)];rw [insL_at (xs:=pts) (by omega),insL_hi (xs:=pts) (by omega) (by omega),insL_at (xs:=l) (by omega),insL_hi (xs:=l) (by omega) (by omega)];have:=mid_hi (v:=hh-x.h) (show 0<(pts.getD (j+1) default).h-(pts.getD j default).h by omega) (by omega) hm
   rw [show x.h-(pts.getD j default).h+(hh-x.h)=hh-(pts.getD j default).h by omega] at this
   rw [←this,show l.getD (j+1) 0-n=l.getD (j+1) 0-l.getD j 0-m by omega,show (pts.getD (j+1) default).h-x.h=(pts.getD (j+1) default).h-(pts.getD j default).h-(x.h-(pts.getD j default).h) by omega];omega
 ·rw [atI_between (i:=j+1) up' (by omega) (by rw [insL_hi (by omega) (by omega)];exact hj1) (by rw [insL_hi (by omega) (by omega)];exact hj2)];rw [insL_hi (xs:=pts) (by omega) (by omega),insL_hi (xs:=pts) (by omega) (by omega),insL_hi (xs:=l) (by omega) (by omega),insL_hi (xs:=l) (by omega) (by omega)]
theorem areaF_lo (hi:i+1<pts.length) (hl:l.length=pts.length): ∀k,k≤i→areaF (insL pts i x) (insL l i n) k=areaF pts l k
 |0,_=>rfl
 |k+1,h=>by
  simp only [areaF]
  rw [areaF_lo hi hl k (by omega),insL_lo (xs:=pts) (by omega) (by omega),insL_lo (xs:=pts) (by omega) (by omega),insL_lo (xs:=l) (by omega) (by omega),insL_lo (xs:=l) (by omega) (by omega)]
theorem areaF_ins {m:Int} (hi:i+1<pts.length) (hl:l.length=pts.length)
  (hm:m*((pts.getD (i+1) default).h-(pts.getD i default).h)=(l.getD (i+1) 0-l.getD i 0)*(x.h-(pts.getD i default).h)) (hn:n=l.getD i 0+m):
  ∀k,areaF (insL pts i x) (insL l i n) (i+2+k)=areaF pts l (i+1+k)
 |0=>by
  simp only [areaF,Nat.add_zero]
  rw [areaF_lo hi hl i (Nat.le_refl _),insL_lo (xs:=pts) (j:=i) (by omega) (by omega),insL_at (xs:=pts) (by omega),insL_hi (xs:=pts) (j:=i+1) (by omega) (by omega),insL_lo (xs:=l) (j:=i) (by omega) (by omega),insL_at (xs:=l) (by omega),insL_hi (xs:=l) (j:=i+1) (by omega) (by omega)];have:=area_mid (l:=l.getD i 0) hm
  rw [show l.getD i 0+(l.getD (i+1) 0-l.getD i 0)=l.getD (i+1) 0 by omega,←hn,show (pts.getD (i+1) default).h-(pts.getD i default).h-(x.h-(pts.getD i default).h)=(pts.getD (i+1) default).h-x.h by omega] at this
  omega
 |k+1=>by
  rw [show i+2+(k+1)=i+2+k+1 by omega,show i+1+(k+1)=i+1+k+1 by omega];simp only [areaF]
  rw [areaF_ins hi hl hm hn k,show i+2+k=i+1+k+1 by omega,insL_hi (xs:=pts) (by omega) (by omega),insL_hi (xs:=pts) (by omega) (by omega),insL_hi (xs:=l) (by omega) (by omega),insL_hi (xs:=l) (by omega) (by omega)]
theorem areaI_ins {m:Int} (hi:i+1<pts.length) (hl:l.length=pts.length)
  (hm:m*((pts.getD (i+1) default).h-(pts.getD i default).h)=(l.getD (i+1) 0-l.getD i 0)*(x.h-(pts.getD i default).h)) (hn:n=l.getD i 0+m):
  areaI (insL pts i x) (insL l i n)=areaI pts l:=by
 unfold areaI
 rw [insL_length (by omega),show pts.length+1-1=i+2+(pts.length-i-2) by omega,areaF_ins hi hl hm hn,show i+1+(pts.length-i-2)=pts.length-1 by omega]
theorem girthF_lo (hi:i+1<pts.length) (hl:l.length=pts.length): ∀k,k≤i→girthF (insL pts i x) (insL l i n) 0 k=girthF pts l 0 k
 |0,_=>rfl
 |k+1,h=>by
  simp only [girthF,sideI,Nat.zero_add]
  rw [girthF_lo hi hl k (by omega),insL_lo (xs:=pts) (by omega) (by omega),insL_lo (xs:=pts) (by omega) (by omega),insL_lo (xs:=l) (by omega) (by omega),insL_lo (xs:=l) (by omega) (by omega)]
theorem girthF_hi (hi:i+1<pts.length) (hl:l.length=pts.length): ∀k,girthF (insL pts i x) (insL l i n) (i+2) k=girthF pts l (i+1) k
 |0=>rfl
 |k+1=>by
  simp only [girthF,sideI]
  rw [girthF_hi hi hl k,show i+2+k=i+1+k+1 by omega,insL_hi (xs:=pts) (by omega) (by omega),insL_hi (xs:=pts) (by omega) (by omega),insL_hi (xs:=l) (by omega) (by omega),insL_hi (xs:=l) (by omega) (by omega)]
theorem girthI_ins {m:Int} (hi:i+1<pts.length) (hl:l.length=pts.length) (h1:(pts.getD i default).h<x.h) (h2:x.h<(pts.getD (i+1) default).h)
  (hm:m*((pts.getD (i+1) default).h-(pts.getD i default).h)=(l.getD (i+1) 0-l.getD i 0)*(x.h-(pts.getD i default).h)) (hn:n=l.getD i 0+m):
  girthI (insL pts i x) (insL l i n) 0 ((insL pts i x).length-1:Nat)≤girthI pts l 0 (pts.length-1:Nat)∧girthI pts l 0 (pts.length-1:Nat)≤girthI (insL pts i x) (insL l i n) 0 ((insL pts i x).length-1:Nat)+1:=by
 unfold girthI
 rw [insL_length (by omega),show ((0:Int)).toNat=0 from rfl,show (((pts.length+1-1:Nat):Int)-0).toNat=i+(2+(pts.length-i-2)) by omega,show (((pts.length-1:Nat):Int)-0).toNat=i+(1+(pts.length-i-2)) by omega];rw [girthF_add,girthF_add,girthF_add,girthF_add,girthF_lo hi hl i (Nat.le_refl _),Nat.zero_add,girthF_hi hi hl];simp only [girthF,sideI,Nat.add_zero,Int.zero_add]
 rw [insL_lo (xs:=pts) (j:=i) (by omega) (by omega),insL_at (xs:=pts) (by omega),insL_hi (xs:=pts) (j:=i+1) (by omega) (by omega),insL_lo (xs:=l) (j:=i) (by omega) (by omega),insL_at (xs:=l) (by omega),insL_hi (xs:=l) (j:=i+1) (by omega) (by omega)];have:=sides_mid (W:=l.getD (i+1) 0-l.getD i 0) (D:=(pts.getD (i+1) default).h-(pts.getD i default).h) (t:=x.h-(pts.getD i default).h) (m:=m) (by omega) (by omega) hm
 rw [show (pts.getD (i+1) default).h-(pts.getD i default).h-(x.h-(pts.getD i default).h)=(pts.getD (i+1) default).h-x.h by omega,show m=n-l.getD i 0 by omega,show l.getD (i+1) 0-l.getD i 0-(n-l.getD i 0)=l.getD (i+1) 0-n by omega] at this
 omega
end
end Go.Lo
namespace Go.Proofs
open Go.Lo
open Go.Conc (G)
set_option maxRecDepth 100000
set_option synthInstance.maxSize 100000
set_option synthInstance.maxHeartbeats 1000000
set_option maxHeartbeats 4000000
variable {b:Fb} {pp:Option Addr} {np cp:Nat} {pt:Option Addr} {nt ct:Nat} {pk:Option Addr} {nk ck:Nat}
variable {B:Array Obj}
variable [LaidF B]
abbrev u16s (zs:List Int):List Value:=zs.map (Value.int .u16)
theorem u16_at {zs:List Int} {k:Nat} (h:k<zs.length):(u16s zs).getD k undef= .int .u16 (zs.getD k 0):=by
 rw [List.getD_eq_getElem?_getD,List.getD_eq_getElem?_getD,List.getElem?_map,List.getElem?_eq_getElem h];rfl
theorem getD_sn (l:List Int) (x:Int) (i:Nat):(l++[x]).getD i 0=if i<l.length then l.getD i 0 else if i=l.length then x else 0:=by
 rw [List.getD_eq_getElem?_getD,List.getD_eq_getElem?_getD,List.getElem?_append];split
 ·rfl
 ·split
  ·rename_i h1 h2
   subst h2
   simp
  ·rename_i h1 h2
   rw [List.getElem?_eq_none (by simp;omega)];rfl
theorem _root_.Go.Lo.PtsOk.span {pts:List Pt} (k:PtsOk pts) {i:Nat} (hi:i<pts.length):0≤(pts.getD i default).lo∧(pts.getD i default).lo≤(pts.getD i default).hi∧(pts.getD i default).hi≤959:=(k.ok _ (mem_getDR.2 ⟨i,hi,rfl⟩)).2.1
theorem _root_.Go.Lo.PtsOk.lt {pts:List Pt} (k:PtsOk pts): ∀(d i:Nat),i+d+1<pts.length→(pts.getD i default).h<(pts.getD (i+d+1) default).h
 |0,i,h=>k.up i (by omega)
 |d+1,i,h=>by
  have h1:=k.lt d i (by omega)
  have h2:=k.up (i+d+1) (by omega)
  rw [show i+(d+1)+1=i+d+1+1 by omega];omega
theorem _root_.Go.Lo.PtsOk.ends {pts:List Pt} (k:PtsOk pts):(pts.getD 0 default).h<(pts.getD (pts.length-1) default).h:=by
 have h2:=k.two
 have:=k.lt (pts.length-2) 0 (by omega)
 rw [show 0+(pts.length-2)+1=pts.length-1 by omega] at this
 exact this
theorem f48_c (m:Md Tryz.prog B) (h:Hp) (rdp:Rp B h b pp np cp) (rdt:Rt B h b pt nt ct) (rdk:Rk B h b pk nk ck):FnC m 48 #[fbV b pp np cp pt nt ct pk nk ck] h fun v h'=>h'=h∧IsB (np≤20∧nt≤20∧nk≤20∧fbS b=0) v:=by
 refine fn_enter Tryz.func48 rfl rfl (l:=(fbV b pp np cp pt nt ct pk nk ck)::uu10) rfl ?_
 intro cf cs K hK
 refine rs2 ?_;refine k_box rfl zq (fun q1=>k_hp (k_put ?_));refine aq rfl ?_;refine rs9 ?_;refine k_ldA rfl zq ?_
 refine k_calP (Post:=fun v=>IsB _ v) rfl zq (by kernel_rfl) (fun H' hH=>f17_c m H') ?_;rintro v (⟨hc,rfl⟩|⟨hc,rfl⟩)
 ·refine d43 ?_;refine d52 ?_;refine d72 ?_;refine d0 ?_
  refine run_res (h) rfl Tryz.func48 rfl weakSub ?_;refine hK _ _ ?_;first|exact ⟨rfl,IsB.yes ⟨by omega,by omega,by omega,by omega⟩⟩|exact ⟨rfl,IsB.no (by omega)⟩
 ·refine d44 ?_;refine mq rfl ?_;refine k_ldA rfl rfl ?_
  refine k_calP (Post:=fun v=>v=_) rfl rfl (by kernel_rfl) (fun H' hH=>f22_c m H' (rdp.keeps (sq hH)) (by omega) (rdt.keeps (sq hH)) (by omega) (rdk.keeps (sq hH)) (by omega)) ?_;rintro v rfl;refine k_put ?_;refine k_eqlS rfl rfl (fun hc=>?_) (fun hc=>?_)
  ·refine d92 ?_
   refine run_res (h) rfl Tryz.func48 rfl weakSub ?_;refine hK _ _ ?_;first|exact ⟨rfl,IsB.yes ⟨by omega,by omega,by omega,by omega⟩⟩|exact ⟨rfl,IsB.no (by omega)⟩
  ·refine d92 ?_
   refine run_res (h) rfl Tryz.func48 rfl weakSub ?_;refine hK _ _ ?_;first|exact ⟨rfl,IsB.yes ⟨by omega,by omega,by omega,by omega⟩⟩|exact ⟨rfl,IsB.no (by omega)⟩
theorem f128_c (m:Md Tryz.prog B) (h:Hp) {p:Option Addr} {n c:Nat} {zs:List Int} (rd:RdS B h 1 (.slice p n c) n (u16s zs)) (hz: ∀z∈zs,0≤z∧z≤65535) (k:Nat):FnC m 128 #[.slice p n c,.int .i64 (k:Int)] h fun v h'=>h'=h∧ ∃z:Nat,z≤65535∧v= .int .i64 (z:Int):=by
 refine fn_enter Tryz.func128 rfl rfl (l:=(.slice p n c)::(.int .i64 (k:Int))::uu16) rfl ?_
 intro cf cs K hK
 refine d93 ?_;refine rs8 ?_;refine mq rfl ?_
 refine k_geqS rfl zq (fun hc=>?_) (fun hc=>?_)
 ·refine d23 ?_;refine k_mv rfl rfl ?_;refine k_len rfl rfl ?_
  refine k_lssS rfl rfl (fun hc=>?_) (fun hc=>?_)
  ·refine k_pickT rfl zq ?_;refine d7 ?_;refine rs6 ?_;refine d3 ?_;have hzl:zs.length=n:=by have:=rd.len;simpa using this
   obtain ⟨pb,po,rfl⟩:=rd.ptr (by omega)
   refine k_ixs rfl zq (by first|rfl|assumption) (by omega) (by omega) ?_;have hzk:=getD_all hz (k:=k) (by omega)
   refine k_ld rfl zq (u16_at (zs:=zs) (k:=k) (by omega)▸rd.vat k (by omega) (by omega)) ?_;refine k_conv rfl zq (by kernel_rfl) (n':=zs.getD k 0) (by generalize zs.getD k 0=gz at hzk⊢;unfold IntKind.wrap;simp [IntKind.bits,IntKind.signed];omega) ?_;refine d0 ?_
   refine run_res (h) rfl Tryz.func128 rfl weakSub ?_;refine hK _ _ ?_;exact ⟨rfl,(zs.getD k 0).toNat,by omega,by rw [Int.toNat_of_nonneg (by omega)]⟩
  ·refine k_pickT rfl zq ?_;refine d13 ?_;refine d38 ?_;refine run_res (h) rfl Tryz.func128 rfl weakSub ?_;refine hK _ _ ?_;exact ⟨rfl,0,by omega,rfl⟩
 ·exact absurd hc (by omega)
theorem f49_c (m:Md Tryz.prog B) (h:Hp) (rdp:Rp B h b pp np cp) (hp:np≤1000) (hv:FOk b) {p:Option Addr} {n c:Nat} {zs:List Int} (rd:RdS B h 1 (.slice p n c) n (u16s zs)) (hz: ∀z∈zs,0≤z∧z≤65535):FnC m 49 #[fbV b pp np cp pt nt ct pk nk ck,.slice p n c] h fun v h'=> ∃new,h'=h++new∧ ∃ln,OwnS 3 1 v ln.length (ints ln) new∧ln.length=b.pts.length∧spansF b ln:=by
 have hml:=rdp.elen (by decide)
 refine fn_enter Tryz.func49 rfl rfl (l:=(fbV b pp np cp pt nt ct pk nk ck)::(.slice p n c)::uu26) rfl ?_
 intro cf cs K hK
 refine rs2 ?_;refine k_box rfl zq (fun q2=>k_hp (k_put ?_));refine aq rfl ?_;refine d93 ?_;refine d142 ?_
 refine run_loop (fun nn l h'=> ∃(k:Nat) (w:Value) (new:Hp) (ln:List Int),nn=np-k∧(k≤np)∧(ln.length=k)∧(OwnS 3 1 w k (ints ln) new)∧(∀i,i<k→(b.pts.getD i default).lo≤ln.getD i 0∧ln.getD i 0≤(b.pts.getD i default).hi)∧(∃U:Nat→Value,l=((fbV b pp np cp pt nt ct pk nk ck)::(.slice p n c)::(.pointer (some ⟨q2,0,none⟩))::(U 3)::(U 4)::w::(.int .i64 (k:Int))::(U 7)::vw20 U 8 []))∧h++[⟨true,q2,.cells ((fbL b pp np cp pt nt ct pk nk ck).toArray) 26 (0,0)⟩]++new=h') _ ⟨0,_,[],[],rfl,by omega,rfl,OwnS.nil,fun i hi=>by omega,exU rfl,(by simp)⟩ ?_;rintro nn l h' ⟨k,w,new,ln,rfl,hk,hll,ho,hla,⟨U,rfl⟩,rfl⟩ hnext;refine run_seq ?_;refine rs5 ?_;refine mq rfl ?_;refine d114 ?_;refine k_lssS rfl zq (fun hc=>?_) (fun hc=>?_)
 ·refine d98 ?_
  refine run_draw [(0,.pure),(1,.pure),(3,.pure),(7,.pure),(8,.pure),(2,.read),(4,.pure),(5,.pure),(6,.read),(9,.keep),(10,.keep),(11,.keep),(12,.free),(13,.pure)] (by kernel_rfl) (by kernel_rfl) (List.Sublist.refl _) ?_;refine mq rfl ?_;(first|refine k_fa0 rfl zq ?_|refine k_fa rfl zq ?_);refine d3 ?_;refine mq rfl ?_;refine k_ldh rfl zq ?_
  obtain ⟨rdp_b,rdp_o,rfl⟩:=rdp.ptr (by omega)
  refine d20 ?_
  refine k_ldN (vs:=[.int .i64 (b.pts.getD k default).lo,.int .i64 (b.pts.getD k default).hi]) rfl zq rfl (rdp.eatF k 1 (by omega) (by omega) rfl) ?_;refine k_calP (Post:=fun v=> ∃z:Nat,z≤65535∧v= .int .i64 (z:Int)) rfl zq (by kernel_rfl) (fun H' hH=>f128_c m H' (rd.keeps (sq hH)) hz k) ?_;rintro v ⟨zz,hzz,rfl⟩;refine k_put ?_;have hmk:=hv.pts.span (i:=k) (by omega)
  refine k_calP (Post:=fun v=>v=_) rfl zq (by kernel_rfl) (fun H' hH=>f60_c m H' _ _ zz (by omega) (by omega)) ?_;rintro v rfl;refine k_put ?_;have hz7:=Nat.mod_lt zz (show 0<((b.pts.getD k default).hi-(b.pts.getD k default).lo+1).toNat by omega)
  refine k_bs kdq rfl zq (by decide) (by decide) rfl (fun q25=>k_hp (k_put ?_));refine k_app1 (F:=h++[⟨true,q2,.cells ((fbL b (some ⟨rdp_b,rdp_o,none⟩) np cp pt nt ct pk nk ck).toArray) 26 (0,0)⟩]) rfl zq rfl ho kdq (by omega) (by omega) (fun w2 new2 ho2=>k_put ?_);rw [show ints ln++[Value.int .i64 ((b.pts.getD k default).lo+((zz%((b.pts.getD k default).hi-(b.pts.getD k default).lo+1).toNat:Nat):Int))]=ints (ln++[(b.pts.getD k default).lo+((zz%((b.pts.getD k default).hi-(b.pts.getD k default).lo+1).toNat:Nat):Int)]) by simp] at ho2
  refine d45 ?_;refine rr3 ?_;refine d61 ?_
  exact m.weak weakSub (hnext _ _ _ (by omega) ⟨k+1,_,_,_,rfl,by omega,by simp;omega,ho2,fun i hi=>by
   rw [getD_sn,hll];by_cases e:i<k
   ·rw [if_pos e];exact hla i e
   ·rw [if_neg e,if_pos (by omega),show i=k by omega];omega,exU rfl,rfl⟩)
 ·refine d75 ?_;refine d99 ?_
  refine run_res (h++new) rfl Tryz.func49 rfl weakSub ?_;refine hK _ _ ?_;have hkk:k=ln.length:=hll.symm
  subst hkk
  exact ⟨_,rfl,ln,ho,by omega,hla⟩
theorem f51_c (m:Md Tryz.prog B) (h:Hp) (rdp:Rp B h b pp np cp) (hp:np≤1000) (hv:FOk b) (z:Nat) (hz:z≤65535):FnC m 51 #[fbV b pp np cp pt nt ct pk nk ck,.int .u16 (z:Int)] h fun v h'=>h'=h∧ ∃x:Int,v= .int .i64 x∧(b.pts.getD 0 default).h≤x∧x≤(b.pts.getD (np-1) default).h:=by
 have hml:=rdp.elen (by decide)
 have h2:=hv.pts.two
 have he:=hv.pts.ends
 rw [hml] at he
 have h0:=hv.pts.at (i:=0) (by omega)
 have h1:=hv.pts.at (i:=np-1) (by omega)
 refine fn_enter Tryz.func51 rfl rfl (l:=(fbV b pp np cp pt nt ct pk nk ck)::(.int .u16 (z:Int))::uu21) rfl ?_
 intro cf cs K hK
 refine rs2 ?_;refine k_box rfl zq (fun q2=>k_hp (k_put ?_));refine d12 ?_
 refine run_draw [(0,.pure),(5,.pure),(7,.pure),(15,.pure),(16,.pure),(1,.read),(2,.pure),(3,.pure),(4,.read),(6,.read),(8,.read),(9,.pure),(10,.pure),(11,.pure),(12,.pure),(13,.read),(14,.keep),(17,.keep),(18,.pure)] (by kernel_rfl) (by kernel_rfl) (List.Sublist.refl _) ?_;refine d8 ?_;(first|refine k_fa0 rfl zq ?_|refine k_fa rfl zq ?_);refine mq rfl ?_
 refine k_conv rfl zq (by kernel_rfl) (n':=(z:Int)) (by unfold IntKind.wrap;simp [IntKind.bits,IntKind.signed];omega) ?_;refine k_ldh rfl zq ?_;obtain ⟨rdp_b,rdp_o,rfl⟩:=rdp.ptr (by omega)
 refine d20 ?_
 refine k_ld rfl zq (rdp.fat (v:= .int .i64 (b.pts.getD 0 default).h) 0 0 (by omega) (by omega) rfl) ?_;refine d81 ?_;refine d71 ?_;refine d20 ?_
 refine k_ld rfl zq (rdp.fat (v:= .int .i64 (b.pts.getD (np-1) default).h) (np-1) 0 (by omega) (by omega) rfl) ?_;refine k_calP (Post:=fun v=>v=_) rfl zq (by kernel_rfl) (fun H' hH=>f61_c m H' _ _) ?_;rintro v rfl;refine k_put ?_;refine k_calP (Post:=fun v=>v=_) rfl zq (by kernel_rfl) (fun H' hH=>f60_c m H' _ _ z (by omega) (by omega)) ?_;rintro v rfl;refine k_put ?_;have hz7:=Nat.mod_lt z (show 0<((b.pts.getD (np-1) default).h-(b.pts.getD 0 default).h+1).toNat by omega)
 refine d0 ?_
 refine run_res (h) rfl Tryz.func51 rfl weakSub ?_;refine hK _ _ ?_;exact ⟨rfl,_,rfl,by omega,by omega⟩
end Go.Proofs
namespace Go.Proofs
open Go.Lo
open Go.Conc (G)
set_option maxRecDepth 100000
set_option synthInstance.maxSize 100000
set_option synthInstance.maxHeartbeats 1000000
set_option maxHeartbeats 4000000
variable {B:Array Obj}
variable [LaidF B]
theorem row_small {b:Fb} {ln:List Int} (hv:FOk b) (hl:ln.length=b.pts.length) (hs:spansF b ln):SmL ln:=fun j=>by
 by_cases h:j<ln.length
 ·have h1:=hs j h
  have h2:=hv.pts.span (i:=j) (by omega)
  omega
 ·rw [List.getD_eq_getElem?_getD,List.getElem?_eq_none (by omega)];simp
theorem row_hand {b:Fb} {ln:List Int} (h0:fbS b=0) (hl:ln.length=b.pts.length) (hs:spansF b ln):fhandS b ln=0:=by
 have hm:=row_small (fbS_zero h0) hl hs
 rw [fhandS,if_neg (fun e=>e h0),brS,if_neg (by omega),if_neg];rintro ⟨i,hi,h⟩;exact h (hm i)
theorem row_girth {b:Fb} {ln:List Int} (h0:fbS b=0) (hl:ln.length=b.pts.length) (hs:spansF b ln) {f t:Nat} (hf:f<t) (ht:t<b.pts.length):girthS b ln f t=0:=by
 rw [girthS_o (row_hand h0 hl hs),ordS,if_neg (by omega),if_neg (by omega)]
theorem row_at {b:Fb} {ln:List Int} (h0:fbS b=0) (hl:ln.length=b.pts.length) (hs:spansF b ln) {x:Int} (h1:(b.pts.getD 0 default).h≤x) (h2:x≤(b.pts.getD (b.pts.length-1) default).h):atS b ln x=0:=atS_0 (row_hand h0 hl hs) ⟨h1,h2⟩
theorem at_sml {pts:List Pt} {l:List Int} {x:Int} (k:PtsOk pts) (h1:(pts.getD 0 default).h≤x) (h2:x≤(pts.getD (pts.length-1) default).h) (h:SmL l):0≤atI pts l x∧atI pts l x≤959:=by
 obtain ⟨i,hi,a,c⟩:=k.seg h1 h2
 have:=k.up i hi
 have e1:=mean_mono (a:=0) (c:=0) (a':=l.getD i 0) (c':=l.getD (i+1) 0) (t:=x-(pts.getD i default).h) (d:=(pts.getD (i+1) default).h-(pts.getD i default).h) (by omega) (by omega) (by omega) (h i).1 (h (i+1)).1
 have e2:=mean_mono (a:=l.getD i 0) (c:=l.getD (i+1) 0) (a':=959) (c':=959) (t:=x-(pts.getD i default).h) (d:=(pts.getD (i+1) default).h-(pts.getD i default).h) (by omega) (by omega) (by omega) (h i).2 (h (i+1)).2
 rw [mean_const] at e1 e2
 rw [atI_between k.up hi a c];exact ⟨e1,e2⟩
theorem ptsS_of {pts:List Pt} (k:PtsOk pts):ptsS pts=0:=by
 have h2:=k.two
 have h5:=k.five
 unfold ptsS
 rw [if_neg (by omega)];refine scanS_all fun i hi=>?_
 obtain ⟨o1,o2,o3⟩:=k.ok (pts.getD i default) (mem_getDR.2 ⟨i,hi,rfl⟩)
 unfold ptS
 rw [if_neg (by omega),if_neg,if_neg (by omega)];rintro ⟨h0,h1⟩;have:=k.up (i-1) (by omega)
 rw [show i-1+1=i by omega] at this
 omega
theorem fbS_of {b:Fb} (v:FOk b):fbS b=0:=by
 have hp:=v.plank
 have hf:=v.few
 have hf':=v.few'
 have e1:plankS b=0:=by rw [plankS,if_neg (by omega),ptsS_of v.pts]
 have e2:tapesS b=0:=by
  unfold tapesS
  rw [if_neg (by omega)];refine scanS_all fun i hi=>?_
  have h:=v.tapes (b.tapes.getD i default) (mem_getDR.2 ⟨i,hi,rfl⟩)
  generalize b.tapes.getD i default=q at h
  unfold okTp at h
  show tpS b.pts.length q=0
  unfold tpS
  have e:ordS b.pts.length q.f q.t=0:=by rw [ordS,if_neg (by omega),if_neg (by omega)]
  rw [e,if_neg (fun x=>x rfl),if_neg (by omega)]
 have e3:sticksS b=0:=by
  unfold sticksS
  rw [if_neg (by omega)];refine scanS_all fun i hi=>?_
  have h:=v.sticks (b.sticks.getD i default) (mem_getDR.2 ⟨i,hi,rfl⟩)
  generalize b.sticks.getD i default=q at h
  unfold okSk at h
  show skS b.pts q=0
  unfold skS
  rw [if_neg (by omega)]
 rw [fbS,e1,if_neg (fun x=>x rfl),e2,if_neg (fun x=>x rfl),e3]
end Go.Proofs
namespace Go.Proofs
open Go.Lo
open Go.Conc (G)
set_option maxRecDepth 100000
set_option synthInstance.maxSize 100000
set_option synthInstance.maxHeartbeats 1000000
set_option maxHeartbeats 4000000
variable {b:Fb} {pp:Option Addr} {np cp:Nat} {pt:Option Addr} {nt ct:Nat} {pk:Option Addr} {nk ck:Nat}
variable {B:Array Obj}
variable [LaidF B]
theorem weakOff1 {B:Array Obj} {h' F1 H L:Hp} [a:Off h' L F1] [s:SubH H F1]:Weak B h' (H++L):=(Weak.perm a.perm).trans ((Weak.sub s.sub).apps L)
def insP (b:Fb) (i:Nat) (x n:Int):Fb:=⟨b.plank,insL b.pts i ⟨x,n,n⟩,[],b.sticks⟩
theorem ins_cases {α:Type} {xs:List α} {i j:Nat} {x d:α} (h:i<xs.length) (P:α→Prop) (hx:j=i+1→P x) (hlo:j≤i→P (xs.getD j d)) (hhi:i+2≤j→P (xs.getD (j-1) d)):P ((insL xs i x).getD j d):=by
 rcases Nat.lt_trichotomy j (i+1) with h1|h1|h1
 ·rw [insL_lo h (by omega)];exact hlo (by omega)
 ·subst h1
  rw [insL_at h];exact hx rfl
 ·obtain ⟨j,rfl⟩: ∃j',j=j'+1:=⟨j-1,by omega⟩
  rw [insL_hi h (by omega)];exact hhi (by omega)
theorem insP_ok {b:Fb} (v:FOk b) (h5:b.pts.length<5) {i:Nat} {x n:Int} (hi:i+1<b.pts.length) (h1:(b.pts.getD i default).h<x) (h2:x<(b.pts.getD (i+1) default).h) (hn:0≤n∧n≤959):FOk (insP b i x n):=by
 have hl:(insL b.pts i ⟨x,n,n⟩).length=b.pts.length+1:=insL_length (by omega)
 have ok: ∀j,j<b.pts.length→okPt (b.pts.getD j default):=fun j hj=>v.pts.ok _ (mem_getDR.2 ⟨j,hj,rfl⟩)
 have hx1:=(ok i (by omega)).1
 have hx2:=(ok (i+1) hi).1
 refine ⟨v.plank,⟨by show 2≤(insL b.pts i ⟨x,n,n⟩).length;have:=v.pts.two;omega,by show (insL b.pts i ⟨x,n,n⟩).length≤5;omega,fun y hy=>?_,up_ins v.pts.up hi h1 h2⟩,by simp [insP],fun t ht=>by simp [insP] at ht,v.few',fun k hk=>?_⟩
 ·obtain ⟨j,hj,rfl⟩:=mem_getDR.1 (show y∈insL b.pts i ⟨x,n,n⟩ from hy)
  refine ins_cases (by omega) okPt (fun _=>⟨⟨by show 0≤x;omega,by show x≤959;omega⟩,⟨hn.1,Int.le_refl _,hn.2⟩,by show n-n<3;omega⟩) (fun h=>ok j (by omega)) (fun h=>ok (j-1) (by omega))
 ·have:=v.sticks k hk
  unfold okSk at this⊢
  show ((((insL b.pts i ⟨x,n,n⟩).getD 0 default).h≤k.h∧k.h≤((insL b.pts i ⟨x,n,n⟩).getD ((insL b.pts i ⟨x,n,n⟩).length-1) default).h)∧0≤k.long∧k.long≤959)
  rw [insL_lo (by omega) (by omega),hl,show b.pts.length+1-1=(b.pts.length-1)+1 by omega,insL_hi (by omega) (by omega)];exact this
theorem insP_row {b:Fb} {l:List Int} (hl:l.length=b.pts.length) (hs:spansF b l) {i:Nat} {x n:Int} (hi:i+1<b.pts.length):spansF (insP b i x n) (insL l i n):=by
 intro j hj
 rw [insL_length (by omega)] at hj
 show ((insL b.pts i ⟨x,n,n⟩).getD j default).lo≤(insL l i n).getD j 0∧(insL l i n).getD j 0≤((insL b.pts i ⟨x,n,n⟩).getD j default).hi
 rcases Nat.lt_trichotomy j (i+1) with h1|h1|h1
 ·rw [insL_lo (xs:=b.pts) (by omega) (by omega),insL_lo (xs:=l) (by omega) (by omega)];exact hs j (by omega)
 ·subst h1
  rw [insL_at (xs:=b.pts) (by omega),insL_at (xs:=l) (by omega)];exact ⟨Int.le_refl _,Int.le_refl _⟩
 ·obtain ⟨j,rfl⟩: ∃j',j=j'+1:=⟨j-1,by omega⟩
  rw [insL_hi (xs:=b.pts) (by omega) (by omega),insL_hi (xs:=l) (by omega) (by omega)];exact hs j (by omega)
theorem insP_ends {b:Fb} {i:Nat} {x n:Int} (hi:i+1<b.pts.length):((insP b i x n).pts.getD 0 default).h=(b.pts.getD 0 default).h∧((insP b i x n).pts.getD (b.pts.length+1-1) default).h=(b.pts.getD (b.pts.length-1) default).h:=by
 constructor
 ·show ((insL b.pts i ⟨x,n,n⟩).getD 0 default).h=_
  rw [insL_lo (by omega) (by omega)]
 ·show ((insL b.pts i ⟨x,n,n⟩).getD (b.pts.length+1-1) default).h=_
  rw [show b.pts.length+1-1=(b.pts.length-1)+1 by omega,insL_hi (by omega) (by omega)]
theorem at_whole {b:Fb} {l:List Int} (k:PtsOk b.pts) {i:Nat} {x:Int} (hi:i+1<b.pts.length) (h1:(b.pts.getD i default).h<x) (h2:x<(b.pts.getD (i+1) default).h)
  (hr:((l.getD (i+1) 0-l.getD i 0)*(x-(b.pts.getD i default).h)).tmod ((b.pts.getD (i+1) default).h-(b.pts.getD i default).h)=0):
  ∃m,m=((l.getD (i+1) 0-l.getD i 0)*(x-(b.pts.getD i default).h)).tdiv ((b.pts.getD (i+1) default).h-(b.pts.getD i default).h)∧m*((b.pts.getD (i+1) default).h-(b.pts.getD i default).h)=(l.getD (i+1) 0-l.getD i 0)*(x-(b.pts.getD i default).h)∧atI b.pts l x=l.getD i 0+m:=by
 have hd:=Int.dvd_of_tmod_eq_zero hr
 refine ⟨_,rfl,Int.tdiv_mul_cancel hd,?_⟩
 rw [atI_between k.up hi (by omega) (by omega),Int.tdiv_eq_ediv_of_dvd hd]
theorem steps_le {l:List Int} (h:SmL l) (f:Nat): ∀k:Nat,stepsI l f k≤959*(k:Int)
 |0=>by simp [stepsI]
 |k+1=>by
  have ih:=steps_le h f k
  have h1:=h (f+k)
  have h2:=h (f+k+1)
  simp only [stepsI]
  push_cast
  omega
theorem girth_all {b:Fb} (v:FOk b) {l:List Int} (h:SmL l):0≤girthI b.pts l 0 ((b.pts.length-1:Nat):Int)∧girthI b.pts l 0 ((b.pts.length-1:Nat):Int)≤10000:=by
 have h2:=v.pts.two
 have h5:=v.pts.five
 obtain ⟨g1,_,_,g4⟩:=girth_bounds (l:=l) v.pts.up 0 (b.pts.length-1) (by omega)
 have hs:=steps_le h 0 (b.pts.length-1)
 have o1:=(v.pts.ok (b.pts.getD 0 default) (mem_getDR.2 ⟨0,by omega,rfl⟩)).1
 have o2:=(v.pts.ok (b.pts.getD (0+(b.pts.length-1)) default) (mem_getDR.2 ⟨0+(b.pts.length-1),by omega,rfl⟩)).1
 have up:=mono_h v.pts.up 0 (0+(b.pts.length-1)) (by omega) (by omega)
 unfold girthI
 rw [show ((0:Int)).toNat=0 from rfl,show (((b.pts.length-1:Nat):Int)-0).toNat=b.pts.length-1 by omega];omega
theorem ins_parts {α:Type} (xs:List α) (i:Nat) (x:α):xs.take (i+1)++[x]++xs.drop (i+1)=insL xs i x:=by unfold insL;simp
theorem f10_t (h:Hp) (et:b.tapes=[]) (rdp:Rp B h b pp np cp) (hcp:np≤cp) (rdk:Rk B h b pk nk ck) {p:Option Addr} {n0 c:Nat} {zs:List Int} (rd:RdS B h 1 (.slice p n0 c) n0 (u16s zs)) (hz: ∀z∈zs,0≤z∧z≤65535) (z y0:Nat) (hzz:z≤65535) (hyy:y0≤65535):(Md.starS Tryz.prog B).R (AtEnd Tryz.prog B fun v _=>v= .bool true) (G (Frame.enter Tryz.prog 10 #[fbV b pp np cp pt nt ct pk nk ck,.slice p n0 c,.int .u16 (z:Int),.int .u16 (y0:Int)] .normal) []) h:=by
 have rdt:RdS B h 4 (.slice none 0 0) 0 (encs b.tapes):=by rw [et];exact rd_none
 refine top_enter Tryz.func10 rfl rfl (l:=[fbV b pp np cp pt nt ct pk nk ck,.slice p n0 c,.int .u16 (z:Int),.int .u16 (y0:Int),undef,undef,undef,undef,undef,undef,undef,undef,undef,undef,undef,undef,undef,undef,undef,undef,undef,undef,undef,undef,undef,undef,undef,undef,undef,undef,undef,undef,undef,undef,undef,undef,undef,undef,undef,undef,undef,undef,undef,undef,undef,undef,undef,undef,undef,undef,undef,undef,undef,undef,undef,undef,undef,undef,undef,undef,undef,undef,undef,undef,undef,undef,undef,undef,undef,undef,undef,undef,undef,undef,undef,undef,undef,undef,undef,undef,undef,undef,undef,undef,undef,undef,undef,undef,undef,undef,undef,undef,undef,undef,undef,undef,undef,undef,undef,undef,undef,undef,undef,undef,undef,undef,undef,undef,undef,undef,undef,undef,undef,undef,undef,undef,undef,undef,undef,undef,undef,undef,undef,undef,undef,undef,undef,undef,undef,undef,undef,undef,undef,undef,undef,undef,undef,undef,undef,undef,undef,undef,undef,undef,undef,undef,undef,undef,undef,undef,undef,undef,undef,undef,undef,undef,undef,undef,undef,undef,undef,undef,undef,undef,undef,undef,undef,undef,undef,undef,undef,undef,undef,undef,undef,undef,undef,undef,undef,undef,undef,undef,undef,undef,undef,undef,undef,undef,undef,undef,undef,undef,undef,undef,undef,undef,undef,undef,undef,undef,undef,undef,undef,undef,undef,undef,undef,undef,undef,undef,undef,undef,undef,undef,undef,undef,undef,undef,undef,undef,undef,undef,undef,undef,undef,undef,undef,undef,undef,undef,undef,undef,undef,undef,undef,undef,undef,undef,undef,undef,undef,undef,undef,undef,undef,undef,undef,undef,undef,undef,undef,undef,undef,undef,undef,undef,undef,undef,undef,undef,undef,undef,undef,undef,undef,undef,undef,undef,undef,undef,undef,undef]) rfl ?_
 refine rs2 ?_;refine k_box rfl zq (fun q4=>k_hp (k_put ?_));refine aq rfl ?_;refine rs2 ?_;refine d50 ?_;refine d24 ?_;refine rs9 ?_;refine k_ldA rfl zq ?_
 refine k_calP (Post:=fun v=>IsB _ v) rfl zq (by kernel_rfl) (fun H' hH=>f48_c _ H' (rdp.keeps (sq hH)) (rdt.keeps (sq hH)) (rdk.keeps (sq hH))) ?_;rintro v (⟨hc,rfl⟩|⟨hc,rfl⟩)
 ·refine d43 ?_;refine mq rfl ?_;refine d25 ?_;refine k_len rfl rfl ?_
  refine k_geqS rfl rfl (fun hc=>?_) (fun hc=>?_)
  ·refine k_pickF rfl zq ?_;refine d7 ?_;refine rs2 ?_;refine k_cal rfl zq (by kernel_rfl) (f18_c _) ?_;rintro v h' ⟨nF,rfl,rfl⟩;refine d110 ?_
   refine run_top rfl Tryz.func10 (by kernel_rfl) rfl ?_;rfl
  ·refine k_pickF rfl zq ?_;refine d37 ?_;have hp:np≤1000:=by omega
   have hk:nk≤1000:=by omega
   have h0:fbS b=0:=by omega
   have hv:=fbS_zero h0
   have hv1:=hv.pts.five
   have hv2:=hv.pts.two
   have hml:=rdp.elen (by decide)
   have ht:0≤1000:=by omega
   refine rr4 ?_;refine d69 ?_;refine k_calC rfl zq (by kernel_rfl) (Post:=fun v new=> ∃ln,OwnS 3 1 v ln.length (ints ln) new∧ln.length=b.pts.length∧spansF b ln) (fun H' hH=>f49_c _ H' (b:=b) (rdp.keeps (sq hH)) hp hv (rd.keeps (sq hH)) hz) ?_;rintro v n49 ⟨ln,o49,hll,hsp⟩;refine k_hpA (k_put ?_);obtain ⟨pl,cl,rfl,hcl,rl⟩:=own_rdA (B:=B) o49
   have hln:ln.length≤1000:=by omega
   have hm:=row_small hv hll hsp
   refine d12 ?_
   refine run_draw [(1,.pure),(4,.pure),(0,.read),(3,.read),(2,.keep),(5,.keep),(6,.pure),(7,.pure)] (by kernel_rfl) (by kernel_rfl) (List.Sublist.refl _) ?_;refine d3 ?_;refine k_ldA rfl zq ?_;refine k_ldA rfl zq ?_
   refine k_calP (Post:=fun v=> ∃x:Int,v= .int .i64 x∧(b.pts.getD 0 default).h≤x∧x≤(b.pts.getD (np-1) default).h) rfl zq (by kernel_rfl) (fun H' hH=>f51_c _ H' (b:=b) (rdp.keeps (sq hH)) hp hv z hzz) ?_;rintro v ⟨x,rfl,hx1,hx2⟩;refine k_put ?_;refine k_calP (Post:=fun v=> ∃x:Int,v= .int .i64 x∧(b.pts.getD 0 default).h≤x∧x≤(b.pts.getD (np-1) default).h) rfl zq (by kernel_rfl) (fun H' hH=>f51_c _ H' (b:=b) (rdp.keeps (sq hH)) hp hv y0 hyy) ?_;rintro v ⟨y,rfl,hy1,hy2⟩;refine k_put ?_;refine d46 ?_;refine d93 ?_;refine run_block ?_;refine run_loop (fun nn l h'=> ∃(i:Nat),nn=np-i∧(i<np)∧(i=0∨(b.pts.getD i default).h<x)∧(∃U:Nat→Value,l=((fbV b pp np cp pt nt ct pk nk ck)::(.slice p n0 c)::(.int .u16 (z:Int))::(.int .u16 (y0:Int))::(.pointer (some ⟨q4,0,none⟩))::vw4 U 5 ((.slice pl ln.length cl)::(.int .i64 x)::(.int .i64 y)::(.int .i64 (i:Int))::(U 13)::(U 14)::(U 15)::(U 16)::(U 17)::(U 18)::(U 19)::(U 20)::(U 21)::(U 22)::(U 23)::(U 24)::(U 25)::(U 26)::(U 27)::(U 28)::(U 29)::(U 30)::(U 31)::(U 32)::(U 33)::(U 34)::(U 35)::(U 36)::(U 37)::(U 38)::(U 39)::(U 40)::(U 41)::(U 42)::(U 43)::(U 44)::(U 45)::(U 46)::(U 47)::(U 48)::(U 49)::(U 50)::(U 51)::(U 52)::(U 53)::(U 54)::(U 55)::(U 56)::(U 57)::(U 58)::(U 59)::(U 60)::(U 61)::(U 62)::(U 63)::(U 64)::(U 65)::(U 66)::(U 67)::(U 68)::(U 69)::(U 70)::(U 71)::(U 72)::(U 73)::(U 74)::(U 75)::(U 76)::(U 77)::(U 78)::(U 79)::(U 80)::(U 81)::(U 82)::(U 83)::(U 84)::(U 85)::(U 86)::(U 87)::(U 88)::(U 89)::(U 90)::(U 91)::(U 92)::(U 93)::(U 94)::(U 95)::(U 96)::(U 97)::(U 98)::(U 99)::(U 100)::(U 101)::(U 102)::(U 103)::(U 104)::(U 105)::(U 106)::(U 107)::(U 108)::(U 109)::(U 110)::(U 111)::(U 112)::(U 113)::(U 114)::(U 115)::vw156 U 116 [])))∧h++[⟨true,q4,.cells (fbL b pp np cp none 0 0 pk nk ck).toArray 26 (0,0)⟩]++n49=h') _ ⟨0,rfl,by omega,.inl rfl,exU rfl,rfl⟩ ?_
   rintro nn l h' ⟨i,rfl,hi,hlt,⟨U,rfl⟩,rfl⟩ hnext;refine d90 ?_
   refine run_region [(0,.free),(1,.free),(2,.free),(3,.free),(4,.free),(5,.free),(6,.free),(7,.free),(8,.free),(9,.free),(10,.free),(11,.free),(12,.free),(13,.free),(14,.free),(15,.free),(16,.free)] (by kernel_rfl) (by kernel_rfl) ?_;refine d4 ?_;refine d114 ?_
   refine k_lssS rfl zq (fun hc=>?_) (fun hc=>?_)
   ·refine mq rfl ?_;refine d25 ?_;refine k_mv rfl rfl ?_;refine k_add rfl rfl (by unfold In64;omega) ?_
    obtain ⟨rdp_b,rdp_o,rfl⟩:=rdp.ptr (by omega)
    refine k_ixs rfl rfl (by first|rfl|assumption) (by omega) (by omega) ?_;(first|refine k_fa0 rfl rfl ?_|refine k_fa rfl rfl ?_);refine k_ld rfl rfl (rdp.fat (v:= .int .i64 (b.pts.getD (i+1) default).h) (i+1) 0 (by omega) (by omega) rfl) ?_;refine k_mv rfl rfl ?_;refine k_lssS rfl rfl (fun hc=>?_) (fun hc=>?_)
    ·refine k_pickT rfl zq ?_;refine d7 ?_;refine d103 ?_;refine rr3 ?_;refine d4 ?_;refine d45 ?_;exact (Md.starS Tryz.prog B).weak weakSub (hnext _ _ _ (by omega) ⟨i+1,rfl,by omega,.inr (by omega),exU rfl,rfl⟩)
    ·refine d73 ?_;refine d22 ?_;refine run_seq ?_
     have hi1:i+1<b.pts.length:=by omega
     have hui:=hv.pts.up i hi1
     refine run_draw [(0,.pure),(2,.pure),(6,.pure),(8,.pure),(9,.pure),(1,.read),(3,.pure),(4,.pure),(5,.read),(13,.pure),(7,.read),(10,.pure),(11,.pure),(12,.read),(14,.pure)] (by kernel_rfl) (by kernel_rfl) (List.Sublist.refl _) ?_;(first|refine k_fa0 rfl zq ?_|refine k_fa rfl zq ?_);refine mq rfl ?_;(first|refine k_fa0 rfl zq ?_|refine k_fa rfl zq ?_);refine d4 ?_;refine k_ldh rfl zq ?_;refine d20 ?_
     refine k_ld rfl zq (rdp.fat (v:= .int .i64 (b.pts.getD i default).h) i 0 (by omega) (by omega) rfl) ?_;refine k_as rfl zq ?_;refine k_ldh rfl zq ?_;refine d20 ?_;refine k_ld rfl zq (rdp.fat (v:= .int .i64 (b.pts.getD (i+1) default).h) (i+1) 0 (by omega) (by omega) rfl) ?_;refine d12 ?_;refine run_seq ?_
     have hpx:(b.pts.getD i default).h≤x:=by
      rcases hlt with rfl|h
      ·exact hx1
      ·omega
     have hs1:=hm i
     have hs2:=hm (i+1)
     have ho1:=(hv.pts.ok (b.pts.getD i default) (mem_getDR.2 ⟨i,by omega,rfl⟩)).1
     have ho2:=(hv.pts.ok (b.pts.getD (i+1) default) (mem_getDR.2 ⟨i+1,by omega,rfl⟩)).1
     have hmul:=mulB (x:=ln.getD (i+1) 0-ln.getD i 0) (y:=x-(b.pts.getD i default).h) (a:=959) (b:=959) (by omega) (by omega)
     refine run_draw [(0,.pure),(1,.pure),(2,.pure),(3,.pure),(4,.pure),(5,.pure),(6,.pure),(7,.pure),(8,.pure),(9,.pure),(10,.pure),(11,.pure),(12,.pure),(14,.pure),(15,.pure),(16,.pure),(19,.pure),(20,.pure),(21,.pure),(23,.pure),(24,.pure),(25,.pure),(13,.read),(17,.read),(18,.pure),(22,.pure),(26,.pure),(27,.pure),(28,.pure)] (by kernel_rfl) (by kernel_rfl) (List.Sublist.refl _) ?_;refine d3 ?_
     refine k_eqlS rfl zq (fun hc=>?_) (fun hc=>?_)
     ·refine d52 ?_;refine k_off rfl rfl ?_;refine k_pickT rfl zq ?_;refine d115 ?_;refine d5 ?_;refine d5 ?_;refine d5 ?_;refine d5 ?_;refine d5 ?_;refine k_off rfl rfl ?_;refine k_pickT rfl zq ?_;refine d7 ?_;refine rs2 ?_
      refine k_cal rfl zq (by kernel_rfl) (f18_c _) ?_;rintro v h' ⟨nF,rfl,rfl⟩;refine d110 ?_
      refine run_top rfl Tryz.func10 (by kernel_rfl) rfl ?_;rfl
     ·refine d23 ?_;refine k_mv rfl rfl ?_
      refine k_eqlS rfl rfl (fun hc=>?_) (fun hc=>?_)
      ·refine k_pickF rfl zq ?_;refine d115 ?_;refine d5 ?_;refine d5 ?_;refine d5 ?_;refine d5 ?_;refine d5 ?_;refine k_off rfl rfl ?_;refine k_pickT rfl zq ?_;refine d7 ?_;refine rs2 ?_;refine k_cal rfl zq (by kernel_rfl) (f18_c _) ?_;rintro v h' ⟨nF,rfl,rfl⟩;refine d110 ?_
       refine run_top rfl Tryz.func10 (by kernel_rfl) rfl ?_;rfl
      ·refine k_pickF rfl zq ?_;refine d23 ?_;refine k_mv rfl rfl ?_;refine k_add rfl rfl (by unfold In64;omega) ?_;obtain ⟨rl_b,rl_o,rfl⟩:=rl.ptr (by omega)
       refine k_ixs rfl rfl (by first|rfl|assumption) (by omega) (by omega) ?_;refine k_mv rfl rfl ?_;refine d130 ?_;refine k_mv rfl rfl ?_;refine k_sub rfl rfl (by unfold In64;omega) ?_;refine k_mv rfl rfl ?_;refine k_mv rfl rfl ?_;refine k_sub rfl rfl (by unfold In64;omega) ?_;refine k_ld rfl rfl (rl.iat (i+1) (by omega) (by omega)) ?_;refine k_ld rfl rfl (rl.iat i (by omega) (by omega)) ?_;refine k_sub rfl rfl (by unfold In64;omega) ?_;refine k_mul rfl rfl (by unfold In64;omega) ?_;refine k_remZ rfl rfl (by omega) ?_;refine k_neqS rfl rfl (fun hc=>?_) (fun hc=>?_)
       ·refine k_pickF rfl zq ?_;refine d7 ?_;refine rs2 ?_;refine k_cal rfl zq (by kernel_rfl) (f18_c _) ?_;rintro v h' ⟨nF,rfl,rfl⟩;refine d110 ?_
        refine run_top rfl Tryz.func10 (by kernel_rfl) rfl ?_;rfl
       ·refine k_pickF rfl zq ?_;refine d37 ?_;have hpx1:(b.pts.getD i default).h<x:=by omega
        have hpx2:x<(b.pts.getD (i+1) default).h:=by omega
        obtain ⟨m,em,hmD,hat⟩:=at_whole (l:=ln) hv.pts hi1 hpx1 hpx2 (by first|assumption|omega)
        have hx2':x≤(b.pts.getD (b.pts.length-1) default).h:=by rw [hml];exact hx2
        have hsm:=at_sml hv.pts hx1 hx2' hm
        obtain ⟨n,hn⟩: ∃n,n=atI b.pts ln x:=⟨_,rfl⟩
        rw [←hn] at hat hsm
        refine rr9 ?_;refine k_ldA rfl zq ?_;refine d3 ?_;refine k_calP (Post:=fun v=>v= .tuple [.int .i64 (n),.int .i64 0].toArray) rfl zq (by kernel_rfl) (fun H' hH=>by have:=f23_c (Md.starS Tryz.prog B) H' (b:=b) (xs:=ln) (rdp.keeps (sq hH)) hp (rdt.keeps (sq hH)) (by omega) (rdk.keeps (sq hH)) hk (rl.keeps (sq hH)) hln x;rw [orNo_yes (row_at h0 hll hsp hx1 hx2'),←hn] at this;exact this) ?_;rintro v rfl;refine d78 ?_;refine d97 ?_;refine run_seq ?_
        refine run_draw [(0,.pure),(1,.pure),(2,.pure),(3,.pure),(4,.pure),(5,.pure),(6,.pure),(8,.pure),(9,.pure),(10,.pure),(11,.pure),(13,.pure),(14,.pure),(15,.pure),(18,.pure),(19,.pure),(20,.pure),(22,.pure),(23,.pure),(24,.pure),(7,.read),(12,.read),(16,.read),(17,.pure),(21,.pure),(25,.pure),(26,.pure),(27,.pure),(28,.pure)] (by kernel_rfl) (by kernel_rfl) (List.Sublist.refl _) ?_;refine mq rfl ?_;refine k_neqF rfl zq rfl ?_;refine d23 ?_;refine k_mv rfl rfl ?_;refine d130 ?_;refine k_mv rfl rfl ?_;refine k_add rfl rfl (by unfold In64;omega) ?_;refine k_ixs rfl rfl (by first|rfl|assumption) (by omega) (by omega) ?_;refine k_mv rfl rfl ?_;refine d130 ?_;refine k_mv rfl rfl ?_;refine k_sub rfl rfl (by unfold In64;omega) ?_;refine k_mv rfl rfl ?_;refine k_mv rfl rfl ?_;refine k_sub rfl rfl (by unfold In64;omega) ?_
        refine k_ld rfl rfl (rl.iat i (by omega) (by omega)) ?_;refine k_ld rfl rfl (rl.iat (i+1) (by omega) (by omega)) ?_;refine k_ld rfl rfl (rl.iat i (by omega) (by omega)) ?_;refine k_sub rfl rfl (by unfold In64;omega) ?_;refine k_mul rfl rfl (by unfold In64;omega) ?_;refine k_quoZ rfl rfl (by omega) (by rw [←em];unfold In64;omega) ?_;refine k_add rfl rfl (by unfold In64;omega) ?_;refine k_neqF rfl rfl (by rw [←em];omega) ?_;refine d126 ?_;refine d94 ?_
        refine k_new rfl zq (fun q17=>k_hp (k_put ?_));refine d129 ?_
        have hok:=insP_ok hv (by omega) hi1 hpx1 hpx2 hsm
        have hz2:=fbS_of hok
        have hrow:=insP_row (x:=x) (n:=n) hll hsp hi1
        have hlen:(insL b.pts i ⟨x,n,n⟩).length=np+1:=by rw [insL_length (by omega)];omega
        have hllen:(insL ln i n).length=np+1:=by rw [insL_length (by omega)];omega
        obtain ⟨he1,he2⟩:=insP_ends (x:=x) (n:=n) hi1
        have hy2':y≤(b.pts.getD (b.pts.length-1) default).h:=by rw [hml];exact hy2
        refine run_drawC (fun l' h'=> ∃(p2:Option Addr) (c2:Nat) (N2:Hp),(∃U:Nat→Value,l'=(vw4 U 0 ((.pointer (some ⟨q4,0,none⟩))::vw4 U 5 ((.slice (some ⟨rl_b,rl_o,none⟩) ln.length cl)::(.int .i64 x)::(.int .i64 y)::(.int .i64 (i:Int))::(U 13)::(U 14)::(.int .i64 n)::(U 16)::(.pointer (some ⟨q17,0,none⟩))::(U 18)::(U 19)::(U 20)::(U 21)::(U 22)::(U 23)::(U 24)::(U 25)::(U 26)::(U 27)::(U 28)::(U 29)::(U 30)::(U 31)::(U 32)::(U 33)::(U 34)::(U 35)::(U 36)::(U 37)::(U 38)::(U 39)::(U 40)::(U 41)::(U 42)::(U 43)::(U 44)::(U 45)::(U 46)::(U 47)::(U 48)::(U 49)::(U 50)::(U 51)::(U 52)::(U 53)::(U 54)::(U 55)::(U 56)::(U 57)::(U 58)::(U 59)::(U 60)::(U 61)::(U 62)::(U 63)::(U 64)::(U 65)::(U 66)::(U 67)::(U 68)::(U 69)::(U 70)::(U 71)::(U 72)::(U 73)::(U 74)::(U 75)::(U 76)::(U 77)::(U 78)::(U 79)::(U 80)::(U 81)::(U 82)::(U 83)::(U 84)::(U 85)::(U 86)::(U 87)::(U 88)::(U 89)::(U 90)::(U 91)::(U 92)::(U 93)::(U 94)::(U 95)::(U 96)::(U 97)::(U 98)::(U 99)::(U 100)::(U 101)::(U 102)::(U 103)::(U 104)::(U 105)::(U 106)::(U 107)::(U 108)::(U 109)::(U 110)::(U 111)::(U 112)::(U 113)::(U 114)::(U 115)::vw156 U 116 []))))∧OwnS 80 3 (.slice p2 (np+1) c2) (np+1) (encs (insL b.pts i ⟨x,n,n⟩)) N2∧Weak B h' (h++[⟨true,q4,.cells (fbL b (some ⟨rdp_b,rdp_o,none⟩) np cp none 0 0 pk nk ck).toArray 26 (0,0)⟩]++n49++[⟨true,q17,.cells [.int .i64 b.plank,.slice p2 (np+1) c2,.slice none 0 0,.slice pk nk ck].toArray 26 (0,0)⟩]++N2)) [0,1,2,3,4,5,6,7,8,9,10,11,12,13,14,15,16,17,18,19,20] (by kernel_rfl) (by kernel_rfl) (List.Sublist.refl _) ?_ ?_
        ·refine DrawT.leaf [(1,.pure),(3,.pure),(4,.pure),(7,.pure),(8,.pure),(13,.pure),(15,.pure),(16,.pure),(2,.read),(5,.pure),(14,.read),(17,.pure),(0,.keep),(6,.keep),(9,.keep),(10,.pure),(11,.keep),(12,.keep),(18,.keep),(19,.pure),(20,.free)] (by kernel_rfl) ?_
         (first|refine k_fa0 rfl zq ?_|refine k_fa rfl zq ?_);refine d4 ?_;refine d3 ?_;(first|refine k_fa0 rfl zq ?_|refine k_fa rfl zq ?_);refine d4 ?_;refine k_ldh rfl zq ?_
         refine k_slTo (b:=i+1) rfl zq rdp.okp (by omega) (by omega) ?_;refine k_ldh rfl zq ?_;refine k_slFrom (a:=i+1) rfl zq (by omega) (by omega) ?_;refine k_bs0 kdq rfl zq (fun q150=>k_hp (k_put ?_));refine k_appO rfl zq (OwnS.zero (q:=q150)) (rdp.pre (m:=i+1) (by omega)).up (fun u hu=>encs_one _ u (List.mem_of_mem_take hu)) kdq (by omega) (by omega) (fun w156 n156 o156=>k_put ?_);replace o156:OwnS 80 3 w156 (i+1) (encs (b.pts.take (i+1))) n156:=by rw [encs_take];simpa using o156
         refine k_calP (Post:=fun v=>v=_) rfl zq (by kernel_rfl) (fun H' hH=>f62_c _ H' _) ?_;rintro v rfl;refine k_put ?_;refine k_bld rfl zq ?_;refine k_bs kdq rfl zq (by decide) (by decide) rfl (fun q161=>k_hp (k_put ?_));refine k_app1O rfl zq rfl o156 kdq (by omega) (by omega) (fun w162 n162 o162=>k_put ?_);replace o162:OwnS 80 3 w162 (i+1+1) (encs (b.pts.take (i+1)++[⟨x,n,n⟩])) n162:=by rw [encs_append];exact o162
         refine k_appO rfl zq o162 (rdp.cut (lo:=i+1) (by omega) hcp).up (fun u hu=>encs_one _ u (List.mem_of_mem_drop hu)) kdq (by omega) (by omega) (fun w168 n168 o168=>k_put ?_);replace o168:OwnS 80 3 w168 (np+1) (encs (insL b.pts i ⟨x,n,n⟩)) n168:=by
          rw [←encs_drop,←encs_append,ins_parts,show i+1+1+(np-(i+1))=np+1 by omega] at o168
          exact o168
         obtain ⟨p168,c168,rfl,_⟩:=o168.len
         refine d141 ?_
         exact ⟨_,_,_,exU rfl,o168,weakOff1⟩
        ·rintro l' h' ⟨p2,c2,N2,⟨U,rfl⟩,o2,hwk⟩;refine (Md.starS Tryz.prog B).weak hwk ?_
         refine run_seq ?_;refine run_drawC (fun l' h'=> ∃(p3:Option Addr) (c3:Nat) (N3:Hp),(∃U:Nat→Value,l'=(vw4 U 0 ((.pointer (some ⟨q4,0,none⟩))::vw4 U 5 ((.slice (some ⟨rl_b,rl_o,none⟩) ln.length cl)::(.int .i64 x)::(.int .i64 y)::(.int .i64 (i:Int))::(U 13)::(U 14)::(.int .i64 n)::(U 16)::(.pointer (some ⟨q17,0,none⟩))::(.slice p3 (np+1) c3)::(U 19)::(U 20)::(U 21)::(U 22)::(U 23)::(U 24)::(U 25)::(U 26)::(U 27)::(U 28)::(U 29)::(U 30)::(U 31)::(U 32)::(U 33)::(U 34)::(U 35)::(U 36)::(U 37)::(U 38)::(U 39)::(U 40)::(U 41)::(U 42)::(U 43)::(U 44)::(U 45)::(U 46)::(U 47)::(U 48)::(U 49)::(U 50)::(U 51)::(U 52)::(U 53)::(U 54)::(U 55)::(U 56)::(U 57)::(U 58)::(U 59)::(U 60)::(U 61)::(U 62)::(U 63)::(U 64)::(U 65)::(U 66)::(U 67)::(U 68)::(U 69)::(U 70)::(U 71)::(U 72)::(U 73)::(U 74)::(U 75)::(U 76)::(U 77)::(U 78)::(U 79)::(U 80)::(U 81)::(U 82)::(U 83)::(U 84)::(U 85)::(U 86)::(U 87)::(U 88)::(U 89)::(U 90)::(U 91)::(U 92)::(U 93)::(U 94)::(U 95)::(U 96)::(U 97)::(U 98)::(U 99)::(U 100)::(U 101)::(U 102)::(U 103)::(U 104)::(U 105)::(U 106)::(U 107)::(U 108)::(U 109)::(U 110)::(U 111)::(U 112)::(U 113)::(U 114)::(U 115)::vw156 U 116 []))))∧OwnS 3 1 (.slice p3 (np+1) c3) (np+1) (ints (insL ln i n)) N3∧Weak B h' (h++[⟨true,q4,.cells (fbL b (some ⟨rdp_b,rdp_o,none⟩) np cp none 0 0 pk nk ck).toArray 26 (0,0)⟩]++n49++[⟨true,q17,.cells [.int .i64 b.plank,.slice p2 (np+1) c2,.slice none 0 0,.slice pk nk ck].toArray 26 (0,0)⟩]++N2++N3)) [0,1,2,3,4,5,6,7,8,9,10,11,12,13,14] (by kernel_rfl) (by kernel_rfl) (List.Sublist.refl _) ?_ ?_
         ·refine DrawT.split 0 7 (by decide) ?_ ?_
          ·refine DrawT.split 5 7 (by decide) ?_ ?_
           ·refine DrawT.leaf [(1,.pure),(2,.pure),(3,.pure),(4,.pure),(6,.pure),(9,.pure),(10,.pure),(11,.pure),(12,.pure),(0,.keep),(5,.keep),(7,.keep),(8,.keep),(13,.keep),(14,.pure)] (by kernel_rfl) ?_
            refine d3 ?_;refine k_add rfl zq (by unfold In64;omega) ?_
            refine k_slTo (b:=i+1) rfl zq rl.okp (by omega) (by omega) ?_;refine d3 ?_;refine d4 ?_
            refine k_slFrom (a:=i+1) rfl zq (by omega) (by omega) ?_;refine k_bs0 kdq rfl zq (fun q170=>k_hp (k_put ?_));refine k_appO rfl zq (OwnS.zero (q:=q170)) (rl.pre (m:=i+1) (by omega)).up (fun u hu=>ints_one _ u (List.mem_of_mem_take hu)) kdq (by omega) (by omega) (fun w175 n175 o175=>k_put ?_);replace o175:OwnS 3 1 w175 (i+1) (ints (ln.take (i+1))) n175:=by simpa [List.map_take] using o175
            refine k_bs kdq rfl zq (by decide) (by decide) rfl (fun q177=>k_hp (k_put ?_));refine k_app1O rfl zq rfl o175 kdq (by omega) (by omega) (fun w178 n178 o178=>k_put ?_);replace o178:OwnS 3 1 w178 (i+1+1) (ints (ln.take (i+1)++[n])) n178:=by rw [ints_append];exact o178
            refine k_appO rfl zq o178 (rl.cut (lo:=i+1) (by omega) hcl).up (fun u hu=>ints_one _ u (List.mem_of_mem_drop hu)) kdq (by omega) (by omega) (fun w183 n183 o183=>k_put ?_);replace o183:OwnS 3 1 w183 (np+1) (ints (insL ln i n)) n183:=by
             have e:ints (ln.take (i+1)++[n])++(ints ln).drop ((i+1)*1)=ints (insL ln i n):=by rw [←ins_parts];simp [List.map_drop]
             rw [e,show i+1+1+(ln.length-(i+1))=np+1 by omega] at o183
             exact o183
            obtain ⟨p183,c183,rfl,_⟩:=o183.len
            refine aq rfl ?_
            exact ⟨_,_,_,exU rfl,o183,weakOff1⟩
           ·refine DrawT.leaf [(1,.pure),(2,.pure),(3,.pure),(4,.pure),(6,.pure),(9,.pure),(10,.pure),(11,.pure),(12,.pure),(0,.keep),(7,.keep),(5,.keep),(8,.keep),(13,.keep),(14,.pure)] (by kernel_rfl) ?_
            refine d3 ?_;refine k_add rfl zq (by unfold In64;omega) ?_
            refine k_slTo (b:=i+1) rfl zq rl.okp (by omega) (by omega) ?_;refine d3 ?_;refine d4 ?_
            refine k_slFrom (a:=i+1) rfl zq (by omega) (by omega) ?_;refine k_bs0 kdq rfl zq (fun q170=>k_hp (k_put ?_));refine k_bs kdq rfl zq (by decide) (by decide) rfl (fun q177=>k_hp (k_put ?_));refine k_appO rfl zq (OwnS.zero (q:=q170)) (rl.pre (m:=i+1) (by omega)).up (fun u hu=>ints_one _ u (List.mem_of_mem_take hu)) kdq (by omega) (by omega) (fun w175 n175 o175=>k_put ?_);replace o175:OwnS 3 1 w175 (i+1) (ints (ln.take (i+1))) n175:=by simpa [List.map_take] using o175
            refine k_app1O rfl zq rfl o175 kdq (by omega) (by omega) (fun w178 n178 o178=>k_put ?_);replace o178:OwnS 3 1 w178 (i+1+1) (ints (ln.take (i+1)++[n])) n178:=by rw [ints_append];exact o178
            refine k_appO rfl zq o178 (rl.cut (lo:=i+1) (by omega) hcl).up (fun u hu=>ints_one _ u (List.mem_of_mem_drop hu)) kdq (by omega) (by omega) (fun w183 n183 o183=>k_put ?_);replace o183:OwnS 3 1 w183 (np+1) (ints (insL ln i n)) n183:=by
             have e:ints (ln.take (i+1)++[n])++(ints ln).drop ((i+1)*1)=ints (insL ln i n):=by rw [←ins_parts];simp [List.map_drop]
             rw [e,show i+1+1+(ln.length-(i+1))=np+1 by omega] at o183
             exact o183
            obtain ⟨p183,c183,rfl,_⟩:=o183.len
            refine aq rfl ?_
            exact ⟨_,_,_,exU rfl,o183,weakOff1⟩
          ·refine DrawT.leaf [(1,.pure),(2,.pure),(3,.pure),(4,.pure),(6,.pure),(9,.pure),(10,.pure),(11,.pure),(12,.pure),(7,.keep),(0,.keep),(5,.keep),(8,.keep),(13,.keep),(14,.pure)] (by kernel_rfl) ?_
           refine d3 ?_;refine k_add rfl zq (by unfold In64;omega) ?_
           refine k_slTo (b:=i+1) rfl zq rl.okp (by omega) (by omega) ?_;refine d3 ?_;refine d4 ?_
           refine k_slFrom (a:=i+1) rfl zq (by omega) (by omega) ?_;refine k_bs kdq rfl zq (by decide) (by decide) rfl (fun q177=>k_hp (k_put ?_));refine k_bs0 kdq rfl zq (fun q170=>k_hp (k_put ?_));refine k_appO rfl zq (OwnS.zero (q:=q170)) (rl.pre (m:=i+1) (by omega)).up (fun u hu=>ints_one _ u (List.mem_of_mem_take hu)) kdq (by omega) (by omega) (fun w175 n175 o175=>k_put ?_);replace o175:OwnS 3 1 w175 (i+1) (ints (ln.take (i+1))) n175:=by simpa [List.map_take] using o175
           refine k_app1O rfl zq rfl o175 kdq (by omega) (by omega) (fun w178 n178 o178=>k_put ?_);replace o178:OwnS 3 1 w178 (i+1+1) (ints (ln.take (i+1)++[n])) n178:=by rw [ints_append];exact o178
           refine k_appO rfl zq o178 (rl.cut (lo:=i+1) (by omega) hcl).up (fun u hu=>ints_one _ u (List.mem_of_mem_drop hu)) kdq (by omega) (by omega) (fun w183 n183 o183=>k_put ?_);replace o183:OwnS 3 1 w183 (np+1) (ints (insL ln i n)) n183:=by
            have e:ints (ln.take (i+1)++[n])++(ints ln).drop ((i+1)*1)=ints (insL ln i n):=by rw [←ins_parts];simp [List.map_drop]
            rw [e,show i+1+1+(ln.length-(i+1))=np+1 by omega] at o183
            exact o183
           obtain ⟨p183,c183,rfl,_⟩:=o183.len
           refine aq rfl ?_
           exact ⟨_,_,_,exU rfl,o183,weakOff1⟩
         ·rintro l' h' ⟨p3,c3,N3,⟨U,rfl⟩,o3,hwk⟩;refine (Md.starS Tryz.prog B).weak hwk ?_
          obtain ⟨p2_,c2_,e2_,hc2,rpo0⟩:=own_rdA (B:=B) o2
          have rpo:RdS B N2 3 (.slice p2 (np+1) c2) (np+1) (encs (insP b i x n).pts):=o2.rd (List.Sublist.refl _)
          have rdz:RdS B N2 4 (.slice none 0 0) 0 (encs (insP b i x n).tapes):=rd_none
          have hgb:=girth_all hv hm
          have ro:RdS B N3 1 (.slice p3 (np+1) c3) (np+1) (ints (insL ln i n)):=o3.rd (List.Sublist.refl _)
          have hins:=girthI_ins (x:=⟨x,n,n⟩) (n:=n) (l:=ln) hi1 hll hpx1 hpx2 hmD hat
          refine rs9 ?_;refine k_ldA rfl zq ?_;refine d3 ?_;refine k_calP (Post:=fun v=>v= .tuple [.int .i64 (atI b.pts ln y),.int .i64 0].toArray) rfl zq (by kernel_rfl) (fun H' hH=>by have:=f23_c (Md.starS Tryz.prog B) H' (b:=b) (xs:=ln) (rdp.keeps (sq hH)) hp (rdt.keeps (sq hH)) (by omega) (rdk.keeps (sq hH)) hk (rl.keeps (sq hH)) hln y;rw [orNo_yes (row_at h0 hll hsp hy1 hy2')] at this;exact this) ?_;rintro v rfl;refine d134 ?_;refine rs9 ?_;refine k_ldA rfl zq ?_;refine d3 ?_
          refine k_calP (Post:=fun v=>v= .tuple [.int .i64 (atI b.pts ln y),.int .i64 0].toArray) rfl zq (by kernel_rfl) (fun H' hH=>by have:=f23_c (Md.starS Tryz.prog B) H' (b:=(insP b i x n)) (xs:=(insL ln i n)) (rpo.keeps (sq hH)) (by omega) (rdz.keeps (sq hH)) (by omega) (rdk.keeps (sq hH)) hk (ro.keeps (sq hH)) (by omega) y;rw [orNo_yes (row_at hz2 (by show (insL ln i n).length=(insL b.pts i ⟨x,n,n⟩).length;omega) hrow (by rw [he1];exact hy1) (by rw [show (insP b i x n).pts.length=b.pts.length+1 from insL_length (by omega),he2];exact hy2')),show atI (insP b i x n).pts (insL ln i n) y=atI b.pts ln y from atI_ins (x:=⟨x,n,n⟩) hv.pts hll hi1 hpx1 hpx2 hmD hat hy1 hy2'] at this;exact this) ?_;rintro v rfl;refine d134 ?_;refine rs8 ?_;refine d69 ?_
          refine k_calP (Post:=fun v=>v= .tuple [.int .i64 (areaI b.pts ln),.int .i64 0].toArray) rfl zq (by kernel_rfl) (fun H' hH=>by have:=f27_c (Md.starS Tryz.prog B) H' (b:=b) (xs:=ln) (rdp.keeps (sq hH)) hp (rdt.keeps (sq hH)) (by omega) (rdk.keeps (sq hH)) hk (rl.keeps (sq hH)) hln;rw [orNo_yes (row_hand h0 hll hsp)] at this;exact this) ?_;rintro v rfl;refine d134 ?_;refine rs8 ?_;refine d69 ?_
          refine k_calP (Post:=fun v=>v= .tuple [.int .i64 (areaI b.pts ln),.int .i64 0].toArray) rfl zq (by kernel_rfl) (fun H' hH=>by have:=f27_c (Md.starS Tryz.prog B) H' (b:=(insP b i x n)) (xs:=(insL ln i n)) (rpo.keeps (sq hH)) (by omega) (rdz.keeps (sq hH)) (by omega) (rdk.keeps (sq hH)) hk (ro.keeps (sq hH)) (by omega);rw [orNo_yes (row_hand hz2 (by show (insL ln i n).length=(insL b.pts i ⟨x,n,n⟩).length;omega) hrow),show areaI (insP b i x n).pts (insL ln i n)=areaI b.pts ln from areaI_ins (x:=⟨x,n,n⟩) hi1 hll hmD hat] at this;exact this) ?_;rintro v rfl;refine d134 ?_;refine rs12 ?_;refine d69 ?_;refine d2 ?_;refine d71 ?_
          rw [show (np:Int)-1=((b.pts.length-1:Nat):Int) by omega];refine k_calP (Post:=fun v=>v= .tuple [.int .i64 (girthI b.pts ln 0 ((b.pts.length-1:Nat):Int)),.int .i64 0].toArray) rfl zq (by kernel_rfl) (fun H' hH=>by have:=f25_c (Md.starS Tryz.prog B) H' (b:=b) (xs:=ln) (rdp.keeps (sq hH)) hp (rdt.keeps (sq hH)) (by omega) (rdk.keeps (sq hH)) hk (rl.keeps (sq hH)) hln ((0:Nat):Int) ((b.pts.length-1:Nat):Int);rw [orNo_yes (row_girth h0 hll hsp (by omega) (by omega))] at this;exact this) ?_;rintro v rfl;refine d134 ?_;refine rs12 ?_;refine d69 ?_;refine d2 ?_;refine d71 ?_
          rw [show ((np+1:Nat):Int)-1=(((insL b.pts i ⟨x,n,n⟩).length-1:Nat):Int) by omega];refine k_calP (Post:=fun v=>v= .tuple [.int .i64 (girthI (insP b i x n).pts (insL ln i n) 0 (((insL b.pts i ⟨x,n,n⟩).length-1:Nat):Int)),.int .i64 0].toArray) rfl zq (by kernel_rfl) (fun H' hH=>by have:=f25_c (Md.starS Tryz.prog B) H' (b:=(insP b i x n)) (xs:=(insL ln i n)) (rpo.keeps (sq hH)) (by omega) (rdz.keeps (sq hH)) (by omega) (rdk.keeps (sq hH)) hk (ro.keeps (sq hH)) (by omega) ((0:Nat):Int) (((insL b.pts i ⟨x,n,n⟩).length-1:Nat):Int);rw [orNo_yes (row_girth hz2 (by show (insL ln i n).length=(insL b.pts i ⟨x,n,n⟩).length;omega) hrow (by omega) (by show (insL b.pts i ⟨x,n,n⟩).length-1<(insL b.pts i ⟨x,n,n⟩).length;omega))] at this;exact this) ?_;rintro v rfl;refine d78 ?_;refine d97 ?_
          refine run_region [(0,.free),(1,.free),(2,.free),(3,.free),(4,.free),(5,.free),(6,.free),(7,.free),(8,.free),(9,.free),(10,.free),(11,.free),(12,.free),(13,.free),(14,.free),(15,.free),(16,.free),(17,.free),(18,.free),(19,.free),(20,.free),(21,.free),(22,.free),(23,.free),(24,.free),(25,.free),(26,.free),(27,.free),(28,.free),(29,.free),(30,.free),(31,.free),(32,.free),(33,.free),(34,.free),(35,.free),(36,.free),(37,.free),(38,.free),(39,.free),(40,.free),(41,.free),(42,.free)] (by kernel_rfl) (by kernel_rfl) ?_;refine mq rfl ?_;refine k_eqlT rfl zq rfl ?_;refine d23 ?_;refine k_eqlT rfl rfl rfl ?_;refine k_pickT rfl zq ?_;refine d23 ?_;refine k_eqlT rfl rfl rfl ?_;refine k_pickT rfl zq ?_;refine d23 ?_;refine k_eqlT rfl rfl rfl ?_;refine k_pickT rfl zq ?_;refine d23 ?_;refine k_eqlT rfl rfl rfl ?_;refine k_pickT rfl zq ?_;refine d23 ?_;refine k_eqlT rfl rfl rfl ?_;refine k_pickT rfl zq ?_;refine d23 ?_;refine k_mv rfl rfl ?_;refine k_eqlT rfl rfl rfl ?_;refine k_pickT rfl zq ?_;refine d23 ?_;refine k_mv rfl rfl ?_;refine k_eqlT rfl rfl rfl ?_;refine k_pickT rfl zq ?_;refine d23 ?_;refine k_mv rfl rfl ?_;refine k_sub rfl rfl (by unfold In64;omega) ?_;refine k_mv rfl rfl ?_
          refine k_calP (Post:=fun v=>IsB _ v) rfl rfl (by kernel_rfl) (fun H' hH=>f55_c _ H' _ _ _) ?_;rintro v (⟨hc,rfl⟩|⟨hc,rfl⟩)
          ·refine k_put ?_;refine k_pickT rfl zq ?_;refine mq rfl ?_;refine k_cal rfl rfl (by kernel_rfl) (f18_c _) ?_;rintro v h' ⟨nF,rfl,rfl⟩;refine k_put ?_;refine d92 ?_;refine run_top rfl Tryz.func10 (by kernel_rfl) rfl ?_;rfl
          ·refine k_put ?_;exact absurd ⟨by have h1:=hins.2;have h2:girthI (insL b.pts i ⟨x,n,n⟩) (insL ln i n)=girthI (insP b i x n).pts (insL ln i n):=rfl;rw [h2] at h1;omega,hins.1⟩ hc
   ·exfalso
    obtain rfl:i=np-1:=by omega
    omega
 ·refine d44 ?_;refine d66 ?_;refine k_pickT rfl zq ?_;refine d7 ?_;refine rs2 ?_
  refine k_cal rfl zq (by kernel_rfl) (f18_c _) ?_;rintro v h' ⟨nF,rfl,rfl⟩;refine d110 ?_
  refine run_top rfl Tryz.func10 (by kernel_rfl) rfl ?_;rfl
end Go.Proofs
