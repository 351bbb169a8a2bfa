/- A part of the proof of a law: my own separation logic over the machine, and walks of the program. Condition of each theorem: as its statement says. -/
import Derived.Test.YtgplnpdblmcdoaaGreatDoorWC6
set_option linter.all false
namespace Go.Proofs
open Go.Lo
open Go.Conc (G)
set_option maxRecDepth 100000
set_option synthInstance.maxSize 100000
set_option synthInstance.maxHeartbeats 1000000
set_option maxHeartbeats 4000000
variable {B:Array Obj}
def PdqC {B:Array Obj} (m:Md Tryz.prog B) (N:Nat):Prop:= ∀(h:Hp) (bk n c:Nat) (xs:List Int) (junk:List Value) (lim:Int),xs.length=n→n≤N→0≤lim→lim≤1000→
 FnC m 123 #[.slice (some ⟨bk,0,none⟩) n c,.int .i64 0,.int .i64 (n:Int),.int .i64 lim] (h++[blkC bk xs junk]) fun v h'=>v= .tuple [].toArray∧ ∃ys,h'=h++[blkC bk ys junk]∧Sw 0 n xs ys∧SortR ys 0 n
def uniqT (xs:List Int):Nat→List Int
 |0=>[]
 |t+1=>uniqT xs t++if t=0∨xs.getD t 0≠xs.getD (t-1) 0 then [xs.getD t 0] else []
theorem uniqT_all (xs:List Int): ∀t,t≤xs.length→(∀i,0<i→i<t→xs.getD i 0≠xs.getD (i-1) 0)→uniqT xs t=xs.take t
 |0,_,_=>rfl
 |t+1,h,hd=>by
  rw [uniqT,uniqT_all xs t (by omega) (fun i h1 h2=>hd i h1 (by omega)),take_snoc' xs t (by omega),if_pos];by_cases e:t=0
  ·exact .inl e
  ·exact .inr (hd t (by omega) (by omega))
theorem take_set_snoc {ys:List Int} {k:Nat} {v:Int} (h:k<ys.length):(ys.set k v).take (k+1)=ys.take k++[v]:=take_set h
theorem own_blk {bk n c:Nat} {ys:List Int} {junk:List Value} (hl:ys.length=n) (hj:n+junk.length=c):OwnS 3 1 (.slice (some ⟨bk,0,none⟩) n c) n (ints ys) [blkC bk ys junk]:=
 .blk (by simp [hl]) (by simp [hl];omega) (by omega)
theorem own_cut {bk n c k:Nat} {ys:List Int} {junk:List Value} (hl:ys.length=n) (hj:n+junk.length=c) (hk:k≤n):OwnS 3 1 (.slice (some ⟨bk,0,none⟩) k c) k (ints (ys.take k)) [blkC bk ys junk]:=by
 have:=(own_blk (bk:=bk) hl hj).pre (m:=k) hk
 rwa [Nat.mul_one,←jdA] at this
theorem f66_c (m:Md Tryz.prog B) (h:Hp) {bk n c:Nat} {xs:List Int} {junk:List Value} (hl:xs.length=n) (hj:n+junk.length=c) (hn:n≤100000):FnC m 66 #[.slice (some ⟨bk,0,none⟩) n c] (h++[blkC bk xs junk]) fun v h'=> ∃nw,h'=h++nw∧ ∃k,k=(uniqT xs n).length∧OwnS 3 1 v k (ints (uniqT xs n)) nw:=by
 refine jad Tryz.func66 rfl rfl (l:=(.slice (some ⟨bk,0,none⟩) n c)::uu60) rfl ?_
 intro cf cs K hK
 refine d67 ?_;refine d151 ?_
 refine jap rfl zq (fun hc=>?_) (fun hc=>?_)
 ·refine d166 ?_
  refine jab (h++[blkC bk xs junk]) rfl Tryz.func66 rfl jaa ?_;refine hK _ _ ?_;have hall:uniqT xs n=xs:=by rw [uniqT_all xs n (by omega) (fun i h1 h2=>by omega),List.take_of_length_le (by omega)]
  exact ⟨_,rfl,n,by rw [hall,hl],by rw [hall];exact own_blk hl hj⟩
 ·refine d36 ?_;refine d98 ?_
  refine jag (fun nn l h'=> ∃(k:Nat),nn=n-k∧(1≤k)∧(k≤n)∧(∀i,0<i→i<k→xs.getD i 0≠xs.getD (i-1) 0)∧(∃U:Nat→Value,l=((.slice (some ⟨bk,0,none⟩) n c)::(U 1)::(U 2)::(.int .i64 (k:Int))::vw57 U 4 []))∧h++[blkC bk xs junk]=h') _ ⟨1,rfl,by omega,by omega,fun i h1 h2=>by omega,exU rfl,rfl⟩ ?_;rintro nn l h' ⟨k,rfl,hk1,hk2,hd,⟨U,rfl⟩,rfl⟩ hnext1;have hu:=uniqT_all xs k (by omega) hd
  refine d114 ?_
  refine jap rfl zq (fun hc=>?_) (fun hc=>?_)
  ·refine d97 ?_
   refine jah [(0,.pure),(1,.pure),(2,.pure),(4,.pure),(5,.pure),(6,.pure),(7,.pure),(3,.read),(8,.read),(9,.pure)] (by kernel_rfl) (by kernel_rfl) (List.Sublist.refl _) ?_;refine d11 ?_;refine d56 ?_
   refine k_ld rfl zq (jan k rfl (by omega)) ?_;refine k_ld rfl zq (jan (k-1) (by omega) (by omega)) ?_;refine jcd rfl zq (fun hc=>?_) (fun hc=>?_)
   ·refine d7 ?_;refine d69 ?_
    refine jdS (a:=k) rfl zq rfl (by omega) ?_;rw [jjf (by omega)];refine d10 ?_;refine rs1 ?_
    have hu1:uniqT xs (k+1)=xs.take k:=by rw [uniqT,if_neg (by rintro (e|e)<;>omega),List.append_nil,hu]
    refine d39 ?_
    refine jag (fun nn l h'=> ∃(j e:Nat) (ys:List Int),nn=n-j∧(1≤j)∧(k+j≤n)∧(e=(uniqT xs (k+j)).length)∧(e<k+j)∧(k≤e)∧(ys.length=n)∧(ys.take e=uniqT xs (k+j))∧(∀i,k+j≤i+1→ys.getD i 0=xs.getD i 0)∧(∃U:Nat→Value,l=((.slice (some ⟨bk,0,none⟩) n c)::(U 1)::(U 2)::(.int .i64 (e:Int))::(.slice (some ⟨bk,k,none⟩) (n-k) (c-k))::(.int .i64 (j:Int))::vw55 U 6 []))∧h++[blkC bk ys junk]=h') _ ⟨1,k,xs,rfl,by omega,by omega,by rw [hu1,List.length_take];omega,by omega,by omega,hl,by rw [hu1],fun i hi=>rfl,exU rfl,rfl⟩ ?_;rintro nn l h' ⟨j,e,ys,rfl,hj1,hj2,he,hek,hke,hyl,hyt,hys,⟨U,rfl⟩,rfl⟩ hnext2;refine d114 ?_
    refine jap rfl zq (fun hc=>?_) (fun hc=>?_)
    ·refine d97 ?_
     refine jah [(0,.pure),(1,.pure),(2,.pure),(4,.pure),(5,.pure),(6,.pure),(7,.pure),(3,.read),(8,.read),(9,.pure)] (by kernel_rfl) (by kernel_rfl) (List.Sublist.refl _) ?_;have hy1:=hys (k+j) (by omega)
     have hy2:=hys (k+(j-1)) (by omega)
     refine d11 ?_;refine d56 ?_
     refine k_ld rfl zq (jeZ j rfl (by omega)) ?_;refine k_ld rfl zq (jeZ (j-1) (by omega) (by omega)) ?_;rw [hy1,hy2];refine jaF rfl zq (fun hc=>?_) (fun hc=>?_)
     ·have hU:uniqT xs (k+(j+1))=uniqT xs (k+j)++[xs.getD (k+j) 0]:=by
       rw [show k+(j+1)=(k+j)+1 by omega,uniqT,if_pos (.inr (by rw [show k+j-1=k+(j-1) by omega];exact hc))]
      refine d7 ?_;refine rs8 ?_;refine d3 ?_;refine d11 ?_
      refine k_ld rfl zq (jeZ j rfl (by omega)) ?_;rw [hy1];refine jaJ rfl zq (by first|rfl|assumption) (by omega) (by omega) ?_;haveI hs1:=setSeg_ints (xs:=ys) (junk:=junk) (v:=xs.getD (k+j) 0) (i:=(e:Int)) (k:=e) rfl (by omega)
      refine d59 ?_;refine rr3 ?_;refine d4 ?_;refine d167 ?_
      exact m.weak jaa (hnext2 _ _ _ (by omega) ⟨j+1,e+1,ys.set e (xs.getD (k+j) 0),rfl,by omega,by omega,by rw [hU,List.length_append,←he];rfl,by omega,by omega,by simp [hyl],by rw [take_set_snoc (by omega),hyt,hU],fun i hi=>by rw [getD_set (by omega),if_neg (by omega)];exact hys i (by omega),exU rfl,rfl⟩)
     ·have hU:uniqT xs (k+(j+1))=uniqT xs (k+j):=by
       rw [show k+(j+1)=(k+j)+1 by omega,uniqT,if_neg (fun y=>y.elim (fun x=>by omega) (fun x=>x (by rw [show k+j-1=k+(j-1) by omega];exact hc))),List.append_nil]
      refine d105 ?_
      exact m.weak jaa (hnext2 _ _ _ (by omega) ⟨j+1,e,ys,rfl,by omega,by omega,by rw [hU,←he],by omega,by omega,hyl,by rw [hU,hyt],fun i hi=>hys i (by omega),exU rfl,rfl⟩)
    ·refine d41 ?_;refine rs4 ?_
     obtain rfl:n=k+j:=by omega
     refine d3 ?_
     refine jdS (a:=e) rfl zq rfl (by omega) ?_;refine jmy rfl zq hyl (by omega) (by omega) ?_;refine jaB ?_;refine d69 ?_;refine k_slTo (b:=e) rfl zq (.inr ⟨_,_,rfl⟩) rfl (by omega) ?_;refine d0 ?_
     refine jab (h++[blkC bk (ys.take e++List.replicate (k+j-e) 0) junk]) rfl Tryz.func66 rfl jaa ?_;refine hK _ _ ?_;refine ⟨_,rfl,e,he,?_⟩
     have:=own_cut (bk:=bk) (n:=k+j) (c:=c) (k:=e) (ys:=ys.take e++List.replicate (k+j-e) 0) (junk:=junk) (by simp;omega) hj (by omega)
     rw [List.take_append_of_le_length (by simp;omega),List.take_take,Nat.min_self,hyt] at this
     rw [hyt];exact this
   ·refine d105 ?_
    exact m.weak jaa (hnext1 _ _ _ (by omega) ⟨k+1,rfl,by omega,by omega,fun i h1 h2=>by
     rcases Nat.lt_or_ge i k with h3|h3
     ·exact hd i h1 h3
     ·obtain rfl:i=k:=by omega
      assumption,exU rfl,rfl⟩)
  ·refine d176 ?_
   refine jab (h++[blkC bk xs junk]) rfl Tryz.func66 rfl jaa ?_;refine hK _ _ ?_;obtain rfl:k=n:=by omega
   have hall:uniqT xs k=xs:=by rw [hu,List.take_of_length_le (by omega)]
   exact ⟨_,rfl,k,by rw [hall,hl],by rw [hall];exact own_blk hl hj⟩
theorem f65_c (m:Md Tryz.prog B) (h:Hp) {N:Nat} (hP:PdqC m N) (hN:N≤60000) {bk n c:Nat} {xs:List Int} {junk:List Value} (hl:xs.length=n) (hn:n≤N):FnC m 65 #[.slice (some ⟨bk,0,none⟩) n c] (h++[blkC bk xs junk]) fun v h'=>v= .tuple [].toArray∧ ∃ys,h'=h++[blkC bk ys junk]∧Sw 0 n xs ys∧SortR ys 0 n:=by
 refine jad Tryz.func65 rfl rfl (l:=(.slice (some ⟨bk,0,none⟩) n c)::uu10) rfl ?_
 intro cf cs K hK
 refine d151 ?_;refine aq rfl ?_;refine rr6 ?_;refine d127 ?_
 refine jbk rfl zq (by kernel_rfl) (n':=(n:Int)) (by unfold IntKind.wrap;simp [IntKind.bits,IntKind.signed];omega) ?_;refine jae rfl zq (by kernel_rfl) (fun H' hH=>f124_c m H' _ (by omega)) ?_;rintro v ⟨lim,rfl,hk0,hk1⟩;refine jac ?_;refine jaZ rfl zq (by kernel_rfl) (hP h bk n c xs junk lim hl hn hk0 hk1) ?_;rintro v h' ⟨rfl,ys,rfl,hsw,hso⟩;refine d144 ?_;refine jdh rfl ?_
 refine jab (h++[blkC bk ys junk]) rfl Tryz.func65 rfl jaa ?_;refine hK _ _ ?_;exact ⟨rfl,ys,rfl,hsw,hso⟩
section
variable {P:Program} {B:Array Obj} {m:Md P B} {ops:Array Oper} {l l':List Value} {S h h' H:Hp} {C:List Value→Hp→Prop} {i:Nat} {kd:Kd} {r:List (Nat×Kd)}
 {d:Option Tmp} {ty:TypeId} {pos:String} {af:Array Edge} {g:Option (Nat×Bool)}
theorem ji0 (dd:Nat) {t e k n c:Nat} {p:Option Addr} [SliceT P t e k]:Reads P B (Op.equalIn (dd+1) t (.slice p n c) (.slice none 0 0)) h p.isNone:=by
 unfold Op.equalIn
 obtain ⟨hu,_⟩:=jbj (P:=P) (B:=B) (h:=h) (t:=t)
 refine Reads.bind (jal hu).reads ?_
 cases p<;>exact Reads.pure _
theorem jmx {t u e k n c:Nat} {x y:Operand} {p:Option Addr} (ho:ops[i]?=some ⟨d,.binOp .eql t x y u,ty,pos,af,g⟩) (hw:Wt ops l g) [KHeap kd S h H] [ex:OpV l x (.slice p n c)] [ey:OpV l y (.slice none 0 0)] [SliceT P t e k]
  [PutV l d (.bool p.isNone) l'] (q:RegK m S ops r l' h C):RegK m S ops ((i,kd)::r) l h C:=
 RegK.rd (v:= .bool p.isNone) ho hw (by
  simp only [execOp,ex.eq,ey.eq]
  refine Reads.value (Reads.bind (a:=()) ?_ ?_)
  ·exact Reads.pure ()
  ·show Reads P B (Op.equal t (.slice p n c) (.slice none 0 0)>>=fun b=>pure (Value.bool b)) H _
   exact Reads.bind (ji0 9999) (Reads.pure _)) q
theorem jfz {t u e k n c:Nat} {x y:Operand} {p:Option Addr} {l'':List Value} (ho:ops[i]?=some ⟨d,.binOp .eql t x y u,ty,pos,af,g⟩) (hw:Wt ops l g) [kh:KHeap kd S h H] [ex:OpV l x (.slice p n c)] [ey:OpV l y (.slice none 0 0)] [SliceT P t e k]
  [pt:PutV l d (.bool true) l'] [pf:PutV l d (.bool false) l''] (yes:p=none→RegK m S ops r l' h C) (no:p≠none→RegK m S ops r l'' h C):RegK m S ops ((i,kd)::r) l h C:=by
 cases p with
 |none=>have pq:=pt;rw [show true=(none:Option Addr).isNone from rfl] at pq;exact jmx (l':=l') ho hw (yes rfl)
 |some a=>have pq:=pf;rw [show false=(some a).isNone from rfl] at pq;exact jmx (l':=l'') ho hw (no (by simp))
end
theorem own_none {B:Array Obj} {h:Hp} {n c:Nat} {xs:List Int} (rd:RdS B h 1 (.slice none n c) n (ints xs)):OwnS 3 1 (.slice none 0 0) n (ints xs) []:=by
 obtain ⟨p,c',e,hl,r⟩:=rd
 injection e with e1 e2 e3
 subst e1
 rcases r with ⟨_,rfl⟩|⟨b,o,e,_⟩
 ·have h0:ints xs=[]:=List.eq_nil_of_length_eq_zero (by omega)
  rw [h0];exact OwnS.nil
 ·cases e
theorem f127_c (m:Md Tryz.prog B) (h:Hp) {p:Option Addr} {n c:Nat} {xs:List Int} (rd:RdS B h 1 (.slice p n c) n (ints xs)) (hn:n≤1000):FnC m 127 #[.slice p n c] h fun v h'=> ∃nw,h'=h++nw∧OwnS 3 1 v n (ints xs) nw:=by
 refine jad Tryz.func127 rfl rfl (l:=(.slice p n c)::uu7) rfl ?_
 intro cf cs K hK
 refine d67 ?_;refine d16 ?_
 refine jfz rfl zq (fun hc=>?_) (fun hc=>?_)
 ·refine d50 ?_
  refine jab (h) rfl Tryz.func127 rfl jaa ?_;refine hK _ _ ?_;exact ⟨[],by simp,by subst hc;exact own_none rd⟩
 ·refine d9 ?_;refine rs4 ?_
  refine jf1 kdq rfl zq (fun q5=>k_hp (jac ?_));refine mq rfl ?_
  refine jhr (F:=h) rfl zq jaa OwnS.zero rd.up (jdT _) kdq (by omega) (by omega) (fun w9 n9 o9=>jac ?_);refine d0 ?_
  refine jab (h++n9) rfl Tryz.func127 rfl jaa ?_;refine hK _ _ ?_;exact ⟨n9,rfl,by simpa using o9⟩
theorem jib (l:List Int):0≤jmc l:=by
 have gen: ∀(r:List Int) (a:Int),a≤r.foldl max a:=by
  intro r
  induction r with
  |nil=>exact fun a=>Int.le_refl _
  |cons x r ih=>exact fun a=>Int.le_trans (by omega:a≤max a x) (ih _)
 exact gen l 0
def cmpL:List Int→List Int→Int
 |[],[]=>0
 |[],_::_=> -1
 |_::_,[]=>1
 |a::r,b::s=>if a<b then-1 else if b<a then 1 else cmpL r s
theorem jeN (xs:List Int) (k:Nat) (h:k<xs.length):xs.drop k=xs.getD k 0::xs.drop (k+1):=by
 rw [List.drop_eq_getElem_cons h,List.getD_eq_getElem?_getD,List.getElem?_eq_getElem h];rfl
theorem jm1 {xs ys:List Int} {k:Nat} (h1:k<xs.length) (h2:k<ys.length):cmpL (xs.drop k) (ys.drop k)=if xs.getD k 0<ys.getD k 0 then-1 else if ys.getD k 0<xs.getD k 0 then 1 else cmpL (xs.drop (k+1)) (ys.drop (k+1)):=by
 rw [jeN xs k h1,jeN ys k h2];rfl
theorem sgn_ne {a b z:Int} (h:(if a<b then (-1:Int) else if b<a then 1 else 0)≠0):(if a<b then (-1:Int) else if b<a then 1 else 0)=if a<b then-1 else if b<a then 1 else z:=by
 split
 ·rfl
 ·rename_i h1
  rw [if_neg h1] at h
  split
  ·rfl
  ·rename_i h2
   rw [if_neg h2] at h
   exact absurd rfl h
theorem sgn_eq {a b z:Int} (h:(if a<b then (-1:Int) else if b<a then 1 else 0)=0):(if a<b then (-1:Int) else if b<a then 1 else z)=z:=by
 split
 ·rename_i h1
  rw [if_pos h1] at h
  cases h
 ·rename_i h1
  rw [if_neg h1] at h
  split
  ·rename_i h2
   rw [if_pos h2] at h
   cases h
  ·rfl
theorem jhB {xs ys:List Int} {k:Nat} (h1:k≤xs.length) (h2:k≤ys.length) (h:xs.length=k∨ys.length=k):cmpL (xs.drop k) (ys.drop k)=if k<xs.length then 1 else if k<ys.length then-1 else 0:=by
 by_cases e:k<xs.length
 ·rw [if_pos e,jeN xs k e,(List.drop_eq_nil_of_le (by omega):ys.drop k=[])];rfl
 ·rw [if_neg e,(List.drop_eq_nil_of_le (by omega):xs.drop k=[])];by_cases e2:k<ys.length
  ·rw [if_pos e2,jeN ys k e2];rfl
  ·rw [if_neg e2,(List.drop_eq_nil_of_le (by omega):ys.drop k=[])];rfl
theorem f152_c (m:Md Tryz.prog B) (h:Hp) (x y:Int):FnC m 152 #[.int .i64 x,.int .i64 y] h fun v h'=>h'=h∧v= .int .i64 (if x<y then-1 else if y<x then 1 else 0):=by
 refine jad Tryz.func152 rfl rfl (l:=(.int .i64 x)::(.int .i64 y)::uu18) rfl ?_
 intro cf cs K hK
 refine d82 ?_;refine d46 ?_
 refine jae (Post:=fun v=>v=_) rfl zq (by kernel_rfl) (fun H' hH=>f183_c m H' _) ?_;rintro v rfl;refine d83 ?_;refine d46 ?_
 refine jae (Post:=fun v=>v=_) rfl zq (by kernel_rfl) (fun H' hH=>f183_c m H' _) ?_;rintro v rfl;refine jac ?_;refine d10 ?_;refine rs1 ?_;refine mq rfl ?_;refine d36 ?_;refine rs1 ?_;refine mq rfl ?_;refine d36 ?_;refine d175 ?_;refine jap rfl zq (fun hc=>?_) (fun hc=>?_)
 ·refine d50 ?_
  refine jab (h) rfl Tryz.func152 rfl jaa ?_;refine hK _ _ ?_;first|exact ⟨rfl,by rw [if_pos (by omega)]⟩|exact ⟨rfl,by rw [if_neg (by omega),if_pos (by omega)]⟩|exact ⟨rfl,by rw [if_neg (by omega),if_neg (by omega)]⟩
 ·refine d36 ?_;refine d175 ?_
  refine jbz rfl zq (fun hc=>?_) (fun hc=>?_)
  ·refine d50 ?_
   refine jab (h) rfl Tryz.func152 rfl jaa ?_;refine hK _ _ ?_;first|exact ⟨rfl,by rw [if_pos (by omega)]⟩|exact ⟨rfl,by rw [if_neg (by omega),if_pos (by omega)]⟩|exact ⟨rfl,by rw [if_neg (by omega),if_neg (by omega)]⟩
  ·refine d9 ?_;refine d26 ?_
   refine jab (h) rfl Tryz.func152 rfl jaa ?_;refine hK _ _ ?_;first|exact ⟨rfl,by rw [if_pos (by omega)]⟩|exact ⟨rfl,by rw [if_neg (by omega),if_pos (by omega)]⟩|exact ⟨rfl,by rw [if_neg (by omega),if_neg (by omega)]⟩
theorem f99_c (m:Md Tryz.prog B) (h:Hp) {p:Option Addr} {n c:Nat} {xs:List Int} (rd:RdS B h 1 (.slice p n c) n (ints xs)) (hn:n≤1000000) {p2:Option Addr} {n2 c2:Nat} {ys:List Int} (rd2:RdS B h 1 (.slice p2 n2 c2) n2 (ints ys)):FnC m 99 #[.slice p n c,.slice p2 n2 c2] h fun v h'=>h'=h∧v= .int .i64 (cmpL xs ys):=by
 have hl:=rd.ilen
 have hl2:=rd2.ilen
 refine jad Tryz.func99 rfl rfl (l:=(.slice p n c)::(.slice p2 n2 c2)::uu34) rfl ?_
 intro cf cs K hK
 refine d67 ?_;refine d46 ?_;refine d130 ?_
 refine jag (fun nn l h'=> ∃(k:Nat),nn=n-k∧(k≤n)∧(k≤n2)∧(cmpL xs ys=cmpL (xs.drop k) (ys.drop k))∧(∃U:Nat→Value,l=((.slice p n c)::(.slice p2 n2 c2)::vw7 U 2 ((.slice p n c)::(.int .i64 (n:Int))::(.int .i64 (k:Int))::vw24 U 12 [])))∧h=h') _ ⟨0,rfl,by omega,by omega,rfl,exU rfl,rfl⟩ ?_;rintro nn l h' ⟨k,rfl,hk,hk2,he,⟨U,rfl⟩,rfl⟩ hnext;refine rs1 ?_;refine jap rfl zq (fun hc=>?_) (fun hc=>?_)
 ·refine d106 ?_;refine d116 ?_
  obtain ⟨rd_b,rd_o,rfl⟩:=rd.ptr (by omega)
  refine jaJ rfl zq (by first|rfl|assumption) (by omega) (by omega) ?_;refine k_ld rfl zq (rd.iat k (by omega) (by omega)) ?_;refine d99 ?_;refine d91 ?_
  refine jaY rfl zq (fun hc=>?_) (fun hc=>?_)
  ·refine d50 ?_
   refine jab (h) rfl Tryz.func99 rfl jaa ?_;refine hK _ _ ?_;exact ⟨rfl,by rw [he,jhB (by omega) (by omega) (by omega),if_pos (by omega)]⟩
  ·refine d9 ?_;refine rs5 ?_;refine d3 ?_
   obtain ⟨rd2_b,rd2_o,rfl⟩:=rd2.ptr (by omega)
   refine jaJ rfl zq (by first|rfl|assumption) (by omega) (by omega) ?_;refine k_ld rfl zq (rd2.iat k (by omega) (by omega)) ?_;refine aq rfl ?_;refine d69 ?_
   refine jae (Post:=fun v=>v=_) rfl zq (by kernel_rfl) (fun H' hH=>f152_c m H' _ _) ?_;rintro v rfl;refine d83 ?_;refine rs2 ?_
   have hcd:=jm1 (xs:=xs) (ys:=ys) (k:=k) (by omega) (by omega)
   refine mq rfl ?_
   refine jaF rfl zq (fun hc=>?_) (fun hc=>?_)
   ·refine d166 ?_
    refine jab (h) rfl Tryz.func99 rfl jaa ?_;refine hK _ _ ?_;exact ⟨rfl,by rw [he,hcd];exact congrArg _ (sgn_ne hc)⟩
   ·have hcz:=hc
    refine d177 ?_
    exact m.weak jaa (hnext _ _ _ (by omega) ⟨k+1,rfl,by omega,by omega,by rw [he,hcd,sgn_eq hcz],exU rfl,rfl⟩)
 ·refine d107 ?_;refine d158 ?_;refine d72 ?_;refine jcO rfl zq ?_
  refine jap rfl zq (fun hc=>?_) (fun hc=>?_)
  ·refine d50 ?_
   refine jab (h) rfl Tryz.func99 rfl jaa ?_;refine hK _ _ ?_;exact ⟨rfl,by rw [he,jhB (by omega) (by omega) (by omega),if_neg (by omega),if_pos (by omega)]⟩
  ·refine d9 ?_;refine d26 ?_
   refine jab (h) rfl Tryz.func99 rfl jaa ?_;refine hK _ _ ?_;exact ⟨rfl,by rw [he,jhB (by omega) (by omega) (by omega),if_neg (by omega),if_neg (by omega)]⟩
theorem jgP (l:List Int):(∀x∈l,x≤jmc l)∧(jmc l=0∨jmc l∈l):=by
 have gen: ∀(r:List Int) (a:Int),(a≤r.foldl max a)∧(∀x∈r,x≤r.foldl max a)∧(r.foldl max a=a∨r.foldl max a∈r):=by
  intro r
  induction r with
  |nil=>exact fun a=>⟨Int.le_refl _,by simp,.inl rfl⟩
  |cons y r ih=>
   intro a
   obtain ⟨h1,h2,h3⟩:=ih (max a y)
   rw [List.foldl_cons];refine ⟨by omega,fun x hx=>?_,?_⟩
   ·rcases List.mem_cons.1 hx with rfl|hx
    ·omega
    ·exact h2 x hx
   ·rcases h3 with h3|h3
    ·rcases (by omega:max a y=a∨max a y=y) with e|e
     ·exact .inl (h3.trans e)
     ·exact .inr (by rw [h3,e];exact List.mem_cons_self)
    ·exact .inr (List.mem_cons_of_mem _ h3)
 exact ⟨(gen l 0).2.1,(gen l 0).2.2⟩
def bitN (mm k:Nat):Nat:=(mm/2^k)%2
def jaQ (mm k:Nat):List Int:=(jbP k).filter fun i=>decide (bitN mm i.toNat=1)
def w1 (o:Option Nat) (n:Nat):Nat:=match o with|none=>0|some s=>if s=2*n then 2 else 1
section
variable {P:Program} {B:Array Obj} {m:Md P B} {ops:Array Oper} {l l':List Value} {S h h' H:Hp} {C:List Value→Hp→Prop} {i:Nat} {kd:Kd} {r:List (Nat×Kd)}
 {d:Option Tmp} {ty:TypeId} {pos:String} {af:Array Edge} {g:Option (Nat×Bool)}
theorem jho {t u:TypeId} {x y:Operand} {z w:Int} (a k:Nat) (ho:ops[i]?=some ⟨d,.binOp .quo t x y u,ty,pos,af,g⟩) (hw:Wt ops l g) [KHeap kd S h H] [ex:OpV l x (.int .i64 z)] [ey:OpV l y (.int .i64 w)] (hz:z=a) (hk:w=k) (h0:0<k) (ha:a≤10000000) [PutV l d (.int .i64 ((a/k:Nat):Int)) l'] (q:RegK m S ops r l' h C):RegK m S ops ((i,kd)::r) l h C:=
 RegK.rd (v:= .int .i64 ((a/k:Nat):Int)) ho hw (ja5 ex.eq ey.eq (by simp) (by
  subst hz
  subst hk
  have:(k:Int)≠0:=by omega
  have hle:=Nat.div_le_self a k
  have h64:In64 ((a/k:Nat):Int):=by generalize a/k=q at hle⊢;unfold In64;omega
  simp only [binOp,Op.intDiv,if_neg this,←Int.ofNat_tdiv,jdf h64]
  rfl)) q
end
theorem f187_c (m:Md Tryz.prog B) (h:Hp) {bk n c:Nat} {xs:List Int} {junk:List Value} (hl:xs.length=n) (hn:n≤100000) (lo hi f:Nat) (hlo:lo≤100000) (hb:f+hi≤n) (hh:HeapF xs f (lo+1) hi):FnC m 187 #[.slice (some ⟨bk,0,none⟩) n c,.int .i64 (lo:Int),.int .i64 (hi:Int),.int .i64 (f:Int)] (h++[blkC bk xs junk]) fun v h'=>v= .tuple [].toArray∧ ∃ys,h'=h++[blkC bk ys junk]∧Sw (f+lo) (f+hi) xs ys∧HeapF ys f lo hi:=by
 refine jad Tryz.func187 rfl rfl (l:=(.slice (some ⟨bk,0,none⟩) n c)::(.int .i64 (lo:Int))::(.int .i64 (hi:Int))::(.int .i64 (f:Int))::uu72) rfl ?_
 intro cf cs K hK
 refine d16 ?_;refine d39 ?_
 refine jag (fun nn l h'=> ∃(root:Nat) (ys:List Int),nn=100000+hi-root∧(lo≤root)∧(root≤100000)∧(Sw (f+lo) (f+hi) xs ys)∧(HeapR ys f lo hi root)∧(∃U:Nat→Value,l=((.slice (some ⟨bk,0,none⟩) n c)::(.int .i64 (lo:Int))::(.int .i64 (hi:Int))::(.int .i64 (f:Int))::vw4 U 4 ((.int .i64 (root:Int))::vw67 U 9 [])))∧h++[blkC bk ys junk]=h') _ ⟨lo,xs,rfl,by omega,by omega,.refl _,HeapR.start hh,exU rfl,rfl⟩ ?_;rintro nn l h' ⟨root,ys,rfl,hr1,hr2,hsw,hre,⟨U,rfl⟩,rfl⟩ hnext;have hyl:=hsw.length
 refine jaS ?_;refine d115 ?_;refine d66 ?_;refine d10 ?_;refine d175 ?_;refine jaY rfl zq (fun hc=>?_) (fun hc=>?_)
 ·refine d7 ?_;refine jbU rfl ?_;refine jdh rfl ?_
  refine jab (h++[blkC bk ys junk]) rfl Tryz.func187 rfl jaa ?_;refine hK _ _ ?_;first
   |exact ⟨rfl,ys,rfl,hsw,hre.stop fun c h1 h2=>by omega⟩
   |exact ⟨rfl,ys,rfl,hsw,hre.stop fun c h1 h2=>by have:=hmax c h1 h2;omega⟩
 ·refine d36 ?_;refine jak ?_
  refine jah [(0,.pure),(1,.pure),(2,.pure),(3,.pure),(4,.pure),(5,.pure),(6,.pure),(7,.pure),(8,.pure),(9,.pure),(11,.pure),(12,.pure),(13,.pure),(14,.pure),(15,.pure),(16,.pure),(10,.read),(17,.read),(18,.keep),(19,.pure)] (by kernel_rfl) (by kernel_rfl) (List.Sublist.refl _) ?_;refine d4 ?_;refine mq rfl ?_
  refine jap rfl zq (fun hc=>?_) (fun hc=>?_)
  ·refine d163 ?_;refine k_mv rfl rfl ?_;refine jdz rfl rfl (by unfold In64;omega) ?_;refine jaJ rfl rfl (by first|rfl|assumption) (by omega) (by omega) ?_;refine k_mv rfl rfl ?_;refine k_mv rfl rfl ?_;refine k_mv rfl rfl ?_;refine jdz rfl rfl (by unfold In64;omega) ?_;refine jdz rfl rfl (by unfold In64;omega) ?_;refine jaJ rfl rfl (by first|rfl|assumption) (by omega) (by omega) ?_
   refine k_ld rfl rfl (jan (f+(2*root+1)) (by omega) (by omega)) ?_;refine k_ld rfl rfl (jan (f+(2*root+2)) (by omega) (by omega)) ?_;refine jae (Post:=fun v=>IsB _ v) rfl rfl (by kernel_rfl) (fun H' hH=>f166_c m H' _ _) ?_;rintro v (⟨hc,rfl⟩|⟨hc,rfl⟩)
   ·refine d94 ?_;refine d7 ?_;refine rr3 ?_;refine d4 ?_
    obtain ⟨ch,hce,hch,hmax⟩: ∃ch:Nat,2*(root:Int)+1+1=(ch:Int)∧(ch=2*root+1∨ch=2*root+2)∧ ∀c,(c=2*root+1∨c=2*root+2)→c<hi→ys.getD (f+c) 0≤ys.getD (f+ch) 0:=⟨2*root+2,by omega,.inr rfl,fun c h1 h2=>by
     rcases h1 with h1|h1<;>rw [h1]<;>omega⟩
    rw [hce];refine d10 ?_;refine jak ?_
    refine jah [(0,.pure),(1,.pure),(2,.pure),(3,.pure),(4,.pure),(6,.pure),(7,.pure),(8,.pure),(9,.pure),(10,.pure),(5,.read),(11,.read),(12,.keep),(13,.pure)] (by kernel_rfl) (by kernel_rfl) (List.Sublist.refl _) ?_;refine d153 ?_;refine d153 ?_
    refine k_ld rfl zq (jan (f+root) (by omega) (by omega)) ?_;refine k_ld rfl zq (jan (f+ch) (by omega) (by omega)) ?_;refine jae (Post:=fun v=>IsB _ v) rfl zq (by kernel_rfl) (fun H' hH=>f166_c m H' _ _) ?_;rintro v (⟨hc,rfl⟩|⟨hc,rfl⟩)
    ·refine d31 ?_;refine d36 ?_
     refine jah [(0,.pure),(1,.pure),(2,.pure),(3,.pure),(4,.pure),(5,.pure),(6,.pure),(7,.pure),(8,.pure),(9,.pure),(10,.pure),(11,.pure),(12,.pure),(14,.pure),(15,.pure),(16,.pure),(17,.pure),(18,.pure),(13,.read),(19,.read),(20,.pure),(21,.free),(22,.pure),(23,.free)] (by kernel_rfl) (by kernel_rfl) (List.Sublist.refl _) ?_;refine d3 ?_;refine d4 ?_;refine d3 ?_;refine d4 ?_;refine d153 ?_;refine d153 ?_
     refine k_ld rfl zq (jan (f+ch) (by omega) (by omega)) ?_;refine k_ld rfl zq (jan (f+root) (by omega) (by omega)) ?_;refine jaJ rfl zq (by first|rfl|assumption) (by omega) (by omega) ?_;haveI hs1:=setSeg_ints (xs:=ys) (junk:=junk) (v:=ys.getD (f+ch) 0) (i:=(f:Int)+(root:Int)) (k:=f+root) (by omega) (by omega)
     refine d28 ?_
     haveI hs2:=setSeg_ints (xs:=ys.set (f+root) (ys.getD (f+ch) 0)) (junk:=junk) (v:=ys.getD (f+root) 0) (i:=(f:Int)+(ch:Int)) (k:=f+ch) (by omega) (by simp;omega)
     refine jcg rfl zq ?_;rw [jbe];refine jaB ?_;refine d149 ?_;refine d35 ?_;exact m.weak jaa (hnext _ _ _ (by omega) ⟨ch,ja8 ys (f+root) (f+ch),rfl,by omega,by omega,.step (f+root) (f+ch) ⟨by omega,by omega⟩ ⟨by omega,by omega⟩ hsw,hre.step hr1 hch (by omega) (by omega) hmax (by assumption),exU rfl,rfl⟩)
    ·refine d33 ?_;refine d7 ?_;refine jb7 rfl ?_
     refine jab (h++[blkC bk ys junk]) rfl Tryz.func187 rfl jaa ?_;refine hK _ _ ?_;first
      |exact ⟨rfl,ys,rfl,hsw,hre.stop fun c h1 h2=>by omega⟩
      |exact ⟨rfl,ys,rfl,hsw,hre.stop fun c h1 h2=>by have:=hmax c h1 h2;omega⟩
   ·refine jac ?_;obtain ⟨ch,hce,hch,hmax⟩: ∃ch:Nat,2*(root:Int)+1=(ch:Int)∧(ch=2*root+1∨ch=2*root+2)∧ ∀c,(c=2*root+1∨c=2*root+2)→c<hi→ys.getD (f+c) 0≤ys.getD (f+ch) 0:=⟨2*root+1,by omega,.inl rfl,fun c h1 h2=>by
     rcases h1 with h1|h1<;>rw [h1]<;>omega⟩
    rw [hce];refine jaz rfl zq ?_;refine d36 ?_;refine jak ?_;refine jah [(0,.pure),(1,.pure),(2,.pure),(3,.pure),(4,.pure),(6,.pure),(7,.pure),(8,.pure),(9,.pure),(10,.pure),(5,.read),(11,.read),(12,.keep),(13,.pure)] (by kernel_rfl) (by kernel_rfl) (List.Sublist.refl _) ?_;refine d153 ?_;refine d153 ?_
    refine k_ld rfl zq (jan (f+root) (by omega) (by omega)) ?_;refine k_ld rfl zq (jan (f+ch) (by omega) (by omega)) ?_;refine jae (Post:=fun v=>IsB _ v) rfl zq (by kernel_rfl) (fun H' hH=>f166_c m H' _ _) ?_;rintro v (⟨hc,rfl⟩|⟨hc,rfl⟩)
    ·refine d31 ?_;refine d36 ?_
     refine jah [(0,.pure),(1,.pure),(2,.pure),(3,.pure),(4,.pure),(5,.pure),(6,.pure),(7,.pure),(8,.pure),(9,.pure),(10,.pure),(11,.pure),(12,.pure),(14,.pure),(15,.pure),(16,.pure),(17,.pure),(18,.pure),(13,.read),(19,.read),(20,.pure),(21,.free),(22,.pure),(23,.free)] (by kernel_rfl) (by kernel_rfl) (List.Sublist.refl _) ?_;refine d3 ?_;refine d4 ?_;refine d3 ?_;refine d4 ?_;refine d153 ?_;refine d153 ?_
     refine k_ld rfl zq (jan (f+ch) (by omega) (by omega)) ?_;refine k_ld rfl zq (jan (f+root) (by omega) (by omega)) ?_;refine jaJ rfl zq (by first|rfl|assumption) (by omega) (by omega) ?_;haveI hs1:=setSeg_ints (xs:=ys) (junk:=junk) (v:=ys.getD (f+ch) 0) (i:=(f:Int)+(root:Int)) (k:=f+root) (by omega) (by omega)
     refine d28 ?_
     haveI hs2:=setSeg_ints (xs:=ys.set (f+root) (ys.getD (f+ch) 0)) (junk:=junk) (v:=ys.getD (f+root) 0) (i:=(f:Int)+(ch:Int)) (k:=f+ch) (by omega) (by simp;omega)
     refine jcg rfl zq ?_;rw [jbe];refine jaB ?_;refine d149 ?_;refine d35 ?_;exact m.weak jaa (hnext _ _ _ (by omega) ⟨ch,ja8 ys (f+root) (f+ch),rfl,by omega,by omega,.step (f+root) (f+ch) ⟨by omega,by omega⟩ ⟨by omega,by omega⟩ hsw,hre.step hr1 hch (by omega) (by omega) hmax (by assumption),exU rfl,rfl⟩)
    ·refine d33 ?_;refine d7 ?_;refine jb7 rfl ?_
     refine jab (h++[blkC bk ys junk]) rfl Tryz.func187 rfl jaa ?_;refine hK _ _ ?_;first
      |exact ⟨rfl,ys,rfl,hsw,hre.stop fun c h1 h2=>by omega⟩
      |exact ⟨rfl,ys,rfl,hsw,hre.stop fun c h1 h2=>by have:=hmax c h1 h2;omega⟩
  ·obtain ⟨ch,hce,hch,hmax⟩: ∃ch:Nat,2*(root:Int)+1=(ch:Int)∧(ch=2*root+1∨ch=2*root+2)∧ ∀c,(c=2*root+1∨c=2*root+2)→c<hi→ys.getD (f+c) 0≤ys.getD (f+ch) 0:=⟨2*root+1,by omega,.inl rfl,fun c h1 h2=>by
    rw [show c=2*root+1 by omega];omega⟩
   rw [hce];refine d168 ?_;refine d2 ?_;refine d2 ?_;refine jau rfl zq ?_;refine d36 ?_;refine jak ?_
   refine jah [(0,.pure),(1,.pure),(2,.pure),(3,.pure),(4,.pure),(6,.pure),(7,.pure),(8,.pure),(9,.pure),(10,.pure),(5,.read),(11,.read),(12,.keep),(13,.pure)] (by kernel_rfl) (by kernel_rfl) (List.Sublist.refl _) ?_;refine d153 ?_;refine d153 ?_
   refine k_ld rfl zq (jan (f+root) (by omega) (by omega)) ?_;refine k_ld rfl zq (jan (f+ch) (by omega) (by omega)) ?_;refine jae (Post:=fun v=>IsB _ v) rfl zq (by kernel_rfl) (fun H' hH=>f166_c m H' _ _) ?_;rintro v (⟨hc,rfl⟩|⟨hc,rfl⟩)
   ·refine d31 ?_;refine d36 ?_
    refine jah [(0,.pure),(1,.pure),(2,.pure),(3,.pure),(4,.pure),(5,.pure),(6,.pure),(7,.pure),(8,.pure),(9,.pure),(10,.pure),(11,.pure),(12,.pure),(14,.pure),(15,.pure),(16,.pure),(17,.pure),(18,.pure),(13,.read),(19,.read),(20,.pure),(21,.free),(22,.pure),(23,.free)] (by kernel_rfl) (by kernel_rfl) (List.Sublist.refl _) ?_;refine d3 ?_;refine d4 ?_;refine d3 ?_;refine d4 ?_;refine d153 ?_;refine d153 ?_
    refine k_ld rfl zq (jan (f+ch) (by omega) (by omega)) ?_;refine k_ld rfl zq (jan (f+root) (by omega) (by omega)) ?_;refine jaJ rfl zq (by first|rfl|assumption) (by omega) (by omega) ?_;haveI hs1:=setSeg_ints (xs:=ys) (junk:=junk) (v:=ys.getD (f+ch) 0) (i:=(f:Int)+(root:Int)) (k:=f+root) (by omega) (by omega)
    refine d28 ?_
    haveI hs2:=setSeg_ints (xs:=ys.set (f+root) (ys.getD (f+ch) 0)) (junk:=junk) (v:=ys.getD (f+root) 0) (i:=(f:Int)+(ch:Int)) (k:=f+ch) (by omega) (by simp;omega)
    refine jcg rfl zq ?_;rw [jbe];refine jaB ?_;refine d149 ?_;refine d35 ?_;exact m.weak jaa (hnext _ _ _ (by omega) ⟨ch,ja8 ys (f+root) (f+ch),rfl,by omega,by omega,.step (f+root) (f+ch) ⟨by omega,by omega⟩ ⟨by omega,by omega⟩ hsw,hre.step hr1 hch (by omega) (by omega) hmax (by assumption),exU rfl,rfl⟩)
   ·refine d33 ?_;refine d7 ?_;refine jb7 rfl ?_
    refine jab (h++[blkC bk ys junk]) rfl Tryz.func187 rfl jaa ?_;refine hK _ _ ?_;first
     |exact ⟨rfl,ys,rfl,hsw,hre.stop fun c h1 h2=>by omega⟩
     |exact ⟨rfl,ys,rfl,hsw,hre.stop fun c h1 h2=>by have:=hmax c h1 h2;omega⟩
theorem f161_c (m:Md Tryz.prog B) (h:Hp) {bk n c:Nat} {xs:List Int} {junk:List Value} (hl:xs.length=n) (hn:n≤100000) (a b:Nat) (hab:a<b) (hb:b≤n):FnC m 161 #[.slice (some ⟨bk,0,none⟩) n c,.int .i64 (a:Int),.int .i64 (b:Int)] (h++[blkC bk xs junk]) fun v h'=>v= .tuple [].toArray∧ ∃ys,h'=h++[blkC bk ys junk]∧Sw a b xs ys∧SortR ys a b:=by
 refine jad Tryz.func161 rfl rfl (l:=(.slice (some ⟨bk,0,none⟩) n c)::(.int .i64 (a:Int))::(.int .i64 (b:Int))::uu53) rfl ?_
 intro cf cs K hK
 refine d16 ?_;refine aq rfl ?_;refine d82 ?_;refine rs4 ?_;refine d29 ?_
 obtain ⟨w,hwe⟩: ∃w:Nat,(b:Int)-(a:Int)=(w:Int):=⟨b-a,by omega⟩
 have hwn:w=b-a:=by omega
 rw [hwe];refine d10 ?_;refine rs4 ?_;refine d44 ?_
 refine jho (w-1) 2 rfl zq (by omega) rfl (by omega) (by omega) ?_;refine d39 ?_
 refine jag (fun nn l h'=> ∃(j:Nat) (z:Int) (ys:List Int),nn=j+1∧(z=(j:Int)-1)∧(j≤100000)∧(Sw a b xs ys)∧(HeapF ys a j w)∧(∃U:Nat→Value,l=((.slice (some ⟨bk,0,none⟩) n c)::(.int .i64 (a:Int))::(.int .i64 (b:Int))::(U 3)::(U 4)::(U 5)::(.int .i64 (a:Int))::(.int .i64 0)::(.int .i64 (w:Int))::(.int .i64 z)::vw46 U 10 []))∧h++[blkC bk ys junk]=h') _ ⟨(w-1)/2+1,_,xs,rfl,by omega,by omega,.refl _,HeapF.empty (by omega),exU rfl,rfl⟩ ?_;rintro nn l h' ⟨j,z,ys,rfl,hz,hj,hsw,hhf,⟨U,rfl⟩,rfl⟩ hnext1;have hyl:=hsw.length
 refine jak ?_;refine d16 ?_;refine jaY rfl zq (fun hc=>?_) (fun hc=>?_)
 ·refine d75 ?_
  obtain ⟨i,rfl⟩: ∃i:Nat,z=(i:Int):=⟨z.toNat,by omega⟩
  obtain rfl:j=i+1:=by omega
  refine rr5 ?_;refine d128 ?_;refine jaZ rfl zq (by kernel_rfl) (f187_c m h (by omega) hn i w a (by omega) (by omega) hhf) ?_;rintro v h' ⟨rfl,zs,rfl,hzw,hzf⟩;refine d144 ?_;refine jay ?_;refine d161 ?_;refine aq rfl ?_
  exact m.weak jaa (hnext1 _ _ _ (by omega) ⟨i,_,zs,rfl,by omega,by omega,hsw.trans (hzw.mono (by omega) (by omega)),hzf,exU rfl,rfl⟩)
 ·refine d41 ?_;refine rs3 ?_
  obtain rfl:j=0:=by omega
  refine d44 ?_;refine d39 ?_
  refine jag (fun nn l h'=> ∃(j:Nat) (z:Int) (us:List Int),nn=j+1∧(z=(j:Int)-1)∧(j≤w)∧(Sw a b xs us)∧(Pop us a b j)∧(∃U:Nat→Value,l=((.slice (some ⟨bk,0,none⟩) n c)::(.int .i64 (a:Int))::(.int .i64 (b:Int))::(U 3)::(U 4)::(U 5)::(.int .i64 (a:Int))::(.int .i64 0)::(U 8)::(U 9)::(.int .i64 z)::vw45 U 11 []))∧h++[blkC bk us junk]=h') _ ⟨w,_,ys,rfl,by omega,by omega,hsw,by rw [hwn];exact Pop.start (hwn▸hhf) (by omega),exU rfl,rfl⟩ ?_;rintro nn l h' ⟨j,z,us,rfl,hz2,hj2,hsw2,hpop,⟨U,rfl⟩,rfl⟩ hnext2;have hul:=hsw2.length
  refine jak ?_;refine d16 ?_;refine jaY rfl zq (fun hc=>?_) (fun hc=>?_)
  ·refine d97 ?_
   obtain ⟨i,rfl⟩: ∃i:Nat,z=(i:Int):=⟨z.toNat,by omega⟩
   obtain rfl:j=i+1:=by omega
   refine jah [(0,.pure),(1,.pure),(2,.pure),(3,.pure),(4,.pure),(5,.pure),(6,.pure),(7,.pure),(8,.pure),(9,.pure),(10,.pure),(12,.pure),(13,.pure),(14,.pure),(11,.read),(15,.read),(16,.pure),(17,.free),(18,.pure),(19,.free)] (by kernel_rfl) (by kernel_rfl) (List.Sublist.refl _) ?_;refine d128 ?_;refine d4 ?_;refine d153 ?_;refine d11 ?_
   refine k_ld rfl zq (jan (a+i) (by omega) (by omega)) ?_;refine k_ld rfl zq (jan (a) (by omega) (by omega)) ?_;refine jaJ rfl zq (by first|rfl|assumption) (by omega) (by omega) ?_;haveI hs1:=setSeg_ints (xs:=us) (junk:=junk) (v:=us.getD (a+i) 0) (i:=(a:Int)) (k:=a) (by omega) (by omega)
   refine d28 ?_
   haveI hs2:=setSeg_ints (xs:=us.set (a) (us.getD (a+i) 0)) (junk:=junk) (v:=us.getD (a) 0) (i:=(a:Int)+(i:Int)) (k:=a+i) (by omega) (by simp;omega)
   refine jcg rfl zq ?_;rw [jbe];refine jaB ?_;refine rr5 ?_;refine d128 ?_;refine jaZ rfl zq (by kernel_rfl) (f187_c m h (by rw [jcq];omega) hn 0 i a (by omega) (by omega) (hpop.1.cut (by omega))) ?_;rintro v h' ⟨rfl,zs,rfl,hzw,hzf⟩;refine d144 ?_;refine jay ?_;refine d161 ?_;refine aq rfl ?_
   exact m.weak jaa (hnext2 _ _ _ (by omega) ⟨i,_,zs,rfl,by omega,by omega,(Sw.step a (a+i) ⟨by omega,by omega⟩ ⟨by omega,by omega⟩ hsw2).trans (hzw.mono (by omega) (by omega)),hpop.step (by omega) (by omega) hzw hzf,exU rfl,rfl⟩)
  ·refine d41 ?_;refine jdh rfl ?_
   refine jab (h++[blkC bk us junk]) rfl Tryz.func161 rfl jaa ?_;refine hK _ _ ?_;obtain rfl:j=0:=by omega
   exact ⟨rfl,us,rfl,hsw2,hpop.2.1⟩
theorem f164_c (m:Md Tryz.prog B) (h:Hp) {bk n c:Nat} {xs:List Int} {junk:List Value} (hl:xs.length=n) (hn:n≤100000) (a b:Nat) (hab:a<b) (hb:b≤n):FnC m 164 #[.slice (some ⟨bk,0,none⟩) n c,.int .i64 (a:Int),.int .i64 (b:Int)] (h++[blkC bk xs junk]) fun v h'=>v= .tuple [].toArray∧ ∃ys,h'=h++[blkC bk ys junk]∧Sw a b xs ys:=by
 refine jad Tryz.func164 rfl rfl (l:=(.slice (some ⟨bk,0,none⟩) n c)::(.int .i64 (a:Int))::(.int .i64 (b:Int))::uu29) rfl ?_
 intro cf cs K hK
 refine d16 ?_;refine aq rfl ?_;refine rs3 ?_;refine d44 ?_;refine d39 ?_
 refine jag (fun nn l h'=> ∃(i j:Nat) (z:Int) (ys:List Int),nn=j+1∧(z=(j:Int)-1)∧(a≤i)∧(j≤b)∧(Sw a b xs ys)∧(∃U:Nat→Value,l=((.slice (some ⟨bk,0,none⟩) n c)::(.int .i64 (a:Int))::(.int .i64 (b:Int))::(U 3)::(U 4)::(U 5)::(.int .i64 (i:Int))::(.int .i64 z)::vw24 U 8 []))∧h++[blkC bk ys junk]=h') _ ⟨a,b,_,xs,rfl,by omega,by omega,by omega,.refl _,exU rfl,rfl⟩ ?_;rintro nn l h' ⟨i,j,z,ys,rfl,hz,hi1,hj1,hsw,⟨U,rfl⟩,rfl⟩ hnext;have hyl:=hsw.length
 refine jak ?_;refine d175 ?_;refine jap rfl zq (fun hc=>?_) (fun hc=>?_)
 ·refine d7 ?_;refine d124 ?_;refine jak ?_
  obtain ⟨k,rfl⟩: ∃k:Nat,z=(k:Int):=⟨z.toNat,by omega⟩
  refine jah [(0,.pure),(1,.pure),(2,.pure),(3,.pure),(4,.pure),(5,.pure),(6,.pure),(8,.pure),(9,.pure),(10,.pure),(7,.read),(11,.read),(12,.pure),(13,.free),(14,.pure),(15,.free)] (by kernel_rfl) (by kernel_rfl) (List.Sublist.refl _) ?_;refine d128 ?_;refine d11 ?_;refine d11 ?_
  refine k_ld rfl zq (jan (k) (by omega) (by omega)) ?_;refine k_ld rfl zq (jan (i) (by omega) (by omega)) ?_;refine jaJ rfl zq (by first|rfl|assumption) (by omega) (by omega) ?_;haveI hs1:=setSeg_ints (xs:=ys) (junk:=junk) (v:=ys.getD (k) 0) (i:=(i:Int)) (k:=i) (by omega) (by omega)
  refine d28 ?_
  haveI hs2:=setSeg_ints (xs:=ys.set (i) (ys.getD (k) 0)) (junk:=junk) (v:=ys.getD (i) 0) (i:=(k:Int)) (k:=k) (by omega) (by simp;omega)
  refine jcg rfl zq ?_;rw [jbe];refine jaB ?_;refine rs3 ?_;refine d48 ?_;refine d161 ?_;refine d35 ?_;exact m.weak jaa (hnext _ _ _ (by omega) ⟨i+1,j-1,_,ja8 ys i k,rfl,by omega,by omega,by omega,.step i k ⟨by omega,by omega⟩ ⟨by omega,by omega⟩ hsw,exU rfl,rfl⟩)
 ·refine d41 ?_;refine jdh rfl ?_
  refine jab (h++[blkC bk ys junk]) rfl Tryz.func164 rfl jaa ?_;refine hK _ _ ?_;exact ⟨rfl,ys,rfl,hsw⟩
theorem jb8 {P:Program} {B:Array Obj} {m:Md P B} {ops:Array Oper} {S:Hp} (C0:List Value→Hp→Prop) {b:Frame} {ds:List Deferred} {k:List Item} {cs:List Frame} {K:Goroutine→Hp→Prop} {id:Nat} {l:List Value} {h:Hp} (r:List (Nat×Kd)) (hm:(P.follows .mixedOrders||!Region.departs ops)=true)
  (hok:(ordOk ops r&&jfV P ops r)=true) (hS:S.Sublist h) (t:RegK m S ops r l h C0) (n: ∀l' h',C0 l' h'→m.R K (Gr b l' ds k cs) h'):m.R K (Gr b l ds (.code (.region id ops true)::k) cs) h:=
 jah r hm hok hS (RegK.mono (fun l' h' x=>n l' h' x) t)
theorem SortR.snoc {ys:List Int} {a i:Nat} (h:SortR ys a i) (ha:a<i) (hl:ys.getD (i-1) 0≤ys.getD i 0):SortR ys a (i+1):=fun p q h1 h2 h3=>by
 by_cases e:q=i
 ·subst e
  by_cases e2:p=q-1
  ·subst e2
   exact hl
  ·have:=h p (q-1) h1 (by omega) (by omega);omega
 ·exact h p q h1 h2 (by omega)
theorem sw_getD {xs:List Int} {a pv:Nat} (h1:a<xs.length) (h2:pv<xs.length):(ja8 xs a pv).getD a 0=xs.getD pv 0:=by
 rw [ja0 h1 h2];by_cases e:a=pv
 ·rw [if_pos e,e]
 ·rw [if_neg e,if_pos rfl]
theorem f168_c (m:Md Tryz.prog B) (h:Hp) {bk n c:Nat} {xs:List Int} {junk:List Value} (hl:xs.length=n) (hn:n≤100000) (a b pv:Nat) (ha:a≤pv) (hp:pv<b) (hb:b≤n):FnC m 168 #[.slice (some ⟨bk,0,none⟩) n c,.int .i64 (a:Int),.int .i64 (b:Int),.int .i64 (pv:Int)] (h++[blkC bk xs junk]) fun v h'=> ∃(q:Nat) (t:Bool) (ys:List Int),v= .tuple [.int .i64 (q:Int),.bool t].toArray∧h'=h++[blkC bk ys junk]∧Sw a b xs ys∧a≤q∧q<b∧Cut ys a b q:=by
 refine jad Tryz.func168 rfl rfl (l:=(.slice (some ⟨bk,0,none⟩) n c)::(.int .i64 (a:Int))::(.int .i64 (b:Int))::(.int .i64 (pv:Int))::uu164) rfl ?_
 intro cf cs K hK
 refine rs2 ?_;refine d99 ?_;refine jah [(0,.pure),(1,.pure),(2,.pure),(3,.pure),(4,.pure),(5,.pure),(6,.pure),(8,.pure),(9,.pure),(10,.pure),(7,.read),(11,.read),(12,.pure),(13,.free),(14,.pure),(15,.free)] (by kernel_rfl) (by kernel_rfl) (List.Sublist.refl _) ?_;refine d128 ?_;refine d11 ?_;refine d11 ?_
 refine k_ld rfl zq (jan (pv) (by omega) (by omega)) ?_;refine k_ld rfl zq (jan (a) (by omega) (by omega)) ?_;refine jaJ rfl zq (by first|rfl|assumption) (by omega) (by omega) ?_;haveI hs1:=setSeg_ints (xs:=xs) (junk:=junk) (v:=xs.getD (pv) 0) (i:=(a:Int)) (k:=a) (by omega) (by omega)
 refine d28 ?_
 haveI hs2:=setSeg_ints (xs:=xs.set (a) (xs.getD (pv) 0)) (junk:=junk) (v:=xs.getD (a) 0) (i:=(pv:Int)) (k:=pv) (by omega) (by simp;omega)
 refine jcg rfl zq ?_;rw [jbe];refine d25 ?_
 have hsw0:Sw a b xs (ja8 xs a pv):=Sw.one a pv ⟨by omega,by omega⟩ ⟨by omega,by omega⟩
 have hyl:=hsw0.length
 generalize ja8 xs a pv=y0 at hsw0 hyl⊢
 refine rr6 ?_;refine d4 ?_;refine d44 ?_;refine d99 ?_;refine jaS ?_;refine jag (fun nn l h'=> ∃(i:Nat) (z:Int),nn=b-i∧(z=(b:Int)-1)∧(a<i)∧(i≤b)∧(∀k,a<k→k<i→y0.getD k 0<y0.getD a 0)∧(∃U:Nat→Value,l=((.slice (some ⟨bk,0,none⟩) n c)::(.int .i64 (a:Int))::(.int .i64 (b:Int))::(.int .i64 (pv:Int))::vw6 U 4 ((.int .i64 (i:Int))::(.int .i64 z)::jll U 12 [])))∧h++[blkC bk y0 junk]=h') _ ⟨a+1,(b:Int)-1,rfl,by omega,by omega,by omega,fun k h1 h2=>by omega,exU rfl,rfl⟩ ?_;rintro nn l h' ⟨i,z,rfl,hz,hi1,hi2,hp1,⟨U,rfl⟩,rfl⟩ hnext1;refine d140 ?_
 refine jb8 (fun l' h'=> ∃t:Bool,(∃U:Nat→Value,l'=((.slice (some ⟨bk,0,none⟩) n c)::(.int .i64 (a:Int))::(.int .i64 (b:Int))::(.int .i64 (pv:Int))::vw6 U 4 ((.int .i64 (i:Int))::(.int .i64 z)::vw31 U 12 ((.bool t)::jkm U 44 []))))∧h'=h++[blkC bk y0 junk]∧(t=true↔i<b∧y0.getD i 0<y0.getD a 0)) [(0,.pure),(1,.pure),(2,.pure),(3,.pure),(4,.pure),(5,.pure),(6,.pure),(8,.pure),(9,.pure),(10,.pure),(7,.read),(11,.read),(12,.keep),(13,.pure)] (by kernel_rfl) (by kernel_rfl) (List.Sublist.refl _) ?_ ?_
 ·refine d3 ?_
  refine ja1 rfl zq (fun hc=>?_) (fun hc=>?_)
  ·refine d22 ?_;refine d27 ?_;refine d164 ?_
   refine k_ld rfl rfl (jan (i) (by omega) (by omega)) ?_;refine k_ld rfl rfl (jan (a) (by omega) (by omega)) ?_;refine jae (Post:=fun v=>IsB _ v) rfl rfl (by kernel_rfl) (fun H' hH=>f166_c m H' _ _) ?_;rintro v (⟨hc,rfl⟩|⟨hc,rfl⟩)
   ·refine d94 ?_;refine jaB ?_
    first|exact ⟨true,exU rfl,rfl,⟨fun _=>by omega,fun _=>rfl⟩⟩|exact ⟨false,exU rfl,rfl,⟨fun e=>(by cases e),fun e=>(by omega)⟩⟩
   ·refine d94 ?_;refine jaB ?_
    first|exact ⟨true,exU rfl,rfl,⟨fun _=>by omega,fun _=>rfl⟩⟩|exact ⟨false,exU rfl,rfl,⟨fun e=>(by cases e),fun e=>(by omega)⟩⟩
  ·refine d138 ?_;refine d52 ?_;refine jaB ?_
   first|exact ⟨true,exU rfl,rfl,⟨fun _=>by omega,fun _=>rfl⟩⟩|exact ⟨false,exU rfl,rfl,⟨fun e=>(by cases e),fun e=>(by omega)⟩⟩
 ·rintro l' h' ⟨t,⟨U,rfl⟩,rfl,ht⟩;cases t
  ·have hcf: ¬(i<b∧y0.getD i 0<y0.getD a 0):=fun e=>absurd (ht.2 e) (by decide)
   refine d53 ?_;refine d20 ?_
   have hs1:=hcf
   refine jag (fun nn l h'=> ∃(j:Nat) (z:Int),nn=j+1∧(z=(j:Int)-1)∧(i≤j)∧(j≤b)∧(∀k,j≤k→k<b→y0.getD a 0≤y0.getD k 0)∧(∃U:Nat→Value,l=((.slice (some ⟨bk,0,none⟩) n c)::(.int .i64 (a:Int))::(.int .i64 (b:Int))::(.int .i64 (pv:Int))::vw6 U 4 ((.int .i64 (i:Int))::(.int .i64 z)::jll U 12 [])))∧h++[blkC bk y0 junk]=h') _ ⟨b,z,rfl,by omega,by omega,by omega,fun k h1 h2=>by omega,exU rfl,rfl⟩ ?_;rintro nn l h' ⟨j,z,rfl,hz2,hj1,hj2,hp2,⟨U,rfl⟩,rfl⟩ hnext2;refine d140 ?_
   refine jb8 (fun l' h'=> ∃t:Bool,(∃U:Nat→Value,l'=((.slice (some ⟨bk,0,none⟩) n c)::(.int .i64 (a:Int))::(.int .i64 (b:Int))::(.int .i64 (pv:Int))::vw6 U 4 ((.int .i64 (i:Int))::(.int .i64 z)::vw48 U 12 ((.bool t)::vw107 U 61 []))))∧h'=h++[blkC bk y0 junk]∧(t=true↔i<j∧ ¬y0.getD (j-1) 0<y0.getD a 0)) [(0,.pure),(1,.pure),(2,.pure),(3,.pure),(4,.pure),(5,.pure),(6,.pure),(8,.pure),(9,.pure),(10,.pure),(7,.read),(11,.read),(12,.keep),(13,.pure),(14,.pure)] (by kernel_rfl) (by kernel_rfl) (List.Sublist.refl _) ?_ ?_
   ·refine d3 ?_
    refine ja1 rfl zq (fun hc=>?_) (fun hc=>?_)
    ·refine d22 ?_;refine d27 ?_;refine d164 ?_
     refine k_ld rfl rfl (jan (j-1) (by omega) (by omega)) ?_;refine k_ld rfl rfl (jan (a) (by omega) (by omega)) ?_;refine jae (Post:=fun v=>IsB _ v) rfl rfl (by kernel_rfl) (fun H' hH=>f166_c m H' _ _) ?_;rintro v (⟨hc,rfl⟩|⟨hc,rfl⟩)
     ·refine jac ?_;refine d143 ?_;refine jaB ?_;first|exact ⟨true,exU rfl,rfl,⟨fun _=>by omega,fun _=>rfl⟩⟩|exact ⟨false,exU rfl,rfl,⟨fun e=>(by cases e),fun e=>(by omega)⟩⟩
     ·refine d93 ?_;refine jaz rfl zq ?_;refine jaB ?_
      first|exact ⟨true,exU rfl,rfl,⟨fun _=>by omega,fun _=>rfl⟩⟩|exact ⟨false,exU rfl,rfl,⟨fun e=>(by cases e),fun e=>(by omega)⟩⟩
    ·refine d168 ?_;refine jau rfl zq ?_;refine jaB ?_
     first|exact ⟨true,exU rfl,rfl,⟨fun _=>by omega,fun _=>rfl⟩⟩|exact ⟨false,exU rfl,rfl,⟨fun e=>(by cases e),fun e=>(by omega)⟩⟩
   ·rintro l' h' ⟨t,⟨U,rfl⟩,rfl,ht⟩;cases t
    ·have hcf: ¬(i<j∧ ¬y0.getD (j-1) 0<y0.getD a 0):=fun e=>absurd (ht.2 e) (by decide)
     refine d53 ?_;refine d140 ?_
     have hs2:=hcf
     have hpt:Part y0 a b i (j-1):=⟨hp1,fun k h1 h2=>hp2 k (by omega) h2⟩
     refine rr3 ?_;refine d3 ?_;refine jbz rfl zq (fun hc=>?_) (fun hc=>?_)
     ·refine d7 ?_;refine jak ?_
      refine jah [(0,.pure),(1,.pure),(2,.pure),(3,.pure),(4,.pure),(5,.pure),(6,.pure),(8,.pure),(9,.pure),(10,.pure),(7,.read),(11,.read),(12,.pure),(13,.free),(14,.pure),(15,.free)] (by kernel_rfl) (by kernel_rfl) (List.Sublist.refl _) ?_;refine d128 ?_;refine d11 ?_;refine d11 ?_
      refine k_ld rfl zq (jan (a) (by omega) (by omega)) ?_;refine k_ld rfl zq (jan (j-1) (by omega) (by omega)) ?_;refine jaJ rfl zq (by first|rfl|assumption) (by omega) (by omega) ?_;haveI hs1:=setSeg_ints (xs:=y0) (junk:=junk) (v:=y0.getD (a) 0) (i:=z) (k:=j-1) (by omega) (by omega)
      refine d28 ?_
      haveI hs2:=setSeg_ints (xs:=y0.set (j-1) (y0.getD (a) 0)) (junk:=junk) (v:=y0.getD (j-1) 0) (i:=(a:Int)) (k:=a) (by omega) (by simp;omega)
      refine jcg rfl zq ?_;rw [jbe];refine jaB ?_;refine d110 ?_;refine jab (h++[blkC bk (ja8 y0 (j-1) a) junk]) rfl Tryz.func168 rfl jaa ?_;refine hK _ _ ?_;exact ⟨j-1,true,_,by rw [hz2,show (j:Int)-1=((j-1:Nat):Int) by omega],rfl,.step (j-1) a ⟨by omega,by omega⟩ ⟨by omega,by omega⟩ hsw0,by omega,by omega,hpt.cut (by omega) (by omega) (by omega) (by omega)⟩
     ·refine d36 ?_
      have hne:i≠j-1:=fun e=>by rw [e] at hs1;omega
      refine jah [(0,.pure),(1,.pure),(2,.pure),(3,.pure),(4,.pure),(5,.pure),(6,.pure),(8,.pure),(9,.pure),(10,.pure),(7,.read),(11,.read),(12,.pure),(13,.free),(14,.pure),(15,.free)] (by kernel_rfl) (by kernel_rfl) (List.Sublist.refl _) ?_;refine d128 ?_;refine d11 ?_;refine d11 ?_
      refine k_ld rfl zq (jan (j-1) (by omega) (by omega)) ?_;refine k_ld rfl zq (jan (i) (by omega) (by omega)) ?_;refine jaJ rfl zq (by first|rfl|assumption) (by omega) (by omega) ?_;haveI hs1:=setSeg_ints (xs:=y0) (junk:=junk) (v:=y0.getD (j-1) 0) (i:=(i:Int)) (k:=i) (by omega) (by omega)
      refine d28 ?_
      haveI hs2:=setSeg_ints (xs:=y0.set (i) (y0.getD (j-1) 0)) (junk:=junk) (v:=y0.getD (i) 0) (i:=z) (k:=j-1) (by omega) (by simp;omega)
      refine jcg rfl zq ?_;rw [jbe];refine jaB ?_;refine rs3 ?_;refine d48 ?_;refine rs3 ?_;refine d44 ?_;refine d10 ?_;refine jaS ?_;refine jag (fun nn l h'=> ∃(i3 j3:Nat) (z3:Int) (ys:List Int),nn=j3-i3∧(z3=(j3:Int)-1)∧(a<i3)∧(i3≤j3)∧(j3≤b)∧(Sw a b xs ys)∧(Part ys a b i3 (j3-1))∧(∃U:Nat→Value,l=((.slice (some ⟨bk,0,none⟩) n c)::(.int .i64 (a:Int))::(.int .i64 (b:Int))::(.int .i64 (pv:Int))::vw6 U 4 ((.int .i64 (i3:Int))::(.int .i64 z3)::jll U 12 [])))∧h++[blkC bk ys junk]=h') _ ⟨i+1,j-1,z-1,ja8 y0 i (j-1),rfl,by omega,by omega,by omega,by omega,.step i (j-1) ⟨by omega,by omega⟩ ⟨by omega,by omega⟩ hsw0,hpt.swap (by omega) (by omega) (by omega) (by omega) (by omega) (by omega),exU rfl,rfl⟩ ?_;rintro nn l h' ⟨i3,j3,z3,ys,rfl,hz3,hi3,hij3,hjb3,hsw3,hpt3,⟨U,rfl⟩,rfl⟩ hnext3;have hyl3:=hsw3.length
      refine jaS ?_;refine d20 ?_;refine jag (fun nn l h'=> ∃(i4:Nat),nn=j3-i4∧(i3≤i4)∧(i4≤j3)∧(∀k,a<k→k<i4→ys.getD k 0<ys.getD a 0)∧(∃U:Nat→Value,l=((.slice (some ⟨bk,0,none⟩) n c)::(.int .i64 (a:Int))::(.int .i64 (b:Int))::(.int .i64 (pv:Int))::vw6 U 4 ((.int .i64 (i4:Int))::(.int .i64 z3)::jll U 12 [])))∧h++[blkC bk ys junk]=h') _ ⟨i3,rfl,by omega,by omega,hpt3.1,exU rfl,rfl⟩ ?_;rintro nn l h' ⟨i4,rfl,hi4,hij4,hp4,⟨U,rfl⟩,rfl⟩ hnext4;refine d140 ?_
      refine jb8 (fun l' h'=> ∃t:Bool,(∃U:Nat→Value,l'=((.slice (some ⟨bk,0,none⟩) n c)::(.int .i64 (a:Int))::(.int .i64 (b:Int))::(.int .i64 (pv:Int))::vw6 U 4 ((.int .i64 (i4:Int))::(.int .i64 z3)::vw100 U 12 ((.bool t)::vw55 U 113 []))))∧h'=h++[blkC bk ys junk]∧(t=true↔i4<j3∧ys.getD i4 0<ys.getD a 0)) [(0,.pure),(1,.pure),(2,.pure),(3,.pure),(4,.pure),(5,.pure),(6,.pure),(8,.pure),(9,.pure),(10,.pure),(7,.read),(11,.read),(12,.keep),(13,.pure)] (by kernel_rfl) (by kernel_rfl) (List.Sublist.refl _) ?_ ?_
      ·refine d3 ?_
       refine ja1 rfl zq (fun hc=>?_) (fun hc=>?_)
       ·refine d22 ?_;refine d27 ?_;refine d164 ?_
        refine k_ld rfl rfl (jan (i4) (by omega) (by omega)) ?_;refine k_ld rfl rfl (jan (a) (by omega) (by omega)) ?_;refine jae (Post:=fun v=>IsB _ v) rfl rfl (by kernel_rfl) (fun H' hH=>f166_c m H' _ _) ?_;rintro v (⟨hc,rfl⟩|⟨hc,rfl⟩)
        ·refine d94 ?_;refine jaB ?_
         first|exact ⟨true,exU rfl,rfl,⟨fun _=>by omega,fun _=>rfl⟩⟩|exact ⟨false,exU rfl,rfl,⟨fun e=>(by cases e),fun e=>(by omega)⟩⟩
        ·refine d94 ?_;refine jaB ?_
         first|exact ⟨true,exU rfl,rfl,⟨fun _=>by omega,fun _=>rfl⟩⟩|exact ⟨false,exU rfl,rfl,⟨fun e=>(by cases e),fun e=>(by omega)⟩⟩
       ·refine d138 ?_;refine d52 ?_;refine jaB ?_
        first|exact ⟨true,exU rfl,rfl,⟨fun _=>by omega,fun _=>rfl⟩⟩|exact ⟨false,exU rfl,rfl,⟨fun e=>(by cases e),fun e=>(by omega)⟩⟩
      ·rintro l' h' ⟨t,⟨U,rfl⟩,rfl,ht⟩;cases t
       ·have hcf: ¬(i4<j3∧ys.getD i4 0<ys.getD a 0):=fun e=>absurd (ht.2 e) (by decide)
        refine d53 ?_;refine d20 ?_
        have hs4:=hcf
        refine jag (fun nn l h'=> ∃(j5:Nat) (z5:Int),nn=j5+1∧(z5=(j5:Int)-1)∧(i4≤j5)∧(j5≤j3)∧(∀k,j5≤k→k<b→ys.getD a 0≤ys.getD k 0)∧(∃U:Nat→Value,l=((.slice (some ⟨bk,0,none⟩) n c)::(.int .i64 (a:Int))::(.int .i64 (b:Int))::(.int .i64 (pv:Int))::vw6 U 4 ((.int .i64 (i4:Int))::(.int .i64 z5)::jll U 12 [])))∧h++[blkC bk ys junk]=h') _ ⟨j3,z3,rfl,by omega,by omega,by omega,fun k h1 h2=>hpt3.2 k (by omega) h2,exU rfl,rfl⟩ ?_;rintro nn l h' ⟨j5,z5,rfl,hz5,hj5,hjj5,hp5,⟨U,rfl⟩,rfl⟩ hnext5;refine d140 ?_
        refine jb8 (fun l' h'=> ∃t:Bool,(∃U:Nat→Value,l'=((.slice (some ⟨bk,0,none⟩) n c)::(.int .i64 (a:Int))::(.int .i64 (b:Int))::(.int .i64 (pv:Int))::vw6 U 4 ((.int .i64 (i4:Int))::(.int .i64 z5)::vw117 U 12 ((.bool t)::vw38 U 130 []))))∧h'=h++[blkC bk ys junk]∧(t=true↔i4<j5∧ ¬ys.getD (j5-1) 0<ys.getD a 0)) [(0,.pure),(1,.pure),(2,.pure),(3,.pure),(4,.pure),(5,.pure),(6,.pure),(8,.pure),(9,.pure),(10,.pure),(7,.read),(11,.read),(12,.keep),(13,.pure),(14,.pure)] (by kernel_rfl) (by kernel_rfl) (List.Sublist.refl _) ?_ ?_
        ·refine d3 ?_
         refine ja1 rfl zq (fun hc=>?_) (fun hc=>?_)
         ·refine d22 ?_;refine d27 ?_;refine d164 ?_
          refine k_ld rfl rfl (jan (j5-1) (by omega) (by omega)) ?_;refine k_ld rfl rfl (jan (a) (by omega) (by omega)) ?_;refine jae (Post:=fun v=>IsB _ v) rfl rfl (by kernel_rfl) (fun H' hH=>f166_c m H' _ _) ?_;rintro v (⟨hc,rfl⟩|⟨hc,rfl⟩)
          ·refine jac ?_;refine d143 ?_;refine jaB ?_;first|exact ⟨true,exU rfl,rfl,⟨fun _=>by omega,fun _=>rfl⟩⟩|exact ⟨false,exU rfl,rfl,⟨fun e=>(by cases e),fun e=>(by omega)⟩⟩
          ·refine d93 ?_;refine jaz rfl zq ?_;refine jaB ?_
           first|exact ⟨true,exU rfl,rfl,⟨fun _=>by omega,fun _=>rfl⟩⟩|exact ⟨false,exU rfl,rfl,⟨fun e=>(by cases e),fun e=>(by omega)⟩⟩
         ·refine d168 ?_;refine jau rfl zq ?_;refine jaB ?_
          first|exact ⟨true,exU rfl,rfl,⟨fun _=>by omega,fun _=>rfl⟩⟩|exact ⟨false,exU rfl,rfl,⟨fun e=>(by cases e),fun e=>(by omega)⟩⟩
        ·rintro l' h' ⟨t,⟨U,rfl⟩,rfl,ht⟩;cases t
         ·have hcf: ¬(i4<j5∧ ¬ys.getD (j5-1) 0<ys.getD a 0):=fun e=>absurd (ht.2 e) (by decide)
          refine d53 ?_;refine d140 ?_
          have hs5:=hcf
          have hpt5:Part ys a b i4 (j5-1):=⟨hp4,fun k h1 h2=>hp5 k (by omega) h2⟩
          refine rr3 ?_;refine d3 ?_;refine jbz rfl zq (fun hc=>?_) (fun hc=>?_)
          ·refine d7 ?_;refine jbU rfl ?_;refine jak ?_
           refine jah [(0,.pure),(1,.pure),(2,.pure),(3,.pure),(4,.pure),(5,.pure),(6,.pure),(8,.pure),(9,.pure),(10,.pure),(7,.read),(11,.read),(12,.pure),(13,.free),(14,.pure),(15,.free)] (by kernel_rfl) (by kernel_rfl) (List.Sublist.refl _) ?_;refine d128 ?_;refine d11 ?_;refine d11 ?_
           refine k_ld rfl zq (jan (a) (by omega) (by omega)) ?_;refine k_ld rfl zq (jan (j5-1) (by omega) (by omega)) ?_;refine jaJ rfl zq (by first|rfl|assumption) (by omega) (by omega) ?_;haveI hs1:=setSeg_ints (xs:=ys) (junk:=junk) (v:=ys.getD (a) 0) (i:=z5) (k:=j5-1) (by omega) (by omega)
           refine d28 ?_
           haveI hs2:=setSeg_ints (xs:=ys.set (j5-1) (ys.getD (a) 0)) (junk:=junk) (v:=ys.getD (j5-1) 0) (i:=(a:Int)) (k:=a) (by omega) (by simp;omega)
           refine jcg rfl zq ?_;rw [jbe];refine jaB ?_;refine d110 ?_;refine jab (h++[blkC bk (ja8 ys (j5-1) a) junk]) rfl Tryz.func168 rfl jaa ?_;refine hK _ _ ?_;exact ⟨j5-1,false,_,by rw [hz5,show (j5:Int)-1=((j5-1:Nat):Int) by omega],rfl,.step (j5-1) a ⟨by omega,by omega⟩ ⟨by omega,by omega⟩ hsw3,by omega,by omega,hpt5.cut (by omega) (by omega) (by omega) (by omega)⟩
          ·refine d36 ?_
           have hne5:i4≠j5-1:=fun e=>by rw [e] at hs4;omega
           refine jah [(0,.pure),(1,.pure),(2,.pure),(3,.pure),(4,.pure),(5,.pure),(6,.pure),(8,.pure),(9,.pure),(10,.pure),(7,.read),(11,.read),(12,.pure),(13,.free),(14,.pure),(15,.free)] (by kernel_rfl) (by kernel_rfl) (List.Sublist.refl _) ?_;refine d128 ?_;refine d11 ?_;refine d11 ?_
           refine k_ld rfl zq (jan (j5-1) (by omega) (by omega)) ?_;refine k_ld rfl zq (jan (i4) (by omega) (by omega)) ?_;refine jaJ rfl zq (by first|rfl|assumption) (by omega) (by omega) ?_;haveI hs1:=setSeg_ints (xs:=ys) (junk:=junk) (v:=ys.getD (j5-1) 0) (i:=(i4:Int)) (k:=i4) (by omega) (by omega)
           refine d28 ?_
           haveI hs2:=setSeg_ints (xs:=ys.set (i4) (ys.getD (j5-1) 0)) (junk:=junk) (v:=ys.getD (i4) 0) (i:=z5) (k:=j5-1) (by omega) (by simp;omega)
           refine jcg rfl zq ?_;rw [jbe];refine jaB ?_;refine rs3 ?_;refine d48 ?_;refine d161 ?_;refine d35 ?_;exact m.weak jaa (hnext3 _ _ _ (by omega) ⟨i4+1,j5-1,z5-1,ja8 ys i4 (j5-1),rfl,by omega,by omega,by omega,by omega,.step i4 (j5-1) ⟨by omega,by omega⟩ ⟨by omega,by omega⟩ hsw3,hpt5.swap (by omega) (by omega) (by omega) (by omega) (by omega) (by omega),exU rfl,rfl⟩)
         ·have hct:=ht.1 rfl
          refine jcv ?_;refine d124 ?_;refine d161 ?_;refine d35 ?_;exact m.weak jaa (hnext5 _ _ _ (by omega) ⟨j5-1,z5-1,rfl,by omega,by omega,by omega,fun k h1 h2=>by
           by_cases e:k=j5-1
           ·subst e
            omega
           ·exact hp5 k (by omega) h2,exU rfl,rfl⟩)
       ·have hct:=ht.1 rfl
        refine jcv ?_;refine d124 ?_;refine rr3 ?_;refine d4 ?_;refine d35 ?_;exact m.weak jaa (hnext4 _ _ _ (by omega) ⟨i4+1,rfl,by omega,by omega,fun k h1 h2=>by
         by_cases e:k=i4
         ·subst e
          exact hct.2
         ·exact hp4 k h1 (by omega),exU rfl,rfl⟩)
    ·have hct:=ht.1 rfl
     refine jcv ?_;refine d124 ?_;refine d161 ?_;refine d35 ?_;exact m.weak jaa (hnext2 _ _ _ (by omega) ⟨j-1,z-1,rfl,by omega,by omega,by omega,fun k h1 h2=>by
      by_cases e:k=j-1
      ·subst e
       omega
      ·exact hp2 k (by omega) h2,exU rfl,rfl⟩)
  ·have hct:=ht.1 rfl
   refine jcv ?_;refine d124 ?_;refine rr3 ?_;refine d4 ?_;refine d35 ?_;exact m.weak jaa (hnext1 _ _ _ (by omega) ⟨i+1,z,rfl,by omega,by omega,by omega,fun k h1 h2=>by
    by_cases e:k=i
    ·subst e
     exact hct.2
    ·exact hp1 k h1 (by omega),exU rfl,rfl⟩)
theorem f167_c (m:Md Tryz.prog B) (h:Hp) {bk n c:Nat} {xs:List Int} {junk:List Value} (hl:xs.length=n) (hn:n≤100000) (a b pv:Nat) (ha:a≤pv) (hp:pv<b) (hb:b≤n) (hmin: ∀k,a≤k→k<b→xs.getD pv 0≤xs.getD k 0):FnC m 167 #[.slice (some ⟨bk,0,none⟩) n c,.int .i64 (a:Int),.int .i64 (b:Int),.int .i64 (pv:Int)] (h++[blkC bk xs junk]) fun v h'=> ∃(q:Nat) (ys:List Int),v= .int .i64 (q:Int)∧h'=h++[blkC bk ys junk]∧Sw a b xs ys∧a<q∧q≤b∧SortR ys a q∧ ∀p k,a≤p→p<q→q≤k→k<b→ys.getD p 0≤ys.getD k 0:=by
 refine jad Tryz.func167 rfl rfl (l:=(.slice (some ⟨bk,0,none⟩) n c)::(.int .i64 (a:Int))::(.int .i64 (b:Int))::(.int .i64 (pv:Int))::uu80) rfl ?_
 intro cf cs K hK
 refine d67 ?_
 refine jah [(0,.pure),(1,.pure),(2,.pure),(3,.pure),(4,.pure),(5,.pure),(6,.pure),(8,.pure),(9,.pure),(10,.pure),(7,.read),(11,.read),(12,.pure),(13,.free),(14,.pure),(15,.free)] (by kernel_rfl) (by kernel_rfl) (List.Sublist.refl _) ?_;refine d128 ?_;refine d11 ?_;refine d11 ?_
 refine k_ld rfl zq (jan (pv) (by omega) (by omega)) ?_;refine k_ld rfl zq (jan (a) (by omega) (by omega)) ?_;refine jaJ rfl zq (by first|rfl|assumption) (by omega) (by omega) ?_;haveI hs1:=setSeg_ints (xs:=xs) (junk:=junk) (v:=xs.getD (pv) 0) (i:=(a:Int)) (k:=a) (by omega) (by omega)
 refine d28 ?_
 haveI hs2:=setSeg_ints (xs:=xs.set (a) (xs.getD (pv) 0)) (junk:=junk) (v:=xs.getD (a) 0) (i:=(pv:Int)) (k:=pv) (by omega) (by simp;omega)
 refine jcg rfl zq ?_;rw [jbe];refine d25 ?_
 have hsw0:Sw a b xs (ja8 xs a pv):=Sw.one a pv ⟨by omega,by omega⟩ ⟨by omega,by omega⟩
 have hyl:=hsw0.length
 have hpa:=sw_getD (xs:=xs) (a:=a) (pv:=pv) (by omega) (by omega)
 generalize ja8 xs a pv=y0 at hsw0 hyl hpa⊢
 refine rr6 ?_;refine d4 ?_;refine d44 ?_;refine d99 ?_;refine jaS ?_;refine jag (fun nn l h'=> ∃(i3 j3:Nat) (z3:Int) (ys:List Int),nn=j3-i3∧(z3=(j3:Int)-1)∧(a<i3)∧(i3≤j3)∧(j3≤b)∧(Sw a b xs ys)∧(Pare ys a b i3 (j3-1))∧(ys.getD a 0=xs.getD pv 0)∧(∃U:Nat→Value,l=((.slice (some ⟨bk,0,none⟩) n c)::(.int .i64 (a:Int))::(.int .i64 (b:Int))::(.int .i64 (pv:Int))::vw5 U 4 ((.int .i64 (i3:Int))::(.int .i64 z3)::vw73 U 11 [])))∧h++[blkC bk ys junk]=h') _ ⟨a+1,b,(b:Int)-1,y0,rfl,by omega,by omega,by omega,by omega,hsw0,Pare.start _ a b,hpa,exU rfl,rfl⟩ ?_;rintro nn l h' ⟨i3,j3,z3,ys,rfl,hz3,hi3,hij3,hjb3,hsw3,hpt3,hpa3,⟨U,rfl⟩,rfl⟩ hnext3;have hyl3:=hsw3.length
 refine jaS ?_;refine d20 ?_;refine jag (fun nn l h'=> ∃(i4:Nat),nn=j3-i4∧(i3≤i4)∧(i4≤j3)∧(∀k,a≤k→k<i4→ys.getD k 0≤ys.getD a 0)∧(∃U:Nat→Value,l=((.slice (some ⟨bk,0,none⟩) n c)::(.int .i64 (a:Int))::(.int .i64 (b:Int))::(.int .i64 (pv:Int))::vw5 U 4 ((.int .i64 (i4:Int))::(.int .i64 z3)::vw73 U 11 [])))∧h++[blkC bk ys junk]=h') _ ⟨i3,rfl,by omega,by omega,hpt3.1,exU rfl,rfl⟩ ?_;rintro nn l h' ⟨i4,rfl,hi4,hij4,hp4,⟨U,rfl⟩,rfl⟩ hnext4;refine d140 ?_
 refine jb8 (fun l' h'=> ∃t:Bool,(∃U:Nat→Value,l'=((.slice (some ⟨bk,0,none⟩) n c)::(.int .i64 (a:Int))::(.int .i64 (b:Int))::(.int .i64 (pv:Int))::vw5 U 4 ((.int .i64 (i4:Int))::(.int .i64 z3)::vw32 U 11 ((.bool t)::vw40 U 44 []))))∧h'=h++[blkC bk ys junk]∧(t=true↔i4<j3∧ ¬ys.getD a 0<ys.getD i4 0)) [(0,.pure),(1,.pure),(2,.pure),(3,.pure),(4,.pure),(5,.pure),(6,.pure),(8,.pure),(9,.pure),(10,.pure),(7,.read),(11,.read),(12,.keep),(13,.pure),(14,.pure)] (by kernel_rfl) (by kernel_rfl) (List.Sublist.refl _) ?_ ?_
 ·refine d3 ?_
  refine ja1 rfl zq (fun hc=>?_) (fun hc=>?_)
  ·refine d22 ?_;refine d27 ?_;refine d164 ?_
   refine k_ld rfl rfl (jan (a) (by omega) (by omega)) ?_;refine k_ld rfl rfl (jan (i4) (by omega) (by omega)) ?_;refine jae (Post:=fun v=>IsB _ v) rfl rfl (by kernel_rfl) (fun H' hH=>f166_c m H' _ _) ?_;rintro v (⟨hc,rfl⟩|⟨hc,rfl⟩)
   ·refine jac ?_;refine d143 ?_;refine jaB ?_;first|exact ⟨true,exU rfl,rfl,⟨fun _=>by omega,fun _=>rfl⟩⟩|exact ⟨false,exU rfl,rfl,⟨fun e=>(by cases e),fun e=>(by omega)⟩⟩
   ·refine d93 ?_;refine jaz rfl zq ?_;refine jaB ?_
    first|exact ⟨true,exU rfl,rfl,⟨fun _=>by omega,fun _=>rfl⟩⟩|exact ⟨false,exU rfl,rfl,⟨fun e=>(by cases e),fun e=>(by omega)⟩⟩
  ·refine d168 ?_;refine jau rfl zq ?_;refine jaB ?_
   first|exact ⟨true,exU rfl,rfl,⟨fun _=>by omega,fun _=>rfl⟩⟩|exact ⟨false,exU rfl,rfl,⟨fun e=>(by cases e),fun e=>(by omega)⟩⟩
 ·rintro l' h' ⟨t,⟨U,rfl⟩,rfl,ht⟩;cases t
  ·have hcf: ¬(i4<j3∧ ¬ys.getD a 0<ys.getD i4 0):=fun e=>absurd (ht.2 e) (by decide)
   refine d53 ?_;refine d20 ?_
   have hs4:=hcf
   refine jag (fun nn l h'=> ∃(j5:Nat) (z5:Int),nn=j5+1∧(z5=(j5:Int)-1)∧(i4≤j5)∧(j5≤j3)∧(∀k,j5≤k→k<b→ys.getD a 0<ys.getD k 0)∧(∃U:Nat→Value,l=((.slice (some ⟨bk,0,none⟩) n c)::(.int .i64 (a:Int))::(.int .i64 (b:Int))::(.int .i64 (pv:Int))::vw5 U 4 ((.int .i64 (i4:Int))::(.int .i64 z5)::vw73 U 11 [])))∧h++[blkC bk ys junk]=h') _ ⟨j3,z3,rfl,by omega,by omega,by omega,fun k h1 h2=>hpt3.2 k (by omega) h2,exU rfl,rfl⟩ ?_;rintro nn l h' ⟨j5,z5,rfl,hz5,hj5,hjj5,hp5,⟨U,rfl⟩,rfl⟩ hnext5;refine d140 ?_
   refine jb8 (fun l' h'=> ∃t:Bool,(∃U:Nat→Value,l'=((.slice (some ⟨bk,0,none⟩) n c)::(.int .i64 (a:Int))::(.int .i64 (b:Int))::(.int .i64 (pv:Int))::vw5 U 4 ((.int .i64 (i4:Int))::(.int .i64 z5)::vw48 U 11 ((.bool t)::vw24 U 60 []))))∧h'=h++[blkC bk ys junk]∧(t=true↔i4<j5∧ys.getD a 0<ys.getD (j5-1) 0)) [(0,.pure),(1,.pure),(2,.pure),(3,.pure),(4,.pure),(5,.pure),(6,.pure),(8,.pure),(9,.pure),(10,.pure),(7,.read),(11,.read),(12,.keep),(13,.pure)] (by kernel_rfl) (by kernel_rfl) (List.Sublist.refl _) ?_ ?_
   ·refine d3 ?_
    refine ja1 rfl zq (fun hc=>?_) (fun hc=>?_)
    ·refine d22 ?_;refine d27 ?_;refine d164 ?_
     refine k_ld rfl rfl (jan (a) (by omega) (by omega)) ?_;refine k_ld rfl rfl (jan (j5-1) (by omega) (by omega)) ?_;refine jae (Post:=fun v=>IsB _ v) rfl rfl (by kernel_rfl) (fun H' hH=>f166_c m H' _ _) ?_;rintro v (⟨hc,rfl⟩|⟨hc,rfl⟩)
     ·refine d94 ?_;refine jaB ?_
      first|exact ⟨true,exU rfl,rfl,⟨fun _=>by omega,fun _=>rfl⟩⟩|exact ⟨false,exU rfl,rfl,⟨fun e=>(by cases e),fun e=>(by omega)⟩⟩
     ·refine d94 ?_;refine jaB ?_
      first|exact ⟨true,exU rfl,rfl,⟨fun _=>by omega,fun _=>rfl⟩⟩|exact ⟨false,exU rfl,rfl,⟨fun e=>(by cases e),fun e=>(by omega)⟩⟩
    ·refine d138 ?_;refine d52 ?_;refine jaB ?_
     first|exact ⟨true,exU rfl,rfl,⟨fun _=>by omega,fun _=>rfl⟩⟩|exact ⟨false,exU rfl,rfl,⟨fun e=>(by cases e),fun e=>(by omega)⟩⟩
   ·rintro l' h' ⟨t,⟨U,rfl⟩,rfl,ht⟩;cases t
    ·have hcf: ¬(i4<j5∧ys.getD a 0<ys.getD (j5-1) 0):=fun e=>absurd (ht.2 e) (by decide)
     refine d53 ?_;refine d140 ?_
     have hs5:=hcf
     have hpt5:Pare ys a b i4 (j5-1):=⟨hp4,fun k h1 h2=>hp5 k (by omega) h2⟩
     refine rr3 ?_;refine d3 ?_;refine jbz rfl zq (fun hc=>?_) (fun hc=>?_)
     ·refine d7 ?_;refine jbU rfl ?_;refine d86 ?_
      refine jab (h++[blkC bk ys junk]) rfl Tryz.func167 rfl jaa ?_;refine hK _ _ ?_;have hall:=hsw3.all (p:=fun v=>xs.getD pv 0≤v) (by omega) hmin
      have hij5:i4=j5:=by omega
      exact ⟨i4,ys,rfl,rfl,hsw3,by omega,by omega,fun p q h1 h2 h3=>by have:=hp4 p h1 (by omega);have:=hall q (by omega) (by omega);omega,fun p k h1 h2 h3 h4=>by have:=hp4 p h1 h2;have:=hp5 k (by omega) h4;omega⟩
     ·refine d36 ?_
      have hne5:i4≠j5-1:=fun e=>by rw [e] at hs4;omega
      refine jah [(0,.pure),(1,.pure),(2,.pure),(3,.pure),(4,.pure),(5,.pure),(6,.pure),(8,.pure),(9,.pure),(10,.pure),(7,.read),(11,.read),(12,.pure),(13,.free),(14,.pure),(15,.free)] (by kernel_rfl) (by kernel_rfl) (List.Sublist.refl _) ?_;refine d128 ?_;refine d11 ?_;refine d11 ?_
      refine k_ld rfl zq (jan (j5-1) (by omega) (by omega)) ?_;refine k_ld rfl zq (jan (i4) (by omega) (by omega)) ?_;refine jaJ rfl zq (by first|rfl|assumption) (by omega) (by omega) ?_;haveI hs1:=setSeg_ints (xs:=ys) (junk:=junk) (v:=ys.getD (j5-1) 0) (i:=(i4:Int)) (k:=i4) (by omega) (by omega)
      refine d28 ?_
      haveI hs2:=setSeg_ints (xs:=ys.set (i4) (ys.getD (j5-1) 0)) (junk:=junk) (v:=ys.getD (i4) 0) (i:=z5) (k:=j5-1) (by omega) (by simp;omega)
      refine jcg rfl zq ?_;rw [jbe];refine jaB ?_;refine rs3 ?_;refine d48 ?_;refine d161 ?_;refine d35 ?_;exact m.weak jaa (hnext3 _ _ _ (by omega) ⟨i4+1,j5-1,z5-1,ja8 ys i4 (j5-1),rfl,by omega,by omega,by omega,by omega,.step i4 (j5-1) ⟨by omega,by omega⟩ ⟨by omega,by omega⟩ hsw3,hpt5.swap (by omega) (by omega) (by omega) (by omega) (by omega) (by omega),by rw [ja0 (by omega) (by omega),if_neg (by omega),if_neg (by omega)];exact hpa3,exU rfl,rfl⟩)
    ·have hct:=ht.1 rfl
     refine jcv ?_;refine d124 ?_;refine d161 ?_;refine d35 ?_;exact m.weak jaa (hnext5 _ _ _ (by omega) ⟨j5-1,z5-1,rfl,by omega,by omega,by omega,fun k h1 h2=>by
      by_cases e:k=j5-1
      ·subst e
       omega
      ·exact hp5 k (by omega) h2,exU rfl,rfl⟩)
  ·have hct:=ht.1 rfl
   refine jcv ?_;refine d124 ?_;refine rr3 ?_;refine d4 ?_;refine d35 ?_;exact m.weak jaa (hnext4 _ _ _ (by omega) ⟨i4+1,rfl,by omega,by omega,fun k h1 h2=>by
    by_cases e:k=i4
    ·subst e
     omega
    ·exact hp4 k h1 (by omega),exU rfl,rfl⟩)
theorem jdN {P:Program} {B:Array Obj} {m:Md P B} (C:List Value→Hp→Prop) {a b2:Code} {b:Frame} {ds:List Deferred} {k:List Item} {cs:List Frame} {K:Goroutine→Hp→Prop} {l:List Value} {h:Hp}
  (t:m.R (fun g' h'=>(∃l',g'=Gr b l' ds (.code b2::k) cs∧C l' h')∨m.R K g' h') (Gr b l ds (.code a:: .code b2::k) cs) h) (n: ∀l' h',C l' h'→m.R K (Gr b l' ds (.code b2::k) cs) h'):m.R K (Gr b l ds (.code (.seq a b2)::k) cs) h:=
 jak (m.bind t fun g' h' x=>by
  rcases x with ⟨l',e,c⟩|x
  ·rw [e];exact n l' h' c
  ·exact x)
theorem SortR.swapOut {ys:List Int} {a c i j:Nat} (h:SortR ys a c) (hi:c≤i) (hj:c≤j) (h1:i<ys.length) (h2:j<ys.length):SortR (ja8 ys i j) a c:=fun p q e1 e2 e3=>by
 rw [ja0 h1 h2,ja0 h1 h2,if_neg (by omega),if_neg (by omega),if_neg (by omega),if_neg (by omega)];exact h p q e1 e2 e3
theorem f165_c (m:Md Tryz.prog B) (h:Hp) {bk n c:Nat} {xs:List Int} {junk:List Value} (hl:xs.length=n) (hn:n≤100000) (a b:Nat) (hab:a<b) (hb:b≤n) (hlow:Low xs a b):FnC m 165 #[.slice (some ⟨bk,0,none⟩) n c,.int .i64 (a:Int),.int .i64 (b:Int)] (h++[blkC bk xs junk]) fun v h'=> ∃(t:Bool) (ys:List Int),v= .bool t∧h'=h++[blkC bk ys junk]∧Sw a b xs ys∧(t=true→SortR ys a b):=by
 refine jad Tryz.func165 rfl rfl (l:=(.slice (some ⟨bk,0,none⟩) n c)::(.int .i64 (a:Int))::(.int .i64 (b:Int))::uu130) rfl ?_
 intro cf cs K hK
 refine d82 ?_;refine rs3 ?_;refine d4 ?_;refine d10 ?_;refine d98 ?_
 refine jag (fun nn l h'=> ∃(cnt i:Nat) (ys:List Int),nn=5-cnt∧(cnt≤5)∧(a<i)∧(i≤b)∧(Sw a b xs ys)∧(SortR ys a i)∧(∃U:Nat→Value,l=((.slice (some ⟨bk,0,none⟩) n c)::(.int .i64 (a:Int))::(.int .i64 (b:Int))::vw4 U 3 ((.int .i64 (i:Int))::(.int .i64 (cnt:Int))::jkm U 9 [])))∧h++[blkC bk ys junk]=h') _ ⟨0,a+1,xs,rfl,by omega,by omega,by omega,.refl _,fun p q h1 h2 h3=>by omega,exU rfl,rfl⟩ ?_;rintro nn l h' ⟨cnt,i,ys,rfl,hcnt,hi1,hi2,hsw,hso,⟨U,rfl⟩,rfl⟩ hnext1;have hyl:=hsw.length
 refine jak ?_;refine d16 ?_;refine jap rfl zq (fun hc=>?_) (fun hc=>?_)
 ·refine d7 ?_;refine jby ?_
  refine jdN (fun l' h'=> ∃(i1:Nat) (vs:List Int),a<i1∧i1≤b∧Sw a b xs vs∧SortR vs a i1∧(∃U:Nat→Value,l'=((.slice (some ⟨bk,0,none⟩) n c)::(.int .i64 (a:Int))::(.int .i64 (b:Int))::vw4 U 3 ((.int .i64 (i1:Int))::(.int .i64 (cnt:Int))::jkm U 9 [])))∧h++[blkC bk vs junk]=h') ?_ ?_
  ·refine jaS ?_;refine d20 ?_;refine jag (fun nn l h'=> ∃(i1:Nat),nn=b-i1∧(a<i1)∧(i1≤b)∧(SortR ys a i1)∧(∃U:Nat→Value,l=((.slice (some ⟨bk,0,none⟩) n c)::(.int .i64 (a:Int))::(.int .i64 (b:Int))::vw4 U 3 ((.int .i64 (i1:Int))::(.int .i64 (cnt:Int))::jkm U 9 [])))∧h++[blkC bk ys junk]=h') _ ⟨i,rfl,by omega,by omega,hso,exU rfl,rfl⟩ ?_;rintro nn l h' ⟨i1,rfl,hi3,hi4,hso2,⟨U,rfl⟩,rfl⟩ hnext2;refine d140 ?_
   refine jb8 (fun l' h'=> ∃t:Bool,(∃U:Nat→Value,l'=((.slice (some ⟨bk,0,none⟩) n c)::(.int .i64 (a:Int))::(.int .i64 (b:Int))::vw4 U 3 ((.int .i64 (i1:Int))::(.int .i64 (cnt:Int))::vw23 U 9 ((.bool t)::vw100 U 33 []))))∧h'=h++[blkC bk ys junk]∧(t=true↔i1<b∧ ¬ys.getD i1 0<ys.getD (i1-1) 0)) [(0,.pure),(1,.pure),(2,.pure),(3,.pure),(4,.pure),(5,.pure),(6,.pure),(8,.pure),(9,.pure),(10,.pure),(11,.pure),(7,.read),(12,.read),(13,.keep),(14,.pure),(15,.pure)] (by kernel_rfl) (by kernel_rfl) (List.Sublist.refl _) ?_ ?_
   ·refine d3 ?_
    refine jap rfl zq (fun hc=>?_) (fun hc=>?_)
    ·refine d22 ?_;refine d27 ?_;refine k_mv rfl rfl ?_;refine d169 ?_
     refine k_ld rfl rfl (jan (i1) (by omega) (by omega)) ?_;refine k_ld rfl rfl (jan (i1-1) (by omega) (by omega)) ?_;refine jae (Post:=fun v=>IsB _ v) rfl rfl (by kernel_rfl) (fun H' hH=>f166_c m H' _ _) ?_;rintro v (⟨hc,rfl⟩|⟨hc,rfl⟩)
     ·refine jac ?_;refine d143 ?_;refine jaB ?_;first|exact ⟨true,exU rfl,rfl,⟨fun _=>by omega,fun _=>rfl⟩⟩|exact ⟨false,exU rfl,rfl,⟨fun e=>(by cases e),fun e=>(by omega)⟩⟩
     ·refine d93 ?_;refine jaz rfl zq ?_;refine jaB ?_
      first|exact ⟨true,exU rfl,rfl,⟨fun _=>by omega,fun _=>rfl⟩⟩|exact ⟨false,exU rfl,rfl,⟨fun e=>(by cases e),fun e=>(by omega)⟩⟩
    ·refine d168 ?_;refine d52 ?_;refine jaB ?_
     first|exact ⟨true,exU rfl,rfl,⟨fun _=>by omega,fun _=>rfl⟩⟩|exact ⟨false,exU rfl,rfl,⟨fun e=>(by cases e),fun e=>(by omega)⟩⟩
   ·rintro l' h' ⟨t,⟨U,rfl⟩,rfl,ht⟩;cases t
    ·have hcf: ¬(i1<b∧ ¬ys.getD i1 0<ys.getD (i1-1) 0):=fun e=>absurd (ht.2 e) (by decide)
     refine d53 ?_;refine jak ?_;refine d175 ?_
     refine jcd rfl zq (fun hc=>?_) (fun hc=>?_)
     ·refine d7 ?_;refine d82 ?_
      refine Md.stop _ (.inr ?_)
      refine jb7 rfl ?_;refine jab (h++[blkC bk ys junk]) rfl Tryz.func165 rfl jaa ?_;refine hK _ _ ?_;first|exact ⟨true,ys,rfl,rfl,hsw,fun _=>by rw [show b=i1 by omega];exact hso2⟩|exact ⟨false,ys,rfl,rfl,hsw,fun e=>by cases e⟩
     ·refine d36 ?_;refine rs4 ?_;refine d29 ?_
      refine jap rfl zq (fun hc=>?_) (fun hc=>?_)
      ·refine d7 ?_;refine d82 ?_
       refine Md.stop _ (.inr ?_)
       refine jb7 rfl ?_;refine jab (h++[blkC bk ys junk]) rfl Tryz.func165 rfl jaa ?_;refine hK _ _ ?_;first|exact ⟨true,ys,rfl,rfl,hsw,fun _=>by rw [show b=i1 by omega];exact hso2⟩|exact ⟨false,ys,rfl,rfl,hsw,fun e=>by cases e⟩
      ·refine d36 ?_
       refine jah [(0,.pure),(1,.pure),(2,.pure),(3,.pure),(4,.pure),(5,.pure),(6,.pure),(7,.pure),(8,.pure),(10,.pure),(11,.pure),(12,.pure),(9,.read),(13,.read),(14,.pure),(15,.free),(16,.pure),(17,.free)] (by kernel_rfl) (by kernel_rfl) (List.Sublist.refl _) ?_;refine d3 ?_;refine d29 ?_;refine d56 ?_;refine d11 ?_
       refine k_ld rfl zq (jan (i1-1) (by omega) (by omega)) ?_;refine k_ld rfl zq (jan (i1) (by omega) (by omega)) ?_;refine jaJ rfl zq (by first|rfl|assumption) (by omega) (by omega) ?_;haveI hs1:=setSeg_ints (xs:=ys) (junk:=junk) (v:=ys.getD (i1-1) 0) (i:=(i1:Int)) (k:=i1) (by omega) (by omega)
       refine d28 ?_
       haveI hs2:=setSeg_ints (xs:=ys.set (i1) (ys.getD (i1-1) 0)) (junk:=junk) (v:=ys.getD (i1) 0) (i:=(i1:Int)-1) (k:=i1-1) (by omega) (by simp;omega)
       refine jcg rfl zq ?_;rw [jbe];refine jaB ?_;refine jdN (fun l' h'=> ∃us:List Int,Sw a b xs us∧SortR us a i1∧(∃U:Nat→Value,l'=((.slice (some ⟨bk,0,none⟩) n c)::(.int .i64 (a:Int))::(.int .i64 (b:Int))::vw4 U 3 ((.int .i64 (i1:Int))::(.int .i64 (cnt:Int))::jkm U 9 [])))∧h++[blkC bk us junk]=h') ?_ ?_
       ·refine jak ?_;have hswy:Sw a b xs (ja8 ys i1 (i1-1)):= .step i1 (i1-1) ⟨by omega,by omega⟩ ⟨by omega,by omega⟩ hsw
        have hsoy:SortR (ja8 ys i1 (i1-1)) a (i1-1):=SortR.swapOut (fun p q h1 h2 h3=>hso2 p q h1 h2 (by omega)) (by omega) (by omega) (by omega) (by omega)
        generalize ja8 ys i1 (i1-1)=y1 at hswy hsoy⊢
        refine rr4 ?_;refine d29 ?_;refine jaY rfl zq (fun hc=>?_) (fun hc=>?_)
        ·refine d7 ?_;refine rs3 ?_;refine d44 ?_;refine d39 ?_
         refine jag (fun nn l h'=> ∃(j:Nat) (z:Int) (zs:List Int),nn=j+1∧(z=(j:Int))∧(a≤j)∧(j≤i1-1)∧(Sw a b xs zs)∧(Ins zs a (i1-1) j)∧(∃U:Nat→Value,l=((.slice (some ⟨bk,0,none⟩) n c)::(.int .i64 (a:Int))::(.int .i64 (b:Int))::vw4 U 3 ((.int .i64 (i1:Int))::(.int .i64 (cnt:Int))::(.int .i64 z)::vw123 U 10 [])))∧h++[blkC bk zs junk]=h') _ ⟨i1-1,(i1:Int)-1,y1,rfl,by omega,by omega,by omega,hswy,Ins.start hsoy,exU rfl,rfl⟩ ?_;rintro nn l h' ⟨j,z,zs,rfl,hz,hj1,hj2,hzw,hin,⟨U,rfl⟩,rfl⟩ hnext3;have hzl:=hzw.length
         refine jak ?_;refine d16 ?_;refine jaY rfl zq (fun hc=>?_) (fun hc=>?_)
         ·refine d97 ?_;refine jak ?_
          refine jb8 (fun l' h'=> ∃t:Bool,(∃U:Nat→Value,l'=((.slice (some ⟨bk,0,none⟩) n c)::(.int .i64 (a:Int))::(.int .i64 (b:Int))::vw4 U 3 ((.int .i64 (i1:Int))::(.int .i64 (cnt:Int))::(.int .i64 z)::vw68 U 10 ((.bool t)::vw54 U 79 []))))∧h'=h++[blkC bk zs junk]∧(t=true↔ ¬zs.getD j 0<zs.getD (j-1) 0)) [(0,.pure),(1,.pure),(2,.pure),(4,.pure),(5,.pure),(6,.pure),(7,.pure),(3,.read),(8,.read),(9,.keep),(10,.pure)] (by kernel_rfl) (by kernel_rfl) (List.Sublist.refl _) ?_ ?_
          ·refine d11 ?_;refine d56 ?_
           refine k_ld rfl zq (jan (j) (by omega) (by omega)) ?_;refine k_ld rfl zq (jan (j-1) (by omega) (by omega)) ?_;refine jae (Post:=fun v=>IsB _ v) rfl zq (by kernel_rfl) (fun H' hH=>f166_c m H' _ _) ?_;rintro v (⟨hc,rfl⟩|⟨hc,rfl⟩)
           ·refine d31 ?_;refine jaB ?_
            first|exact ⟨true,exU rfl,rfl,⟨fun _=>by omega,fun _=>rfl⟩⟩|exact ⟨false,exU rfl,rfl,⟨fun e=>(by cases e),fun e=>(by omega)⟩⟩
           ·refine d33 ?_;refine jaB ?_
            first|exact ⟨true,exU rfl,rfl,⟨fun _=>by omega,fun _=>rfl⟩⟩|exact ⟨false,exU rfl,rfl,⟨fun e=>(by cases e),fun e=>(by omega)⟩⟩
          ·rintro l' h' ⟨t,⟨U,rfl⟩,rfl,ht⟩;cases t
           ·have hcf: ¬(¬zs.getD j 0<zs.getD (j-1) 0):=fun e=>absurd (ht.2 e) (by decide)
            refine jfc ?_;refine jby ?_;have haj:a<j:=by
             rcases Nat.lt_or_ge a j with h0|h0
             ·exact h0
             ·rcases hlow.sw hzw (by omega) with h1|h1
              ·omega
              ·have:=h1 j (by omega) (by omega)
               rw [show a-1=j-1 by omega] at this
               omega
            refine jah [(0,.pure),(1,.pure),(2,.pure),(3,.pure),(4,.pure),(5,.pure),(6,.pure),(7,.pure),(8,.pure),(10,.pure),(11,.pure),(12,.pure),(9,.read),(13,.read),(14,.pure),(15,.free),(16,.pure),(17,.free)] (by kernel_rfl) (by kernel_rfl) (List.Sublist.refl _) ?_;refine d3 ?_;refine d29 ?_;refine d56 ?_;refine d11 ?_
            refine k_ld rfl zq (jan (j-1) (by omega) (by omega)) ?_;refine k_ld rfl zq (jan (j) (by omega) (by omega)) ?_;refine jaJ rfl zq (by first|rfl|assumption) (by omega) (by omega) ?_;haveI hs1:=setSeg_ints (xs:=zs) (junk:=junk) (v:=zs.getD (j-1) 0) (i:=z) (k:=j) (by omega) (by omega)
            refine d28 ?_
            haveI hs2:=setSeg_ints (xs:=zs.set (j) (zs.getD (j-1) 0)) (junk:=junk) (v:=zs.getD (j) 0) (i:=z-1) (k:=j-1) (by omega) (by simp;omega)
            refine jcg rfl zq ?_;rw [jbe];refine jaB ?_;refine jay ?_;refine d161 ?_;refine aq rfl ?_;exact m.weak jaa (hnext3 _ _ _ (by omega) ⟨j-1,z-1,ja8 zs j (j-1),rfl,by omega,by omega,by omega,.step j (j-1) ⟨by omega,by omega⟩ ⟨by omega,by omega⟩ hzw,hin.step haj (by omega) (by omega) (by omega),exU rfl,rfl⟩)
           ·have hct:=ht.1 rfl
            refine jcv ?_;refine jbU rfl ?_;refine Md.stop _ (.inl ⟨_,rfl,?_⟩)
            first
             |exact ⟨zs,hzw,by have:=hin.stop (by omega) (by omega) (by omega);rwa [show i1-1+1=i1 by omega] at this,exU rfl,rfl⟩
             |exact ⟨y1,hswy,fun p q h1 h2 h3=>by omega,exU rfl,rfl⟩
         ·refine d41 ?_
          refine Md.stop _ (.inl ⟨_,rfl,?_⟩)
          first
           |exact ⟨zs,hzw,by have:=hin.stop (by omega) (by omega) (by omega);rwa [show i1-1+1=i1 by omega] at this,exU rfl,rfl⟩
           |exact ⟨y1,hswy,fun p q h1 h2 h3=>by omega,exU rfl,rfl⟩
        ·refine d9 ?_
         refine Md.stop _ (.inl ⟨_,rfl,?_⟩)
         first
          |exact ⟨zs,hzw,by have:=hin.stop (by omega) (by omega) (by omega);rwa [show i1-1+1=i1 by omega] at this,exU rfl,rfl⟩
          |exact ⟨y1,hswy,fun p q h1 h2 h3=>by omega,exU rfl,rfl⟩
       ·rintro l' h' ⟨us,hsw4,hso4,⟨U,rfl⟩,rfl⟩;have hul:=hsw4.length
        refine rs4 ?_;refine d29 ?_;refine jaY rfl zq (fun hc=>?_) (fun hc=>?_)
        ·refine d7 ?_;refine rs3 ?_;refine d4 ?_;refine d39 ?_
         refine jag (fun nn l h'=> ∃(j2:Nat) (vs:List Int),nn=b-j2∧(i1+1≤j2)∧(j2≤b)∧(Sw a b xs vs)∧(SortR vs a i1)∧(∃U:Nat→Value,l=((.slice (some ⟨bk,0,none⟩) n c)::(.int .i64 (a:Int))::(.int .i64 (b:Int))::vw4 U 3 ((.int .i64 (i1:Int))::(.int .i64 (cnt:Int))::(U 9)::(.int .i64 (j2:Int))::vw122 U 11 [])))∧h++[blkC bk vs junk]=h') _ ⟨i1+1,us,rfl,by omega,by omega,hsw4,hso4,exU rfl,rfl⟩ ?_;rintro nn l h' ⟨j2,vs,rfl,hj3,hj4,hvw,hvo,⟨U,rfl⟩,rfl⟩ hnext4;have hvl:=hvw.length
         refine jak ?_;refine d175 ?_;refine jap rfl zq (fun hc=>?_) (fun hc=>?_)
         ·refine d97 ?_;refine jak ?_
          refine jb8 (fun l' h'=> ∃t:Bool,(∃U:Nat→Value,l'=((.slice (some ⟨bk,0,none⟩) n c)::(.int .i64 (a:Int))::(.int .i64 (b:Int))::vw4 U 3 ((.int .i64 (i1:Int))::(.int .i64 (cnt:Int))::(U 9)::(.int .i64 (j2:Int))::vw105 U 11 ((.bool t)::vw16 U 117 []))))∧h'=h++[blkC bk vs junk]∧(t=true↔ ¬vs.getD j2 0<vs.getD (j2-1) 0)) [(0,.pure),(1,.pure),(2,.pure),(4,.pure),(5,.pure),(6,.pure),(7,.pure),(3,.read),(8,.read),(9,.keep),(10,.pure)] (by kernel_rfl) (by kernel_rfl) (List.Sublist.refl _) ?_ ?_
          ·refine d11 ?_;refine d56 ?_
           refine k_ld rfl zq (jan (j2) (by omega) (by omega)) ?_;refine k_ld rfl zq (jan (j2-1) (by omega) (by omega)) ?_;refine jae (Post:=fun v=>IsB _ v) rfl zq (by kernel_rfl) (fun H' hH=>f166_c m H' _ _) ?_;rintro v (⟨hc,rfl⟩|⟨hc,rfl⟩)
           ·refine d31 ?_;refine jaB ?_
            first|exact ⟨true,exU rfl,rfl,⟨fun _=>by omega,fun _=>rfl⟩⟩|exact ⟨false,exU rfl,rfl,⟨fun e=>(by cases e),fun e=>(by omega)⟩⟩
           ·refine d33 ?_;refine jaB ?_
            first|exact ⟨true,exU rfl,rfl,⟨fun _=>by omega,fun _=>rfl⟩⟩|exact ⟨false,exU rfl,rfl,⟨fun e=>(by cases e),fun e=>(by omega)⟩⟩
          ·rintro l' h' ⟨t,⟨U,rfl⟩,rfl,ht⟩;cases t
           ·have hcf: ¬(¬vs.getD j2 0<vs.getD (j2-1) 0):=fun e=>absurd (ht.2 e) (by decide)
            refine jfc ?_;refine jby ?_;refine jah [(0,.pure),(1,.pure),(2,.pure),(3,.pure),(4,.pure),(5,.pure),(6,.pure),(7,.pure),(8,.pure),(10,.pure),(11,.pure),(12,.pure),(9,.read),(13,.read),(14,.pure),(15,.free),(16,.pure),(17,.free)] (by kernel_rfl) (by kernel_rfl) (List.Sublist.refl _) ?_;refine d3 ?_;refine d29 ?_;refine d56 ?_;refine d11 ?_
            refine k_ld rfl zq (jan (j2-1) (by omega) (by omega)) ?_;refine k_ld rfl zq (jan (j2) (by omega) (by omega)) ?_;refine jaJ rfl zq (by first|rfl|assumption) (by omega) (by omega) ?_;haveI hs1:=setSeg_ints (xs:=vs) (junk:=junk) (v:=vs.getD (j2-1) 0) (i:=(j2:Int)) (k:=j2) (by omega) (by omega)
            refine d28 ?_
            haveI hs2:=setSeg_ints (xs:=vs.set (j2) (vs.getD (j2-1) 0)) (junk:=junk) (v:=vs.getD (j2) 0) (i:=(j2:Int)-1) (k:=j2-1) (by omega) (by simp;omega)
            refine jcg rfl zq ?_;rw [jbe];refine jaB ?_;refine d170 ?_;exact m.weak jaa (hnext4 _ _ _ (by omega) ⟨j2+1,ja8 vs j2 (j2-1),rfl,by omega,by omega,.step j2 (j2-1) ⟨by omega,by omega⟩ ⟨by omega,by omega⟩ hvw,SortR.swapOut hvo (by omega) (by omega) (by omega) (by omega),exU rfl,rfl⟩)
           ·have hct:=ht.1 rfl
            refine jcv ?_;refine jbU rfl ?_;refine jay ?_;refine Md.stop _ (.inl ⟨_,rfl,?_⟩)
            exact ⟨i1,_,by omega,by omega,by first|exact hvw|exact hsw4,by first|exact hvo|exact hso4,exU rfl,rfl⟩
         ·refine d41 ?_;refine jay ?_
          refine Md.stop _ (.inl ⟨_,rfl,?_⟩)
          exact ⟨i1,_,by omega,by omega,by first|exact hvw|exact hsw4,by first|exact hvo|exact hso4,exU rfl,rfl⟩
        ·refine d51 ?_
         refine Md.stop _ (.inl ⟨_,rfl,?_⟩)
         exact ⟨i1,_,by omega,by omega,by first|exact hvw|exact hsw4,by first|exact hvo|exact hso4,exU rfl,rfl⟩
    ·have hct:=ht.1 rfl
     refine jcv ?_;refine d124 ?_;refine rr3 ?_;refine d4 ?_;refine d35 ?_;exact m.weak jaa (hnext2 _ _ _ (by omega) ⟨i1+1,rfl,by omega,by omega,SortR.snoc hso2 (by omega) (by omega),exU rfl,rfl⟩)
  ·rintro l' h' ⟨i1,vs,hx1,hx2,hvw,hvo,⟨U,rfl⟩,rfl⟩;refine d55 ?_
   exact m.weak jaa (hnext1 _ _ _ (by omega) ⟨cnt+1,i1,vs,rfl,by omega,by omega,by omega,hvw,hvo,exU rfl,rfl⟩)
 ·refine d160 ?_
  refine jab (h++[blkC bk ys junk]) rfl Tryz.func165 rfl jaa ?_;refine hK _ _ ?_;first|exact ⟨true,ys,rfl,rfl,hsw,fun _=>by rw [show b=i1 by omega];exact hso2⟩|exact ⟨false,ys,rfl,rfl,hsw,fun e=>by cases e⟩
section
variable {P:Program} {B:Array Obj} {m:Md P B} {ops:Array Oper} {l l':List Value} {S h h' H:Hp} {C:List Value→Hp→Prop} {i:Nat} {kd:Kd} {r:List (Nat×Kd)}
 {d:Option Tmp} {ty:TypeId} {pos:String} {af:Array Edge} {g:Option (Nat×Bool)}
def tabB (s:ByteArray):Bool:=(List.range 256).all fun j=>match s.data[j]? with|some b=>decide (j=0∨2^b.toNat≤2*j)|none=>true
theorem k_ixT {t:TypeId} {x y:Operand} {s:ByteArray} {j:Nat} {k:IntKind} (ho:ops[i]?=some ⟨d,.index t x y,ty,pos,af,g⟩) (hw:Wt ops l g) [KHeap kd S h H] [ex:OpV l x (.string s)] [ey:OpV l y (.int k (j:Int))] (ht:P.underlying t=some .string) (hs:s.size=256) (hT:tabB s=true) (h1:j<256)
  (q: ∀b:UInt8,(j=0∨2^b.toNat≤2*j)→RegK m S ops r (put l d (.int .u8 b.toNat)) h C):RegK m S ops ((i,kd)::r) l h C:=by
 have hlt:j<s.size:=by omega
 have hb:=List.all_eq_true.1 hT j (List.mem_range.2 h1)
 have hg:s.data[j]?=some (s[j]'hlt):=by rw [Array.getElem?_eq_getElem (show j<s.data.size from hlt)];rfl
 rw [hg] at hb
 refine RegK.rd (v:= .int .u8 (s[j]'hlt).toNat) (l':=put l d _) ho hw ?_ (p:=⟨rfl⟩) (q _ (of_decide_eq_true hb))
 simp only [execOp,ex.eq,ey.eq]
 refine Reads.value ?_
 unfold Instr.index
 refine Reads.bind (a:=(k,(j:Int))) (Reads.pure _) ?_
 refine Reads.bind (jal ht).reads ?_
 have h0:(0:Int)≤(j:Int):=by omega
 simp only [h0,if_true,Int.toNat_natCast]
 have:s[j]?=some (s[j]'hlt):=by rw [getElem?_pos s j hlt]
 simp only [this]
 exact Reads.pure _
theorem wrap64 (n:Int):0≤IntKind.wrap .u64 n∧IntKind.wrap .u64 n<18446744073709551616:=by
 unfold IntKind.wrap
 simp [IntKind.bits,IntKind.signed]
 omega
theorem jmq {t u:TypeId} {x y:Operand} {a b:Int} (ho:ops[i]?=some ⟨d,.binOp .xor t x y u,ty,pos,af,g⟩) (hw:Wt ops l g) [KHeap kd S h H] [ex:OpV l x (.int .u64 a)] [ey:OpV l y (.int .u64 b)]
  (q: ∀v:Int,0≤v∧v<18446744073709551616→RegK m S ops r (put l d (.int .u64 v)) h C):RegK m S ops ((i,kd)::r) l h C:=
 RegK.rd (v:= .int .u64 (IntKind.wrap .u64 ((BitVec.ofInt 64 a^^^BitVec.ofInt 64 b).toNat:Int))) (l':=put l d _) (p:=⟨rfl⟩) ho hw (ja5 ex.eq ey.eq (by simp) rfl) (q _ (wrap64 _))
theorem k_andU {t u:TypeId} {x y:Operand} {a b:Int} (ho:ops[i]?=some ⟨d,.binOp .and t x y u,ty,pos,af,g⟩) (hw:Wt ops l g) [KHeap kd S h H] [ex:OpV l x (.int .u64 a)] [ey:OpV l y (.int .u64 b)] (hb:0≤b∧b<18446744073709551616)
  (q: ∀v:Int,0≤v∧v≤b→RegK m S ops r (put l d (.int .u64 v)) h C):RegK m S ops ((i,kd)::r) l h C:=
 RegK.rd (v:= .int .u64 (IntKind.wrap .u64 ((BitVec.ofInt 64 a&&&BitVec.ofInt 64 b).toNat:Int))) (l':=put l d _) (p:=⟨rfl⟩) ho hw (ja5 ex.eq ey.eq (by simp) rfl) (q _ ⟨(wrap64 _).1,by
  have h1:(BitVec.ofInt 64 a&&&BitVec.ofInt 64 b).toNat≤(BitVec.ofInt 64 b).toNat:=by rw [BitVec.toNat_and];exact Nat.and_le_right
  have h2:((BitVec.ofInt 64 b).toNat:Int)=b:=by
   rw [BitVec.toNat_ofInt,Int.toNat_of_nonneg (Int.emod_nonneg _ (by decide))];exact Int.emod_eq_of_lt hb.1 hb.2
  generalize (BitVec.ofInt 64 a&&&BitVec.ofInt 64 b).toNat=z at h1
  unfold IntKind.wrap
  simp [IntKind.bits,IntKind.signed]
  omega⟩)
theorem jmr {t u:TypeId} {x y:Operand} {a b:Int} {k':IntKind} (ho:ops[i]?=some ⟨d,.binOp .shl t x y u,ty,pos,af,g⟩) (hw:Wt ops l g) [KHeap kd S h H] [ex:OpV l x (.int .u64 a)] [ey:OpV l y (.int k' b)] (h0:0≤b)
  (q: ∀v:Int,v=IntKind.wrap .u64 (a*2^(min b.toNat 64))→RegK m S ops r (put l d (.int .u64 v)) h C):RegK m S ops ((i,kd)::r) l h C:=
 RegK.rd (v:= .int .u64 (IntKind.wrap .u64 (a*2^(min b.toNat 64)))) (l':=put l d _) (p:=⟨rfl⟩) ho hw (by
  simp only [execOp,ex.eq,ey.eq]
  refine Reads.value (Reads.bind (a:=()) (Reads.pure _) ?_)
  show Reads P B (Op.shift .shl .u64 a k' b) H _
  unfold Op.shift
  rw [if_neg (by omega)];exact Reads.pure _) (q _ rfl)
theorem k_shrU {t u:TypeId} {x y:Operand} {a b:Int} {k':IntKind} (ho:ops[i]?=some ⟨d,.binOp .shr t x y u,ty,pos,af,g⟩) (hw:Wt ops l g) [KHeap kd S h H] [ex:OpV l x (.int .u64 a)] [ey:OpV l y (.int k' b)] (h0:0≤b)
  (q: ∀v:Int,RegK m S ops r (put l d (.int .u64 v)) h C):RegK m S ops ((i,kd)::r) l h C:=
 RegK.rd (v:= .int .u64 (a.fdiv (2^(min b.toNat 64)))) (l':=put l d _) (p:=⟨rfl⟩) ho hw (by
  simp only [execOp,ex.eq,ey.eq]
  refine Reads.value (Reads.bind (a:=()) (Reads.pure _) ?_)
  show Reads P B (Op.shift .shr .u64 a k' b) H _
  unfold Op.shift
  rw [if_neg (by omega)];exact Reads.pure _) (q _)
theorem jdp {x:Operand} {a:Addr} (ho:ops[i]?=some ⟨d,.nilCheck x,ty,pos,af,g⟩) (hw:Wt ops l g) [KHeap kd S h H] [ex:OpV l x (.pointer (some a))] [PutV l d (.pointer (some a)) l'] (q:RegK m S ops r l' h C):RegK m S ops ((i,kd)::r) l h C:=
 RegK.rd (v:= .pointer (some a)) ho hw (by
  simp only [execOp,ex.eq]
  exact Reads.pure _) q
end
theorem f170_l (m:Md Tryz.prog B) (h:Hp) (x:Nat) (h1:1≤x) (hx:x<65536):FnC m 170 #[.int .u64 (x:Int)] h fun v h'=>h'=h∧ ∃k:Nat,v= .int .i64 (k:Int)∧2^k≤2*x∧k≤17:=by
 refine jad Tryz.func170 rfl rfl (l:=(.int .u64 (x:Int))::uu24) rfl ?_
 intro cf cs K hK
 refine d67 ?_;refine d16 ?_
 refine jaY rfl zq (fun hc=>?_) (fun hc=>?_)
 ·exfalso
  omega
 ·refine d36 ?_;refine d16 ?_
  refine jaY rfl zq (fun hc=>?_) (fun hc=>?_)
  ·exfalso
   omega
  ·refine d36 ?_;refine d16 ?_
   refine jaY rfl zq (fun hc=>?_) (fun hc=>?_)
   ·refine d7 ?_;refine d46 ?_
    have hq:(x:Int).fdiv (2^(min (8:Int).toNat IntKind.u64.bits))=((x/256:Nat):Int):=by
     rw [Int.fdiv_eq_ediv_of_nonneg _ (by decide)];rfl
    refine k_shr ((x/256:Nat):Int) rfl zq (by decide) hq ?_;refine aq rfl ?_;refine d55 ?_;refine rs7 ?_;refine d3 ?_
    first
     |refine jbk rfl zq (by kernel_rfl) (n':=(x:Int)) (by unfold IntKind.wrap;simp [IntKind.bits,IntKind.signed];omega) ?_
     |refine jbk rfl zq (by kernel_rfl) (n':=((x/256:Nat):Int)) (by unfold IntKind.wrap;simp [IntKind.bits,IntKind.signed];omega) ?_
    refine k_ixT rfl zq (by kernel_rfl) (by kernel_rfl) (by kernel_rfl) (by omega) (fun b8 hb8=>jac ?_);refine jbk rfl zq (by kernel_rfl) (n':=(b8.toNat:Int)) (by have:=b8.toNat_lt;unfold IntKind.wrap;simp [IntKind.bits,IntKind.signed];omega) ?_;have hb9:=b8.toNat_lt
    refine d109 ?_
    refine jab (h) rfl Tryz.func170 rfl jaa ?_;refine hK _ _ ?_;have h2:=hb8.resolve_left (by omega)
    have key: ∀k:Nat,2^k≤2*x→k≤17:=fun k hk=>by
     have h3:2^k<2^17:=by
                     have:(2:Nat)^17=131072:=by decide
                     omega
     have:=(Nat.pow_lt_pow_iff_right (by decide:1<2)).1 h3
     omega
    first
     |exact ⟨rfl,b8.toNat+8,by first|rfl|(congr 1;omega),by rw [Nat.pow_add];omega,key _ (by rw [Nat.pow_add];omega)⟩
     |exact ⟨rfl,b8.toNat,by first|rfl|(congr 1;omega),h2,key _ h2⟩
   ·refine d9 ?_;refine rs7 ?_;refine d3 ?_
    first
     |refine jbk rfl zq (by kernel_rfl) (n':=(x:Int)) (by unfold IntKind.wrap;simp [IntKind.bits,IntKind.signed];omega) ?_
     |refine jbk rfl zq (by kernel_rfl) (n':=((x/256:Nat):Int)) (by unfold IntKind.wrap;simp [IntKind.bits,IntKind.signed];omega) ?_
    refine k_ixT rfl zq (by kernel_rfl) (by kernel_rfl) (by kernel_rfl) (by omega) (fun b8 hb8=>jac ?_);refine jbk rfl zq (by kernel_rfl) (n':=(b8.toNat:Int)) (by have:=b8.toNat_lt;unfold IntKind.wrap;simp [IntKind.bits,IntKind.signed];omega) ?_;have hb9:=b8.toNat_lt
    refine d109 ?_
    refine jab (h) rfl Tryz.func170 rfl jaa ?_;refine hK _ _ ?_;have h2:=hb8.resolve_left (by omega)
    have key: ∀k:Nat,2^k≤2*x→k≤17:=fun k hk=>by
     have h3:2^k<2^17:=by
                     have:(2:Nat)^17=131072:=by decide
                     omega
     have:=(Nat.pow_lt_pow_iff_right (by decide:1<2)).1 h3
     omega
    first
     |exact ⟨rfl,b8.toNat+8,by first|rfl|(congr 1;omega),by rw [Nat.pow_add];omega,key _ (by rw [Nat.pow_add];omega)⟩
     |exact ⟨rfl,b8.toNat,by first|rfl|(congr 1;omega),h2,key _ h2⟩
theorem f124_l (m:Md Tryz.prog B) (h:Hp) (x:Nat) (h1:1≤x) (hx:x<65536):FnC m 124 #[.int .u64 (x:Int)] h fun v h'=>h'=h∧ ∃k:Nat,v= .int .i64 (k:Int)∧2^k≤2*x∧k≤17:=by
 refine jad Tryz.func124 rfl rfl (l:=(.int .u64 (x:Int))::uu7) rfl ?_
 intro cf cs K hK
 refine d67 ?_;refine jfc ?_;refine jby ?_;refine d46 ?_
 refine jae rfl zq (by kernel_rfl) (fun H' hH=>f170_l m H' x h1 hx) ?_;rintro v ⟨k,rfl,hk0,hk1⟩;refine d87 ?_
 refine jab (h) rfl Tryz.func124 rfl jaa ?_;refine hK _ _ ?_;exact ⟨rfl,k,rfl,hk0,hk1⟩
theorem f188_c (m:Md Tryz.prog B) (h:Hp) (x:Nat) (h1:1≤x) (hx:x<65536):FnC m 188 #[.int .i64 (x:Int)] h fun v h'=>h'=h∧ ∃M:Int,v= .int .u64 M∧1≤M∧M≤2*x:=by
 refine jad Tryz.func188 rfl rfl (l:=(.int .i64 (x:Int))::uu6) rfl ?_
 intro cf cs K hK
 refine d82 ?_;refine d116 ?_
 refine jbk rfl zq (by kernel_rfl) (n':=(x:Int)) (by unfold IntKind.wrap;simp [IntKind.bits,IntKind.signed];omega) ?_;refine jae rfl zq (by kernel_rfl) (fun H' hH=>f124_l m H' x h1 hx) ?_;rintro v ⟨k,rfl,hk0,hk1⟩;refine jac ?_;refine jmr rfl zq (by omega) (fun M hM=>jac ?_);refine d0 ?_
 refine jab (h) rfl Tryz.func188 rfl jaa ?_;refine hK _ _ ?_;have hM2:M=((2^k:Nat):Int):=by
  rw [hM,Int.toNat_natCast,Nat.min_eq_left (by omega),Int.one_mul];unfold IntKind.wrap
  have hk3:2^k≤2*65536:=by omega
  have e:(2:Int)^k=((2^k:Nat):Int):=by push_cast;rfl
  rw [e];generalize 2^k=w at hk3⊢
  simp [IntKind.bits,IntKind.signed]
  omega
 have h2:=Nat.one_le_two_pow (n:=k)
 exact ⟨rfl,M,rfl,by omega,by omega⟩
theorem f189_c (m:Md Tryz.prog B) (h:Hp) (q:Nat) (r0:Int):FnC m 189 #[.pointer (some ⟨q,0,none⟩)] (h++[⟨true,q,.cells [.int .u64 r0].toArray 244 (0,0)⟩]) fun v h'=> ∃r1:Int,v= .int .u64 r1∧h'=h++[⟨true,q,.cells [.int .u64 r1].toArray 244 (0,0)⟩]∧0≤r1∧r1<18446744073709551616:=by
 refine jad Tryz.func189 rfl rfl (l:=(.pointer (some ⟨q,0,none⟩))::uu32) rfl ?_
 intro cf cs K hK
 refine d67 ?_
 refine jah [(0,.pure),(1,.pure),(3,.pure),(4,.pure),(2,.read),(5,.read),(6,.pure),(7,.pure),(8,.pure),(9,.free)] (by kernel_rfl) (by kernel_rfl) (List.Sublist.refl _) ?_;refine mq rfl ?_
 refine jdp rfl zq ?_;refine mq rfl ?_
 refine jdp rfl zq ?_;refine d85 ?_
 refine jmr rfl zq (by decide) (fun s1 _=>jac ?_);refine jmq rfl zq (fun x1 hx1=>jac ?_);refine jdp rfl zq ?_;refine jcg rfl zq ?_;refine d25 ?_;refine jah [(0,.pure),(1,.pure),(3,.pure),(4,.pure),(2,.read),(5,.read),(6,.pure),(7,.pure),(8,.pure),(9,.free)] (by kernel_rfl) (by kernel_rfl) (List.Sublist.refl _) ?_;refine mq rfl ?_
 refine jdp rfl zq ?_;refine mq rfl ?_
 refine jdp rfl zq ?_;refine d85 ?_
 refine k_shrU rfl zq (by decide) (fun s2=>jac ?_);refine jmq rfl zq (fun x2 hx2=>jac ?_);refine jdp rfl zq ?_;refine jcg rfl zq ?_;refine d25 ?_;refine jah [(0,.pure),(1,.pure),(3,.pure),(4,.pure),(2,.read),(5,.read),(6,.pure),(7,.pure),(8,.pure),(9,.free)] (by kernel_rfl) (by kernel_rfl) (List.Sublist.refl _) ?_;refine mq rfl ?_
 refine jdp rfl zq ?_;refine mq rfl ?_
 refine jdp rfl zq ?_;refine d85 ?_
 refine jmr rfl zq (by decide) (fun s3 _=>jac ?_);refine jmq rfl zq (fun x3 hx3=>jac ?_);refine jdp rfl zq ?_;refine d59 ?_;refine d115 ?_
 refine jdp rfl zq ?_;refine jbb rfl zq ?_;refine d0 ?_;refine jab (h++[⟨true,q,.cells [.int .u64 x3].toArray 244 (0,0)⟩]) rfl Tryz.func189 rfl jaa ?_;refine hK _ _ ?_;exact ⟨x3,rfl,rfl,hx3.1,hx3.2⟩
section
variable {P:Program} {B:Array Obj} {m:Md P B} {ops:Array Oper} {l l':List Value} {S h h' H:Hp} {C:List Value→Hp→Prop} {i:Nat} {kd:Kd} {r:List (Nat×Kd)}
 {d:Option Tmp} {ty:TypeId} {pos:String} {af:Array Edge} {g:Option (Nat×Bool)}
theorem k_subU {t u:TypeId} {x y:Operand} {a b:Int} (ho:ops[i]?=some ⟨d,.binOp .sub t x y u,ty,pos,af,g⟩) (hw:Wt ops l g) [KHeap kd S h H] [ex:OpV l x (.int .u64 a)] [ey:OpV l y (.int .u64 b)] (hr:0≤a-b∧a-b<18446744073709551616) [PutV l d (.int .u64 (a-b)) l']
  (n:RegK m S ops r l' h C):RegK m S ops ((i,kd)::r) l h C:=
 RegK.rd (v:= .int .u64 (a-b)) ho hw (ja5 ex.eq ey.eq (by simp) (by
  have:IntKind.wrap .u64 (a-b)=a-b:=by
   unfold IntKind.wrap
   simp [IntKind.bits,IntKind.signed]
   omega
  simp [binOp,Op.intArith,this]
  rfl)) n
end
theorem f162_c (m:Md Tryz.prog B) (h:Hp) {bk n c:Nat} {xs:List Int} {junk:List Value} (hl:xs.length=n) (hn:n≤100000) (hn6:n≤60000) (a b:Nat) (hab:a+12<b) (hb:b≤n):FnC m 162 #[.slice (some ⟨bk,0,none⟩) n c,.int .i64 (a:Int),.int .i64 (b:Int)] (h++[blkC bk xs junk]) fun v h'=>v= .tuple [].toArray∧ ∃ys,h'=h++[blkC bk ys junk]∧Sw a b xs ys:=by
 refine jad Tryz.func162 rfl rfl (l:=(.slice (some ⟨bk,0,none⟩) n c)::(.int .i64 (a:Int))::(.int .i64 (b:Int))::uu62) rfl ?_
 intro cf cs K hK
 refine rs4 ?_;refine d29 ?_;obtain ⟨w,hwe⟩: ∃w:Nat,(b:Int)-(a:Int)=(w:Int):=⟨b-a,by omega⟩
 have hwn:w=b-a:=by omega
 rw [hwe];refine aq rfl ?_;refine d16 ?_
 refine jaY rfl zq (fun hc=>?_) (fun hc=>?_)
 ·refine d7 ?_;refine d115 ?_
  refine jbk rfl zq (by kernel_rfl) (n':=(w:Int)) (by unfold IntKind.wrap;simp [IntKind.bits,IntKind.signed];omega) ?_;refine jaw rfl zq (fun q7=>k_hp (jac ?_));refine d59 ?_;refine d46 ?_
  refine jae rfl zq (by kernel_rfl) (fun H' hH=>f188_c m H' w (by omega) (by omega)) ?_;rintro v ⟨M,rfl,hM1,hM2⟩;refine d83 ?_;refine rs7 ?_;refine d3 ?_
  refine jho w 4 rfl zq rfl rfl (by omega) (by omega) ?_;refine d66 ?_;refine jcj rfl zq (by unfold In64;omega) ?_;refine d39 ?_
  refine jag (fun nn l h'=> ∃(e:Nat) (z rr:Int) (ys:List Int),nn=100000-e∧(z=(e:Int))∧(a≤e)∧(e≤a+w/4*2+2)∧(Sw a b xs ys)∧(∃U:Nat→Value,l=((.slice (some ⟨bk,0,none⟩) n c)::(.int .i64 (a:Int))::(.int .i64 (b:Int))::(U 3)::(U 4)::(U 5)::(.int .i64 (w:Int))::(.pointer (some ⟨q7,0,none⟩))::(.int .u64 M)::(.int .i64 z)::vw55 U 10 []))∧h++[blkC bk ys junk,⟨true,q7,.cells [.int .u64 rr].toArray 244 (0,0)⟩]=h') _ ⟨a+w/4*2-1,_,(w:Int),xs,rfl,by omega,by omega,by omega,.refl _,exU rfl,rfl⟩ ?_;rintro nn l h' ⟨e,z,rr,ys,rfl,hz,he1,he2,hsw,⟨U,rfl⟩,rfl⟩ hnext;have hyl:=hsw.length
  refine jak ?_;refine rs8 ?_;refine d127 ?_;refine jho w 4 rfl zq rfl rfl (by omega) (by omega) ?_;refine d66 ?_;refine jdz rfl zq (by unfold In64;omega) ?_
  refine ja1 rfl zq (fun hc=>?_) (fun hc=>?_)
  ·refine d75 ?_;refine rs6 ?_
   refine jaZ (Post:=fun v h'=> ∃r1:Int,v= .int .u64 r1∧h'=h++[blkC bk ys junk,⟨true,q7,.cells [.int .u64 r1].toArray 244 (0,0)⟩]∧0≤r1∧r1<18446744073709551616) rfl zq (by kernel_rfl) (by have:=f189_c m (h++[blkC bk ys junk]) q7 rr;simpa [List.append_assoc] using this) ?_;rintro v h' ⟨r1,rfl,rfl,hr1,hr2⟩;refine jac ?_;refine mq rfl ?_;refine k_subU rfl zq (by omega) ?_;refine k_andU rfl zq (by omega) (fun v7 hv7=>jac ?_);refine jbk rfl zq (by kernel_rfl) (n':=v7) (by unfold IntKind.wrap;simp [IntKind.bits,IntKind.signed];omega) ?_;refine d10 ?_;refine d175 ?_
   refine jaY rfl zq (fun hc=>?_) (fun hc=>?_)
   ·refine d7 ?_;refine rr4 ?_;refine d29 ?_
    obtain ⟨o,hoe,how⟩: ∃o:Nat,v7-(w:Int)=(o:Int)∧o<w:=⟨(v7-w).toNat,by omega,by omega⟩
    rw [hoe];refine aq rfl ?_
    refine jah [(0,.pure),(1,.pure),(2,.pure),(3,.pure),(4,.pure),(5,.pure),(6,.pure),(7,.pure),(8,.pure),(9,.pure),(10,.pure),(12,.pure),(13,.pure),(14,.pure),(11,.read),(15,.read),(16,.pure),(17,.free),(18,.pure),(19,.free)] (by kernel_rfl) (by kernel_rfl) (List.Sublist.refl _) ?_;refine d128 ?_;refine d4 ?_;refine d153 ?_;refine d11 ?_
    refine k_ld rfl zq (jan (a+o) (by omega) (by omega)) ?_;refine k_ld rfl zq (jan (e) (by omega) (by omega)) ?_;refine jaJ rfl zq (by first|rfl|assumption) (by omega) (by omega) ?_;haveI hs1:=setSeg_ints (xs:=ys) (junk:=junk) (v:=ys.getD (a+o) 0) (i:=z) (k:=e) (by omega) (by omega)
    refine d28 ?_
    haveI hs2:=setSeg_ints (xs:=ys.set (e) (ys.getD (a+o) 0)) (junk:=junk) (v:=ys.getD (e) 0) (i:=(a:Int)+(o:Int)) (k:=a+o) (by omega) (by simp;omega)
    refine jcg rfl zq ?_;rw [jbe];refine jaB ?_;refine d170 ?_;exact m.weak jaa (hnext _ _ _ (by omega) ⟨e+1,z+1,r1,_,rfl,by omega,by omega,by omega,.step e (a+o) ⟨by omega,by omega⟩ ⟨by omega,by omega⟩ hsw,exU rfl,rfl⟩)
   ·obtain ⟨o,hoe,how⟩: ∃o:Nat,v7=(o:Int)∧o<w:=⟨v7.toNat,by omega,by omega⟩
    rw [hoe];refine d9 ?_
    refine jah [(0,.pure),(1,.pure),(2,.pure),(3,.pure),(4,.pure),(5,.pure),(6,.pure),(7,.pure),(8,.pure),(9,.pure),(10,.pure),(12,.pure),(13,.pure),(14,.pure),(11,.read),(15,.read),(16,.pure),(17,.free),(18,.pure),(19,.free)] (by kernel_rfl) (by kernel_rfl) (List.Sublist.refl _) ?_;refine d128 ?_;refine d4 ?_;refine d153 ?_;refine d11 ?_
    refine k_ld rfl zq (jan (a+o) (by omega) (by omega)) ?_;refine k_ld rfl zq (jan (e) (by omega) (by omega)) ?_;refine jaJ rfl zq (by first|rfl|assumption) (by omega) (by omega) ?_;haveI hs1:=setSeg_ints (xs:=ys) (junk:=junk) (v:=ys.getD (a+o) 0) (i:=z) (k:=e) (by omega) (by omega)
    refine d28 ?_
    haveI hs2:=setSeg_ints (xs:=ys.set (e) (ys.getD (a+o) 0)) (junk:=junk) (v:=ys.getD (e) 0) (i:=(a:Int)+(o:Int)) (k:=a+o) (by omega) (by simp;omega)
    refine jcg rfl zq ?_;rw [jbe];refine jaB ?_;refine d170 ?_;exact m.weak jaa (hnext _ _ _ (by omega) ⟨e+1,z+1,r1,_,rfl,by omega,by omega,by omega,.step e (a+o) ⟨by omega,by omega⟩ ⟨by omega,by omega⟩ hsw,exU rfl,rfl⟩)
  ·refine d41 ?_;refine jdh rfl ?_
   refine jab (h++[blkC bk ys junk]) rfl Tryz.func162 rfl jaa ?_;refine hK _ _ ?_;exact ⟨rfl,ys,rfl,hsw⟩
 ·exfalso
  omega
theorem f199_c (m:Md Tryz.prog B) (h:Hp) {bk n c:Nat} {xs:List Int} {junk:List Value} (hl:xs.length=n) (hn:n≤100000) (a b q:Nat) (s:Int) (hs:0≤s∧s≤1000) (ha:a<n) (hb:b<n):FnC m 199 #[.slice (some ⟨bk,0,none⟩) n c,.int .i64 (a:Int),.int .i64 (b:Int),.pointer (some ⟨q,0,none⟩)] (h++[blkC bk xs junk,⟨true,q,.cells [.int .i64 s].toArray 3 (0,0)⟩]) fun v h'=> ∃(s1:Int) (x y:Nat),v= .tuple [.int .i64 (x:Int),.int .i64 (y:Int)].toArray∧h'=h++[blkC bk xs junk,⟨true,q,.cells [.int .i64 s1].toArray 3 (0,0)⟩]∧s≤s1∧s1≤s+1∧((x=a∧y=b)∨(x=b∧y=a)):=by
 refine jad Tryz.func199 rfl rfl (l:=(.slice (some ⟨bk,0,none⟩) n c)::(.int .i64 (a:Int))::(.int .i64 (b:Int))::(.pointer (some ⟨q,0,none⟩))::uu24) rfl ?_
 intro cf cs K hK
 refine rs2 ?_;refine d99 ?_;refine jak ?_;refine jah [(0,.pure),(1,.pure),(2,.pure),(4,.pure),(5,.pure),(6,.pure),(3,.read),(7,.read),(8,.keep)] (by kernel_rfl) (by kernel_rfl) (List.Sublist.refl _) ?_;refine d11 ?_;refine d11 ?_
 refine k_ld rfl zq (jan (b) (by omega) (by omega)) ?_;refine k_ld rfl zq (jan (a) (by omega) (by omega)) ?_;refine jae (Post:=fun v=>IsB _ v) rfl zq (by kernel_rfl) (fun H' hH=>f166_c m H' _ _) ?_;rintro v (⟨hc,rfl⟩|⟨hc,rfl⟩)
 ·refine jac ?_;refine d7 ?_;refine rs6 ?_;refine mq rfl ?_;refine jdp rfl zq ?_;refine jbb rfl zq ?_;refine jdz rfl zq (by unfold In64;omega) ?_;refine jdp rfl zq ?_;refine d59 ?_;refine d69 ?_;refine d34 ?_
  refine jab (h++[blkC bk xs junk,⟨true,q,.cells [.int .i64 (s+1)].toArray 3 (0,0)⟩]) rfl Tryz.func199 rfl jaa ?_;refine hK _ _ ?_;exact ⟨s+1,b,a,rfl,rfl,by omega,by omega,.inr ⟨rfl,rfl⟩⟩
 ·refine jac ?_;refine d9 ?_;refine d69 ?_;refine d34 ?_;refine jab (h++[blkC bk xs junk,⟨true,q,.cells [.int .i64 s].toArray 3 (0,0)⟩]) rfl Tryz.func199 rfl jaa ?_;refine hK _ _ ?_;exact ⟨s,a,b,rfl,rfl,by omega,by omega,.inl ⟨rfl,rfl⟩⟩
theorem f191_c (m:Md Tryz.prog B) (h:Hp) {bk n c:Nat} {xs:List Int} {junk:List Value} (hl:xs.length=n) (hn:n≤100000) (a b c0 q:Nat) (s:Int) (hs:0≤s∧s≤900) (ha:a<n) (hb:b<n) (hc:c0<n):FnC m 191 #[.slice (some ⟨bk,0,none⟩) n c,.int .i64 (a:Int),.int .i64 (b:Int),.int .i64 (c0:Int),.pointer (some ⟨q,0,none⟩)] (h++[blkC bk xs junk,⟨true,q,.cells [.int .i64 s].toArray 3 (0,0)⟩]) fun v h'=> ∃(s1:Int) (y:Nat),v= .int .i64 (y:Int)∧h'=h++[blkC bk xs junk,⟨true,q,.cells [.int .i64 s1].toArray 3 (0,0)⟩]∧s≤s1∧s1≤s+3∧(y=a∨y=b∨y=c0):=by
 refine jad Tryz.func191 rfl rfl (l:=(.slice (some ⟨bk,0,none⟩) n c)::(.int .i64 (a:Int))::(.int .i64 (b:Int))::(.int .i64 (c0:Int))::(.pointer (some ⟨q,0,none⟩))::uu31) rfl ?_
 intro cf cs K hK
 refine d82 ?_;refine rs10 ?_;refine d128 ?_
 refine jaZ rfl zq (by kernel_rfl) (f199_c m h hl hn a b q s (by omega) (by omega) (by omega)) ?_;rintro v h' ⟨s1,x1,y1,rfl,rfl,hs1a,hs1b,hxy1⟩;refine d162 ?_;refine rs10 ?_;refine d128 ?_
 refine jaZ rfl zq (by kernel_rfl) (f199_c m h hl hn y1 c0 q s1 (by omega) (by omega) (by omega)) ?_;rintro v h' ⟨s2,x2,y2,rfl,rfl,hs2a,hs2b,hxy2⟩;refine d162 ?_;refine rs10 ?_;refine d128 ?_
 refine jaZ rfl zq (by kernel_rfl) (f199_c m h hl hn x1 x2 q s2 (by omega) (by omega) (by omega)) ?_;rintro v h' ⟨s3,x3,y3,rfl,rfl,hs3a,hs3b,hxy3⟩;refine d162 ?_;refine d86 ?_
 refine jab (h++[blkC bk xs junk,⟨true,q,.cells [.int .i64 s3].toArray 3 (0,0)⟩]) rfl Tryz.func191 rfl jaa ?_;refine hK _ _ ?_;exact ⟨s3,y3,rfl,rfl,by omega,by omega,by omega⟩
theorem f190_c (m:Md Tryz.prog B) (h:Hp) {bk n c:Nat} {xs:List Int} {junk:List Value} (hl:xs.length=n) (hn:n≤100000) (a q:Nat) (s:Int) (hs:0≤s∧s≤900) (ha:1≤a) (hb:a+1<n):FnC m 190 #[.slice (some ⟨bk,0,none⟩) n c,.int .i64 (a:Int),.pointer (some ⟨q,0,none⟩)] (h++[blkC bk xs junk,⟨true,q,.cells [.int .i64 s].toArray 3 (0,0)⟩]) fun v h'=> ∃(s1:Int) (y:Nat),v= .int .i64 (y:Int)∧h'=h++[blkC bk xs junk,⟨true,q,.cells [.int .i64 s1].toArray 3 (0,0)⟩]∧s≤s1∧s1≤s+3∧(a-1≤y∧y≤a+1):=by
 refine jad Tryz.func190 rfl rfl (l:=(.slice (some ⟨bk,0,none⟩) n c)::(.int .i64 (a:Int))::(.pointer (some ⟨q,0,none⟩))::uu12) rfl ?_
 intro cf cs K hK
 refine d82 ?_;refine rs9 ?_;refine d29 ?_;refine d133 ?_
 rw [show (a:Int)-1=((a-1:Nat):Int) by omega,show (a:Int)+1=((a+1:Nat):Int) by omega];refine mq rfl ?_
 refine jaZ rfl zq (by kernel_rfl) (f191_c m h hl hn (a-1) a (a+1) q s hs (by omega) (by omega) (by omega)) ?_;rintro v h' ⟨s1,y,rfl,rfl,hs1,hs2,hy⟩;refine d87 ?_
 refine jab (h++[blkC bk xs junk,⟨true,q,.cells [.int .i64 s1].toArray 3 (0,0)⟩]) rfl Tryz.func190 rfl jaa ?_;refine hK _ _ ?_;exact ⟨s1,y,rfl,rfl,hs1,hs2,by omega⟩
theorem f163_c (m:Md Tryz.prog B) (h:Hp) {bk n c:Nat} {xs:List Int} {junk:List Value} (hl:xs.length=n) (hn:n≤100000) (a b:Nat) (hab:a+12<b) (hb:b≤n):FnC m 163 #[.slice (some ⟨bk,0,none⟩) n c,.int .i64 (a:Int),.int .i64 (b:Int)] (h++[blkC bk xs junk]) fun v h'=> ∃(p:Nat) (k:Int),v= .tuple [.int .i64 (p:Int),.int .i64 k].toArray∧h'=h++[blkC bk xs junk]∧a≤p∧p<b:=by
 refine jad Tryz.func163 rfl rfl (l:=(.slice (some ⟨bk,0,none⟩) n c)::(.int .i64 (a:Int))::(.int .i64 (b:Int))::uu54) rfl ?_
 intro cf cs K hK
 refine rs2 ?_;refine d54 ?_;refine rs4 ?_;refine d29 ?_;obtain ⟨w,hwe⟩: ∃w:Nat,(b:Int)-(a:Int)=(w:Int):=⟨b-a,by omega⟩
 have hwn:w=b-a:=by omega
 rw [hwe];refine aq rfl ?_;refine rs1 ?_
 refine jaw rfl zq (fun q9=>k_hp (jac ?_));refine jaB ?_;refine rs6 ?_;refine d3 ?_;refine jho w 4 rfl zq rfl rfl (by omega) (by omega) ?_;refine d66 ?_
 obtain ⟨i0,hi0⟩: ∃x:Nat,(a:Int)+((w/4:Nat):Int)*1=(x:Int):=⟨a+w/4*1,by push_cast;rfl⟩
 have hi0n:i0=a+w/4*1:=by omega
 rw [hi0];refine d148 ?_;refine d3 ?_
 refine jho w 4 rfl zq rfl rfl (by omega) (by omega) ?_;refine d66 ?_
 obtain ⟨j0,hj0⟩: ∃x:Nat,(a:Int)+((w/4:Nat):Int)*2=(x:Int):=⟨a+w/4*2,by push_cast;rfl⟩
 have hj0n:j0=a+w/4*2:=by omega
 rw [hj0];refine d148 ?_;refine d3 ?_
 refine jho w 4 rfl zq rfl rfl (by omega) (by omega) ?_;refine d66 ?_
 obtain ⟨k0,hk0⟩: ∃x:Nat,(a:Int)+((w/4:Nat):Int)*3=(x:Int):=⟨a+w/4*3,by push_cast;rfl⟩
 have hk0n:k0=a+w/4*3:=by omega
 rw [hk0];refine d108 ?_
 refine jaY rfl zq (fun hc=>?_) (fun hc=>?_)
 ·refine d7 ?_;refine jak ?_;refine d16 ?_
  refine jaY rfl zq (fun hc=>?_) (fun hc=>?_)
  ·refine d7 ?_;refine d69 ?_
   refine jaZ rfl zq (by kernel_rfl) (f190_c m h hl hn i0 q9 0 (by omega) (by omega) (by omega)) ?_;rintro v h' ⟨s1,y1,rfl,rfl,hs1a,hs1b,hy1⟩;refine d83 ?_;refine d69 ?_
   refine jaZ rfl zq (by kernel_rfl) (f190_c m h hl hn j0 q9 s1 (by omega) (by omega) (by omega)) ?_;rintro v h' ⟨s2,y2,rfl,rfl,hs2a,hs2b,hy2⟩;refine d83 ?_;refine rr4 ?_;refine d3 ?_
   refine jaZ rfl zq (by kernel_rfl) (f190_c m h hl hn k0 q9 s2 (by omega) (by omega) (by omega)) ?_;rintro v h' ⟨s3,y3,rfl,rfl,hs3a,hs3b,hy3⟩;refine d83 ?_;refine rr6 ?_;refine d128 ?_
   refine jaZ rfl zq (by kernel_rfl) (f191_c m h hl hn _ _ _ q9 _ (by omega) (by omega) (by omega) (by omega)) ?_;rintro v h' ⟨s4,p,rfl,rfl,hs4a,hs4b,hp⟩;refine d83 ?_;refine rs1 ?_;refine jbb rfl zq ?_;refine d57 ?_;refine rs2 ?_
   refine jcd rfl zq (fun hc=>?_) (fun hc=>?_)
   ·refine d63 ?_;refine d110 ?_
    refine jab (h++[blkC bk xs junk]) rfl Tryz.func163 rfl jaa ?_;refine hK _ _ ?_;exact ⟨p,_,rfl,rfl,by omega,by omega⟩
   ·refine d73 ?_;refine rs2 ?_
    refine jcd rfl zq (fun hc=>?_) (fun hc=>?_)
    ·refine d63 ?_;refine d110 ?_
     refine jab (h++[blkC bk xs junk]) rfl Tryz.func163 rfl jaa ?_;refine hK _ _ ?_;exact ⟨p,_,rfl,rfl,by omega,by omega⟩
    ·refine d73 ?_;refine d110 ?_
     refine jab (h++[blkC bk xs junk]) rfl Tryz.func163 rfl jaa ?_;refine hK _ _ ?_;exact ⟨p,_,rfl,rfl,by omega,by omega⟩
  ·refine d9 ?_;refine rr6 ?_;refine d128 ?_
   refine jaZ rfl zq (by kernel_rfl) (f191_c m h hl hn _ _ _ q9 _ (by omega) (by omega) (by omega) (by omega)) ?_;rintro v h' ⟨s4,p,rfl,rfl,hs4a,hs4b,hp⟩;refine d83 ?_;refine rs1 ?_;refine jbb rfl zq ?_;refine d57 ?_;refine rs2 ?_
   refine jcd rfl zq (fun hc=>?_) (fun hc=>?_)
   ·refine d63 ?_;refine d110 ?_
    refine jab (h++[blkC bk xs junk]) rfl Tryz.func163 rfl jaa ?_;refine hK _ _ ?_;exact ⟨p,_,rfl,rfl,by omega,by omega⟩
   ·refine d73 ?_;refine rs2 ?_
    refine jcd rfl zq (fun hc=>?_) (fun hc=>?_)
    ·refine d63 ?_;refine d110 ?_
     refine jab (h++[blkC bk xs junk]) rfl Tryz.func163 rfl jaa ?_;refine hK _ _ ?_;exact ⟨p,_,rfl,rfl,by omega,by omega⟩
    ·refine d73 ?_;refine d110 ?_
     refine jab (h++[blkC bk xs junk]) rfl Tryz.func163 rfl jaa ?_;refine hK _ _ ?_;exact ⟨p,_,rfl,rfl,by omega,by omega⟩
 ·exfalso
  omega
def Out (ys:List Int) (a b a1 b1:Nat):Prop:= ∀p q,a≤p→p<q→q<b→(p<a1∨b1≤q)→ys.getD p 0≤ys.getD q 0
theorem Out.sw {ys zs:List Int} {a b a1 b1:Nat} (h:Out ys a b a1 b1) (s:Sw a1 b1 ys zs) (hb:b1≤b) (hl:b≤ys.length) (ha:a≤a1):Out zs a b a1 b1:=fun p q h1 h2 h3 h4=>by
 by_cases e1:p<a1
 ·rw [s.out (by omega) (.inl e1)];by_cases e2:a1≤q∧q<b1
  ·exact s.all (p:=fun v=>ys.getD p 0≤v) (by omega) (fun k h5 h6=>h p k h1 (by omega) (by omega) (.inl e1)) q e2.1 e2.2
  ·rw [s.out (by omega) (by omega)];exact h p q h1 h2 h3 (.inl e1)
 ·have e3:b1≤q:=by omega
  rw [s.out (k:=q) (by omega) (.inr e3)];by_cases e2:p<b1
  ·exact s.all (p:=fun v=>v≤ys.getD q 0) (by omega) (fun k h5 h6=>h k q (by omega) (by omega) h3 (.inr e3)) p (by omega) e2
  ·rw [s.out (by omega) (.inr (by omega))];exact h p q h1 h2 h3 (.inr e3)
theorem Out.all {ys:List Int} {a b a1 b1:Nat} (h:Out ys a b a1 b1) (hs:SortR ys a1 b1):SortR ys a b:=fun p q h1 h2 h3=>by
 by_cases e:p<a1∨b1≤q
 ·exact h p q h1 h2 h3 e
 ·exact hs p q (by omega) h2 (by omega)
theorem Out.left {ys:List Int} {a b a1 b1 q0:Nat} (h:Out ys a b a1 b1) (hc:Cut ys a1 b1 q0) (hs:SortR ys a1 q0):Out ys a b (q0+1) b1:=fun p q h1 h2 h3 h4=>by
 by_cases e:p<a1∨b1≤q
 ·exact h p q h1 h2 h3 e
 ·by_cases e1:q<q0
  ·exact hs p q (by omega) h2 e1
  ·by_cases e2:q=q0
   ·subst e2
    exact hc.1 p (by omega) h2
   ·have h5:=hc.2 q (by omega) (by omega)
    by_cases e3:p=q0
    ·subst e3
     exact h5
    ·have:=hc.1 p (by omega) (by omega);omega
theorem Out.right {ys:List Int} {a b a1 b1 q0:Nat} (h:Out ys a b a1 b1) (hc:Cut ys a1 b1 q0) (hs:SortR ys (q0+1) b1):Out ys a b a1 q0:=fun p q h1 h2 h3 h4=>by
 by_cases e:p<a1∨b1≤q
 ·exact h p q h1 h2 h3 e
 ·by_cases e1:q0<p
  ·exact hs p q (by omega) h2 (by omega)
  ·by_cases e2:p=q0
   ·subst e2
    exact hc.2 q h2 (by omega)
   ·have h5:=hc.1 p (by omega) (by omega)
    by_cases e3:q=q0
    ·subst e3
     exact h5
    ·have:=hc.2 q (by omega) (by omega);omega
theorem Out.equal {ys:List Int} {a b a1 b1 q0:Nat} (h:Out ys a b a1 b1) (hs:SortR ys a1 q0) (hx: ∀p k,a1≤p→p<q0→q0≤k→k<b1→ys.getD p 0≤ys.getD k 0):Out ys a b q0 b1:=fun p q h1 h2 h3 h4=>by
 by_cases e:p<a1∨b1≤q
 ·exact h p q h1 h2 h3 e
 ·by_cases e1:q<q0
  ·exact hs p q (by omega) h2 e1
  ·exact hx p q (by omega) (by omega) (by omega) (by omega)
theorem low_of {xs ys:List Int} {a b a1 b1:Nat} (h:Low xs a b) (s:Sw a b xs ys) (o:Out ys a b a1 b1) (ha:a≤a1) (hb:b1≤b) (hl:b≤xs.length):Low ys a1 b1:=by
 by_cases e:a=a1
 ·subst e
  rcases h.sw s hl with h1|h1
  ·exact .inl h1
  ·exact .inr fun k hk1 hk2=>h1 k hk1 (by omega)
 ·exact .inr fun k hk1 hk2=>o (a1-1) k (by omega) (by omega) (by omega) (.inl (by omega))
def PdqP {B:Array Obj} (m:Md Tryz.prog B) (N:Nat):Prop:= ∀(h:Hp) (bk n c:Nat) (xs:List Int) (junk:List Value) (lim:Int) (a b:Nat),xs.length=n→n≤60000→0≤lim→lim≤1000→a≤b→b≤n→b-a≤N→Low xs a b→
 FnC m 123 #[.slice (some ⟨bk,0,none⟩) n c,.int .i64 (a:Int),.int .i64 (b:Int),.int .i64 lim] (h++[blkC bk xs junk]) fun v h'=>v= .tuple [].toArray∧ ∃ys,h'=h++[blkC bk ys junk]∧Sw a b xs ys∧SortR ys a b
theorem f123_i (m:Md Tryz.prog B) (N:Nat) (IH: ∀M,M<N→PdqP m M):PdqP m N:=by
 intro h bk n c xs junk lim a b hl hn hk0 hk1 hab hb hN hlow
 refine jad Tryz.func123 rfl rfl (l:=(.slice (some ⟨bk,0,none⟩) n c)::(.int .i64 (a:Int))::(.int .i64 (b:Int))::(.int .i64 lim)::uu130) rfl ?_
 intro cf cs K hK
 refine d82 ?_;refine d98 ?_
 refine jag (fun nn l h'=> ∃(a1 b1:Nat) (lim1:Int) (w1 w2:Bool) (ys:List Int),nn=b1-a1+0∧(a≤a1)∧(a1≤b1)∧(b1≤b)∧(0≤lim1)∧(lim1≤1000)∧(Sw a b xs ys)∧(Out ys a b a1 b1)∧(∃U:Nat→Value,l=((.slice (some ⟨bk,0,none⟩) n c)::(.int .i64 (a1:Int))::(.int .i64 (b1:Int))::(.int .i64 lim1)::vw4 U 4 ((.bool w1)::(.bool w2)::jkm U 10 [])))∧h++[blkC bk ys junk]=h') _ ⟨a,b,lim,true,true,xs,rfl,by omega,by omega,by omega,by omega,by omega,.refl _,fun p q h1 h2 h3 h4=>by omega,exU rfl,rfl⟩ ?_;rintro nn l h' ⟨a1,b1,lim1,w1,w2,ys,rfl,ha1,hab1,hb1,hl0,hl1,hsw,hou,⟨U,rfl⟩,rfl⟩ hnext;have hyl:=hsw.length
 have hlo:=low_of hlow hsw hou ha1 hb1 (by omega)
 refine jaS ?_;refine rs4 ?_;refine d29 ?_;refine d108 ?_;refine ja1 rfl zq (fun hc=>?_) (fun hc=>?_)
 ·refine d7 ?_;refine d69 ?_;refine mq rfl ?_
  refine jaZ rfl zq (by kernel_rfl) (f160_c m h (by omega) (by omega) a1 b1 (by omega) (by omega)) ?_;rintro v h' ⟨rfl,zs,rfl,hzw,hzs⟩;refine d144 ?_;refine jb7 rfl ?_
  refine jab (h++[blkC bk zs junk]) rfl Tryz.func123 rfl jaa ?_;refine hK _ _ ?_;exact ⟨rfl,zs,rfl,hsw.trans (hzw.mono ha1 hb1),(hou.sw hzw hb1 (by omega) ha1).all hzs⟩
 ·refine d36 ?_;refine d16 ?_
  refine jcd rfl zq (fun hc=>?_) (fun hc=>?_)
  ·refine d7 ?_;refine d69 ?_;refine mq rfl ?_
   refine jaZ rfl zq (by kernel_rfl) (f161_c m h (by omega) (by omega) a1 b1 (by omega) (by omega)) ?_;rintro v h' ⟨rfl,zs,rfl,hzw,hzs⟩;refine d144 ?_;refine jb7 rfl ?_
   refine jab (h++[blkC bk zs junk]) rfl Tryz.func123 rfl jaa ?_;refine hK _ _ ?_;exact ⟨rfl,zs,rfl,hsw.trans (hzw.mono ha1 hb1),(hou.sw hzw hb1 (by omega) ha1).all hzs⟩
  ·refine d9 ?_
   refine jdN (fun l' h'=> ∃(lim2:Int) (y1:List Int),(0≤lim2)∧(lim2≤1000)∧(Sw a1 b1 ys y1)∧(∃U:Nat→Value,l'=((.slice (some ⟨bk,0,none⟩) n c)::(.int .i64 (a1:Int))::(.int .i64 (b1:Int))::(.int .i64 lim2)::vw4 U 4 ((.bool w1)::(.bool w2)::(.int .i64 ((b1:Int)-(a1:Int)))::vw123 U 11 [])))∧h++[blkC bk y1 junk]=h') ?_ ?_
   ·refine d16 ?_;refine k_not rfl zq ?_;refine jaB ?_
    refine jew (fun hc=>?_) (fun hc=>?_)
    ·first|replace hc:=of_decide_eq_true hc|replace hc:=of_decide_eq_false hc|skip
     refine d69 ?_;refine mq rfl ?_
     refine jaZ rfl zq (by kernel_rfl) (f162_c m h (by omega) (by omega) (by omega) a1 b1 (by omega) (by omega)) ?_;rintro v h' ⟨rfl,zb,rfl,hbw⟩;refine d144 ?_;refine d161 ?_;refine aq rfl ?_
     refine Md.stop _ (.inl ⟨_,rfl,?_⟩)
     first|exact ⟨_,_,by omega,by omega,by first|exact hbw|exact .refl _,exU rfl,rfl⟩
    ·first|replace hc:=of_decide_eq_true hc|replace hc:=of_decide_eq_false hc|skip
     refine jby ?_;refine Md.stop _ (.inl ⟨_,rfl,?_⟩)
     first|exact ⟨_,_,by omega,by omega,by first|exact hbw|exact .refl _,exU rfl,rfl⟩
   ·rintro l' h' ⟨lim2,y1,hl2,hl3,hs1,⟨U,rfl⟩,rfl⟩;have hy1:=hs1.length
    refine rs9 ?_;refine d127 ?_;refine jaZ rfl zq (by kernel_rfl) (f163_c m h (xs:=y1) (by omega) (by omega) a1 b1 (by omega) (by omega)) ?_;rintro v h' ⟨p,hint,rfl,rfl,hp1,hp2⟩;refine d162 ?_
    refine jdN (fun l' h'=> ∃(p:Nat) (hint:Int) (y2:List Int),(a1≤p)∧(p<b1)∧(Sw a1 b1 ys y2)∧(∃U:Nat→Value,l'=((.slice (some ⟨bk,0,none⟩) n c)::(.int .i64 (a1:Int))::(.int .i64 (b1:Int))::(.int .i64 lim2)::vw4 U 4 ((.bool w1)::(.bool w2)::(.int .i64 ((b1:Int)-(a1:Int)))::(.int .i64 (p:Int))::(.int .i64 hint)::vw121 U 13 [])))∧h++[blkC bk y2 junk]=h') ?_ ?_
    ·refine d16 ?_
     refine jcd rfl zq (fun hc=>?_) (fun hc=>?_)
     ·refine d7 ?_;refine d69 ?_;refine mq rfl ?_
      refine jaZ rfl zq (by kernel_rfl) (f164_c m h (xs:=y1) (by omega) (by omega) a1 b1 (by omega) (by omega)) ?_;rintro v h' ⟨rfl,zr,rfl,hrw⟩;refine d144 ?_;refine rs7 ?_;refine d44 ?_;refine d29 ?_;refine jcj rfl zq (by unfold In64;omega) ?_
      obtain ⟨p,hpe,hp1,hp2⟩: ∃p2:Nat,(b1:Int)-1-((p:Int)-(a1:Int))=(p2:Int)∧a1≤p2∧p2<b1:=⟨((b1:Int)-1-((p:Int)-(a1:Int))).toNat,by omega,by omega,by omega⟩
      rw [hpe];refine aq rfl ?_;refine rr1 ?_;refine aq rfl ?_
      refine Md.stop _ (.inl ⟨_,rfl,?_⟩)
      exact ⟨_,_,_,by omega,by omega,by first|exact hs1.trans hrw|exact hs1,exU rfl,rfl⟩
     ·refine d9 ?_
      refine Md.stop _ (.inl ⟨_,rfl,?_⟩)
      exact ⟨_,_,_,by omega,by omega,by first|exact hs1.trans hrw|exact hs1,exU rfl,rfl⟩
    ·rintro l' h' ⟨p,hint,y2,hp1,hp2,hs2,⟨U,rfl⟩,rfl⟩;have hy2:=hs2.length
     refine jdN (fun l' h'=> ∃(y3:List Int),(Sw a1 b1 ys y3)∧(∃U:Nat→Value,l'=((.slice (some ⟨bk,0,none⟩) n c)::(.int .i64 (a1:Int))::(.int .i64 (b1:Int))::(.int .i64 lim2)::vw4 U 4 ((.bool w1)::(.bool w2)::(.int .i64 ((b1:Int)-(a1:Int)))::(.int .i64 (p:Int))::vw122 U 12 [])))∧h++[blkC bk y3 junk]=h') ?_ ?_
     ·refine jak ?_;rcases w1 with _|_
      ·refine rr8 ?_;refine d3 ?_;refine d52 ?_;refine d30 ?_;refine d119 ?_;refine Md.stop _ (.inl ⟨_,rfl,?_⟩)
       exact ⟨_,by first|exact hs2.trans hiw|exact hs2,exU rfl,rfl⟩
      ·rcases w2 with _|_
       ·refine rr8 ?_;refine d3 ?_;refine k_mv rfl rfl ?_;refine jaz rfl zq ?_;refine d30 ?_;refine d119 ?_;refine Md.stop _ (.inl ⟨_,rfl,?_⟩)
        exact ⟨_,by first|exact hs2.trans hiw|exact hs2,exU rfl,rfl⟩
       ·refine rr8 ?_;refine d3 ?_;refine k_mv rfl rfl ?_;refine jaz rfl zq ?_;refine d22 ?_;refine jcd rfl rfl (fun hc=>?_) (fun hc=>?_)
        ·refine jaz rfl zq ?_;refine d7 ?_;refine d69 ?_;refine mq rfl ?_;refine jaZ rfl zq (by kernel_rfl) (f165_c m h (xs:=y2) (by omega) (by omega) a1 b1 (by omega) (by omega) (hlo.sw hs2 (by omega))) ?_;rintro v h' ⟨t168,zi,rfl,rfl,hiw,his⟩;refine d144 ?_
         refine jew (fun hc=>?_) (fun hc=>?_)
         ·first|replace hc:=of_decide_eq_true hc|replace hc:=of_decide_eq_false hc|skip
          refine Md.stop _ (.inr ?_)
          refine jb7 rfl ?_;refine jab (h++[blkC bk zi junk]) rfl Tryz.func123 rfl jaa ?_;refine hK _ _ ?_;exact ⟨rfl,zi,rfl,hsw.trans ((hs2.trans hiw).mono ha1 hb1),((hou.sw hs2 hb1 (by omega) ha1).sw hiw hb1 (by omega) ha1).all (his (by assumption))⟩
         ·first|replace hc:=of_decide_eq_true hc|replace hc:=of_decide_eq_false hc|skip
          refine jby ?_;refine Md.stop _ (.inl ⟨_,rfl,?_⟩)
          exact ⟨_,by first|exact hs2.trans hiw|exact hs2,exU rfl,rfl⟩
        ·refine jaz rfl zq ?_;refine d9 ?_;refine Md.stop _ (.inl ⟨_,rfl,?_⟩)
         exact ⟨_,by first|exact hs2.trans hiw|exact hs2,exU rfl,rfl⟩
     ·rintro l' h' ⟨y3,hs3,⟨U,rfl⟩,rfl⟩;have hy3:=hs3.length
      have hlo3:=hlo.sw hs3 (by omega)
      refine jdN (fun l' h'=> ∃(y4:List Int),(Sw a1 b1 ys y4)∧(∃U:Nat→Value,l'=((.slice (some ⟨bk,0,none⟩) n c)::(.int .i64 (a1:Int))::(.int .i64 (b1:Int))::(.int .i64 lim2)::vw4 U 4 ((.bool w1)::(.bool w2)::(.int .i64 ((b1:Int)-(a1:Int)))::(.int .i64 (p:Int))::vw122 U 12 [])))∧h++[blkC bk y4 junk]=h') ?_ ?_
      ·refine jak ?_;refine jah [(0,.pure),(1,.pure),(2,.pure),(3,.pure),(4,.pure),(5,.pure),(6,.pure),(8,.pure),(9,.pure),(10,.pure),(7,.read),(11,.read),(12,.keep),(13,.pure),(14,.pure)] (by kernel_rfl) (by kernel_rfl) (List.Sublist.refl _) ?_;refine mq rfl ?_
       refine jbz rfl zq (fun hc=>?_) (fun hc=>?_)
       ·refine d22 ?_;refine d169 ?_;refine d164 ?_
        refine k_ld rfl rfl (jan (a1-1) (by omega) (by omega)) ?_;refine k_ld rfl rfl (jan p (by omega) (by omega)) ?_;refine jae (Post:=fun v=>IsB _ v) rfl rfl (by kernel_rfl) (fun H' hH=>f166_c m H' _ _) ?_;rintro v (⟨hc,rfl⟩|⟨hc,rfl⟩)
        ·refine jac ?_;refine d143 ?_;refine d9 ?_;refine Md.stop _ (.inl ⟨_,rfl,?_⟩)
         exact ⟨_,hs3,exU rfl,rfl⟩
        ·refine d93 ?_;refine jaz rfl zq ?_;refine d7 ?_;refine rs6 ?_;refine d128 ?_
         refine jaZ rfl zq (by kernel_rfl) (f167_c m h (xs:=y3) (by omega) (by omega) a1 b1 p (by omega) (by omega) (by omega) (fun k hk1 hk2=>by
          rcases hlo3 with e|e
          ·omega
          ·have:=e k hk1 hk2;omega)) ?_
         rintro v h' ⟨q,zs,rfl,rfl,hzw,hq1,hq2,hzs,hzx⟩;refine d135 ?_;refine aq rfl ?_
         refine Md.stop _ (.inr ?_)
         refine jbU rfl ?_;exact m.weak jaa (hnext _ _ _ (by omega) ⟨q,b1,lim2,w1,w2,zs,rfl,by omega,by omega,by omega,by omega,by omega,(hsw.trans (hs3.mono ha1 hb1)).trans (hzw.mono ha1 hb1),((hou.sw hs3 hb1 (by omega) ha1).sw hzw hb1 (by omega) ha1).equal hzs hzx,exU rfl,rfl⟩)
       ·refine d168 ?_;refine d52 ?_;refine d9 ?_
        refine Md.stop _ (.inl ⟨_,rfl,?_⟩)
        exact ⟨_,hs3,exU rfl,rfl⟩
      ·rintro l' h' ⟨y4,hs4,⟨U,rfl⟩,rfl⟩;have hy4:=hs4.length
       have hlo4:=hlo.sw hs4 (by omega)
       refine rs10 ?_;refine d128 ?_;refine jaZ rfl zq (by kernel_rfl) (f168_c m h (xs:=y4) (by omega) (by omega) a1 b1 p (by omega) (by omega) (by omega)) ?_;rintro v h' ⟨q,t171,zs,rfl,rfl,hzw,hq1,hq2,hcut⟩;refine jac ?_;have hzl:=hzw.length
       have hlo5:=hlo4.sw hzw (by omega)
       refine d47 ?_;refine d54 ?_;refine d16 ?_;refine aq rfl ?_;refine rs8 ?_;refine d29 ?_;refine d29 ?_;refine d54 ?_;refine d46 ?_
       refine jho (b1-a1) 8 rfl zq (by omega) rfl (by omega) (by omega) ?_;refine aq rfl ?_;refine d175 ?_
       refine jap rfl zq (fun hc=>?_) (fun hc=>?_)
       ·refine d7 ?_;refine d69 ?_;refine jkY rfl zq ?_;refine aq rfl ?_;refine rs5 ?_;refine d128 ?_
        refine jaZ rfl zq (by kernel_rfl) (IH (b1-a1-1) (by omega) h bk n c zs junk lim2 a1 q (by omega) hn hl2 hl3 (by omega) (by omega) (by omega) (hlo5.imp id fun e k h1 h2=>e k h1 (by omega))) ?_;rintro v h' ⟨rfl,us,rfl,huw,hus⟩;refine d144 ?_;refine rr3 ?_;refine d4 ?_;refine d35 ?_
        exact m.weak jaa (hnext _ _ _ (by omega) ⟨q+1,b1,lim2,_,_,us,rfl,by omega,by omega,by omega,by omega,by omega,((hsw.trans (hs4.mono ha1 hb1)).trans (hzw.mono ha1 hb1)).trans (huw.mono ha1 (by omega)),(((hou.sw hs4 hb1 (by omega) ha1).sw hzw hb1 (by omega) ha1).sw (huw.mono (Nat.le_refl _) (by omega)) hb1 (by omega) ha1).left (hcut.swL huw (by omega) (by omega)) hus,exU rfl,rfl⟩)
       ·refine d6 ?_;refine d69 ?_;refine jkY rfl zq ?_;refine d148 ?_;refine d133 ?_;refine d3 ?_
        rw [show (q:Int)+1=((q+1:Nat):Int) by omega];refine jaZ rfl zq (by kernel_rfl) (IH (b1-a1-1) (by omega) h bk n c zs junk lim2 (q+1) b1 (by omega) hn hl2 hl3 (by omega) (by omega) (by omega) (.inr fun k h1 h2=>by rw [Nat.add_sub_cancel];exact hcut.2 k (by omega) h2)) ?_;rintro v h' ⟨rfl,us,rfl,huw,hus⟩;refine d144 ?_;refine d149 ?_;refine d35 ?_
        exact m.weak jaa (hnext _ _ _ (by omega) ⟨a1,q,lim2,_,_,us,rfl,by omega,by omega,by omega,by omega,by omega,((hsw.trans (hs4.mono ha1 hb1)).trans (hzw.mono ha1 hb1)).trans (huw.mono (by omega) hb1),(((hou.sw hs4 hb1 (by omega) ha1).sw hzw hb1 (by omega) ha1).sw (huw.mono (by omega) (Nat.le_refl _)) hb1 (by omega) ha1).right (hcut.swR huw (by omega)) hus,exU rfl,rfl⟩)
theorem pdq_all (m:Md Tryz.prog B) (N:Nat):PdqP m N:=Nat.strongRecOn N fun n ih=>f123_i m n ih
theorem f123_all (m:Md Tryz.prog B):PdqC m 60000:=fun h bk n c xs junk lim hl hn h0 h1=>pdq_all m n h bk n c xs junk lim 0 n hl hn h0 h1 (by omega) (Nat.le_refl _) (by omega) (.inl rfl)
class Off (h new:Hp) (F:outParam Hp):Prop where
 perm:h.Perm (F++new)
instance (priority:=2000) {A new:Hp}:Off (A++new) new A:=⟨List.Perm.refl _⟩
instance (priority:=1000) {A X new F:Hp} [o:Off A new F]:Off (A++X) new (F++X):=⟨by
 refine (o.perm.append_right X).trans ?_
 rw [List.append_assoc,List.append_assoc];exact List.Perm.append_left F List.perm_append_comm⟩
section
variable {P:Program} {B:Array Obj} {m:Md P B} {ops:Array Oper} {l l':List Value} {S h h' H:Hp} {C:List Value→Hp→Prop} {i:Nat} {kd:Kd} {r:List (Nat×Kd)}
 {d:Option Tmp} {ty:TypeId} {pos:String} {af:Array Edge} {g:Option (Nat×Bool)}
theorem jbH {t t2 t3 e k by' q c:Nat} {x y:Operand} {s:Value} {n mm:Nat} {rw:Bool} {f:Nat×Nat} {cs ys:List Value} {F new:Hp} (ho:ops[i]?=some ⟨d,.call ⟨.builtin .append,[x,y].toArray,#[t,t2]⟩,ty,pos,af,g⟩) (hg:Wt ops l g)
  [ex:OpV l x s] [ey:OpV l y (.slice (some ⟨q,0,none⟩) mm c)] [SliceT P t e k] [SliceT P t2 e k] [ElemT P e k by'] [hh:Has h q rw (.cells ys.toArray t3 f)] [on:Ones ys] (hy:ys.length=mm*k) (o:OwnS e k s n cs new) [w:Off h new F] (hk:kd= .free∨(kd= .keep∧S.Sublist F)) (hb:2*(n+mm)*by'≤2^48) (hmax:n+mm≤2^62)
  (cc: ∀v' new',OwnS e k v' (n+mm) (cs++ys) new'→RegK m S ops r (put l d v') (F++new') C):RegK m S ops ((i,kd)::r) l h C:=
 jhr ho hg (Weak.perm w.perm) o (jdj hy) on.one hk hb hmax cc
end
theorem jjr {B:Array Obj} {h' F1 F2 H M L:Hp} [a:Off h' L F1] [b:Off F1 M F2] [s:SubH H F2]:Weak B h' (H++M++L):=
 (Weak.perm a.perm).trans (((Weak.perm b.perm).trans ((Weak.sub s.sub).apps M)).apps L)
theorem setSeg_ints {xs:List Int} {junk:List Value} {j:Int} {i:Nat} (a:Int) (hj:j=i) (hi:i<xs.length):SetSeg (ints xs++junk) (0+j.toNat*1) [.int .i64 a] (ints (xs.set i a)++junk):=by
 subst hj
 have hl:(ints xs).length=xs.length:=List.length_map ..
 refine ⟨?_,by rw [Int.toNat_natCast,List.length_append,hl];simp only [List.length_cons,List.length_nil];omega⟩
 rw [Int.toNat_natCast,Nat.zero_add,Nat.mul_one,List.take_append_of_le_length (by omega),List.drop_append_of_le_length (by simp only [List.length_cons,List.length_nil];omega),←jdA,←jil,List.set_eq_take_append_cons_drop,if_pos hi,jbg];simp [ints]
theorem jma {A X new F:Hp} (o:X.Perm (F++new)):(A++X).Perm ((A++F)++new):=by
 rw [List.append_assoc];exact List.Perm.append_left A o
instance (priority:=900) {A X new F:Hp} [o:Off X new F]:Off (A++X) new (A++F):=⟨jma o.perm⟩
instance {x:Chunk} {l:Hp}:Off (x::l) [x] l:=⟨by
 have:=List.perm_append_comm (l₁:=[x]) (l₂:=l)
 exact this⟩
instance (priority:=900) {y:Chunk} {l new F:Hp} [o:Off l new F]:Off (y::l) new (y::F):=⟨o.perm.cons y⟩
section
variable {P:Program} {B:Array Obj} {m:Md P B} {ops:Array Oper} {l l':List Value} {S h h' H:Hp} {C:List Value→Hp→Prop} {i:Nat} {kd:Kd} {r:List (Nat×Kd)}
 {d:Option Tmp} {ty:TypeId} {pos:String} {af:Array Edge} {g:Option (Nat×Bool)}
theorem jgU {t t2 e k by':Nat} {x y:Operand} {s u:Value} {n mm:Nat} {cs ys:List Value} {F new:Hp} (ho:ops[i]?=some ⟨d,.call ⟨.builtin .append,[x,y].toArray,#[t,t2]⟩,ty,pos,af,g⟩) (hg:Wt ops l g)
  [ex:OpV l x s] [ey:OpV l y u] [SliceT P t e k] [SliceT P t2 e k] [ElemT P e k by'] (o:OwnS e k s n cs new) (rx:RdS B h k u mm ys) (h1: ∀u∈ys,u.oneCell'=true) [w:Off h new F] (hk:kd= .free∨(kd= .keep∧S.Sublist F)) (hb:2*(n+mm)*by'≤2^48) (hmax:n+mm≤2^62)
  (c: ∀v' new',OwnS e k v' (n+mm) (cs++ys) new'→RegK m S ops r (put l d v') (F++new') C):RegK m S ops ((i,kd)::r) l h C:=
 jhr ho hg (Weak.perm w.perm) o rx h1 hk hb hmax c
end
end Go.Proofs
namespace Go.Proofs
open Go.Lo
open Go.Conc (G)
set_option maxRecDepth 100000
set_option synthInstance.maxSize 100000
set_option synthInstance.maxHeartbeats 1000000
set_option maxHeartbeats 4000000
variable {b:Fb} {pp:Option Addr} {np cp:Nat} {pt:Option Addr} {nt ct:Nat} {pk:Option Addr} {nk ck:Nat}
variable {B:Array Obj}
theorem f68_c (m:Md Tryz.prog B) (h:Hp) (x lo hi:Int):FnC m 68 #[.int .i64 x,.int .i64 lo,.int .i64 hi] h fun v h'=>h'=h∧IsB (lo≤x∧x≤hi) v:=by
 refine jad Tryz.func68 rfl rfl (l:=(.int .i64 x)::(.int .i64 lo)::(.int .i64 hi)::uu12) rfl ?_
 intro cf cs K hK
 refine d82 ?_;refine rs9 ?_;refine d3 ?_
 refine ja1 rfl zq (fun hc=>?_) (fun hc=>?_)
 ·refine d163 ?_
  refine ja1 rfl rfl (fun hc=>?_) (fun hc=>?_)
  ·refine d64 ?_
   refine jab (h) rfl Tryz.func68 rfl jaa ?_;refine hK _ _ ?_;first|exact ⟨rfl,IsB.yes (by omega)⟩|exact ⟨rfl,IsB.no (by omega)⟩
  ·refine d64 ?_
   refine jab (h) rfl Tryz.func68 rfl jaa ?_;refine hK _ _ ?_;first|exact ⟨rfl,IsB.yes (by omega)⟩|exact ⟨rfl,IsB.no (by omega)⟩
 ·refine d30 ?_;refine d52 ?_;refine d0 ?_
  refine jab (h) rfl Tryz.func68 rfl jaa ?_;refine hK _ _ ?_;first|exact ⟨rfl,IsB.yes (by omega)⟩|exact ⟨rfl,IsB.no (by omega)⟩
theorem f219_c (m:Md Tryz.prog B) (h:Hp) (a c lo hi:Int):FnC m 219 #[.agg [.int .i64 a,.int .i64 c].toArray,.int .i64 lo,.int .i64 hi] h fun v h'=>h'=h∧IsB (lo≤a∧a≤c∧c≤hi) v:=by
 refine jad Tryz.func219 rfl rfl (l:=(.agg [.int .i64 a,.int .i64 c].toArray)::(.int .i64 lo)::(.int .i64 hi)::uu21) rfl ?_
 intro cf cs K hK
 refine rs2 ?_;refine jaq rfl zq (fun q3=>k_hp (jac ?_));refine d10 ?_;refine rr18 ?_;refine mq rfl ?_;refine d1 ?_
 refine ja1 rfl zq (fun hc=>?_) (fun hc=>?_)
 ·refine d101 ?_;refine d12 ?_
  refine ja1 rfl rfl (fun hc=>?_) (fun hc=>?_)
  ·refine jaz rfl zq ?_;refine d101 ?_;refine k_mv rfl rfl ?_;refine ja1 rfl rfl (fun hc=>?_) (fun hc=>?_)
   ·refine d64 ?_
    refine jab (h) rfl Tryz.func219 rfl jaa ?_;refine hK _ _ ?_;first|exact ⟨rfl,IsB.yes (by omega)⟩|exact ⟨rfl,IsB.no (by omega)⟩
   ·refine d64 ?_
    refine jab (h) rfl Tryz.func219 rfl jaa ?_;refine hK _ _ ?_;first|exact ⟨rfl,IsB.yes (by omega)⟩|exact ⟨rfl,IsB.no (by omega)⟩
  ·refine jaz rfl zq ?_;refine d49 ?_;refine d118 ?_;refine jab (h) rfl Tryz.func219 rfl jaa ?_;refine hK _ _ ?_;first|exact ⟨rfl,IsB.yes (by omega)⟩|exact ⟨rfl,IsB.no (by omega)⟩
 ·refine d49 ?_;refine d52 ?_;refine d49 ?_;refine d118 ?_
  refine jab (h) rfl Tryz.func219 rfl jaa ?_;refine hK _ _ ?_;first|exact ⟨rfl,IsB.yes (by omega)⟩|exact ⟨rfl,IsB.no (by omega)⟩
theorem ji4 (k:Nat):((k:Int)+1)*((k:Int)+1)=(((k+1)*(k+1):Nat):Int):=by rw [Int.natCast_mul];rfl
theorem f69_c (m:Md Tryz.prog B) (h:Hp) (n:Nat) (hn:n≤4000000):FnC m 69 #[.int .i64 (n:Int)] h fun v h'=>h'=h∧v= .int .i64 (jdY n):=by
 refine jad Tryz.func69 rfl rfl (l:=(.int .i64 (n:Int))::uu13) rfl ?_
 intro cf cs K hK
 refine d82 ?_;refine d67 ?_;refine jaS ?_
 refine jag (fun nn l h'=> ∃(k:Nat),nn=3000-k∧(k*k≤n)∧(k≤2000)∧(∃U:Nat→Value,l=((.int .i64 (n:Int))::(U 1)::(U 2)::(.int .i64 (k:Int))::vw10 U 4 []))∧h=h') _ ⟨0,rfl,by omega,by omega,exU rfl,rfl⟩ ?_;rintro nn l h' ⟨k,rfl,hk,hk2,⟨U,rfl⟩,rfl⟩ hnext;have hsq:(k+1)*(k+1)≤2001*2001:=jiS (by omega)
 have hkc:=ji4 k
 have hk3:k<2000∨k=2000:=by omega
 refine jak ?_;refine rs7 ?_;refine d4 ?_;refine d4 ?_;refine jhp rfl zq (by unfold In64;omega) ?_;refine mq rfl ?_;refine ja1 rfl zq (fun hc=>?_) (fun hc=>?_)
 ·refine d7 ?_;refine d124 ?_;refine rr3 ?_;refine d4 ?_;refine d35 ?_
  exact m.weak jaa (hnext _ _ _ (by omega) ⟨k+1,rfl,by omega,by
   rcases Nat.lt_or_ge k 2000 with h3|h3
   ·omega
   ·have:=jiS (show 2001≤k+1 by omega);omega,exU rfl,rfl⟩)
 ·refine d176 ?_
  refine jab (h) rfl Tryz.func69 rfl jaa ?_;refine hK _ _ ?_;refine ⟨rfl,?_⟩
  rw [show jdY (n:Int)=(k:Int) by rw [jdY,Int.toNat_natCast,jjE hk (by omega)]]
theorem jhY {n k s:Nat} (h1:k*k≤n) (h2:n<(k+2*s)*(k+2*s)):(((k+s)*(k+s)≤n)→(k+s)*(k+s)≤n∧n<(k+s+s)*(k+s+s))∧(¬(k+s)*(k+s)≤n→k*k≤n∧n<(k+s)*(k+s)):=
 ⟨fun h=>⟨h,by rw [show k+s+s=k+2*s by omega];exact h2⟩,fun h=>⟨h1,by omega⟩⟩
theorem sum_cast (k s:Nat):((k:Int)+(s:Int))*((k:Int)+(s:Int))=(((k+s)*(k+s):Nat):Int):=by rw [Int.natCast_mul];rfl
theorem jj3 {s e:Nat} (hs:s=2^(e-1)) (h1:1≤e) (h2:e≤21):(s/2=0∧s=1∧e-1=0)∨(s=2*(s/2)∧s/2=2^(e-1-1)∧1≤e-1∧e-1≤21):=by
 by_cases he:e=1
 ·subst he
  subst hs
  exact .inl (by decide)
 ·obtain ⟨d,rfl⟩: ∃d,e=d+2:=⟨e-2,by omega⟩
  have:2^(d+2-1)=2*2^d:=by rw [show d+2-1=d+1 by omega,Nat.pow_succ,Nat.mul_comm]
  rw [hs,this];exact .inr ⟨by omega,by rw [show d+2-1-1=d by omega];omega,by omega,by omega⟩
theorem f184_c (m:Md Tryz.prog B) (h:Hp) (n:Nat) (hn:n≤4000000):FnC m 184 #[.int .i64 (n:Int)] h fun v h'=>h'=h∧v= .int .i64 (jdY n):=by
 refine jad Tryz.func184 rfl rfl (l:=(.int .i64 (n:Int))::uu21) rfl ?_
 intro cf cs K hK
 refine d82 ?_;refine d67 ?_;refine d98 ?_
 refine jag (fun nn l h'=> ∃(k s w:Nat) (e:Nat),nn=e*1∧(k*k≤n)∧(n<(k+w)*(k+w))∧(k≤2000)∧((s=0∧w=1∧e=0)∨(w=2*s∧s=2^(e-1)∧1≤e∧e≤21))∧(∃U:Nat→Value,l=((.int .i64 (n:Int))::(U 1)::(U 2)::(.int .i64 (k:Int))::(.int .i64 (s:Int))::vw17 U 5 []))∧h=h') _ ⟨0,1048576,2097152,21,rfl,by omega,by omega,by omega,.inr (by decide),exU rfl,rfl⟩ ?_;rintro nn l h' ⟨k,s,w,e,rfl,hk,hkw,hk2,hse,⟨U,rfl⟩,rfl⟩ hnext;have hs20:s≤1048576:=by
  rcases hse with ⟨rfl,_⟩|⟨_,rfl,_,he⟩
  ·omega
  ·exact Nat.pow_le_pow_right (n:=2) (by omega) (show e-1≤20 by omega)
 have hsq:(k+s)*(k+s)≤1100000*1100000:=jiS (by omega)
 have hkc:=sum_cast k s
 refine jak ?_;refine d16 ?_;refine jbz rfl zq (fun hc=>?_) (fun hc=>?_)
 ·refine d75 ?_;refine rs9 ?_;refine d133 ?_;refine d133 ?_;refine jhp rfl zq (by unfold In64;omega) ?_;refine mq rfl ?_
  refine ja1 rfl zq (fun hc=>?_) (fun hc=>?_)
  ·refine d7 ?_;refine rr4 ?_;refine d133 ?_;refine d35 ?_;refine rr3 ?_;refine mq rfl ?_
   refine jho s 2 rfl zq rfl rfl (by omega) (by omega) ?_;refine aq rfl ?_
   obtain ⟨rfl,hs,he1,he2⟩:=hse.resolve_left (by omega)
   have hrs:=(jhY hk hkw).1 (by omega)
   have hk2000:k+s≤2000:=by
    rcases Nat.lt_or_ge 2000 (k+s) with h3|h3
    ·have:=jiS (show 2001≤k+s by omega);omega
    ·exact h3
   exact m.weak jaa (hnext _ _ _ (by rcases hse with ⟨_,_,_⟩|⟨_,_,_,_⟩<;>omega) ⟨k+s,s/2,s,e-1,rfl,hrs.1,hrs.2,hk2000,jj3 hs he1 he2,exU rfl,rfl⟩)
  ·refine d51 ?_;refine rr3 ?_;refine mq rfl ?_
   refine jho s 2 rfl zq rfl rfl (by omega) (by omega) ?_;refine aq rfl ?_
   obtain ⟨rfl,hs,he1,he2⟩:=hse.resolve_left (by omega)
   have hrs:=(jhY hk hkw).2 (by omega)
   exact m.weak jaa (hnext _ _ _ (by rcases hse with ⟨_,_,_⟩|⟨_,_,_,_⟩<;>omega) ⟨k,s/2,s,e-1,rfl,hrs.1,hrs.2,hk2,jj3 hs he1 he2,exU rfl,rfl⟩)
 ·refine d176 ?_
  refine jab (h) rfl Tryz.func184 rfl jaa ?_;refine hK _ _ ?_;obtain rfl:s=0:=by omega
  obtain ⟨_,rfl,_⟩:=hse.resolve_right (by rintro ⟨h1,h2,h3,_⟩;have:=Nat.pow_pos (n:=e-1) (show 0<2 by omega);omega)
  refine ⟨rfl,?_⟩
  rw [show jdY (n:Int)=(k:Int) by rw [jdY,Int.toNat_natCast,jjE hk hkw]]
theorem f119_c (m:Md Tryz.prog B) (h:Hp) (x:Int) (hp:np≤1000):FnC m 119 #[fbV b pp np cp pt nt ct pk nk ck,.int .i64 x] h fun v h'=>h'=h∧IsB (0≤x∧x≤(np:Int)-1) v:=by
 refine jad Tryz.func119 rfl rfl (l:=(fbV b pp np cp pt nt ct pk nk ck)::(.int .i64 x)::uu9) rfl ?_
 intro cf cs K hK
 refine rs2 ?_;refine jaq rfl zq (fun q2=>k_hp (jac ?_));refine aq rfl ?_;refine rs7 ?_;refine mq rfl ?_;refine d1 ?_;refine d79 ?_
 refine jae (Post:=fun v=>IsB _ v) rfl zq (by kernel_rfl) (fun H' hH=>f50_c m H' _ _ _) ?_;rintro v hv;refine d87 ?_
 refine jab (h) rfl Tryz.func119 rfl jaa ?_;refine hK _ _ ?_;exact ⟨rfl,hv⟩
theorem f125_c (m:Md Tryz.prog B) (h:Hp) (x:Int) (hp:np≤1000):FnC m 125 #[fbV b pp np cp pt nt ct pk nk ck,.int .i64 x] h fun v h'=>h'=h∧IsB (0≤x∧x≤(np:Int)-1) v:=by
 refine jad Tryz.func125 rfl rfl (l:=(fbV b pp np cp pt nt ct pk nk ck)::(.int .i64 x)::uu10) rfl ?_
 intro cf cs K hK
 refine rs2 ?_;refine jaq rfl zq (fun q2=>k_hp (jac ?_));refine aq rfl ?_;refine rs8 ?_;refine mq rfl ?_;refine d23 ?_;refine d79 ?_
 refine jae (Post:=fun v=>IsB _ v) rfl zq (by kernel_rfl) (fun H' hH=>f68_c m H' _ _ _) ?_;rintro v hv;refine d87 ?_
 refine jab (h) rfl Tryz.func125 rfl jaa ?_;refine hK _ _ ?_;exact ⟨rfl,hv⟩
theorem f120_c (m:Md Tryz.prog B) (h:Hp) (x:Int) (rdp:Rp B h b pp np cp) (hp:np≤1000) (h1:1≤np):FnC m 120 #[fbV b pp np cp pt nt ct pk nk ck,.int .i64 x] h fun v h'=>h'=h∧IsB ((b.pts.getD 0 default).h≤x∧x≤(b.pts.getD (np-1) default).h) v:=by
 have hml:=rdp.elen (by decide)
 refine jad Tryz.func120 rfl rfl (l:=(fbV b pp np cp pt nt ct pk nk ck)::(.int .i64 x)::uu19) rfl ?_
 intro cf cs K hK
 refine rs2 ?_;refine jaq rfl zq (fun q2=>k_hp (jac ?_));refine d10 ?_
 refine jah [(0,.pure),(1,.pure),(6,.pure),(8,.pure),(2,.read),(3,.pure),(4,.pure),(5,.read),(7,.read),(9,.read),(10,.pure),(11,.pure),(12,.pure),(13,.pure),(14,.read),(15,.keep),(16,.pure)] (by kernel_rfl) (by kernel_rfl) (List.Sublist.refl _) ?_;refine mq rfl ?_;refine d8 ?_;refine d1 ?_
 obtain ⟨rdp_b,rdp_o,rfl⟩:=rdp.ptr (by omega)
 refine d15 ?_
 refine k_ld rfl zq (rdp.fat (v:= .int .i64 (b.pts.getD 0 default).h) 0 0 (by omega) (by omega) rfl) ?_;refine d85 ?_;refine d79 ?_;refine d15 ?_
 refine k_ld rfl zq (rdp.fat (v:= .int .i64 (b.pts.getD (np-1) default).h) (np-1) 0 (by omega) (by omega) rfl) ?_;refine jae (Post:=fun v=>IsB _ v) rfl zq (by kernel_rfl) (fun H' hH=>f50_c m H' _ _ _) ?_;rintro v hv;refine d87 ?_
 refine jab (h) rfl Tryz.func120 rfl jaa ?_;refine hK _ _ ?_;exact ⟨rfl,hv⟩
theorem f45_c (m:Md Tryz.prog B) (h:Hp) (x:Int) (rdp:Rp B h b pp np cp) (hp:np≤1000) (h1:1≤np):FnC m 45 #[fbV b pp np cp pt nt ct pk nk ck,.int .i64 x] h fun v h'=>h'=h∧IsB ((b.pts.getD 0 default).h≤x∧x≤(b.pts.getD (np-1) default).h) v:=by
 have hml:=rdp.elen (by decide)
 refine jad Tryz.func45 rfl rfl (l:=(fbV b pp np cp pt nt ct pk nk ck)::(.int .i64 x)::uu22) rfl ?_
 intro cf cs K hK
 refine rs2 ?_;refine jaq rfl zq (fun q2=>k_hp (jac ?_));refine d10 ?_
 refine jah [(0,.pure),(1,.pure),(2,.pure),(7,.pure),(8,.pure),(10,.pure),(11,.pure),(3,.read),(4,.pure),(5,.pure),(6,.read),(9,.read),(12,.read),(13,.pure),(14,.pure),(15,.pure),(16,.pure),(17,.read),(18,.keep),(19,.pure)] (by kernel_rfl) (by kernel_rfl) (List.Sublist.refl _) ?_;refine mq rfl ?_;refine d8 ?_;refine d8 ?_;refine d23 ?_
 obtain ⟨rdp_b,rdp_o,rfl⟩:=rdp.ptr (by omega)
 refine d15 ?_
 refine k_ld rfl zq (rdp.fat (v:= .int .i64 (b.pts.getD 0 default).h) 0 0 (by omega) (by omega) rfl) ?_;refine d85 ?_;refine d79 ?_;refine d15 ?_
 refine k_ld rfl zq (rdp.fat (v:= .int .i64 (b.pts.getD (np-1) default).h) (np-1) 0 (by omega) (by omega) rfl) ?_;refine jae (Post:=fun v=>IsB _ v) rfl zq (by kernel_rfl) (fun H' hH=>f68_c m H' _ _ _) ?_;rintro v hv;refine d87 ?_
 refine jab (h) rfl Tryz.func45 rfl jaa ?_;refine hK _ _ ?_;exact ⟨rfl,hv⟩
def ordS (n:Nat) (f t:Int):Int:=if¬(0≤f∧f≤(n:Int)-1)∨ ¬(0≤t∧t≤(n:Int)-1) then 6 else if f≥t then 7 else 0
theorem f70_c (m:Md Tryz.prog B) (h:Hp) (f t:Int) (hp:np≤1000):FnC m 70 #[fbV b pp np cp pt nt ct pk nk ck,.int .i64 f,.int .i64 t] h fun v h'=>h'=h∧v= .int .i64 (ordS np f t):=by
 refine jad Tryz.func70 rfl rfl (l:=(fbV b pp np cp pt nt ct pk nk ck)::(.int .i64 f)::(.int .i64 t)::uu19) rfl ?_
 intro cf cs K hK
 refine rs2 ?_;refine jaq rfl zq (fun q3=>k_hp (jac ?_));refine d10 ?_;refine jaS ?_;refine rs11 ?_;refine d77 ?_
 refine jae (Post:=fun v=>IsB _ v) rfl zq (by kernel_rfl) (fun H' hH=>f125_c m H' _ hp) ?_;rintro v (⟨hc,rfl⟩|⟨hc,rfl⟩)
 ·refine d31 ?_;refine d104 ?_;refine k_mv rfl rfl ?_
  refine jae (Post:=fun v=>IsB _ v) rfl rfl (by kernel_rfl) (fun H' hH=>f125_c m H' _ hp) ?_;rintro v (⟨hc,rfl⟩|⟨hc,rfl⟩)
  ·refine d156 ?_;refine d73 ?_;refine d69 ?_
   refine jaY rfl zq (fun hc=>?_) (fun hc=>?_)
   ·refine d136 ?_
    refine jab (h) rfl Tryz.func70 rfl jaa ?_;refine hK _ _ ?_;refine ⟨rfl,?_⟩
    unfold ordS
    first|rw [if_pos (by first|exact .inl (by assumption)|exact .inr (by assumption))]|rw [if_neg (by rintro (e|e)<;>contradiction),if_pos (by omega)]|rw [if_neg (by rintro (e|e)<;>contradiction),if_neg (by omega)]
   ·refine d73 ?_;refine d117 ?_;refine d26 ?_
    refine jab (h) rfl Tryz.func70 rfl jaa ?_;refine hK _ _ ?_;refine ⟨rfl,?_⟩
    unfold ordS
    first|rw [if_pos (by first|exact .inl (by assumption)|exact .inr (by assumption))]|rw [if_neg (by rintro (e|e)<;>contradiction),if_pos (by omega)]|rw [if_neg (by rintro (e|e)<;>contradiction),if_neg (by omega)]
  ·refine d93 ?_;refine jau rfl zq ?_;refine d136 ?_
   refine jab (h) rfl Tryz.func70 rfl jaa ?_;refine hK _ _ ?_;refine ⟨rfl,?_⟩
   unfold ordS
   first|rw [if_pos (by first|exact .inl (by assumption)|exact .inr (by assumption))]|rw [if_neg (by rintro (e|e)<;>contradiction),if_pos (by omega)]|rw [if_neg (by rintro (e|e)<;>contradiction),if_neg (by omega)]
 ·refine d33 ?_;refine d111 ?_;refine d136 ?_
  refine jab (h) rfl Tryz.func70 rfl jaa ?_;refine hK _ _ ?_;refine ⟨rfl,?_⟩
  unfold ordS
  first|rw [if_pos (by first|exact .inl (by assumption)|exact .inr (by assumption))]|rw [if_neg (by rintro (e|e)<;>contradiction),if_pos (by omega)]|rw [if_neg (by rintro (e|e)<;>contradiction),if_neg (by omega)]
section
variable {P:Program} {B:Array Obj} {m:Md P B} {ops:Array Oper} {l l':List Value} {S h h' H:Hp} {C:List Value→Hp→Prop} {i:Nat} {kd:Kd} {r:List (Nat×Kd)}
 {d:Option Tmp} {ty:TypeId} {pos:String} {af:Array Edge} {g:Option (Nat×Bool)}
theorem k_quoZ {t u:TypeId} {x y:Operand} {z w:Int} (ho:ops[i]?=some ⟨d,.binOp .quo t x y u,ty,pos,af,g⟩) (hw:Wt ops l g) [KHeap kd S h H] [ex:OpV l x (.int .i64 z)] [ey:OpV l y (.int .i64 w)] (h0:w≠0) (hv:In64 (z.tdiv w)) [PutV l d (.int .i64 (z.tdiv w)) l'] (q:RegK m S ops r l' h C):RegK m S ops ((i,kd)::r) l h C:=
 RegK.rd (v:= .int .i64 (z.tdiv w)) ho hw (ja5 ex.eq ey.eq (by simp) (by
  simp only [binOp,Op.intDiv,if_neg h0,jdf hv]
  rfl)) q
theorem k_remZ {t u:TypeId} {x y:Operand} {z w:Int} (ho:ops[i]?=some ⟨d,.binOp .rem t x y u,ty,pos,af,g⟩) (hw:Wt ops l g) [KHeap kd S h H] [ex:OpV l x (.int .i64 z)] [ey:OpV l y (.int .i64 w)] (h0:w≠0) [PutV l d (.int .i64 (z.tmod w)) l'] (q:RegK m S ops r l' h C):RegK m S ops ((i,kd)::r) l h C:=
 RegK.rd (v:= .int .i64 (z.tmod w)) ho hw (ja5 ex.eq ey.eq (by simp) (by
  simp only [binOp,Op.intDiv,if_neg h0]
  rfl)) q
end
theorem mulB {x y a b:Int} (hx: -a≤x∧x≤a) (hy: -b≤y∧y≤b): -(a*b)≤x*y∧x*y≤a*b:=by
 have h1:x.natAbs≤a.toNat:=by omega
 have h2:y.natAbs≤b.toNat:=by omega
 have h3:=Nat.mul_le_mul h1 h2
 rw [←Int.natAbs_mul] at h3
 have h4:((a.toNat*b.toNat:Nat):Int)=a*b:=by rw [Int.natCast_mul,Int.toNat_of_nonneg (by omega),Int.toNat_of_nonneg (by omega)]
 omega
theorem divs {x y:Int} (hy:0<y):((x/y)*y≤x∧x<(x/y)*y+y)∧((x.tdiv y=x/y∧x.tmod y=x-(x/y)*y∧0≤x)∨(x<0∧x.tdiv y=x/y∧x=(x/y)*y∧x.tmod y=0)∨(x<0∧x.tdiv y=x/y+1∧x.tmod y=x-(x/y)*y-y)):=by
 have h1:=Int.mul_ediv_add_emod x y
 have h2:=Int.emod_nonneg x (show y≠0 by omega)
 have h3:=Int.emod_lt_of_pos x hy
 have h4:y*(x/y)=(x/y)*y:=Int.mul_comm _ _
 have h5:=Int.mul_tdiv_add_tmod x y
 have h6:x.tdiv y=x/y+if 0≤x∨y∣x then 0 else y.sign:=Int.tdiv_eq_ediv
 refine ⟨⟨by omega,by omega⟩,?_⟩
 by_cases hx:0≤x
 ·rw [if_pos (.inl hx)] at h6
  rw [h6,Int.add_zero] at h5⊢
  exact .inl ⟨rfl,by omega,hx⟩
 ·by_cases hd:y∣x
  ·rw [if_pos (.inr hd)] at h6
   rw [h6,Int.add_zero] at h5⊢
   have:x%y=0:=Int.emod_eq_zero_of_dvd hd
   exact .inr (.inl ⟨by omega,rfl,by omega,by omega⟩)
  ·rw [if_neg (by rintro (h|h);exact hx h;exact hd h),Int.sign_eq_one_of_pos hy] at h6
   have h7:y*(x/y+1)=(x/y)*y+y:=by rw [Int.mul_add,Int.mul_one,h4]
   rw [h6] at h5⊢
   exact .inr (.inr ⟨by omega,rfl,by omega⟩)
theorem jgc {x y:Int} (hy:0<y) {b:Int} (hx: -b≤x∧x≤b): -b≤x/y∧x/y≤b:=by
 constructor
 ·refine Int.le_ediv_of_mul_le hy ?_
  have:0≤b:=by omega
  have:=Int.mul_le_mul_of_nonneg_left (show 1≤y by omega) this
  have e: -b*y= -(b*y):=Int.neg_mul _ _
  omega
 ·rcases Int.lt_or_le x 0 with h|h
  ·have:=Int.ediv_neg_of_neg_of_pos h hy
   omega
  ·have:=Int.ediv_le_self y h
   omega
theorem f185_c (m:Md Tryz.prog B) (h:Hp) (x y:Int) (hx: -10000000≤x∧x≤10000000) (hy:0<y∧y≤1000):FnC m 185 #[.int .i64 x,.int .i64 y] h fun v h'=>h'=h∧v= .int .i64 (jje x y):=by
 refine jad Tryz.func185 rfl rfl (l:=(.int .i64 x)::(.int .i64 y)::uu15) rfl ?_
 intro cf cs K hK
 refine d82 ?_;refine d69 ?_
 have hds:=divs (x:=x) hy.1
 have hdb:=jgc (x:=x) hy.1 hx
 have hq: -10000001≤x.tdiv y∧x.tdiv y≤10000001:=by omega
 refine k_quoZ rfl zq (by omega) (by unfold In64;omega) ?_;refine d10 ?_;refine rs5 ?_;refine d3 ?_
 have hmb:=mulB hq (show-1000≤y∧y≤1000 by omega)
 have hme:(x.tdiv y)*y=x-x.tmod y:=by have:=Int.mul_tdiv_add_tmod x y;rw [Int.mul_comm] at this;omega
 refine jhp rfl zq (by unfold In64;omega) ?_;refine mq rfl ?_;refine jbz rfl zq (fun hc=>?_) (fun hc=>?_)
 ·refine d7 ?_;refine d161 ?_;refine aq rfl ?_;refine d86 ?_
  refine jab (h) rfl Tryz.func185 rfl jaa ?_;refine hK _ _ ?_;refine ⟨rfl,?_⟩
  unfold jje
  congr 2
  omega
 ·refine d9 ?_;refine d86 ?_
  refine jab (h) rfl Tryz.func185 rfl jaa ?_;refine hK _ _ ?_;refine ⟨rfl,?_⟩
  unfold jje
  congr 2
  omega
theorem f156_c (m:Md Tryz.prog B) (h:Hp) (rdp:Rp B h b pp np cp) (hp:np≤1000) {p:Option Addr} {n c:Nat} {xs:List Int} (rd:RdS B h 1 (.slice p n c) n (ints xs)) (hn:n≤1000) (hln:np≤n) (hpo:PtsOk b.pts) (hs:SmL xs) (x:Int) (hx:(b.pts.getD 0 default).h≤x∧x≤(b.pts.getD (np-1) default).h):FnC m 156 #[fbV b pp np cp pt nt ct pk nk ck,.slice p n c,.int .i64 x] h fun v h'=>h'=h∧v= .int .i64 (atI b.pts xs x):=by
 have hml:=rdp.elen (by decide)
 have hll:=rd.ilen
 have hnp2:=hpo.two
 have hnp5:=hpo.five
 refine jad Tryz.func156 rfl rfl (l:=(fbV b pp np cp pt nt ct pk nk ck)::(.slice p n c)::(.int .i64 x)::uu54) rfl ?_
 intro cf cs K hK
 refine rs2 ?_;refine jaq rfl zq (fun q3=>k_hp (jac ?_));refine aq rfl ?_;refine d67 ?_;refine jaS ?_
 refine jag (fun nn l h'=> ∃(i:Nat),nn=np-i∧(i+1<np)∧(∀k,k<i→(b.pts.getD (k+1) default).h<x)∧(∃U:Nat→Value,l=((fbV b pp np cp pt nt ct pk nk ck)::(.slice p n c)::(.int .i64 x)::(.pointer (some ⟨q3,0,none⟩))::(U 4)::(U 5)::(U 6)::(.int .i64 (i:Int))::vw49 U 8 []))∧h++[⟨true,q3,.cells (fbL b pp np cp pt nt ct pk nk ck).toArray 26 (0,0)⟩]=h') _ ⟨0,rfl,by omega,fun k hk=>by omega,exU rfl,rfl⟩ ?_;rintro nn l h' ⟨i,rfl,hi,hlow,⟨U,rfl⟩,rfl⟩ hnext;refine jak ?_;refine rs9 ?_;refine d1 ?_;refine d4 ?_;obtain ⟨rdp_b,rdp_o,rfl⟩:=rdp.ptr (by omega)
 refine d15 ?_
 refine k_ld rfl zq (rdp.fat (v:= .int .i64 (b.pts.getD (i+1) default).h) (i+1) 0 (by omega) (by omega) rfl) ?_;refine mq rfl ?_
 refine jap rfl zq (fun hc=>?_) (fun hc=>?_)
 ·refine d7 ?_;refine d124 ?_;refine rr3 ?_;refine d4 ?_;refine d35 ?_
  exact m.weak jaa (hnext _ _ _ (by omega) ⟨i+1,rfl,by
   rcases Nat.lt_or_ge (i+1+1) np with h3|h3
   ·exact h3
   ·have:np-1=i+1:=by omega
    rw [this] at hx
    omega,fun k hk=>by
   rcases Nat.lt_or_ge k i with h3|h3
   ·exact hlow k h3
   ·obtain rfl:k=i:=by omega
    assumption,exU rfl,rfl⟩)
 ·refine d41 ?_;refine jak ?_
  have hseg:segN b.pts x=i:=jlD (by omega) hlow (by omega)
  have ha:=hpo.at (show i<b.pts.length by omega)
  have hb:=hpo.at (show i+1<b.pts.length by omega)
  have hup:=hpo.up i (by omega)
  have hl0:=hs i
  have hl1:=hs (i+1)
  have hxi:(b.pts.getD i default).h≤x:=by
   rcases Nat.eq_zero_or_pos i with h3|h3
   ·rw [h3];exact hx.1
   ·have:=hlow (i-1) (by omega);rw [show i-1+1=i by omega] at this;omega
  have hmul:=mulB (x:=xs.getD (i+1) 0-xs.getD i 0) (y:=x-(b.pts.getD i default).h) (a:=959) (b:=959) (by omega) (by omega)
  refine jah [(0,.pure),(2,.pure),(6,.pure),(8,.pure),(9,.pure),(1,.read),(3,.pure),(4,.pure),(5,.read),(13,.pure),(7,.read),(10,.pure),(11,.pure),(12,.read),(14,.pure)] (by kernel_rfl) (by kernel_rfl) (List.Sublist.refl _) ?_;refine d61 ?_;(first|refine jcc rfl zq ?_|refine k_fa rfl zq ?_);refine d4 ?_;refine d182 ?_
  refine k_ld rfl zq (rdp.fat (v:= .int .i64 (b.pts.getD i default).h) i 0 (by omega) (by omega) rfl) ?_;refine k_as rfl zq ?_;refine d182 ?_;refine k_ld rfl zq (rdp.fat (v:= .int .i64 (b.pts.getD (i+1) default).h) (i+1) 0 (by omega) (by omega) rfl) ?_;refine d10 ?_
  refine jah [(0,.pure),(1,.pure),(2,.pure),(4,.pure),(5,.pure),(6,.pure),(7,.pure),(9,.pure),(10,.pure),(11,.pure),(14,.pure),(15,.pure),(16,.pure),(18,.pure),(19,.pure),(20,.pure),(3,.read),(8,.read),(12,.read),(13,.pure),(17,.pure),(21,.keep),(22,.pure),(23,.pure)] (by kernel_rfl) (by kernel_rfl) (List.Sublist.refl _) ?_;refine d3 ?_
  obtain ⟨rd_b,rd_o,rfl⟩:=rd.ptr (by omega)
  refine jaJ rfl zq (by first|rfl|assumption) (by omega) (by omega) ?_;refine d133 ?_;refine jaJ rfl zq (by first|rfl|assumption) (by omega) (by omega) ?_;refine d11 ?_;refine d29 ?_;refine d29 ?_;refine k_ld rfl zq (rd.iat i (by omega) (by omega)) ?_;refine k_ld rfl zq (rd.iat (i+1) (by omega) (by omega)) ?_;refine k_ld rfl zq (rd.iat i (by omega) (by omega)) ?_;refine jcj rfl zq (by unfold In64;omega) ?_;refine jhp rfl zq (by unfold In64;omega) ?_;refine jae (Post:=fun v=>v=_) rfl zq (by kernel_rfl) (fun H' hH=>f185_c m H' _ _ (by omega) (by omega)) ?_;rintro v rfl;refine jac ?_;have hdn:=jgc (x:=(xs.getD (i+1) 0-xs.getD i 0)*(x-(b.pts.getD i default).h)) (y:=(b.pts.getD (i+1) default).h-(b.pts.getD i default).h) (by omega) (b:=959*959) hmul
  unfold jje
  refine d109 ?_
  refine jab (h) rfl Tryz.func156 rfl jaa ?_;refine hK _ _ ?_;refine ⟨rfl,?_⟩
  unfold atI
  rw [hseg];rfl
end Go.Proofs
