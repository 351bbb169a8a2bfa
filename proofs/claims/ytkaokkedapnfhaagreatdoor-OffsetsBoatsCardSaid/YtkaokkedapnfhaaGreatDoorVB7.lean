/- A part of the proof of a law. Condition of each theorem: as its statement says. -/
import Derived.Test.YtkaokkedapnfhaaGreatDoorVB6
set_option linter.all false
variable {B:Array Go.Obj} {P:Go.Program} {a:Int} {b:Go.Lo.Tb} {k i j bk n a1 b1 e q mm ns ks nw cw nb cb:Nat} {cs l junk l':List Go.Value} {h S h' H A X F M:Go.Lo.Hp} {ys xs v mo:List Int} {ops:Array Go.Oper} {C:List Go.Value→Go.Lo.Hp→Prop} {kd:Go.Lo.Kd} {r:List (Nat×Go.Lo.Kd)} {d:Option Go.Tmp} {ty t u:Go.TypeId} {pos:String} {af:Array Go.Edge} {g:Option (Nat×Bool)} {y:Go.Operand} {k':Go.IntKind} {s:Go.Lo.Str} {f:Nat×Nat} {p pa ps pw pb pl:Option Go.Addr} {ss:List Go.Lo.Str} {ls lns:List Go.Lo.Ln}
set_option maxHeartbeats 4000000
set_option maxRecDepth 100000
set_option synthInstance.maxHeartbeats 1000000
set_option synthInstance.maxSize 100000
namespace Go.Proofs
open Go.Lo
open Go.Conc (G)
section
theorem jeZ {m:Md P B} (C:List Value→Hp→Prop) {a b2:Code} {b:Frame} {ds:List Deferred} {k:List Item} {cs:List Frame} {K:Goroutine→Hp→Prop}
  (t:m.R (fun g' h'=>(∃l',g'=Gr b l' ds (.code b2::k) cs∧C l' h')∨m.R K g' h') (Gr b l ds (.code a:: .code b2::k) cs) h) (n: ∀l' h',C l' h'→m.R K (Gr b l' ds (.code b2::k) cs) h'):m.R K (Gr b l ds (.code (.seq a b2)::k) cs) h:=
 jce (m.bind t fun g' h' x=>by
  rcases x with ⟨l',e,c⟩|x
  ·rw [e];exact n l' h' c
  ·exact x)
theorem SortR.swapOut {a c:Nat} (h:SortR ys a c) (hi:c≤i) (hj:c≤j) (h1:i<ys.length) (h2:j<ys.length):SortR (jbj ys i j) a c:=fun p q e1 e2 e3=>by
 rw [jbd h1 h2,jbd h1 h2,if_neg zO,if_neg zO,if_neg zO,if_neg zO];exact h p q e1 e2 e3
theorem f130_c (m:Md Tryz.prog B) (h:Hp) {c:Nat} (hl:xs.length=n) (hn:n≤100000) (a b:Nat) (hab:a<b) (hb:b≤n) (hlow:Low xs a b):FnC m 130 #[.slice (some ⟨bk,0,none⟩) n c,.int .i64 (a:Int),.int .i64 (b:Int)] (h++[jbl bk xs junk]) fun v h'=> ∃(t:Bool) (ys:List Int),v= .bool t∧h'=h++[jbl bk ys junk]∧Sw a b xs ys∧(t=true→SortR ys a b):=by
 refine jae Tryz.func130 rfl rfl (l:=(.slice (some ⟨bk,0,none⟩) n c)::(.int .i64 (a:Int))::(.int .i64 (b:Int))::jpO) rfl ?_
 intro cf cs K hK
 refine Z16 ?_
 refine jaf (fun nn l h'=> ∃(cnt i:Nat) (ys:List Int),nn=5-cnt∧(cnt≤5)∧(a<i)∧(i≤b)∧(Sw a b xs ys)∧(SortR ys a i)∧(∃U:Nat→Value,l=((.slice (some ⟨bk,0,none⟩) n c)::(.int .i64 (a:Int))::(.int .i64 (b:Int))::vw4 U 3 ((.int .i64 (i:Int))::(.int .i64 (cnt:Int))::jmy U 9 [])))∧h++[jbl bk ys junk]=h') _ ⟨0,a+1,xs,rfl,by omega,by omega,by omega,.refl _,fun p q h1 h2 h3=>by omega,exU rfl,rfl⟩ ?_;rintro nn l h' ⟨cnt,i,ys,rfl,hcnt,hi1,hi2,hsw,hso,⟨U,rfl⟩,rfl⟩ hnext1;have hyl:=hsw.length
 refine Z4 ?_
 refine jak rfl zq (fun hc=>?_) (fun hc=>?_)
 ·refine Z3 ?_
  refine jeZ (fun l' h'=> ∃(i1:Nat) (vs:List Int),a<i1∧i1≤b∧Sw a b xs vs∧SortR vs a i1∧(∃U:Nat→Value,l'=((.slice (some ⟨bk,0,none⟩) n c)::(.int .i64 (a:Int))::(.int .i64 (b:Int))::vw4 U 3 ((.int .i64 (i1:Int))::(.int .i64 (cnt:Int))::jmy U 9 [])))∧h++[jbl bk vs junk]=h') ?_ ?_
  ·refine Z3 ?_
   refine jaf (fun nn l h'=> ∃(i1:Nat),nn=b-i1∧(a<i1)∧(i1≤b)∧(SortR ys a i1)∧(∃U:Nat→Value,l=((.slice (some ⟨bk,0,none⟩) n c)::(.int .i64 (a:Int))::(.int .i64 (b:Int))::vw4 U 3 ((.int .i64 (i1:Int))::(.int .i64 (cnt:Int))::jmy U 9 [])))∧h++[jbl bk ys junk]=h') _ ⟨i,rfl,by omega,by omega,hso,exU rfl,rfl⟩ ?_;rintro nn l h' ⟨i1,rfl,hi3,hi4,hso2,⟨U,rfl⟩,rfl⟩ hnext2;refine Z2 ?_
   refine jcu (fun l' h'=> ∃t:Bool,(∃U:Nat→Value,l'=((.slice (some ⟨bk,0,none⟩) n c)::(.int .i64 (a:Int))::(.int .i64 (b:Int))::vw4 U 3 ((.int .i64 (i1:Int))::(.int .i64 (cnt:Int))::vw23 U 9 ((.bool t)::vw100 U 33 []))))∧h'=h++[jbl bk ys junk]∧(t=true↔i1<b∧ ¬ys.getD i1 0<ys.getD (i1-1) 0)) [Zp 0,Zp 1,Zp 2,Zp 3,Zp 4,Zp 5,Zp 6,Zp 8,Zp 9,Zp 10,Zp 11,Zr 7,Zr 12,Zk 13,Zp 14,Zp 15] zK zK (gE _) ?_ ?_
   ·refine Z2 ?_
    refine jak rfl zq (fun hc=>?_) (fun hc=>?_)
    ·refine Z3 ?_;refine D5 ?_;refine Z2 ?_;refine D100 ?_;refine D5 ?_;refine jaI rfl rfl (jaC (i1) zO zO) ?_;refine jaI rfl rfl (jaC (i1-1) zO zO) ?_;refine D16 ?_
     rintro v (⟨hc,rfl⟩|⟨hc,rfl⟩);refine jpD ?_
     rotate_left
     refine D135 ?_
     all_goals
      refine Z2 ?_
      exact E15
    ·refine Z14 ?_
     exact E15
   ·rintro l' h' ⟨t,⟨U,rfl⟩,rfl,ht⟩;cases t
    ·have hcf: ¬(i1<b∧ ¬ys.getD i1 0<ys.getD (i1-1) 0):=fun e=>absurd (ht.2 e) zA
     refine Z7 ?_
     refine jaA rfl zq (fun hc=>?_) (fun hc=>?_)
     ·refine Z6 ?_
      refine Md.stop _ (.inr ?_)
      refine Zs ?_;refine D123 ?_;refine Zs ?_
      exact E17
     ·refine Z9 ?_
      refine jak rfl zq (fun hc=>?_) (fun hc=>?_)
      ·refine Z6 ?_
       refine Md.stop _ (.inr ?_)
       refine Zs ?_;refine D123 ?_;refine Zs ?_
       exact E17
      ·refine Z4 ?_;refine D12 ?_;refine Z8 ?_;refine jow ?_;refine jaI rfl zq (jaC (i1-1) zO zO) ?_;refine jaI rfl zq (jaC (i1) zO zO) ?_;refine D0 ?_
       haveI hs1:=setSeg_ints (xs:=ys) (junk:=junk) (v:=ys.getD (i1-1) 0) (i:=(i1:Int)) (k:=i1) zO zO
       refine jmu ?_
       haveI hs2:=setSeg_ints (xs:=ys.set (i1) (ys.getD (i1-1) 0)) (junk:=junk) (v:=ys.getD (i1) 0) (i:=(i1:Int)-1) (k:=i1-1) zO zN
       refine D9 ?_
       rw [jby];refine Zs ?_
       refine jeZ (fun l' h'=> ∃us:List Int,Sw a b xs us∧SortR us a i1∧(∃U:Nat→Value,l'=((.slice (some ⟨bk,0,none⟩) n c)::(.int .i64 (a:Int))::(.int .i64 (b:Int))::vw4 U 3 ((.int .i64 (i1:Int))::(.int .i64 (cnt:Int))::jmy U 9 [])))∧h++[jbl bk us junk]=h') ?_ ?_
       ·refine Zs ?_
        have hswy:Sw a b xs (jbj ys i1 (i1-1)):= .step i1 (i1-1) ⟨by omega,by omega⟩ ⟨by omega,by omega⟩ hsw
        have hsoy:SortR (jbj ys i1 (i1-1)) a (i1-1):=SortR.swapOut (fun p q h1 h2 h3=>hso2 p q h1 h2 zO) zO zO zO zO
        generalize jbj ys i1 (i1-1)=y1 at hswy hsoy⊢
        refine Z4 ?_
        refine jbG rfl zq (fun hc=>?_) (fun hc=>?_)
        ·refine Z9 ?_
         refine jaf (fun nn l h'=> ∃(j:Nat) (z:Int) (zs:List Int),nn=j+1∧(z=(j:Int))∧(a≤j)∧(j≤i1-1)∧(Sw a b xs zs)∧(Ins zs a (i1-1) j)∧(∃U:Nat→Value,l=((.slice (some ⟨bk,0,none⟩) n c)::(.int .i64 (a:Int))::(.int .i64 (b:Int))::vw4 U 3 ((.int .i64 (i1:Int))::(.int .i64 (cnt:Int))::(.int .i64 z)::vw123 U 10 [])))∧h++[jbl bk zs junk]=h') _ ⟨i1-1,(i1:Int)-1,y1,rfl,by omega,by omega,by omega,hswy,Ins.start hsoy,exU rfl,rfl⟩ ?_;rintro nn l h' ⟨j,z,zs,rfl,hz,hj1,hj2,hzw,hin,⟨U,rfl⟩,rfl⟩ hnext3;have hzl:=hzw.length
         refine Z4 ?_
         refine jbG rfl zq (fun hc=>?_) (fun hc=>?_)
         ·refine Z7 ?_
          refine jcu (fun l' h'=> ∃t:Bool,(∃U:Nat→Value,l'=((.slice (some ⟨bk,0,none⟩) n c)::(.int .i64 (a:Int))::(.int .i64 (b:Int))::vw4 U 3 ((.int .i64 (i1:Int))::(.int .i64 (cnt:Int))::(.int .i64 z)::vw68 U 10 ((.bool t)::vw54 U 79 []))))∧h'=h++[jbl bk zs junk]∧(t=true↔ ¬zs.getD j 0<zs.getD (j-1) 0)) [Zp 0,Zp 1,Zp 2,Zp 4,Zp 5,Zp 6,Zp 7,Zr 3,Zr 8,Zk 9,Zp 10] zK zK (gE _) ?_ ?_
          ·refine jpE ?_;refine Z3 ?_;refine D0 ?_;refine jaI rfl zq (jaC (j) zO zO) ?_;refine D93 ?_;refine D46 ?_
           rintro v (⟨hc,rfl⟩|⟨hc,rfl⟩);refine Z2 ?_
           rotate_left
           refine Z2 ?_
           all_goals
            refine Zs ?_
            exact E15
          ·rintro l' h' ⟨t,⟨U,rfl⟩,rfl,ht⟩;cases t
           ·have hcf: ¬(¬zs.getD j 0<zs.getD (j-1) 0):=fun e=>absurd (ht.2 e) zA
            refine Z2 ?_
            have haj:a<j:=by
             rcases Gf a j with h0|h0
             ·exact h0
             ·rcases hlow.sw hzw zO with h1|h1
              ·omega
              ·have:=h1 j zO zO
               rw [show a-1=j-1 by omega] at this
               omega
            refine D12 ?_;refine Z8 ?_;refine jow ?_;refine D93 ?_;refine jaI rfl zq (jaC (j) zO zO) ?_;refine D0 ?_
            haveI hs1:=setSeg_ints (xs:=zs) (junk:=junk) (v:=zs.getD (j-1) 0) (i:=z) (k:=j) zO zO
            refine jmu ?_
            haveI hs2:=setSeg_ints (xs:=zs.set (j) (zs.getD (j-1) 0)) (junk:=junk) (v:=zs.getD (j) 0) (i:=z-1) (k:=j-1) zO zN
            refine D9 ?_
            rw [jby];refine Z7 ?_
            exact m.weak jaa (hnext3 _ _ _ zO ⟨j-1,z-1,jbj zs j (j-1),rfl,by omega,by omega,by omega,.step j (j-1) ⟨by omega,by omega⟩ ⟨by omega,by omega⟩ hzw,hin.step haj zO zO zO,exU rfl,rfl⟩)
           ·have hct:=ht.1 rfl
            refine Z2 ?_
            refine Md.stop _ (.inl ⟨_,rfl,?_⟩)
            first
             |exact E19
             |exact E20
         ·refine Z3 ?_
          refine Md.stop _ (.inl ⟨_,rfl,?_⟩)
          first
           |exact E19
           |exact E20
        ·refine Z3 ?_
         refine Md.stop _ (.inl ⟨_,rfl,?_⟩)
         first
          |exact E19
          |exact E20
       ·rintro l' h' ⟨us,hsw4,hso4,⟨U,rfl⟩,rfl⟩;have hul:=hsw4.length
        refine Z5 ?_
        refine jbG rfl zq (fun hc=>?_) (fun hc=>?_)
        ·refine Z9 ?_
         refine jaf (fun nn l h'=> ∃(j2:Nat) (vs:List Int),nn=b-j2∧(i1+1≤j2)∧(j2≤b)∧(Sw a b xs vs)∧(SortR vs a i1)∧(∃U:Nat→Value,l=((.slice (some ⟨bk,0,none⟩) n c)::(.int .i64 (a:Int))::(.int .i64 (b:Int))::vw4 U 3 ((.int .i64 (i1:Int))::(.int .i64 (cnt:Int))::(U 9)::(.int .i64 (j2:Int))::vw122 U 11 [])))∧h++[jbl bk vs junk]=h') _ ⟨i1+1,us,rfl,by omega,by omega,hsw4,hso4,exU rfl,rfl⟩ ?_;rintro nn l h' ⟨j2,vs,rfl,hj3,hj4,hvw,hvo,⟨U,rfl⟩,rfl⟩ hnext4;have hvl:=hvw.length
         refine Z5 ?_
         refine jak rfl zq (fun hc=>?_) (fun hc=>?_)
         ·refine Z7 ?_
          refine jcu (fun l' h'=> ∃t:Bool,(∃U:Nat→Value,l'=((.slice (some ⟨bk,0,none⟩) n c)::(.int .i64 (a:Int))::(.int .i64 (b:Int))::vw4 U 3 ((.int .i64 (i1:Int))::(.int .i64 (cnt:Int))::(U 9)::(.int .i64 (j2:Int))::vw105 U 11 ((.bool t)::vw16 U 117 []))))∧h'=h++[jbl bk vs junk]∧(t=true↔ ¬vs.getD j2 0<vs.getD (j2-1) 0)) [Zp 0,Zp 1,Zp 2,Zp 4,Zp 5,Zp 6,Zp 7,Zr 3,Zr 8,Zk 9,Zp 10] zK zK (gE _) ?_ ?_
          ·refine jpE ?_;refine Z3 ?_;refine D0 ?_;refine jaI rfl zq (jaC (j2) zO zO) ?_;refine jaI rfl zq (jaC (j2-1) zO zO) ?_;refine D46 ?_
           rintro v (⟨hc,rfl⟩|⟨hc,rfl⟩);refine Z2 ?_
           rotate_left
           refine Z2 ?_
           all_goals
            refine Zs ?_
            exact E15
          ·rintro l' h' ⟨t,⟨U,rfl⟩,rfl,ht⟩;cases t
           ·have hcf: ¬(¬vs.getD j2 0<vs.getD (j2-1) 0):=fun e=>absurd (ht.2 e) zA
            refine Z2 ?_;refine D12 ?_;refine Z8 ?_;refine jow ?_;refine jaI rfl zq (jaC (j2-1) zO zO) ?_;refine jaI rfl zq (jaC (j2) zO zO) ?_;refine D0 ?_
            haveI hs1:=setSeg_ints (xs:=vs) (junk:=junk) (v:=vs.getD (j2-1) 0) (i:=(j2:Int)) (k:=j2) zO zO
            refine jmu ?_
            haveI hs2:=setSeg_ints (xs:=vs.set (j2) (vs.getD (j2-1) 0)) (junk:=junk) (v:=vs.getD (j2) 0) (i:=(j2:Int)-1) (k:=j2-1) zO zN
            refine D9 ?_
            rw [jby];refine Z7 ?_
            exact m.weak jaa (hnext4 _ _ _ zO ⟨j2+1,jbj vs j2 (j2-1),rfl,by omega,by omega,.step j2 (j2-1) ⟨by omega,by omega⟩ ⟨by omega,by omega⟩ hvw,SortR.swapOut hvo zO zO zO zO,exU rfl,rfl⟩)
           ·have hct:=ht.1 rfl
            refine Z3 ?_
            refine Md.stop _ (.inl ⟨_,rfl,?_⟩)
            exact E21
         ·refine Z4 ?_
          refine Md.stop _ (.inl ⟨_,rfl,?_⟩)
          exact E21
        ·refine Z4 ?_
         refine Md.stop _ (.inl ⟨_,rfl,?_⟩)
         exact E21
    ·have hct:=ht.1 rfl
     refine Z9 ?_
     exact m.weak jaa (hnext2 _ _ _ zO ⟨i1+1,rfl,by omega,by omega,SortR.snoc hso2 zO zO,exU rfl,rfl⟩)
  ·rintro l' h' ⟨i1,vs,hx1,hx2,hvw,hvo,⟨U,rfl⟩,rfl⟩;refine Z5 ?_
   exact m.weak jaa (hnext1 _ _ _ zO ⟨cnt+1,i1,vs,rfl,by omega,by omega,by omega,hvw,hvo,exU rfl,rfl⟩)
 ·refine Z8 ?_;refine D123 ?_;refine Zs ?_
  exact E17
section
variable {m:Md P B}
def tabB (s:ByteArray):Bool:=(List.range 256).all fun j=>match s.data[j]? with|some b=>decide (j=0∨2^b.toNat≤2*j)|none=>true
theorem k_ixT {x:Operand} {s:ByteArray} {k:IntKind} (ho:ops[i]?=some ⟨d,.index t x y,ty,pos,af,g⟩) (hw:Wt ops l g) [KHeap kd S h H] [ex:OpV l x (.string s)] [ey:OpV l y (.int k (j:Int))] (ht:P.underlying t=some .string) (hs:s.size=256) (hT:tabB s=true) (h1:j<256)
  (q: ∀b:UInt8,(j=0∨2^b.toNat≤2*j)→RegK m S ops r (put l d (.int .u8 b.toNat)) h C):RegK m S ops ((i,kd)::r) l h C:=by
 have hlt:j<s.size:=by omega
 have hb:=gX.1 hT j (gT.2 h1)
 have hg:s.data[j]?=some (s[j]'hlt):=by rw [gR (show j<s.data.size from hlt)];rfl
 rw [hg] at hb
 refine RegK.rd (v:= .int .u8 (s[j]'hlt).toNat) (l':=put l d _) ho hw ?_ (p:=⟨rfl⟩) (q _ (of_decide_eq_true hb))
 simp only [execOp,ex.eq,ey.eq]
 refine Reads.value ?_
 unfold Instr.index
 refine Reads.bind (a:=(k,(j:Int))) (Reads.pure _) ?_;refine Reads.bind (jai ht).reads ?_
 have h0:(0:Int)≤(j:Int):=by omega
 simp only [h0,if_true,gb]
 have:s[j]?=some (s[j]'hlt):=by rw [getElem?_pos s j hlt]
 simp only [this]
 exact Reads.pure _
theorem wrap64 (n:Int):0≤IntKind.wrap .u64 n∧IntKind.wrap .u64 n<18446744073709551616:=by
 unfold IntKind.wrap
 simp [IntKind.bits,IntKind.signed]
 omega
theorem jq5 {x:Operand} {b:Int} (ho:ops[i]?=some ⟨d,.binOp .xor t x y u,ty,pos,af,g⟩) (hw:Wt ops l g) [KHeap kd S h H] [ex:OpV l x (.int .u64 a)] [ey:OpV l y (.int .u64 b)]
  (q: ∀v:Int,0≤v∧v<18446744073709551616→RegK m S ops r (put l d (.int .u64 v)) h C):RegK m S ops ((i,kd)::r) l h C:=
 RegK.rd (v:= .int .u64 (IntKind.wrap .u64 ((BitVec.ofInt 64 a^^^BitVec.ofInt 64 b).toNat:Int))) (l':=put l d _) (p:=⟨rfl⟩) ho hw (jaY ex.eq ey.eq zS rfl) (q _ (wrap64 _))
theorem k_andU {x:Operand} {b:Int} (ho:ops[i]?=some ⟨d,.binOp .and t x y u,ty,pos,af,g⟩) (hw:Wt ops l g) [KHeap kd S h H] [ex:OpV l x (.int .u64 a)] [ey:OpV l y (.int .u64 b)] (hb:0≤b∧b<18446744073709551616)
  (q: ∀v:Int,0≤v∧v≤b→RegK m S ops r (put l d (.int .u64 v)) h C):RegK m S ops ((i,kd)::r) l h C:=
 RegK.rd (v:= .int .u64 (IntKind.wrap .u64 ((BitVec.ofInt 64 a&&&BitVec.ofInt 64 b).toNat:Int))) (l':=put l d _) (p:=⟨rfl⟩) ho hw (jaY ex.eq ey.eq zS rfl) (q _ ⟨(wrap64 _).1,by
  have h1:(BitVec.ofInt 64 a&&&BitVec.ofInt 64 b).toNat≤(BitVec.ofInt 64 b).toNat:=by rw [BitVec.toNat_and];exact Nat.and_le_right
  have h2:((BitVec.ofInt 64 b).toNat:Int)=b:=by
   rw [BitVec.toNat_ofInt,Int.toNat_of_nonneg (Int.emod_nonneg _ zA)];exact Int.emod_eq_of_lt hb.1 hb.2
  generalize (BitVec.ofInt 64 a&&&BitVec.ofInt 64 b).toNat=z at h1
  unfold IntKind.wrap
  simp [IntKind.bits,IntKind.signed]
  omega⟩)
theorem jq6 {x:Operand} {b:Int} (ho:ops[i]?=some ⟨d,.binOp .shl t x y u,ty,pos,af,g⟩) (hw:Wt ops l g) [KHeap kd S h H] [ex:OpV l x (.int .u64 a)] [ey:OpV l y (.int k' b)] (h0:0≤b)
  (q: ∀v:Int,v=IntKind.wrap .u64 (a*2^(min b.toNat 64))→RegK m S ops r (put l d (.int .u64 v)) h C):RegK m S ops ((i,kd)::r) l h C:=
 RegK.rd (v:= .int .u64 (IntKind.wrap .u64 (a*2^(min b.toNat 64)))) (l':=put l d _) (p:=⟨rfl⟩) ho hw (by
  simp only [execOp,ex.eq,ey.eq]
  refine Reads.value (Reads.bind (a:=()) (Reads.pure _) ?_)
  show Reads P B (Op.shift .shl .u64 a k' b) H _
  unfold Op.shift
  rw [if_neg zO];exact Reads.pure _) (q _ rfl)
theorem k_shrU {x:Operand} {b:Int} (ho:ops[i]?=some ⟨d,.binOp .shr t x y u,ty,pos,af,g⟩) (hw:Wt ops l g) [KHeap kd S h H] [ex:OpV l x (.int .u64 a)] [ey:OpV l y (.int k' b)] (h0:0≤b)
  (q: ∀v:Int,RegK m S ops r (put l d (.int .u64 v)) h C):RegK m S ops ((i,kd)::r) l h C:=
 RegK.rd (v:= .int .u64 (a.fdiv (2^(min b.toNat 64)))) (l':=put l d _) (p:=⟨rfl⟩) ho hw (by
  simp only [execOp,ex.eq,ey.eq]
  refine Reads.value (Reads.bind (a:=()) (Reads.pure _) ?_)
  show Reads P B (Op.shift .shr .u64 a k' b) H _
  unfold Op.shift
  rw [if_neg zO];exact Reads.pure _) (q _)
theorem k_nilC {x:Operand} {a:Addr} (ho:ops[i]?=some ⟨d,.nilCheck x,ty,pos,af,g⟩) (hw:Wt ops l g) [KHeap kd S h H] [ex:OpV l x (.pointer (some a))] [PutV l d (.pointer (some a)) l'] (q:RegK m S ops r l' h C):RegK m S ops ((i,kd)::r) l h C:=
 RegK.rd (v:= .pointer (some a)) ho hw (by
  simp only [execOp,ex.eq]
  exact Reads.pure _) q
end
theorem f135_l (m:Md Tryz.prog B) (h:Hp) (x:Nat) (h1:1≤x) (hx:x<65536):FnC m 135 #[.int .u64 (x:Int)] h fun v h'=>h'=h∧ ∃k:Nat,v= .int .i64 (k:Int)∧2^k≤2*x∧k≤17:=by
 refine jae Tryz.func135 rfl rfl (l:=(.int .u64 (x:Int))::uu24) rfl ?_
 intro cf cs K hK
 refine Z8 ?_
 refine jbG rfl zq (fun hc=>?_) (fun hc=>?_)
 ·exfalso
  omega
 ·refine Z7 ?_
  refine jbG rfl zq (fun hc=>?_) (fun hc=>?_)
  ·exfalso
   omega
  ·refine Z7 ?_
   refine jbG rfl zq (fun hc=>?_) (fun hc=>?_);refine Z5 ?_
   have hq:(x:Int).fdiv (2^(min (8:Int).toNat IntKind.u64.bits))=((x/256:Nat):Int):=by
    rw [VU _ zA];rfl
   refine k_shr ((x/256:Nat):Int) rfl zq zA hq ?_;refine Z7 ?_;rotate_left
   refine Z3 ?_
   all_goals
    refine Z4 ?_
    first
     |refine jdd rfl zq zK (n':=(x:Int)) zL ?_
     |refine jdd rfl zq zK (n':=((x/256:Nat):Int)) zL ?_
    refine k_ixT rfl zq zK zK zK zO (fun b8 hb8=>jad ?_);refine jdd rfl zq zK (n':=(b8.toNat:Int)) (by have:=b8.toNat_lt;unfold IntKind.wrap;simp [IntKind.bits,IntKind.signed];omega) ?_;have hb9:=b8.toNat_lt
    refine Z4 ?_;refine jac (h) rfl Tryz.func135 rfl jaa ?_;refine Zs ?_
    have h2:=hb8.resolve_left zO
    have key: ∀k:Nat,2^k≤2*x→k≤17:=fun k hk=>by
     have h3:2^k<2^17:=by
                     have:(2:Nat)^17=131072:=by decide
                     omega
     have:=(Nat.pow_lt_pow_iff_right (by decide:1<2)).1 h3
     omega
    first
     |exact ⟨rfl,b8.toNat+8,by first|rfl|(congr 1;omega),by rw [Nat.pow_add];omega,key _ (by rw [Nat.pow_add];omega)⟩
     |exact ⟨rfl,b8.toNat,by first|rfl|(congr 1;omega),h2,key _ h2⟩
theorem f97_l (m:Md Tryz.prog B) (h:Hp) (x:Nat) (h1:1≤x) (hx:x<65536):FnC m 97 #[.int .u64 (x:Int)] h fun v h'=>h'=h∧ ∃k:Nat,v= .int .i64 (k:Int)∧2^k≤2*x∧k≤17:=by
 refine jae Tryz.func97 rfl rfl (l:=(.int .u64 (x:Int))::uu7) rfl ?_
 intro cf cs K hK
 refine Z10 ?_;refine jag rfl zq zK (fun H' hH=>f135_l m H' x h1 hx) ?_
 rintro v ⟨k,rfl,hk0,hk1⟩;refine Z4 ?_;refine jac (h) rfl Tryz.func97 rfl jaa ?_;refine Zs ?_
 exact ⟨rfl,k,rfl,hk0,hk1⟩
theorem f163_c (m:Md Tryz.prog B) (h:Hp) (x:Nat) (h1:1≤x) (hx:x<65536):FnC m 163 #[.int .i64 (x:Int)] h fun v h'=>h'=h∧ ∃M:Int,v= .int .u64 M∧1≤M∧M≤2*x:=by
 refine jae Tryz.func163 rfl rfl (l:=(.int .i64 (x:Int))::uu6) rfl ?_
 intro cf cs K hK
 refine Z7 ?_;refine jdd rfl zq zK (n':=(x:Int)) zL ?_;refine jag rfl zq zK (fun H' hH=>f97_l m H' x h1 hx) ?_
 rintro v ⟨k,rfl,hk0,hk1⟩;refine Zs ?_
 refine jq6 rfl zq zO (fun M hM=>jad ?_);refine Z3 ?_;refine jac (h) rfl Tryz.func163 rfl jaa ?_;refine Zs ?_
 have hM2:M=((2^k:Nat):Int):=by
  rw [hM,gb,VY zO,Int.one_mul];unfold IntKind.wrap
  have hk3:2^k≤2*65536:=by omega
  have e:(2:Int)^k=((2^k:Nat):Int):=by push_cast;rfl
  rw [e];generalize 2^k=w at hk3⊢
  simp [IntKind.bits,IntKind.signed]
  omega
 have h2:=Nat.one_le_two_pow (n:=k)
 exact ⟨rfl,M,rfl,by omega,by omega⟩
theorem f164_c (m:Md Tryz.prog B) (h:Hp) (q:Nat) (r0:Int):FnC m 164 #[.pointer (some ⟨q,0,none⟩)] (h++[⟨true,q,.cells [.int .u64 r0].toArray 218 (0,0)⟩]) fun v h'=> ∃r1:Int,v= .int .u64 r1∧h'=h++[⟨true,q,.cells [.int .u64 r1].toArray 218 (0,0)⟩]∧0≤r1∧r1<18446744073709551616:=by
 refine jae Tryz.func164 rfl rfl (l:=(.pointer (some ⟨q,0,none⟩))::uu32) rfl ?_
 intro cf cs K hK
 refine Z5 ?_;refine D40 ?_;refine Z6 ?_
 refine jq6 rfl zq zA (fun s1 _=>jad ?_);refine jq5 rfl zq (fun x1 hx1=>jad ?_);refine Zs ?_;refine D9 ?_;refine Z2 ?_;refine D40 ?_;refine Z6 ?_
 refine k_shrU rfl zq zA (fun s2=>jad ?_);refine jq5 rfl zq (fun x2 hx2=>jad ?_);refine Zs ?_;refine D9 ?_;refine Z2 ?_;refine D40 ?_;refine Z6 ?_
 refine jq6 rfl zq zA (fun s3 _=>jad ?_);refine jq5 rfl zq (fun x3 hx3=>jad ?_);refine Zs ?_;refine D9 ?_;refine Z9 ?_;refine jac (h++[⟨true,q,.cells [.int .u64 x3].toArray 218 (0,0)⟩]) rfl Tryz.func164 rfl jaa ?_;refine Zs ?_
 exact ⟨x3,rfl,rfl,hx3.1,hx3.2⟩
section
variable {m:Md P B}
theorem k_subU {x:Operand} {b:Int} (ho:ops[i]?=some ⟨d,.binOp .sub t x y u,ty,pos,af,g⟩) (hw:Wt ops l g) [KHeap kd S h H] [ex:OpV l x (.int .u64 a)] [ey:OpV l y (.int .u64 b)] (hr:0≤a-b∧a-b<18446744073709551616) [PutV l d (.int .u64 (a-b)) l']
  (n:RegK m S ops r l' h C):RegK m S ops ((i,kd)::r) l h C:=
 RegK.rd (v:= .int .u64 (a-b)) ho hw (jaY ex.eq ey.eq zS (by
  have:IntKind.wrap .u64 (a-b)=a-b:=by
   unfold IntKind.wrap
   simp [IntKind.bits,IntKind.signed]
   omega
  simp [binOp,Op.intArith,this]
  rfl)) n
end
theorem f127_c (m:Md Tryz.prog B) (h:Hp) {c:Nat} (hl:xs.length=n) (hn:n≤100000) (hn6:n≤60000) (a b:Nat) (hab:a+12<b) (hb:b≤n):FnC m 127 #[.slice (some ⟨bk,0,none⟩) n c,.int .i64 (a:Int),.int .i64 (b:Int)] (h++[jbl bk xs junk]) fun v h'=>v= .tuple [].toArray∧ ∃ys,h'=h++[jbl bk ys junk]∧Sw a b xs ys:=by
 refine jae Tryz.func127 rfl rfl (l:=(.slice (some ⟨bk,0,none⟩) n c)::(.int .i64 (a:Int))::(.int .i64 (b:Int))::uu62) rfl ?_
 intro cf cs K hK
 refine Z5 ?_
 obtain ⟨w,hwe⟩: ∃w:Nat,(b:Int)-(a:Int)=(w:Int):=⟨b-a,by omega⟩
 have hwn:w=b-a:=by omega
 rw [hwe];refine Z5 ?_
 refine jbG rfl zq (fun hc=>?_) (fun hc=>?_)
 ·refine Z5 ?_;refine jdd rfl zq zK (n':=(w:Int)) zL ?_
  refine jaB rfl zq (fun q7=>jap (jad ?_));refine D9 ?_;refine Z4 ?_;refine jag rfl zq zK (fun H' hH=>f163_c m H' w zO zO) ?_
  rintro v ⟨M,rfl,hM1,hM2⟩;refine Z7 ?_;refine D102 ?_;refine D26 ?_;refine Z5 ?_
  refine jaf (fun nn l h'=> ∃(e:Nat) (z rr:Int) (ys:List Int),nn=100000-e∧(z=(e:Int))∧(a≤e)∧(e≤a+w/4*2+2)∧(Sw a b xs ys)∧(∃U:Nat→Value,l=((.slice (some ⟨bk,0,none⟩) n c)::(.int .i64 (a:Int))::(.int .i64 (b:Int))::(U 3)::(U 4)::(U 5)::(.int .i64 (w:Int))::(.pointer (some ⟨q7,0,none⟩))::(.int .u64 M)::(.int .i64 z)::vw55 U 10 []))∧h++[jbl bk ys junk,⟨true,q7,.cells [.int .u64 rr].toArray 218 (0,0)⟩]=h') _ ⟨a+w/4*2-1,_,(w:Int),xs,rfl,by omega,by omega,by omega,.refl _,exU rfl,rfl⟩ ?_;rintro nn l h' ⟨e,z,rr,ys,rfl,hz,he1,he2,hsw,⟨U,rfl⟩,rfl⟩ hnext;have hyl:=hsw.length
  refine Z6 ?_;refine D102 ?_;refine D26 ?_;refine Z2 ?_
  refine jbK rfl zq (fun hc=>?_) (fun hc=>?_)
  ·refine Z7 ?_;refine jbt (Post:=fun v h'=> ∃r1:Int,v= .int .u64 r1∧h'=h++[jbl bk ys junk,⟨true,q7,.cells [.int .u64 r1].toArray 218 (0,0)⟩]∧0≤r1∧r1<18446744073709551616) rfl zq zK (by have:=f164_c m (h++[jbl bk ys junk]) q7 rr;simpa [gG] using this) ?_
   rintro v h' ⟨r1,rfl,rfl,hr1,hr2⟩;refine Z2 ?_;refine k_subU rfl zq zO ?_
   refine k_andU rfl zq zO (fun v7 hv7=>jad ?_);refine jdd rfl zq zK (n':=v7) zL ?_;refine Z7 ?_;refine jbG rfl zq (fun hc=>?_) (fun hc=>?_);refine Z6 ?_
   obtain ⟨o,hoe,how⟩: ∃o:Nat,v7-(w:Int)=(o:Int)∧o<w:=⟨(v7-w).toNat,by omega,by omega⟩
   rw [hoe];refine Z2 ?_
   rotate_left
   obtain ⟨o,hoe,how⟩: ∃o:Nat,v7=(o:Int)∧o<w:=⟨v7.toNat,by omega,by omega⟩
   rw [hoe];refine Z3 ?_
   all_goals
    refine D34 ?_;refine Z10 ?_;refine jow ?_;refine jaI rfl zq (jaC (a+o) zO zO) ?_;refine jaI rfl zq (jaC (e) zO zO) ?_;refine D0 ?_
    haveI hs1:=setSeg_ints (xs:=ys) (junk:=junk) (v:=ys.getD (a+o) 0) (i:=z) (k:=e) zO zO
    refine jmu ?_
    haveI hs2:=setSeg_ints (xs:=ys.set (e) (ys.getD (a+o) 0)) (junk:=junk) (v:=ys.getD (e) 0) (i:=(a:Int)+(o:Int)) (k:=a+o) zO zN
    refine D9 ?_
    rw [jby];refine Z7 ?_
    exact m.weak jaa (hnext _ _ _ zO ⟨e+1,z+1,r1,_,rfl,by omega,by omega,by omega,.step e (a+o) ⟨by omega,by omega⟩ ⟨by omega,by omega⟩ hsw,exU rfl,rfl⟩)
  ·refine Z3 ?_;refine jcJ rfl ?_;refine jac (h++[jbl bk ys junk]) rfl Tryz.func127 rfl jaa ?_;refine Zs ?_
   exact ⟨rfl,ys,rfl,hsw⟩
 ·exfalso
  omega
theorem f177_c (m:Md Tryz.prog B) (h:Hp) {c:Nat} (hl:xs.length=n) (hn:n≤100000) (a b q:Nat) (s:Int) (hs:0≤s∧s≤1000) (ha:a<n) (hb:b<n):FnC m 177 #[.slice (some ⟨bk,0,none⟩) n c,.int .i64 (a:Int),.int .i64 (b:Int),.pointer (some ⟨q,0,none⟩)] (h++[jbl bk xs junk,⟨true,q,.cells [.int .i64 s].toArray 3 (0,0)⟩]) fun v h'=> ∃(s1:Int) (x y:Nat),v= .tuple [.int .i64 (x:Int),.int .i64 (y:Int)].toArray∧h'=h++[jbl bk xs junk,⟨true,q,.cells [.int .i64 s1].toArray 3 (0,0)⟩]∧s≤s1∧s1≤s+1∧((x=a∧y=b)∨(x=b∧y=a)):=by
 refine jae Tryz.func177 rfl rfl (l:=(.slice (some ⟨bk,0,none⟩) n c)::(.int .i64 (a:Int))::(.int .i64 (b:Int))::(.pointer (some ⟨q,0,none⟩))::uu24) rfl ?_
 intro cf cs K hK
 refine Z7 ?_;refine jan [Zp 0,Zp 1,Zp 2,Zp 4,Zp 5,Zp 6,Zr 3,Zr 7,Zk 8] zK zK (gE _) ?_;refine jpE ?_;refine jpE ?_;refine jaI rfl zq (jaC (b) zO zO) ?_;refine D77 ?_;refine D46 ?_
 rintro v (⟨hc,rfl⟩|⟨hc,rfl⟩)
 ·refine Z10 ?_;refine D9 ?_;refine Z9 ?_;refine jac (h++[jbl bk xs junk,⟨true,q,.cells [.int .i64 (s+1)].toArray 3 (0,0)⟩]) rfl Tryz.func177 rfl jaa ?_;refine Zs ?_
  exact ⟨s+1,b,a,rfl,rfl,by omega,by omega,.inr ⟨rfl,rfl⟩⟩
 ·refine Z12 ?_;refine jac (h++[jbl bk xs junk,⟨true,q,.cells [.int .i64 s].toArray 3 (0,0)⟩]) rfl Tryz.func177 rfl jaa ?_;refine Zs ?_
  exact ⟨s,a,b,rfl,rfl,by omega,by omega,.inl ⟨rfl,rfl⟩⟩
theorem f166_c (m:Md Tryz.prog B) (h:Hp) {c:Nat} (hl:xs.length=n) (hn:n≤100000) (a b c0 q:Nat) (s:Int) (hs:0≤s∧s≤900) (ha:a<n) (hb:b<n) (hc:c0<n):FnC m 166 #[.slice (some ⟨bk,0,none⟩) n c,.int .i64 (a:Int),.int .i64 (b:Int),.int .i64 (c0:Int),.pointer (some ⟨q,0,none⟩)] (h++[jbl bk xs junk,⟨true,q,.cells [.int .i64 s].toArray 3 (0,0)⟩]) fun v h'=> ∃(s1:Int) (y:Nat),v= .int .i64 (y:Int)∧h'=h++[jbl bk xs junk,⟨true,q,.cells [.int .i64 s1].toArray 3 (0,0)⟩]∧s≤s1∧s1≤s+3∧(y=a∨y=b∨y=c0):=by
 refine jae Tryz.func166 rfl rfl (l:=(.slice (some ⟨bk,0,none⟩) n c)::(.int .i64 (a:Int))::(.int .i64 (b:Int))::(.int .i64 (c0:Int))::(.pointer (some ⟨q,0,none⟩))::uu31) rfl ?_
 intro cf cs K hK
 refine Z10 ?_;refine jbt rfl zq zK (f177_c m h hl hn a b q s zO zO zO) ?_
 rintro v h' ⟨s1,x1,y1,rfl,rfl,hs1a,hs1b,hxy1⟩;refine Z13 ?_;refine jbt rfl zq zK (f177_c m h hl hn y1 c0 q s1 zO zO zO) ?_
 rintro v h' ⟨s2,x2,y2,rfl,rfl,hs2a,hs2b,hxy2⟩;refine Z13 ?_;refine jbt rfl zq zK (f177_c m h hl hn x1 x2 q s2 zO zO zO) ?_
 rintro v h' ⟨s3,x3,y3,rfl,rfl,hs3a,hs3b,hxy3⟩;refine Z13 ?_;refine jac (h++[jbl bk xs junk,⟨true,q,.cells [.int .i64 s3].toArray 3 (0,0)⟩]) rfl Tryz.func166 rfl jaa ?_;refine Zs ?_
 exact ⟨s3,y3,rfl,rfl,by omega,by omega,by omega⟩
theorem f165_c (m:Md Tryz.prog B) (h:Hp) {c:Nat} (hl:xs.length=n) (hn:n≤100000) (a q:Nat) (s:Int) (hs:0≤s∧s≤900) (ha:1≤a) (hb:a+1<n):FnC m 165 #[.slice (some ⟨bk,0,none⟩) n c,.int .i64 (a:Int),.pointer (some ⟨q,0,none⟩)] (h++[jbl bk xs junk,⟨true,q,.cells [.int .i64 s].toArray 3 (0,0)⟩]) fun v h'=> ∃(s1:Int) (y:Nat),v= .int .i64 (y:Int)∧h'=h++[jbl bk xs junk,⟨true,q,.cells [.int .i64 s1].toArray 3 (0,0)⟩]∧s≤s1∧s1≤s+3∧(a-1≤y∧y≤a+1):=by
 refine jae Tryz.func165 rfl rfl (l:=(.slice (some ⟨bk,0,none⟩) n c)::(.int .i64 (a:Int))::(.pointer (some ⟨q,0,none⟩))::uu12) rfl ?_
 intro cf cs K hK
 refine Z12 ?_
 rw [show (a:Int)-1=((a-1:Nat):Int) by omega,show (a:Int)+1=((a+1:Nat):Int) by omega];refine Zs ?_;refine jbt rfl zq zK (f166_c m h hl hn (a-1) a (a+1) q s hs zO zO zO) ?_
 rintro v h' ⟨s1,y,rfl,rfl,hs1,hs2,hy⟩;refine Z4 ?_;refine jac (h++[jbl bk xs junk,⟨true,q,.cells [.int .i64 s1].toArray 3 (0,0)⟩]) rfl Tryz.func165 rfl jaa ?_;refine Zs ?_
 exact ⟨s1,y,rfl,rfl,hs1,hs2,by omega⟩
theorem f128_c (m:Md Tryz.prog B) (h:Hp) {c:Nat} (hl:xs.length=n) (hn:n≤100000) (a b:Nat) (hab:a+12<b) (hb:b≤n):FnC m 128 #[.slice (some ⟨bk,0,none⟩) n c,.int .i64 (a:Int),.int .i64 (b:Int)] (h++[jbl bk xs junk]) fun v h'=> ∃(p:Nat) (k:Int),v= .tuple [.int .i64 (p:Int),.int .i64 k].toArray∧h'=h++[jbl bk xs junk]∧a≤p∧p<b:=by
 refine jae Tryz.func128 rfl rfl (l:=(.slice (some ⟨bk,0,none⟩) n c)::(.int .i64 (a:Int))::(.int .i64 (b:Int))::uu54) rfl ?_
 intro cf cs K hK
 refine Z10 ?_
 obtain ⟨w,hwe⟩: ∃w:Nat,(b:Int)-(a:Int)=(w:Int):=⟨b-a,by omega⟩
 have hwn:w=b-a:=by omega
 rw [hwe];refine Z4 ?_
 refine jaB rfl zq (fun q9=>jap (jad ?_));refine Z5 ?_;refine D102 ?_;refine D26 ?_;refine Zs ?_
 obtain ⟨i0,hi0⟩: ∃x:Nat,(a:Int)+((w/4:Nat):Int)*1=(x:Int):=⟨a+w/4*1,by push_cast;rfl⟩
 have hi0n:i0=a+w/4*1:=by omega
 rw [hi0];refine Z6 ?_;refine D102 ?_;refine D26 ?_;refine Zs ?_
 obtain ⟨j0,hj0⟩: ∃x:Nat,(a:Int)+((w/4:Nat):Int)*2=(x:Int):=⟨a+w/4*2,by push_cast;rfl⟩
 have hj0n:j0=a+w/4*2:=by omega
 rw [hj0];refine Z6 ?_;refine D102 ?_;refine D26 ?_;refine Zs ?_
 obtain ⟨k0,hk0⟩: ∃x:Nat,(a:Int)+((w/4:Nat):Int)*3=(x:Int):=⟨a+w/4*3,by push_cast;rfl⟩
 have hk0n:k0=a+w/4*3:=by omega
 rw [hk0];refine Z6 ?_
 refine jbG rfl zq (fun hc=>?_) (fun hc=>?_)
 ·refine Z6 ?_
  refine jbG rfl zq (fun hc=>?_) (fun hc=>?_);refine Z6 ?_;refine jbt rfl zq zK (f165_c m h hl hn i0 q9 0 zO zO zO) ?_
  rintro v h' ⟨s1,y1,rfl,rfl,hs1a,hs1b,hy1⟩;refine Z7 ?_;refine jbt rfl zq zK (f165_c m h hl hn j0 q9 s1 zO zO zO) ?_
  rintro v h' ⟨s2,y2,rfl,rfl,hs2a,hs2b,hy2⟩;refine Z6 ?_;refine jbt rfl zq zK (f165_c m h hl hn k0 q9 s2 zO zO zO) ?_
  rintro v h' ⟨s3,y3,rfl,rfl,hs3a,hs3b,hy3⟩;refine Z3 ?_
  rotate_left
  refine Z3 ?_
  all_goals
   refine Z5 ?_;refine jbt rfl zq zK (f166_c m h hl hn _ _ _ q9 _ zO zO zO zO) ?_
   rintro v h' ⟨s4,p,rfl,rfl,hs4a,hs4b,hp⟩;refine Z10 ?_
   refine jaA rfl zq (fun hc=>?_) (fun hc=>?_)
   ·refine Z10 ?_;refine jac (h++[jbl bk xs junk]) rfl Tryz.func128 rfl jaa ?_;refine Zs ?_
    exact ⟨p,_,rfl,rfl,by omega,by omega⟩
   ·refine Z5 ?_
    refine jaA rfl zq (fun hc=>?_) (fun hc=>?_);refine Z3 ?_
    rotate_left
    refine Z3 ?_
    all_goals
     refine Z7 ?_;refine jac (h++[jbl bk xs junk]) rfl Tryz.func128 rfl jaa ?_;refine Zs ?_
     exact ⟨p,_,rfl,rfl,by omega,by omega⟩
 ·exfalso
  omega
end
section
def Out (ys:List Int) (a b a1 b1:Nat):Prop:= ∀p q,a≤p→p<q→q<b→(p<a1∨b1≤q)→ys.getD p 0≤ys.getD q 0
theorem Out.sw {zs:List Int} {a b:Nat} (h:Out ys a b a1 b1) (s:Sw a1 b1 ys zs) (hb:b1≤b) (hl:b≤ys.length) (ha:a≤a1):Out zs a b a1 b1:=fun p q h1 h2 h3 h4=>by
 by_cases e1:p<a1
 ·rw [s.out zO (.inl e1)];by_cases e2:a1≤q∧q<b1
  ·exact s.all (p:=fun v=>ys.getD p 0≤v) zO (fun k h5 h6=>h p k h1 zO zO (.inl e1)) q e2.1 e2.2
  ·rw [s.out zO zO];exact h p q h1 h2 h3 (.inl e1)
 ·have e3:b1≤q:=by omega
  rw [s.out (k:=q) zO (.inr e3)];by_cases e2:p<b1
  ·exact s.all (p:=fun v=>v≤ys.getD q 0) zO (fun k h5 h6=>h k q zO zO h3 (.inr e3)) p zO e2
  ·rw [s.out zO (.inr zO)];exact h p q h1 h2 h3 (.inr e3)
theorem Out.all {a b:Nat} (h:Out ys a b a1 b1) (hs:SortR ys a1 b1):SortR ys a b:=fun p q h1 h2 h3=>by
 by_cases e:p<a1∨b1≤q
 ·exact h p q h1 h2 h3 e
 ·exact hs p q zO h2 zO
theorem Out.left {ys:List Int} {a b a1 b1 q0:Nat} (h:Out ys a b a1 b1) (hc:Cut ys a1 b1 q0) (hs:SortR ys a1 q0):Out ys a b (q0+1) b1:=fun p q h1 h2 h3 h4=>by
 by_cases e:p<a1∨b1≤q
 ·exact h p q h1 h2 h3 e
 ·by_cases e1:q<q0
  ·exact hs p q zO h2 e1
  ·by_cases e2:q=q0
   ·subst e2
    exact hc.1 p zO h2
   ·have h5:=hc.2 q zO zO
    by_cases e3:p=q0
    ·subst e3
     exact h5
    ·have:=hc.1 p zO zO;omega
theorem Out.right {a b q0:Nat} (h:Out ys a b a1 b1) (hc:Cut ys a1 b1 q0) (hs:SortR ys (q0+1) b1):Out ys a b a1 q0:=fun p q h1 h2 h3 h4=>by
 by_cases e:p<a1∨b1≤q
 ·exact h p q h1 h2 h3 e
 ·by_cases e1:q0<p
  ·exact hs p q zO h2 zO
  ·by_cases e2:p=q0
   ·subst e2
    exact hc.2 q h2 zO
   ·have h5:=hc.1 p zO zO
    by_cases e3:q=q0
    ·subst e3
     exact h5
    ·have:=hc.2 q zO zO;omega
theorem Out.equal {a b q0:Nat} (h:Out ys a b a1 b1) (hs:SortR ys a1 q0) (hx: ∀p k,a1≤p→p<q0→q0≤k→k<b1→ys.getD p 0≤ys.getD k 0):Out ys a b q0 b1:=fun p q h1 h2 h3 h4=>by
 by_cases e:p<a1∨b1≤q
 ·exact h p q h1 h2 h3 e
 ·by_cases e1:q<q0
  ·exact hs p q zO h2 e1
  ·exact hx p q zO zO zO zO
theorem low_of {a b:Nat} (h:Low xs a b) (s:Sw a b xs ys) (o:Out ys a b a1 b1) (ha:a≤a1) (hb:b1≤b) (hl:b≤xs.length):Low ys a1 b1:=by
 by_cases e:a=a1
 ·subst e
  rcases h.sw s hl with h1|h1
  ·exact .inl h1
  ·exact .inr fun k hk1 hk2=>h1 k hk1 zO
 ·exact .inr fun k hk1 hk2=>o (a1-1) k zO zO zO (.inl zO)
def PdqP {B:Array Obj} (m:Md Tryz.prog B) (N:Nat):Prop:= ∀(h:Hp) (bk n c:Nat) (xs:List Int) (junk:List Value) (lim:Int) (a b:Nat),xs.length=n→n≤60000→0≤lim→lim≤1000→a≤b→b≤n→b-a≤N→Low xs a b→
 FnC m 96 #[.slice (some ⟨bk,0,none⟩) n c,.int .i64 (a:Int),.int .i64 (b:Int),.int .i64 lim] (h++[jbl bk xs junk]) fun v h'=>v= .tuple [].toArray∧ ∃ys,h'=h++[jbl bk ys junk]∧Sw a b xs ys∧SortR ys a b
theorem f96_i (m:Md Tryz.prog B) (N:Nat) (IH: ∀M,M<N→PdqP m M):PdqP m N:=by
 intro h bk n c xs junk lim a b hl hn hk0 hk1 hab hb hN hlow
 refine jae Tryz.func96 rfl rfl (l:=(.slice (some ⟨bk,0,none⟩) n c)::(.int .i64 (a:Int))::(.int .i64 (b:Int))::(.int .i64 lim)::jpO) rfl ?_
 intro cf cs K hK
 refine Z9 ?_
 refine jaf (fun nn l h'=> ∃(a1 b1:Nat) (lim1:Int) (w1 w2:Bool) (ys:List Int),nn=b1-a1+0∧(a≤a1)∧(a1≤b1)∧(b1≤b)∧(0≤lim1)∧(lim1≤1000)∧(Sw a b xs ys)∧(Out ys a b a1 b1)∧(∃U:Nat→Value,l=((.slice (some ⟨bk,0,none⟩) n c)::(.int .i64 (a1:Int))::(.int .i64 (b1:Int))::(.int .i64 lim1)::vw4 U 4 ((.bool w1)::(.bool w2)::jmy U 10 [])))∧h++[jbl bk ys junk]=h') _ ⟨a,b,lim,true,true,xs,rfl,by omega,by omega,by omega,by omega,by omega,.refl _,fun p q h1 h2 h3 h4=>by omega,exU rfl,rfl⟩ ?_;rintro nn l h' ⟨a1,b1,lim1,w1,w2,ys,rfl,ha1,hab1,hb1,hl0,hl1,hsw,hou,⟨U,rfl⟩,rfl⟩ hnext;have hyl:=hsw.length
 have hlo:=low_of hlow hsw hou ha1 hb1 zO
 refine Z12 ?_
 refine jbK rfl zq (fun hc=>?_) (fun hc=>?_)
 ·refine Z7 ?_;refine jbt rfl zq zK (f125_c m h zO zO a1 b1 zO zO) ?_
  rintro v h' ⟨rfl,zs,rfl,hzw,hzs⟩;refine Z3 ?_;refine jac (h++[jbl bk zs junk]) rfl Tryz.func96 rfl jaa ?_;refine Zs ?_
  exact ⟨rfl,zs,rfl,hsw.trans (hzw.mono ha1 hb1),(hou.sw hzw hb1 zO ha1).all hzs⟩
 ·refine Z7 ?_
  refine jaA rfl zq (fun hc=>?_) (fun hc=>?_)
  ·refine Z7 ?_;refine jbt rfl zq zK (f126_c m h zO zO a1 b1 zO zO) ?_
   rintro v h' ⟨rfl,zs,rfl,hzw,hzs⟩;refine Z3 ?_;refine jac (h++[jbl bk zs junk]) rfl Tryz.func96 rfl jaa ?_;refine Zs ?_
   exact ⟨rfl,zs,rfl,hsw.trans (hzw.mono ha1 hb1),(hou.sw hzw hb1 zO ha1).all hzs⟩
  ·refine Z3 ?_
   refine jeZ (fun l' h'=> ∃(lim2:Int) (y1:List Int),(0≤lim2)∧(lim2≤1000)∧(Sw a1 b1 ys y1)∧(∃U:Nat→Value,l'=((.slice (some ⟨bk,0,none⟩) n c)::(.int .i64 (a1:Int))::(.int .i64 (b1:Int))::(.int .i64 lim2)::vw4 U 4 ((.bool w1)::(.bool w2)::(.int .i64 ((b1:Int)-(a1:Int)))::vw123 U 11 [])))∧h++[jbl bk y1 junk]=h') ?_ ?_
   ·refine Z3 ?_;refine k_not rfl zq ?_;refine Zs ?_
    refine jb7 (fun hc=>?_) (fun hc=>?_)
    ·first|replace hc:=of_decide_eq_true hc|replace hc:=of_decide_eq_false hc|skip
     refine Z5 ?_;refine jbt rfl zq zK (f127_c m h zO zO zO a1 b1 zO zO) ?_
     rintro v h' ⟨rfl,zb,rfl,hbw⟩;refine Z7 ?_
     refine Md.stop _ (.inl ⟨_,rfl,?_⟩)
     first|exact ⟨_,_,by omega,by omega,by first|exact hbw|exact .refl _,exU rfl,rfl⟩
    ·first|replace hc:=of_decide_eq_true hc|replace hc:=of_decide_eq_false hc|skip
     refine Zs ?_
     refine Md.stop _ (.inl ⟨_,rfl,?_⟩)
     first|exact ⟨_,_,by omega,by omega,by first|exact hbw|exact .refl _,exU rfl,rfl⟩
   ·rintro l' h' ⟨lim2,y1,hl2,hl3,hs1,⟨U,rfl⟩,rfl⟩;have hy1:=hs1.length
    refine Z5 ?_;refine jbt rfl zq zK (f128_c m h (xs:=y1) zO zO a1 b1 zO zO) ?_
    rintro v h' ⟨p,hint,rfl,rfl,hp1,hp2⟩;refine Z7 ?_
    refine jeZ (fun l' h'=> ∃(p:Nat) (hint:Int) (y2:List Int),(a1≤p)∧(p<b1)∧(Sw a1 b1 ys y2)∧(∃U:Nat→Value,l'=((.slice (some ⟨bk,0,none⟩) n c)::(.int .i64 (a1:Int))::(.int .i64 (b1:Int))::(.int .i64 lim2)::vw4 U 4 ((.bool w1)::(.bool w2)::(.int .i64 ((b1:Int)-(a1:Int)))::(.int .i64 (p:Int))::(.int .i64 hint)::vw121 U 13 [])))∧h++[jbl bk y2 junk]=h') ?_ ?_
    ·refine Z3 ?_
     refine jaA rfl zq (fun hc=>?_) (fun hc=>?_)
     ·refine Z7 ?_;refine jbt rfl zq zK (f129_c m h (xs:=y1) zO zO a1 b1 zO zO) ?_
      rintro v h' ⟨rfl,zr,rfl,hrw⟩;refine Z10 ?_
      obtain ⟨p,hpe,hp1,hp2⟩: ∃p2:Nat,(b1:Int)-1-((p:Int)-(a1:Int))=(p2:Int)∧a1≤p2∧p2<b1:=⟨((b1:Int)-1-((p:Int)-(a1:Int))).toNat,by omega,by omega,by omega⟩
      rw [hpe];refine Z5 ?_
      refine Md.stop _ (.inl ⟨_,rfl,?_⟩)
      exact E22
     ·refine Z3 ?_
      refine Md.stop _ (.inl ⟨_,rfl,?_⟩)
      exact E22
    ·rintro l' h' ⟨p,hint,y2,hp1,hp2,hs2,⟨U,rfl⟩,rfl⟩;have hy2:=hs2.length
     refine jeZ (fun l' h'=> ∃(y3:List Int),(Sw a1 b1 ys y3)∧(∃U:Nat→Value,l'=((.slice (some ⟨bk,0,none⟩) n c)::(.int .i64 (a1:Int))::(.int .i64 (b1:Int))::(.int .i64 lim2)::vw4 U 4 ((.bool w1)::(.bool w2)::(.int .i64 ((b1:Int)-(a1:Int)))::(.int .i64 (p:Int))::vw122 U 12 [])))∧h++[jbl bk y3 junk]=h') ?_ ?_
     ·refine Zs ?_
      rcases w1 with _|_
      ·refine Z12 ?_
       refine Md.stop _ (.inl ⟨_,rfl,?_⟩)
       exact E23
      ·rcases w2 with _|_
       ·refine Z12 ?_
        refine Md.stop _ (.inl ⟨_,rfl,?_⟩)
        exact E23
       ·refine Z7 ?_
        refine jaA rfl rfl (fun hc=>?_) (fun hc=>?_)
        ·refine Z8 ?_;refine jbt rfl zq zK (f130_c m h (xs:=y2) zO zO a1 b1 zO zO (hlo.sw hs2 zO)) ?_
         rintro v h' ⟨t168,zi,rfl,rfl,hiw,his⟩;refine Z2 ?_
         refine jb7 (fun hc=>?_) (fun hc=>?_)
         ·first|replace hc:=of_decide_eq_true hc|replace hc:=of_decide_eq_false hc|skip
          refine Md.stop _ (.inr ?_)
          refine Zs ?_;refine jac (h++[jbl bk zi junk]) rfl Tryz.func96 rfl jaa ?_;refine Zs ?_
          exact ⟨rfl,zi,rfl,hsw.trans ((hs2.trans hiw).mono ha1 hb1),((hou.sw hs2 hb1 zO ha1).sw hiw hb1 zO ha1).all (his zD)⟩
         ·first|replace hc:=of_decide_eq_true hc|replace hc:=of_decide_eq_false hc|skip
          refine Zs ?_
          refine Md.stop _ (.inl ⟨_,rfl,?_⟩)
          exact E23
        ·refine Z4 ?_
         refine Md.stop _ (.inl ⟨_,rfl,?_⟩)
         exact E23
     ·rintro l' h' ⟨y3,hs3,⟨U,rfl⟩,rfl⟩;have hy3:=hs3.length
      have hlo3:=hlo.sw hs3 zO
      refine jeZ (fun l' h'=> ∃(y4:List Int),(Sw a1 b1 ys y4)∧(∃U:Nat→Value,l'=((.slice (some ⟨bk,0,none⟩) n c)::(.int .i64 (a1:Int))::(.int .i64 (b1:Int))::(.int .i64 lim2)::vw4 U 4 ((.bool w1)::(.bool w2)::(.int .i64 ((b1:Int)-(a1:Int)))::(.int .i64 (p:Int))::vw122 U 12 [])))∧h++[jbl bk y4 junk]=h') ?_ ?_
      ·refine Zs ?_;refine jan [Zp 0,Zp 1,Zp 2,Zp 3,Zp 4,Zp 5,Zp 6,Zp 8,Zp 9,Zp 10,Zr 7,Zr 11,Zk 12,Zp 13,Zp 14] zK zK (gE _) ?_;refine Zs ?_
       refine jaz rfl zq (fun hc=>?_) (fun hc=>?_)
       ·refine Z3 ?_;refine D100 ?_;refine D5 ?_;refine Z2 ?_;refine D5 ?_;refine jaI rfl rfl (jaC (a1-1) zO zO) ?_;refine jaI rfl rfl (jaC p zO zO) ?_;refine D16 ?_
        rintro v (⟨hc,rfl⟩|⟨hc,rfl⟩)
        ·refine jpD ?_;refine Z4 ?_
         refine Md.stop _ (.inl ⟨_,rfl,?_⟩)
         exact ⟨_,hs3,exU rfl,rfl⟩
        ·refine D135 ?_;refine Z9 ?_
         refine jbt rfl zq zK (f132_c m h (xs:=y3) zO zO a1 b1 p zO zO zO (fun k hk1 hk2=>by
          rcases hlo3 with e|e
          ·omega
          ·have:=e k hk1 hk2;omega)) ?_
         rintro v h' ⟨q,zs,rfl,rfl,hzw,hq1,hq2,hzs,hzx⟩;refine Z8 ?_
         refine Md.stop _ (.inr ?_)
         refine Zs ?_
         exact m.weak jaa (hnext _ _ _ zO ⟨q,b1,lim2,w1,w2,zs,rfl,by omega,by omega,by omega,by omega,by omega,(hsw.trans (hs3.mono ha1 hb1)).trans (hzw.mono ha1 hb1),((hou.sw hs3 hb1 zO ha1).sw hzw hb1 zO ha1).equal hzs hzx,exU rfl,rfl⟩)
       ·refine Z16 ?_
        refine Md.stop _ (.inl ⟨_,rfl,?_⟩)
        exact ⟨_,hs3,exU rfl,rfl⟩
      ·rintro l' h' ⟨y4,hs4,⟨U,rfl⟩,rfl⟩;have hy4:=hs4.length
       have hlo4:=hlo.sw hs4 zO
       refine Z6 ?_;refine jbt rfl zq zK (f133_c m h (xs:=y4) zO zO a1 b1 p zO zO zO) ?_
       rintro v h' ⟨q,t171,zs,rfl,rfl,hzw,hq1,hq2,hcut⟩;refine Zs ?_
       have hzl:=hzw.length
       have hlo5:=hlo4.sw hzw zO
       refine Z25 ?_;refine jmT (b1-a1) 8 rfl zq zO rfl zO zO ?_;refine Z6 ?_
       refine jak rfl zq (fun hc=>?_) (fun hc=>?_)
       ·refine Z6 ?_;refine jrf rfl zq ?_;refine Z8 ?_;refine jbt rfl zq zK (IH (b1-a1-1) zO h bk n c zs junk lim2 a1 q zO hn hl2 hl3 zO zO zO (hlo5.imp id fun e k h1 h2=>e k h1 zO)) ?_
        rintro v h' ⟨rfl,us,rfl,huw,hus⟩;refine Z8 ?_
        exact m.weak jaa (hnext _ _ _ zO ⟨q+1,b1,lim2,_,_,us,rfl,by omega,by omega,by omega,by omega,by omega,((hsw.trans (hs4.mono ha1 hb1)).trans (hzw.mono ha1 hb1)).trans (huw.mono ha1 zO),(((hou.sw hs4 hb1 zO ha1).sw hzw hb1 zO ha1).sw (huw.mono (gL _) zO) hb1 zO ha1).left (hcut.swL huw zO zO) hus,exU rfl,rfl⟩)
       ·refine Z6 ?_;refine jrf rfl zq ?_;refine Z9 ?_
        rw [show (q:Int)+1=((q+1:Nat):Int) by omega];refine jbt rfl zq zK (IH (b1-a1-1) zO h bk n c zs junk lim2 (q+1) b1 zO hn hl2 hl3 zO zO zO (.inr fun k h1 h2=>by rw [Nat.add_sub_cancel];exact hcut.2 k zO h2)) ?_;rintro v h' ⟨rfl,us,rfl,huw,hus⟩;refine Z7 ?_
        exact m.weak jaa (hnext _ _ _ zO ⟨a1,q,lim2,_,_,us,rfl,by omega,by omega,by omega,by omega,by omega,((hsw.trans (hs4.mono ha1 hb1)).trans (hzw.mono ha1 hb1)).trans (huw.mono zO hb1),(((hou.sw hs4 hb1 zO ha1).sw hzw hb1 zO ha1).sw (huw.mono zO (gL _)) hb1 zO ha1).right (hcut.swR huw zO) hus,exU rfl,rfl⟩)
theorem pdq_all (m:Md Tryz.prog B) (N:Nat):PdqP m N:=Nat.strongRecOn N fun n ih=>f96_i m n ih
theorem f96_all (m:Md Tryz.prog B):PdqC m 60000:=fun h bk n c xs junk lim hl hn h0 h1=>pdq_all m n h bk n c xs junk lim 0 n hl hn h0 h1 zO (gL _) zO (.inl rfl)
class Off (h new:Hp) (F:outParam Hp):Prop where
 perm:h.Perm (F++new)
instance (priority:=2000) {new:Hp}:Off (A++new) new A:=⟨List.Perm.refl _⟩
instance (priority:=1000) {new:Hp} [o:Off A new F]:Off (A++X) new (F++X):=⟨by
 refine (o.perm.append_right X).trans ?_
 rw [gG,gG];exact Gz F vI⟩
section
variable {m:Md P B}
theorem ja2 {t t2 t3 by' c:Nat} {x:Operand} {s:Value} {rw:Bool} {ys:List Value} {new:Hp} (ho:ops[i]?=some ⟨d,.call ⟨.builtin .append,[x,y].toArray,#[t,t2]⟩,ty,pos,af,g⟩) (hg:Wt ops l g)
  [ex:OpV l x s] [ey:OpV l y (.slice (some ⟨q,0,none⟩) mm c)] [SliceT P t e k] [SliceT P t2 e k] [ElemT P e k by'] [hh:Has h q rw (.cells ys.toArray t3 f)] [on:Ones ys] (hy:ys.length=mm*k) (o:OwnS e k s n cs new) [w:Off h new F] (hk:kd= .free∨(kd= .keep∧S.Sublist F)) (hb:2*(n+mm)*by'≤2^48) (hmax:n+mm≤2^62)
  (cc: ∀v' new',OwnS e k v' (n+mm) (cs++ys) new'→RegK m S ops r (put l d v') (F++new') C):RegK m S ops ((i,kd)::r) l h C:=
 jgQ ho hg (Weak.perm w.perm) o (jeH hy) on.one hk hb hmax cc
end
theorem jd6 {F1 F2 L:Hp} [a:Off h' L F1] [b:Off F1 M F2] [s:SubH H F2]:Weak B h' (H++M++L):=
 (Weak.perm a.perm).trans (((Weak.perm b.perm).trans ((Weak.sub s.sub).apps M)).apps L)
theorem setSeg_ints {j:Int} (a:Int) (hj:j=i) (hi:i<xs.length):SetSeg (jaq xs++junk) (0+j.toNat*1) [.int .i64 a] (jaq (xs.set i a)++junk):=by
 subst hj
 have hl:(jaq xs).length=xs.length:=gU ..
 refine ⟨?_,by rw [gb,gJ,hl];simp only [gY,vk];omega⟩
 rw [gb,GD,GK,VH zO,List.drop_append_of_le_length (by simp only [gY,vk];omega),←jdy,←jcy,Gi,if_pos hi,jaZ];simp [jaq]
theorem jqI {new:Hp} (o:X.Perm (F++new)):(A++X).Perm ((A++F)++new):=by
 rw [gG];exact Gz A o
instance (priority:=900) {new:Hp} [o:Off X new F]:Off (A++X) new (A++F):=⟨jqI o.perm⟩
instance {x:Chunk} {l:Hp}:Off (x::l) [x] l:=⟨by
 have:=vI (l₁:=[x]) (l₂:=l)
 exact this⟩
instance (priority:=900) {y:Chunk} {l new:Hp} [o:Off l new F]:Off (y::l) new (y::F):=⟨o.perm.cons y⟩
section
variable {m:Md P B}
theorem jcX {t t2 by':Nat} {x:Operand} {s u:Value} {ys:List Value} {new:Hp} (ho:ops[i]?=some ⟨d,.call ⟨.builtin .append,[x,y].toArray,#[t,t2]⟩,ty,pos,af,g⟩) (hg:Wt ops l g)
  [ex:OpV l x s] [ey:OpV l y u] [SliceT P t e k] [SliceT P t2 e k] [ElemT P e k by'] (o:OwnS e k s n cs new) (rx:RdS B h k u mm ys) (h1: ∀u∈ys,u.oneCell'=true) [w:Off h new F] (hk:kd= .free∨(kd= .keep∧S.Sublist F)) (hb:2*(n+mm)*by'≤2^48) (hmax:n+mm≤2^62)
  (c: ∀v' new',OwnS e k v' (n+mm) (cs++ys) new'→RegK m S ops r (put l d v') (F++new') C):RegK m S ops ((i,kd)::r) l h C:=
 jgQ ho hg (Weak.perm w.perm) o rx h1 hk hb hmax c
end
theorem jcY (h:i<n):(jbk n).getD i 0=(i:Int):=by
 unfold jbk
 rw [gC,ga,Gp h];rfl
end
section
theorem f33_c (m:Md Tryz.prog B) (h:Hp) (x lo hi:Int):FnC m 33 #[.int .i64 x,.int .i64 lo,.int .i64 hi] h fun v h'=>h'=h∧IsB (lo≤x∧x≤hi) v:=by
 refine jae Tryz.func33 rfl rfl (l:=(.int .i64 x)::(.int .i64 lo)::(.int .i64 hi)::uu12) rfl ?_
 intro cf cs K hK
 refine Z8 ?_
 refine jbK rfl zq (fun hc=>?_) (fun hc=>?_)
 ·refine Z3 ?_
  refine jbK rfl rfl (fun hc=>?_) (fun hc=>?_);all_goals
   refine Z4 ?_;refine jac (h) rfl Tryz.func33 rfl jaa ?_;refine Zs ?_
   exact E0
 ·refine Z8 ?_;refine jac (h) rfl Tryz.func33 rfl jaa ?_;refine Zs ?_
  exact E0
def partsI (n:Int):List Int:=[n/96,n/8%12,n%8]
abbrev p3V (v:List Int):Value:= .agg [.int .i64 (v.getD 0 0),.int .i64 (v.getD 1 0),.int .i64 (v.getD 2 0)].toArray
theorem f69_c (m:Md Tryz.prog B) (h:Hp) (n:Nat) (hn:n<960):FnC m 69 #[.int .i64 (n:Int)] h fun v h'=>h'=h∧v=p3V (partsI n):=by
 refine jae Tryz.func69 rfl rfl (l:=(.int .i64 (n:Int))::uu10) rfl ?_
 intro cf cs K hK
 refine Z2 ?_
 refine jaB rfl zq (fun q2=>jap (jad ?_));refine Z4 ?_;refine jmT n 96 rfl zq rfl rfl zO zO ?_;refine Zs ?_;refine jmT n 8 rfl zq rfl rfl zO zO ?_;refine k_rem (a:=n/8) (b:=12) rfl zq zO ?_;refine Zs ?_;refine k_rem (a:=n) (b:=8) rfl zq zO ?_;refine k_bldA rfl zq rfl ?_;refine D7 ?_;refine Z2 ?_;refine jac (h) rfl Tryz.func69 rfl jaa ?_;refine Zs ?_
 exact ⟨rfl,rfl⟩
section
variable {m:Md P B}
theorem k_andV {x:Operand} {b:Int} {k:IntKind} (v:Int) (ho:ops[i]?=some ⟨d,.binOp .and t x y u,ty,pos,af,g⟩) (hw:Wt ops l g) [KHeap kd S h H] [ex:OpV l x (.int k a)] [ey:OpV l y (.int k b)] (hv:bAnd k a b=v) [PutV l d (.int k v) l'] (n:RegK m S ops r l' h C):RegK m S ops ((i,kd)::r) l h C:=
 RegK.rd (v:= .int k v) ho hw (jaY ex.eq ey.eq zS (jfh hv)) n
theorem k_orV {x:Operand} {b:Int} {k:IntKind} (v:Int) (ho:ops[i]?=some ⟨d,.binOp .or t x y u,ty,pos,af,g⟩) (hw:Wt ops l g) [KHeap kd S h H] [ex:OpV l x (.int k a)] [ey:OpV l y (.int k b)] (hv:bOr k a b=v) [PutV l d (.int k v) l'] (n:RegK m S ops r l' h C):RegK m S ops ((i,kd)::r) l h C:=
 RegK.rd (v:= .int k v) ho hw (jaY ex.eq ey.eq zS (op_or hv)) n
theorem k_subV {x:Operand} {b:Int} {k:IntKind} (v:Int) (ho:ops[i]?=some ⟨d,.binOp .sub t x y u,ty,pos,af,g⟩) (hw:Wt ops l g) [KHeap kd S h H] [ex:OpV l x (.int k a)] [ey:OpV l y (.int k b)] (hv:k.wrap (a-b)=v) [PutV l d (.int k v) l'] (n:RegK m S ops r l' h C):RegK m S ops ((i,kd)::r) l h C:=
 RegK.rd (v:= .int k v) ho hw (jaY ex.eq ey.eq zS (op_sub hv)) n
theorem k_eqlV {x:Operand} {b:Int} {k:IntKind} (v:Bool) (ho:ops[i]?=some ⟨d,.binOp .eql t x y u,ty,pos,af,g⟩) (hw:Wt ops l g) [KHeap kd S h H] [ex:OpV l x (.int k a)] [ey:OpV l y (.int k b)] (hv:decide (a=b)=v) [PutV l d (.bool v) l'] (n:RegK m S ops r l' h C):RegK m S ops ((i,kd)::r) l h C:=
 RegK.rd (v:= .bool v) ho hw (jaY ex.eq ey.eq zS (jhd hv)) n
end
theorem shr_nat (s:Nat) (hi:i<64):(s:Int).fdiv (2^(min (i:Int).toNat IntKind.u64.bits))=((s/2^i:Nat):Int):=by
 rw [gb,show min i IntKind.u64.bits=i from VY (by show i≤64;omega)];rw [show ((2:Int)^i)=((2^i:Nat):Int) by simp,VU _ (Int.natCast_nonneg _)];rfl
theorem and_one (n:Nat) (hn:n<4096):bAnd .u64 (n:Int) 1=((n%2:Nat):Int):=by
 have h:((List.range 4096).all fun n=>bAnd .u64 (n:Int) 1==((n%2:Nat):Int))=true:=by kernel_rfl
 simpa using gX.1 h n (gT.2 hn)
theorem bit_dec (s i:Nat):decide (((s/2^i%2:Nat):Int)=1)=s.testBit i:=by
 rw [Nat.testBit_eq_decide_div_mod_eq];by_cases h:s/2^i%2=1
 ·simp [h]
 ·simp only [h,decide_false]
  exact decide_eq_false zO
theorem f37_c (m:Md Tryz.prog B) (h:Hp) (s i:Nat) (hs:s<4096) (hi:i<12):FnC m 37 #[.int .u64 (s:Int),.int .i64 (i:Int)] h fun v h'=>h'=h∧v= .bool (s.testBit i):=by
 refine jae Tryz.func37 rfl rfl (l:=(.int .u64 (s:Int))::(.int .i64 (i:Int))::uu8) rfl ?_
 intro cf cs K hK
 refine Z8 ?_;refine k_shr ((s/2^i:Nat):Int) rfl zq zO (shr_nat s zO) ?_;refine k_andV ((s/2^i%2:Nat):Int) rfl zq (and_one _ (Nat.lt_of_le_of_lt (Nat.div_le_self _ _) zO)) ?_;refine k_eqlV (s.testBit i) rfl zq (bit_dec s i) ?_;refine Z3 ?_;refine jac (h) rfl Tryz.func37 rfl jaa ?_;refine Zs ?_
 exact ⟨rfl,rfl⟩
theorem jkc (n:Nat) (hn:n<2^64):IntKind.u64.wrap (n:Int)=(n:Int):=by
 unfold IntKind.wrap
 simp [IntKind.bits,IntKind.signed]
 omega
theorem or_nat (a b:Nat) (ha:a<2^64) (hb:b<2^64):bOr .u64 (a:Int) (b:Int)=((a|||b:Nat):Int):=by
 unfold bOr
 have e:(BitVec.ofInt IntKind.u64.bits (a:Int)|||BitVec.ofInt IntKind.u64.bits (b:Int)).toNat=a|||b:=by
  rw [BitVec.toNat_or,BitVec.ofInt_natCast,BitVec.ofInt_natCast,BitVec.toNat_ofNat,BitVec.toNat_ofNat];rw [show IntKind.u64.bits=64 from rfl,Nat.mod_eq_of_lt ha,Nat.mod_eq_of_lt hb]
 rw [e];exact jkc _ (Nat.or_lt_two_pow ha hb)
theorem jqc (i:Nat) (hi:i<64):IntKind.u64.wrap ((1:Int)*2^(min (i:Int).toNat IntKind.u64.bits))=((2^i:Nat):Int):=by
 rw [gb,show min i IntKind.u64.bits=i from VY (by show i≤64;omega),Int.one_mul];rw [show ((2:Int)^i)=((2^i:Nat):Int) by simp];exact jkc _ (Nat.pow_lt_pow_right zO hi)
theorem f72_c (m:Md Tryz.prog B) (h:Hp) (n:Nat) (hn:n≤12):FnC m 72 #[.int .i64 (n:Int)] h fun v h'=>h'=h∧v= .int .u64 ((2^n-1:Nat):Int):=by
 refine jae Tryz.func72 rfl rfl (l:=[.int .i64 (n:Int),undef,undef,undef,undef,undef]) rfl ?_
 intro cf cs K hK
 refine Z7 ?_;refine k_shl ((2^n:Nat):Int) rfl zq zO (jqc n zO) ?_;refine k_subV ((2^n-1:Nat):Int) rfl zq (by have:=GV (n:=2) zO hn;have:=Nat.pow_pos (n:=n) (show 0<2 by omega);rw [show ((2^n:Nat):Int)-1=((2^n-1:Nat):Int) by omega];exact jkc _ zO) ?_;refine Z3 ?_;refine jac (h) rfl Tryz.func72 rfl jaa ?_;refine Zs ?_
 exact ⟨rfl,rfl⟩
theorem f34_c (m:Md Tryz.prog B) (h:Hp) (s i:Nat) (hs:s<4096) (hi:i<12):FnC m 34 #[.int .u64 (s:Int),.int .i64 (i:Int)] h fun v h'=>h'=h∧v= .int .u64 ((s|||2^i:Nat):Int):=by
 refine jae Tryz.func34 rfl rfl (l:=(.int .u64 (s:Int))::(.int .i64 (i:Int))::uu7) rfl ?_
 intro cf cs K hK
 refine Z8 ?_;refine k_shl ((2^i:Nat):Int) rfl zq zO (jqc i zO) ?_;refine k_orV ((s|||2^i:Nat):Int) rfl zq (or_nat _ _ zO (Nat.pow_lt_pow_right zO zO)) ?_;refine Z3 ?_;refine jac (h) rfl Tryz.func34 rfl jaa ?_;refine Zs ?_
 exact ⟨rfl,rfl⟩
end
section
class LaidO (B:Array Obj):Prop where
 halves: ∃t f,B[0]?=some (.cells [str [119,97,116,101,114],.bool false,.func (.func 207) #[] #[],str [98,117,116,116],.bool true,.func (.func 208) #[] #[]].toArray t f)
 mosts: ∃t f,B[1]?=some (.cells [.int .i64 9,.int .i64 11,.int .i64 7].toArray t f)
variable [LaidO B]
theorem jfB [x:LaidO B]:RdN B h 0 0 [str [119,97,116,101,114],.bool false,.func (.func 207) #[] #[],str [98,117,116,116],.bool true,.func (.func 208) #[] #[]]:=fun j hj=>by
 obtain ⟨t,f,e⟩:=x.halves
 refine Rd.base rfl e ?_
 rw [GD,gZ,gC,gD hj];rfl
theorem jo5 [x:LaidO B]:RdN B h 1 0 [.int .i64 9,.int .i64 11,.int .i64 7]:=fun j hj=>by
 obtain ⟨t,f,e⟩:=x.mosts
 refine Rd.base rfl e ?_
 rw [GD,gZ,gC,gD hj];rfl
theorem most_at [LaidO B] (k:Nat) (hk:k<3):Rd B h ⟨1,k,none⟩ (.int .i64 (mosts.getD k 0)):=by
 have:=jo5 (B:=B) (h:=h) k hk
 rw [GD] at this
 rcases (by omega:k=0∨k=1∨k=2) with rfl|rfl|rfl<;>exact this
end
section
variable [LaidO B]
theorem three (h:v.length=3): ∃a b c,v=[a,b,c]:=by
 match v,h with
 |[a,b,c],_=>exact ⟨a,b,c,rfl⟩
theorem jnI {c:UInt8} {r:Str} (h:c.toNat=45∧0<n∧k<2):rdF mo (c::r) v k n=rdF mo r v (k+1) 0:=by rw [rdF,if_pos h]
theorem jqt {c:UInt8} {r:Str} (h:c.toNat=63∧n=0) (hm:(v.set k (-1)).getD k 0≤mo.getD k 0):rdF mo (c::r) v k n=rdF mo r (v.set k (-1)) k (n+1):=by
 rw [rdF,if_neg zO,if_pos h,if_neg zO]
theorem jkx {c:UInt8} {r:Str} (h:(48≤c.toNat∧c.toNat≤57)∧(n=0∨v.getD k 0>0)) (hm:(v.set k (10*v.getD k 0+((c.toNat:Int)-48))).getD k 0≤mo.getD k 0):rdF mo (c::r) v k n=rdF mo r (v.set k (10*v.getD k 0+((c.toNat:Int)-48))) k (n+1):=by
 rw [rdF,if_neg zO,if_neg zO,if_pos h,if_neg zO]
theorem jky {c:UInt8} {r:Str} (h:(48≤c.toNat∧c.toNat≤57)∧(n=0∨v.getD k 0>0)) (hm:(v.set k (10*v.getD k 0+((c.toNat:Int)-48))).getD k 0>mo.getD k 0):rdF mo (c::r) v k n=([0,0,0],false):=by
 rw [rdF,if_neg zO,if_neg zO,if_pos h,if_pos hm]
theorem jcW {c:UInt8} {r:Str} (h1: ¬(c.toNat=45∧0<n∧k<2)) (h2: ¬(c.toNat=63∧n=0)) (h3: ¬((48≤c.toNat∧c.toNat≤57)∧(n=0∨v.getD k 0>0))):rdF mo (c::r) v k n=([0,0,0],false):=by
 rw [rdF,if_neg h1,if_neg h2,if_neg h3]
theorem most_atI (k:Nat) (hk:k<3):Rd B h ⟨1,0+(k:Int).toNat*1,none⟩ (.int .i64 (mosts.getD k 0)):=by
 rw [show 0+(k:Int).toNat*1=k by omega];exact most_at k hk
theorem jbz {x:Int} (h:k<v.length):(v.set k x).getD k 0=x:=by
 rw [gC,Vq h];rfl
theorem jh9 {x c:Int} (hx:a≤x∧x≤c) (hv: ∀j,a≤v.getD j 0∧v.getD j 0≤c) (j:Nat):a≤(v.set k x).getD j 0∧(v.set k x).getD j 0≤c:=by
 rw [gC,vo];have:=hv j
 rw [gC] at this
 split
 ·split
  ·exact hx
  ·rw [gl zO] at this
   exact this
 ·exact this
theorem jf6 (h:k<3):7≤mosts.getD k 0∧mosts.getD k 0≤11:=by
 rcases (by omega:k=0∨k=1∨k=2) with rfl|rfl|rfl<;>decide
theorem zero3 (j:Nat): -1≤([0,0,0]:List Int).getD j 0∧([0,0,0]:List Int).getD j 0≤11:=by
 match j with
 |0=>decide
 |1=>decide
 |2=>decide
 |j+3=>simp
theorem set_other {x:Int} (h:k≠j):(v.set k x).getD j 0=v.getD j 0:=by
 rw [gC,vM h,gC]
theorem jk5 (j:Nat):([0,0,0]:List Int).getD j 0=0:=by
 match j with
 |0=>rfl
 |1=>rfl
 |2=>rfl
 |j+3=>simp
theorem rd_ways (ru n k:Nat) (x:Int):(ru=45∧0<n∧k<2)∨(ru=63∧n=0)∨((48≤ru∧ru≤57)∧(n=0∨x>0))∨(¬(ru=45∧0<n∧k<2)∧ ¬(ru=63∧n=0)∧ ¬((48≤ru∧ru≤57)∧(n=0∨x>0))):=by omega
theorem f67_c (m:Md Tryz.prog B) (h:Hp) (s:Str) (hl:s.length≤100000):FnC m 67 #[str s] h fun v h'=>h'=h∧v= .tuple [.agg (jaq (jau s)).toArray,.bool (jbc s)].toArray:=by
 refine jae Tryz.func67 rfl rfl (l:=(str s)::uu76) rfl ?_
 intro cf cs K hK
 refine Z2 ?_
 refine jaB rfl zq (fun q2=>jap (jad ?_));refine Z11 ?_
 refine k_srange zK rfl zq (fun it=>jap (jad ?_));refine Z2 ?_
 refine jaf (fun nn l h'=> ∃(p k n:Nat) (v:List Int),nn=s.length-p∧(rdF mosts (s.drop p) v k n=rdF mosts s [0,0,0] 0 0)∧(v.length=3)∧(k≤2)∧(p≤s.length)∧(n≤p)∧(∀j,-1≤v.getD j 0∧v.getD j 0≤11)∧(∀j,k<j∨(k=j∧n=0)→v.getD j 0=0)∧(∃U:Nat→Value,l=((str s)::(U 1)::(.pointer (some ⟨q2,0,none⟩))::(U 3)::(.int .i64 (k:Int))::(.int .i64 (n:Int))::(U 6)::(U 7)::(U 8)::(.pointer (some ⟨it,0,none⟩))::vw67 U 10 []))∧h++[⟨true,q2,.cells (jaq v).toArray 117 (0,0)⟩,⟨true,it,sitO s p⟩]=h') _ ⟨0,0,0,[0,0,0],rfl,by rw [List.drop_zero],rfl,by omega,by omega,by omega,zero3,fun j _=>jk5 j,exU rfl,rfl⟩ ?_;rintro nn l h' ⟨p,k,n,v,rfl,hrd,hv3,hk2,hpl,hnp,hvb,hvz,⟨U,rfl⟩,rfl⟩ hnext;refine Z2 ?_
 refine k_snext2 rfl zq (fun hdone=>jad ?_) (fun c ru p' hc hway=>jad ?_)
 ·refine Z7 ?_;refine jdc rfl zq hv3 ?_;refine Zs ?_
  refine jaA rfl zq (fun hc=>?_) (fun hc=>?_)
  ·refine Z2 ?_
   refine jaz rfl rfl (fun hc=>?_) (fun hc=>?_);all_goals
    refine Zs ?_;refine jer rfl zq hv3 zS ?_;refine Z3 ?_
    haveI:Seg (jaq v) 0 3 (jaq v):=seg_all (by simpa using hv3)
    refine jmv ?_
    have hR:rdF mosts s [0,0,0] 0 0=(v,decide (k=2)&&decide (0<n)):=by rw [←hrd,gS hdone];rfl
   ·have hb:(decide (k=2)&&decide (0<n))=true:=by simp;omega
    rw [jbc,jau,hR,hb];exact ⟨rfl,rfl⟩
   ·have hb:(decide (k=2)&&decide (0<n))=false:=by simp;omega
    rw [jbc,jau,hR,hb];exact ⟨rfl,rfl⟩
  ·refine Z4 ?_;refine jer rfl zq hv3 zS ?_;refine Z3 ?_
   haveI:Seg (jaq v) 0 3 (jaq v):=seg_all (by simpa using hv3)
   refine jmv ?_
   have hR:rdF mosts s [0,0,0] 0 0=(v,decide (k=2)&&decide (0<n)):=by rw [←hrd,gS hdone];rfl
   have hb:(decide (k=2)&&decide (0<n))=false:=by simp;omega
   rw [jbc,jau,hR,hb];exact ⟨rfl,rfl⟩
 ·have hplt:p<s.length:=(vH.1 hc).1
  have hdr:s.drop p=c::s.drop (p+1):=by rw [vR hplt,(vH.1 hc).2]
  have hmo:=jf6 (k:=k) zO
  refine Z8 ?_;refine jlT rfl zq ?_;refine Z5 ?_
  have hvk:=hvb k
  have hvk0:n=0→v.getD k 0=0:=fun e=>hvz k (.inr ⟨rfl,e⟩)
  rcases rd_ways ru n k (v.getD k 0) with hA|hA|hA|⟨hA1,hA2,hA3⟩
  obtain ⟨hc1,hru,rfl⟩:c.toNat<128∧ru=c.toNat∧p'=p+1:=by omega
  rotate_left
  obtain ⟨hc1,hru,rfl⟩:c.toNat<128∧ru=c.toNat∧p'=p+1:=by omega
  rotate_left
  obtain ⟨hc1,hru,rfl⟩:c.toNat<128∧ru=c.toNat∧p'=p+1:=by omega
  all_goals
   refine jpz ?_;refine Zs ?_
  ·refine jlU rfl zq zO ?_;refine Z14 ?_;refine jlU rfl zq zO ?_;refine Z8 ?_;refine rr14 ?_;refine Zs ?_;refine D35 ?_;refine D30 ?_;rintro v (⟨hc,rfl⟩|⟨hc,rfl⟩)
   ·refine Z3 ?_
    refine jaA rfl rfl (fun hc=>?_) (fun hc=>?_)
    ·refine Z10 ?_;refine jpz ?_;refine Z3 ?_;refine jre rfl zq k zO zO ?_;refine D26 ?_;refine Zs ?_;refine D136 ?_;refine Z2 ?_;refine k_stI rfl zq k zO zO ?_;refine Z9 ?_;refine D48 ?_;refine Z4 ?_;refine D144 ?_
     refine jaz rfl zq (fun hc=>?_) (fun hc=>?_)
     ·refine Z4 ?_;refine jov ?_
      haveI:Seg (jaq [0,0,0]) 0 3 (jaq [0,0,0]):=seg_all rfl
      refine jmv ?_
      have hR:rdF mosts s [0,0,0] 0 0=([0,0,0],false):=by rw [←hrd,hdr];exact jky zO (by rw [jbz zO] at hc;rw [jbz zO];omega)
      have hfo:jbc s=false:=by rw [jbc,hR]
      have hps:jau s=[0,0,0]:=by rw [jau,hR]
      rw [hfo,hps];exact ⟨rfl,rfl⟩
     ·refine Z4 ?_
      exact E24
    ·refine Z3 ?_;refine D86 ?_
     refine jaz rfl rfl (fun hc=>?_) (fun hc=>?_)
     ·refine Z5 ?_;refine jpz ?_;refine Z3 ?_;refine jre rfl zq k zO zO ?_;refine D26 ?_;refine Zs ?_;refine D136 ?_;refine Z2 ?_;refine k_stI rfl zq k zO zO ?_;refine Z9 ?_;refine D48 ?_;refine Z4 ?_;refine D144 ?_
      refine jaz rfl zq (fun hc=>?_) (fun hc=>?_)
      ·refine Z4 ?_;refine jov ?_
       haveI:Seg (jaq [0,0,0]) 0 3 (jaq [0,0,0]):=seg_all rfl
       refine jmv ?_
       have hR:rdF mosts s [0,0,0] 0 0=([0,0,0],false):=by rw [←hrd,hdr];exact jky zO (by rw [jbz zO] at hc;rw [jbz zO];omega)
       have hfo:jbc s=false:=by rw [jbc,hR]
       have hps:jau s=[0,0,0]:=by rw [jau,hR]
       rw [hfo,hps];exact ⟨rfl,rfl⟩
      ·refine Z4 ?_
       exact E24
     ·omega
   ·refine Zs ?_
    omega
  ·refine jaA rfl zq (fun hc=>?_) (fun hc=>?_)
   ·refine Z2 ?_
    refine jaz rfl rfl (fun hc=>?_) (fun hc=>?_)
    ·refine Z3 ?_
     refine jak rfl rfl (fun hc=>?_) (fun hc=>?_)
     ·omega
     ·refine Z7 ?_
      refine jaA rfl zq (fun hc=>?_) (fun hc=>?_)
      ·refine Z2 ?_
       refine jaA rfl rfl (fun hc=>?_) (fun hc=>?_)
       ·omega
       ·refine Z5 ?_;refine rr14 ?_;refine Zs ?_;refine D35 ?_;refine D30 ?_
        rintro v (⟨hc,rfl⟩|⟨hc,rfl⟩)
        ·refine Z3 ?_
         refine jaA rfl rfl (fun hc=>?_) (fun hc=>?_)
         ·omega
         ·refine Z3 ?_;refine D86 ?_
          refine jaz rfl rfl (fun hc=>?_) (fun hc=>?_)
          ·omega
          ·refine Z7 ?_;refine jov ?_
           haveI:Seg (jaq [0,0,0]) 0 3 (jaq [0,0,0]):=seg_all rfl
           refine jmv ?_
           have hR:rdF mosts s [0,0,0] 0 0=([0,0,0],false):=by rw [←hrd,hdr];exact jcW zO zO zO
           have hfo:jbc s=false:=by rw [jbc,hR]
           have hps:jau s=[0,0,0]:=by rw [jau,hR]
           rw [hfo,hps];exact ⟨rfl,rfl⟩
        ·refine Z16 ?_;refine jov ?_
         haveI:Seg (jaq [0,0,0]) 0 3 (jaq [0,0,0]):=seg_all rfl
         refine jmv ?_
         have hR:rdF mosts s [0,0,0] 0 0=([0,0,0],false):=by rw [←hrd,hdr];exact jcW zO zO zO
         have hfo:jbc s=false:=by rw [jbc,hR]
         have hps:jau s=[0,0,0]:=by rw [jau,hR]
         rw [hfo,hps];exact ⟨rfl,rfl⟩
      ·refine Z8 ?_;refine rr14 ?_;refine Zs ?_;refine D35 ?_;refine D30 ?_
       rintro v (⟨hc,rfl⟩|⟨hc,rfl⟩)
       ·refine Z3 ?_
        refine jaA rfl rfl (fun hc=>?_) (fun hc=>?_)
        ·omega
        ·refine Z3 ?_;refine D86 ?_
         refine jaz rfl rfl (fun hc=>?_) (fun hc=>?_)
         ·omega
         ·refine Z7 ?_;refine jov ?_
          haveI:Seg (jaq [0,0,0]) 0 3 (jaq [0,0,0]):=seg_all rfl
          refine jmv ?_
          have hR:rdF mosts s [0,0,0] 0 0=([0,0,0],false):=by rw [←hrd,hdr];exact jcW zO zO zO
          have hfo:jbc s=false:=by rw [jbc,hR]
          have hps:jau s=[0,0,0]:=by rw [jau,hR]
          rw [hfo,hps];exact ⟨rfl,rfl⟩
       ·refine Z16 ?_;refine jov ?_
        haveI:Seg (jaq [0,0,0]) 0 3 (jaq [0,0,0]):=seg_all rfl
        refine jmv ?_
        have hR:rdF mosts s [0,0,0] 0 0=([0,0,0],false):=by rw [←hrd,hdr];exact jcW zO zO zO
        have hfo:jbc s=false:=by rw [jbc,hR]
        have hps:jau s=[0,0,0]:=by rw [jau,hR]
        rw [hfo,hps];exact ⟨rfl,rfl⟩
    ·refine Z11 ?_
     refine jaA rfl zq (fun hc=>?_) (fun hc=>?_)
     ·refine Z2 ?_
      refine jaA rfl rfl (fun hc=>?_) (fun hc=>?_)
      ·omega
      ·refine Z5 ?_;refine rr14 ?_;refine Zs ?_;refine D35 ?_;refine D30 ?_
       rintro v (⟨hc,rfl⟩|⟨hc,rfl⟩)
       ·refine Z3 ?_
        refine jaA rfl rfl (fun hc=>?_) (fun hc=>?_)
        ·omega
        ·refine Z3 ?_;refine D86 ?_
         refine jaz rfl rfl (fun hc=>?_) (fun hc=>?_)
         ·omega
         ·refine Z7 ?_;refine jov ?_
          haveI:Seg (jaq [0,0,0]) 0 3 (jaq [0,0,0]):=seg_all rfl
          refine jmv ?_
          have hR:rdF mosts s [0,0,0] 0 0=([0,0,0],false):=by rw [←hrd,hdr];exact jcW zO zO zO
          have hfo:jbc s=false:=by rw [jbc,hR]
          have hps:jau s=[0,0,0]:=by rw [jau,hR]
          rw [hfo,hps];exact ⟨rfl,rfl⟩
       ·refine Z16 ?_;refine jov ?_
        haveI:Seg (jaq [0,0,0]) 0 3 (jaq [0,0,0]):=seg_all rfl
        refine jmv ?_
        have hR:rdF mosts s [0,0,0] 0 0=([0,0,0],false):=by rw [←hrd,hdr];exact jcW zO zO zO
        have hfo:jbc s=false:=by rw [jbc,hR]
        have hps:jau s=[0,0,0]:=by rw [jau,hR]
        rw [hfo,hps];exact ⟨rfl,rfl⟩
     ·refine Z8 ?_;refine rr14 ?_;refine Zs ?_;refine D35 ?_;refine D30 ?_
      rintro v (⟨hc,rfl⟩|⟨hc,rfl⟩)
      ·refine Z3 ?_
       refine jaA rfl rfl (fun hc=>?_) (fun hc=>?_)
       ·omega
       ·refine Z3 ?_;refine D86 ?_
        refine jaz rfl rfl (fun hc=>?_) (fun hc=>?_)
        ·omega
        ·refine Z7 ?_;refine jov ?_
         haveI:Seg (jaq [0,0,0]) 0 3 (jaq [0,0,0]):=seg_all rfl
         refine jmv ?_
         have hR:rdF mosts s [0,0,0] 0 0=([0,0,0],false):=by rw [←hrd,hdr];exact jcW zO zO zO
         have hfo:jbc s=false:=by rw [jbc,hR]
         have hps:jau s=[0,0,0]:=by rw [jau,hR]
         rw [hfo,hps];exact ⟨rfl,rfl⟩
      ·refine Z16 ?_;refine jov ?_
       haveI:Seg (jaq [0,0,0]) 0 3 (jaq [0,0,0]):=seg_all rfl
       refine jmv ?_
       have hR:rdF mosts s [0,0,0] 0 0=([0,0,0],false):=by rw [←hrd,hdr];exact jcW zO zO zO
       have hfo:jbc s=false:=by rw [jbc,hR]
       have hps:jau s=[0,0,0]:=by rw [jau,hR]
       rw [hfo,hps];exact ⟨rfl,rfl⟩
   ·refine Z14 ?_
    refine jaA rfl zq (fun hc=>?_) (fun hc=>?_)
    ·refine Z2 ?_
     refine jaA rfl rfl (fun hc=>?_) (fun hc=>?_)
     ·omega
     ·refine Z5 ?_;refine rr14 ?_;refine Zs ?_;refine D35 ?_;refine D30 ?_
      rintro v (⟨hc,rfl⟩|⟨hc,rfl⟩)
      ·refine Z3 ?_
       refine jaA rfl rfl (fun hc=>?_) (fun hc=>?_)
       ·omega
       ·refine Z3 ?_;refine D86 ?_
        refine jaz rfl rfl (fun hc=>?_) (fun hc=>?_)
        ·omega
        ·refine Z7 ?_;refine jov ?_
         haveI:Seg (jaq [0,0,0]) 0 3 (jaq [0,0,0]):=seg_all rfl
         refine jmv ?_
         have hR:rdF mosts s [0,0,0] 0 0=([0,0,0],false):=by rw [←hrd,hdr];exact jcW zO zO zO
         have hfo:jbc s=false:=by rw [jbc,hR]
         have hps:jau s=[0,0,0]:=by rw [jau,hR]
         rw [hfo,hps];exact ⟨rfl,rfl⟩
      ·refine Z16 ?_;refine jov ?_
       haveI:Seg (jaq [0,0,0]) 0 3 (jaq [0,0,0]):=seg_all rfl
       refine jmv ?_
       have hR:rdF mosts s [0,0,0] 0 0=([0,0,0],false):=by rw [←hrd,hdr];exact jcW zO zO zO
       have hfo:jbc s=false:=by rw [jbc,hR]
       have hps:jau s=[0,0,0]:=by rw [jau,hR]
       rw [hfo,hps];exact ⟨rfl,rfl⟩
    ·refine Z8 ?_;refine rr14 ?_;refine Zs ?_;refine D35 ?_;refine D30 ?_
     rintro v (⟨hc,rfl⟩|⟨hc,rfl⟩)
     ·refine Z3 ?_
      refine jaA rfl rfl (fun hc=>?_) (fun hc=>?_)
      ·omega
      ·refine Z3 ?_;refine D86 ?_
       refine jaz rfl rfl (fun hc=>?_) (fun hc=>?_)
       ·omega
       ·refine Z7 ?_;refine jov ?_
        haveI:Seg (jaq [0,0,0]) 0 3 (jaq [0,0,0]):=seg_all rfl
        refine jmv ?_
        have hR:rdF mosts s [0,0,0] 0 0=([0,0,0],false):=by rw [←hrd,hdr];exact jcW zO zO zO
        have hfo:jbc s=false:=by rw [jbc,hR]
        have hps:jau s=[0,0,0]:=by rw [jau,hR]
        rw [hfo,hps];exact ⟨rfl,rfl⟩
     ·refine Z16 ?_;refine jov ?_
      haveI:Seg (jaq [0,0,0]) 0 3 (jaq [0,0,0]):=seg_all rfl
      refine jmv ?_
      have hR:rdF mosts s [0,0,0] 0 0=([0,0,0],false):=by rw [←hrd,hdr];exact jcW zO zO zO
      have hfo:jbc s=false:=by rw [jbc,hR]
      have hps:jau s=[0,0,0]:=by rw [jau,hR]
      rw [hfo,hps];exact ⟨rfl,rfl⟩
  ·refine jfk rfl zq zO ?_;refine Z2 ?_;refine k_gtrT rfl rfl zO ?_;refine Z3 ?_;refine jn2 rfl rfl zO ?_;refine Z12 ?_;exact m.weak jaa (hnext _ _ _ zO ⟨p+1,k+1,0,v,rfl,by rw [←hrd,hdr];exact (jnI zO).symm,hv3,by omega,by omega,by omega,hvb,fun j hj=>hvz j zO,exU rfl,rfl⟩)
  ·refine jlU rfl zq zO ?_;refine Z14 ?_;refine jfk rfl zq zO ?_;refine Z2 ?_;refine jfk rfl rfl zO ?_;refine Z7 ?_;refine k_stI rfl zq k zO zO ?_;refine Z9 ?_;refine D48 ?_;refine Z4 ?_;refine D144 ?_;refine k_gtrF rfl zq (by rw [jbz zO];omega) ?_;refine Z4 ?_;exact m.weak jaa (hnext _ _ _ zO ⟨p+1,k,n+1,v.set k (-1),rfl,by rw [←hrd,hdr];exact (jqt zO (by rw [jbz zO];omega)).symm,by simpa using hv3,hk2,by omega,by omega,jh9 zO hvb,fun j hj=>by rw [set_other zO];exact hvz j zO,exU rfl,rfl⟩)
end
section
variable [LaidO B]
theorem ext3 {w:List Int} (hv:v.length=3) (hw:w.length=3) (h: ∀j,j<3→v.getD j 0=w.getD j 0):v=w:=by
 obtain ⟨a,b,c,rfl⟩:=three hv
 obtain ⟨a',b',c',rfl⟩:=three hw
 have h0:a=a':=h 0 zA
 have h1:b=b':=h 1 zA
 have h2:c=c':=h 2 zA
 rw [h0,h1,h2]
def jex (p o:List Int):List Int:=(List.range 3).map fun j=>if p.getD j 0= -1 then o.getD j 0 else p.getD j 0
theorem jhT (p o:List Int):(jex p o).length=3:=by simp [jex]
theorem jfL (p o:List Int) (h:j<3):(jex p o).getD j 0=if p.getD j 0= -1 then o.getD j 0 else p.getD j 0:=by
 rw [jex,gC,ga,Gp h];rfl
def jp8 (v:List Int):Nat:=v.countP fun x=>decide (x= -1)
theorem jlq (h:k<v.length):jp8 (v.take (k+1))=jp8 (v.take k)+if v.getD k 0= -1 then 1 else 0:=by
 rw [take_snoc' v k h,jp8,VD,jp8];congr 1
 by_cases e:v.getD k 0= -1
 ·rw [if_pos e];simp only [VQ,List.countP_nil,e,decide_true]
  rfl
 ·rw [if_neg e];simp only [VQ,List.countP_nil,e,decide_false]
  simp
structure PtOk (v:List Int):Prop where
 len:v.length=3
 lo: ∀j,-1≤v.getD j 0
 hi: ∀j,j<3→v.getD j 0≤mosts.getD j 0
theorem PtOk.zero:PtOk [0,0,0]:=⟨rfl,fun j=>(zero3 j).1,fun j h=>by rw [jk5];exact (Int.le_trans zA (jf6 h).1)⟩
theorem PtOk.set (o:PtOk v) {x:Int} (h1: -1≤x) (h2:x≤mosts.getD k 0):PtOk (v.set k x):=by
 refine ⟨by simpa using o.len,fun j=>?_,fun j hj=>?_⟩
 ·by_cases e:k=j
  ·subst e
   by_cases e2:k<v.length
   ·rw [jbz e2];exact h1
   ·rw [List.set_eq_of_length_le zO];exact o.lo k
  ·rw [set_other e];exact o.lo j
 ·by_cases e:k=j
  ·subst e
   rw [jbz (by rw [o.len];exact hj)];exact h2
  ·rw [set_other e];exact o.hi j hj
theorem jnH: ∀(s:Str) {v:List Int} {k n:Nat},PtOk v→k≤2→(∀j,k<j∨(k=j∧n=0)→v.getD j 0=0)→PtOk (rdF mosts s v k n).1
 |[],v,k,n,h,_,_=>h
 |c::r,v,k,n,h,hk,hz=>by
  have hm:=jf6 (k:=k) zO
  have hl:=h.lo k
  have h3:=h.len
  rw [rdF];split
  ·exact jnH r h zO fun j hj=>hz j zO
  ·split
   ·split
    ·exact PtOk.zero
    ·exact jnH r (h.set zO zO) hk fun j hj=>by rw [set_other zO];exact hz j zO
   ·split
    ·rename_i hd
     split
     ·exact PtOk.zero
     ·rename_i hn
      rw [jbz zO] at hn
      refine jnH r (h.set ?_ zO) hk fun j hj=>by rw [set_other zO];exact hz j zO
      rcases hd.2 with e|e
      ·have:=hz k (.inr ⟨rfl,e⟩);omega
      ·omega
    ·exact PtOk.zero
theorem ja7 (s:Str):PtOk (jau s):=jnH s .zero zO fun j _=>jk5 j
theorem parts_n (h:n<960):PtOk (jdt n):=by
 refine ⟨rfl,fun j=>?_,fun j hj=>?_⟩
 ·match j with
  |0=>show-1≤((n/96:Nat):Int);omega
  |1=>show-1≤((n/8%12:Nat):Int);omega
  |2=>show-1≤((n%8:Nat):Int);omega
  |j+3=>simp [jdt]
 ·rcases (by omega:j=0∨j=1∨j=2) with rfl|rfl|rfl
  ·show ((n/96:Nat):Int)≤9
   omega
  ·show ((n/8%12:Nat):Int)≤11
   omega
  ·show ((n%8:Nat):Int)≤7
   omega
theorem jl4 {p:List Int} (hp:PtOk p):jex p (jdt n)=jdt n↔jfC p n=true:=by
 rw [jfC,gX];constructor
 ·intro h j hj
  rw [gT] at hj
  have:=jfL p (jdt n) hj
  rw [h] at this
  have:=hp.lo j
  simp only [GR,decide_eq_true_eq]
  by_cases e:p.getD j 0= -1
  ·left
   omega
  ·rw [if_neg e] at*
   right
   omega
 ·intro h
  refine ext3 (jhT _ _) rfl fun j hj=>?_
  rw [jfL _ _ hj];have h1:=h j (gT.2 hj)
  simp only [GR,decide_eq_true_eq] at h1
  have:=hp.lo j
  by_cases e:p.getD j 0= -1
  ·rw [if_pos e]
  ·rw [if_neg e];omega
def jhf (p:List Int) (k:Nat):List Int:=((List.range k).filter (jfC p)).map fun (n:Nat)=>(n:Int)
theorem jf7 (p:List Int) (k:Nat):jhf p (k+1)=jhf p k++if jfC p k then [(k:Int)] else []:=by
 rw [jhf,GT,GG,GA,←jhf];congr 1
 cases h:jfC p k<;>simp [List.filter,h]
theorem jmS (p:List Int) (k:Nat):(jhf p k).length≤k:=by
 rw [jhf,gU];exact GJ (GU _ _) zS
theorem f118_c (m:Md Tryz.prog B) (h:Hp) (hv:v.length=3):FnC m 118 #[.agg (jaq v).toArray] h fun w h'=>h'=h∧w= .int .i64 (jp8 v:Int):=by
 refine jae Tryz.func118 rfl rfl (l:=(.agg (jaq v).toArray)::uu15) rfl ?_
 intro cf cs K hK
 refine Z2 ?_
 refine jaF rfl zq (fun q1=>jap (jad ?_));refine Z9 ?_;refine jdc rfl zq hv ?_;refine Z3 ?_
 refine jaf (fun nn l h'=> ∃(k:Nat),nn=3-k∧(k≤3)∧(∃U:Nat→Value,l=((.agg (jaq v).toArray)::(.pointer (some ⟨q1,0,none⟩))::(U 2)::(.int .i64 (jp8 (v.take k):Int))::(U 4)::(U 5)::(.agg (jaq v).toArray)::(.int .i64 (k:Int))::vw8 U 8 []))∧h++[⟨true,q1,.cells (jaq v).toArray 117 (0,0)⟩]=h') _ ⟨0,rfl,by omega,exU rfl,rfl⟩ ?_;rintro nn l h' ⟨k,rfl,hk,⟨U,rfl⟩,rfl⟩ hnext;have hsm:jp8 (v.take k)≤k:=GJ (vJ ..) zN
 refine Z2 ?_
 refine jak rfl zq (fun hc=>?_) (fun hc=>?_)
 ·refine Z8 ?_;refine k_ixv rfl zq zO zO (jmX zO) ?_;refine Z5 ?_
  refine jaA rfl zq (fun hc=>?_) (fun hc=>?_);refine Z7 ?_
  rotate_left
  refine Z3 ?_
  all_goals
   refine Z5 ?_
  ·rw [show (jp8 (v.take k):Int)=(jp8 (v.take (k+1)):Int) by rw [jlq zO,if_neg zO];omega];exact E25
  ·rw [show (jp8 (v.take k):Int)+1=(jp8 (v.take (k+1)):Int) by rw [jlq zO,if_pos zO];omega];exact E25
 ·refine Z10 ?_;refine jac (h) rfl Tryz.func118 rfl jaa ?_;refine Zs ?_
  obtain rfl:k=3:=by omega
  rw [←hv,GQ];exact ⟨rfl,rfl⟩
theorem f79_c (m:Md Tryz.prog B) (h:Hp) {p o:List Int} (hp:p.length=3) (ho:o.length=3):FnC m 79 #[.agg (jaq p).toArray,.agg (jaq o).toArray] h fun w h'=>h'=h∧w= .agg (jaq (jex p o)).toArray:=by
 refine jae Tryz.func79 rfl rfl (l:=(.agg (jaq p).toArray)::(.agg (jaq o).toArray)::uu19) rfl ?_
 intro cf cs K hK
 refine Z2 ?_
 refine jaF rfl zq (fun q2=>jap (jad ?_));refine jaF rfl zq (fun q3=>jap (jad ?_));refine jaB rfl zq (fun q4=>jap (jad ?_));refine Z4 ?_;refine jdc rfl zq hp ?_;refine Z3 ?_
 refine jaf (fun nn l h'=> ∃(k:Nat) (v:List Int),nn=3-k∧(k≤3)∧(v.length=3)∧(∀j,j<3→v.getD j 0=if j<k then (jex p o).getD j 0 else p.getD j 0)∧(∃U:Nat→Value,l=((.agg (jaq p).toArray)::(.agg (jaq o).toArray)::(.pointer (some ⟨q2,0,none⟩))::(.pointer (some ⟨q3,0,none⟩))::(.pointer (some ⟨q4,0,none⟩))::(U 5)::(U 6)::(.agg (jaq p).toArray)::(.int .i64 (k:Int))::vw12 U 9 []))∧h++[⟨true,q2,.cells (jaq v).toArray 117 (0,0)⟩,⟨true,q3,.cells (jaq o).toArray 117 (0,0)⟩,⟨true,q4,.cells (jaq [0,0,0]).toArray 117 (0,0)⟩]=h') _ ⟨0,p,rfl,by omega,hp,fun j hj=>by simp,exU rfl,rfl⟩ ?_;rintro nn l h' ⟨k,v,rfl,hk,hv,hvj,⟨U,rfl⟩,rfl⟩ hnext;refine Z2 ?_
 refine jak rfl zq (fun hc=>?_) (fun hc=>?_)
 ·refine Z9 ?_;refine k_ixv rfl zq zO zO (jmX zO) ?_;refine Z6 ?_
  refine jaA rfl zq (fun hc=>?_) (fun hc=>?_);refine Z6 ?_;refine jre rfl zq k zO zO ?_;refine Zs ?_;refine k_stI rfl zq k zO zO ?_;refine Zs ?_
  rotate_left
  refine Z3 ?_
  all_goals
   refine Z5 ?_
  ·exact m.weak jaa (hnext _ _ _ zO ⟨k+1,v,rfl,by omega,hv,by
    intro j hj
    rw [hvj j hj];by_cases e:k=j
    ·subst e
     rw [if_neg zO,if_pos zO,jfL _ _ hj,if_neg zO]
    ·by_cases e2:j<k
     ·rw [if_pos e2,if_pos zO]
     ·rw [if_neg e2,if_neg zO],exU rfl,rfl⟩)
  ·exact m.weak jaa (hnext _ _ _ zO ⟨k+1,v.set k (o.getD k 0),rfl,by omega,by simpa using hv,by
    intro j hj
    by_cases e:k=j
    ·subst e
     rw [jbz zO,if_pos zO,jfL _ _ hj,if_pos zO]
    ·rw [set_other e,hvj j hj];by_cases e2:j<k
     ·rw [if_pos e2,if_pos zO]
     ·rw [if_neg e2,if_neg zO],exU rfl,rfl⟩)
 ·refine Z6 ?_;refine jdc rfl zq hv ?_;refine jer rfl zq hv zN ?_;refine Z2 ?_
  haveI:Seg (jaq v) 0 3 (jaq v):=seg_all (by simpa using hv)
  refine jac (h) rfl Tryz.func79 rfl jaa ?_;refine Zs ?_;have hw:v=jex p o:=ext3 hv (jhT _ _) fun j hj=>by rw [hvj j hj,if_pos zO]
  rw [hw];exact ⟨rfl,rfl⟩
theorem f68_c (m:Md Tryz.prog B) (h:Hp) (hv:PtOk v):FnC m 68 #[.agg (jaq v).toArray] h fun w h'=> ∃new,h'=h++new∧OwnS 3 1 w (jkJ v).length (jaq (jkJ v)) new:=by
 refine jae Tryz.func68 rfl rfl (l:=(.agg (jaq v).toArray)::uu21) rfl ?_
 intro cf cs K hK
 refine Z2 ?_
 refine jaF rfl zq (fun q1=>jap (jad ?_));refine Z12 ?_
 refine jaf (fun nn l h'=> ∃(k:Nat) (wp:Option Addr) (wc:Nat) (M:Hp),nn=960-k∧(k≤960)∧(OwnS 3 1 (.slice wp (jhf v k).length wc) (jhf v k).length (jaq (jhf v k)) M)∧(∃U:Nat→Value,l=((.agg (jaq v).toArray)::(.pointer (some ⟨q1,0,none⟩))::(U 2)::(.slice wp (jhf v k).length wc)::(U 4)::(U 5)::(.int .i64 (k:Int))::vw15 U 7 []))∧h++[⟨true,q1,.cells (jaq v).toArray 117 (0,0)⟩]++M=h') _ ⟨0,none,0,[],rfl,by omega,OwnS.nil,exU rfl,zS⟩ ?_;rintro nn l h' ⟨k,wp,wc,M,rfl,hk,how,⟨U,rfl⟩,rfl⟩ hnext;have hml:=jmS v k
 refine Z2 ?_
 refine jak rfl zq (fun hc=>?_) (fun hc=>?_);refine Z6 ?_
 rotate_left
 refine Z4 ?_
 all_goals
  refine Z5 ?_
 ·refine Zs ?_;refine jac (h++M) rfl Tryz.func68 rfl jaa ?_;refine Zs ?_
  obtain rfl:k=960:=by omega
  exact ⟨M,rfl,how⟩
 ·refine Z3 ?_;refine jag (Post:=fun v=>v=_) rfl zq zK (fun H' hH=>f69_c m H' k zO) ?_
  rintro v rfl;refine Zs ?_
  refine jaB rfl zq (fun q5=>jap (jad ?_));refine jer (w:=jdt k) rfl zq rfl (by simp;rfl) ?_;refine Z2 ?_;refine D108 ?_;refine jdc rfl zq hv.len ?_;refine jdc rfl zq rfl ?_;refine jdc rfl zq rfl ?_;refine jag (Post:=fun w=>w= .agg (jaq (jex v (jdt k))).toArray) rfl zq zK (fun H' hH=>f79_c m H' hv.len rfl) ?_;rintro w rfl;refine Zs ?_
  refine k_eqlA3 (e:=3) rfl zq zK zK (jhT _ _) rfl (fun hc=>?_) (fun hc=>?_);refine Z5 ?_
  refine jcb kdq rfl zq zA zA rfl (fun q18=>jap (jad ?_));refine ja2 rfl zq rfl how kdq zO zO (fun w9 n9 o9=>jad ?_);obtain ⟨p9,c9,rfl,hc9,r9⟩:=jas (B:=B) o9
  refine Z2 ?_
  rotate_left
  refine Z3 ?_
  all_goals
   refine Z5 ?_
  ·have hks:jhf v (k+1)=jhf v k:=by rw [jf7,if_neg (fun e=>hc ((jl4 hv).2 e)),gd]
   rw [←hks];exact E26
  ·have hks:jhf v (k+1)=jhf v k++[(k:Int)]:=by rw [jf7,if_pos ((jl4 hv).1 hc)]
   have hkl:(jhf v (k+1)).length=(jhf v k).length+1:=by rw [hks];simp
   rw [←hkl];exact E27
end
section
theorem extNoEsc:Ext Tryz.prog 182 Extern.AbiNoEscape.same:=⟨Tryz.f182,Tryz.func182,by kernel_rfl,by kernel_rfl,by kernel_rfl,by kernel_rfl⟩
theorem extMnz:Ext Tryz.prog 183 (Extern.BytealgMakeNoZero.makeNoZero #[3] #[209]):=⟨Tryz.f183,Tryz.func183,by kernel_rfl,by kernel_rfl,by kernel_rfl,by kernel_rfl⟩
theorem jlc: Tryz.prog.underlying 208=some (.pointer 211):=by kernel_rfl
theorem und234: Tryz.prog.underlying 194=some .unsafePointer:=by kernel_rfl
theorem und192: Tryz.prog.underlying 209=some (.slice 5):=by kernel_rfl
theorem jke: Tryz.prog.underlying 9=some .string:=by kernel_rfl
theorem info250:(Tryz.prog.info? 211).map (fun i=>decide (i.size=0))=some false:=by kernel_rfl
theorem lies250:liesAt Tryz.prog Tryz.prog.depth 211 (2/ Tryz.prog.cellsOf 211) 0 211 1=true:=by kernel_rfl
theorem jqb:Still Tryz.prog (sizeOf 211) 2:=joH zK
theorem depthO: ∃k,Tryz.prog.depth=k+1:=⟨Tryz.prog.depth-1,by kernel_rfl⟩
theorem own_pos {v:Value} (o:OwnS t 1 v n cs M) (h:0<n): ∃b cap junk,v= .slice (some ⟨b,0,none⟩) n cap∧M=[⟨true,b,.cells (cs++junk).toArray t (0,0)⟩]∧n≤cap:=by
 cases o with
 |nil=>omega
 |blk hl hc hn=>exact ⟨_,_,_,rfl,rfl,hn⟩
abbrev jmn (q:Nat) (pa:Option Addr) (v:Value):Chunk:=⟨true,q,.cells [.pointer pa,v].toArray 211 (0,0)⟩
theorem f175_c (m:Md Tryz.prog B) (F M:Hp) {v:Value} [CellsV v [v]] (hpa:pa=none∨pa=some ⟨q,0,none⟩):FnC m 175 #[.pointer (some ⟨q,0,none⟩)] (F++[jmn q pa v]++M) fun _ h'=>h'=F++[jmn q (some ⟨q,0,none⟩) v]++M:=by
 refine jae Tryz.func175 rfl rfl (l:=(.pointer (some ⟨q,0,none⟩))::uu19) rfl ?_
 intro cf cs K hK
 refine Zs ?_
 rcases hpa with rfl|rfl
 all_goals
  refine Z5 ?_
 ·refine jrg rfl zq jlc ?_;refine Z5 ?_;refine k_to rfl zq jlc und234 info250 rd_at ?_;refine k_extP extNoEsc rfl zq kdq rfl ?_;refine k_from rfl zq und234 jlc ⟨2,jqb,by decide⟩ lies250 ?_;refine Z2 ?_;refine D9 ?_;refine Zs ?_;refine jcJ rfl ?_;refine jac (F++[jmn q (some ⟨q,0,none⟩) v]++M) rfl Tryz.func175 rfl jaa ?_;refine Zs ?_;rfl
 ·refine jrh rfl zq jlc ?_;refine Z9 ?_;refine jq9 rfl zq jlc jqb zA ?_;refine Z3 ?_;refine jcJ rfl ?_;refine jac (F++[jmn q (some ⟨q,0,none⟩) v]++M) rfl Tryz.func175 rfl jaa ?_;refine Zs ?_;rfl
theorem f176_c (m:Md Tryz.prog B) (F:Hp) (n:Nat) (hn:n≤2^40):FnC m 176 #[.pointer (some ⟨q,0,none⟩),.int .i64 (n:Int)] (F++[jmn q pa (.slice none 0 0)]) fun _ h'=> ∃q2 N M,n≤N∧h'=F++[jmn q pa (.slice (some ⟨q2,0,none⟩) 0 N)]++M∧OwnS 5 1 (.slice (some ⟨q2,0,none⟩) 0 N) 0 [] M:=by
 refine jae Tryz.func176 rfl rfl (l:=(.pointer (some ⟨q,0,none⟩))::(.int .i64 (n:Int))::uu28) rfl ?_
 intro cf cs K hK
 refine Zs ?_;refine jan [Zp 0,Zp 1,Zp 2,Zp 6,Zp 9,Zp 10,Zp 11,Zr 3,Zp 4,Zp 5,Zp 7,Zr 12,Zp 13,Zk 8,Zp 14,Zp 15] zK zK (gE _) ?_;refine Z8 ?_;refine k_cap rfl zq ?_;refine D26 ?_;refine Z3 ?_
 rw [show (2:Int)*((0:Nat):Int)+(n:Int)=(n:Int) by omega];refine k_mnz (n:=n) extMnz rfl zq kdq und192 zO (fun q13 N junk hnN hjl=>jap (jad ?_));refine jlQ (b:=0) rfl zq (.inr ⟨_,_,rfl⟩) rfl zO ?_;refine Z9 ?_;refine k_copy0 rfl zq ?_;refine Z6 ?_;refine D9 ?_;refine Zs ?_;refine jcJ rfl ?_;refine jac (F++[jmn q pa (.slice (some ⟨q13,0,none⟩) 0 N),⟨true,q13,.cells junk.toArray 5 (0,0)⟩]) rfl Tryz.func176 rfl jaa ?_;refine Zs ?_;exact ⟨q13,N,[⟨true,q13,.cells junk.toArray 5 (0,0)⟩],hnN,by simp,OwnS.blk (cs:=[]) (junk:=junk) rfl (by simp [hjl]) zO⟩
theorem f156_c (m:Md Tryz.prog B) (F:Hp) (n:Nat) (hn:n≤2^40) (h0:0<n):FnC m 156 #[.pointer (some ⟨q,0,none⟩),.int .i64 (n:Int)] (F++[jmn q none (.slice none 0 0)]) fun _ h'=> ∃v M,h'=F++[jmn q (some ⟨q,0,none⟩) v]++M∧OwnS 5 1 v 0 [] M:=by
 refine jae Tryz.func156 rfl rfl (l:=(.pointer (some ⟨q,0,none⟩))::(.int .i64 (n:Int))::uu23) rfl ?_
 intro cf cs K hK
 refine Z3 ?_;refine jbt rfl zq zK (CallF.weak (weakEq (gd _).symm) (f175_c m F [] (q:=q) (pa:=none) (v:= .slice none 0 0) (.inl rfl))) ?_
 rintro _ h' rfl;rw [gd];refine Z6 ?_;refine k_lssF rfl zq zO ?_;refine Z4 ?_;refine jan [Zp 0,Zp 1,Zp 2,Zp 5,Zp 6,Zp 7,Zp 11,Zr 3,Zp 4,Zr 8,Zp 9,Zp 10,Zp 12] zK zK (gE _) ?_;refine Z8 ?_;refine k_cap rfl zq ?_;refine Z3 ?_;refine jn2 rfl zq zO ?_;refine Z5 ?_;refine jbt rfl zq zK (f176_c m F (q:=q) (pa:=some ⟨q,0,none⟩) n hn) ?_
 rintro _ h' ⟨q2,N,M,hnN,rfl,ho⟩;refine Z2 ?_;refine jcJ rfl ?_;refine jac (F++[jmn q (some ⟨q,0,none⟩) (.slice (some ⟨q2,0,none⟩) 0 N)]++M) rfl Tryz.func156 rfl jaa ?_;refine Zs ?_
 exact ⟨_,M,rfl,ho⟩
theorem f157_c (m:Md Tryz.prog B) (F M:Hp) (hpa:pa=none∨pa=some ⟨q,0,none⟩) {v:Value} {t:Str} (ho:OwnS 5 1 v t.length (t.map jcc) M) (s:Str) (hn:t.length+s.length≤2^40):FnC m 157 #[.pointer (some ⟨q,0,none⟩),str s] (F++[jmn q pa v]++M) fun w h'=> ∃v' M',h'=F++[jmn q (some ⟨q,0,none⟩) v']++M'∧OwnS 5 1 v' (t++s).length ((t++s).map jcc) M'∧w= .tuple [.int .i64 (s.length:Int),.nilIface].toArray:=by
 obtain ⟨p0,c0,rfl,hc0,r0⟩:=jas (B:=B) ho
 refine jae Tryz.func157 rfl rfl (l:=(.pointer (some ⟨q,0,none⟩))::(str s)::uu17) rfl ?_
 intro cf cs K hK
 refine Z8 ?_;refine jbt rfl zq zK (f175_c m F M (v:= .slice p0 t.length c0) hpa) ?_
 rintro _ h' rfl;refine Z10 ?_
 refine k_appS rfl zq jke ho (Weak.perm Off.perm) kdq zO zO (fun w9 n9 o9=>jad ?_);obtain ⟨p9,c9,rfl,hc9,r9⟩:=jas (B:=B) o9
 refine Z2 ?_;refine D9 ?_;refine Z9 ?_;refine jac (F++[jmn q (some ⟨q,0,none⟩) (.slice p9 (t.length+s.length) c9)]++n9) rfl Tryz.func157 rfl jaa ?_;refine Zs ?_
 exact ⟨_,_,rfl,by rw [GA,gJ];exact o9,rfl⟩
theorem f158_c (m:Md Tryz.prog B) (F:Hp) {v:Value} {t:Str} (ho:OwnS 5 1 v t.length (t.map jcc) M) (h0:0<t.length) (hn:t.length≤2^40):FnC m 158 #[.pointer (some ⟨q,0,none⟩)] (F++[jmn q pa v]++M) fun w h'=>h'=F++[jmn q pa v]∧w=str t:=by
 obtain ⟨b1,cap1,junk1,rfl,rfl,hcap⟩: ∃b cap junk,v= .slice (some ⟨b,0,none⟩) t.length cap∧M=[⟨true,b,.cells (t.map jcc++junk).toArray 5 (0,0)⟩]∧t.length≤cap:=own_pos ho h0
 refine jae Tryz.func158 rfl rfl (l:=(.pointer (some ⟨q,0,none⟩))::uu13) rfl ?_
 intro cf cs K hK
 refine Z5 ?_;refine jan [Zp 0,Zp 1,Zp 2,Zp 5,Zp 6,Zp 7,Zr 3,Zp 4,Zr 8,Zp 9,Zf 10,Zp 11] zK zK (gE _) ?_;refine Z7 ?_;refine k_usd rfl zq zO ?_;refine Z2 ?_;refine k_ustr (s:=t) (n:=t.length) rfl zq (joI zK) depthO zK rfl zO zO (.inl rfl) ?_;refine Z4 ?_;refine jac (F++[jmn q pa (.slice (some ⟨b1,0,none⟩) t.length cap1)]) rfl Tryz.func158 rfl jaa ?_;refine Zs ?_
 exact ⟨rfl,rfl⟩
end
section
theorem d36: ∀n,n<10→(([48,49,50,51,52,53,54,55,56,57,97,98,99,100,101,102,103,104,105,106,107,108,109,110,111,112,113,114,115,116,117,118,119,120,121,122]:Str).take (n+1)).drop n=digS n:=by decide
def d100:Str:=(List.range 100).flatMap fun n=>[UInt8.ofNat (48+n/10),UInt8.ofNat (48+n%10)]
theorem d100_cut: ∀n,n<100→10≤n→(d100.take (n*2+2)).drop (n*2)=digS n:=by decide+kernel
theorem f178_c (m:Md Tryz.prog B) (h:Hp) (n:Nat) (hn:n<100):FnC m 178 #[.int .i64 (n:Int)] h fun v h'=>h'=h∧v=str (digS n):=by
 refine jae Tryz.func178 rfl rfl (l:=(.int .i64 (n:Int))::uu14) rfl ?_
 intro cf cs K hK
 refine Z8 ?_
 refine jak rfl zq (fun hc=>?_) (fun hc=>?_);refine Z7 ?_
 rw [show (n:Int)+1=((n+1:Nat):Int) by omega];refine jhK (j:=n) (k:=n+1) rfl zq jke zO (by show _≤36;omega) ?_;rw [d36 n zO];rotate_left
 refine Z6 ?_;refine D26 ?_;refine Zs ?_;refine D26 ?_;refine Zs ?_
 rw [show (n:Int)*2+2=((n*2+2:Nat):Int) by omega,show (n:Int)*2=((n*2:Nat):Int) by omega];refine jhK (p:=d100) (j:=n*2) (k:=n*2+2) rfl zq jke zO (by show _≤200;omega) ?_;rw [d100_cut n hn zO];all_goals
  refine Z3 ?_;refine jac (h) rfl Tryz.func178 rfl jaa ?_;refine Zs ?_
  exact ⟨rfl,rfl⟩
theorem f174_c (m:Md Tryz.prog B) (h:Hp) (n:Nat) (hn:n<100):FnC m 174 #[.int .i64 (n:Int),.int .i64 10] h fun v h'=>h'=h∧v=str (digS n):=by
 refine jae Tryz.func174 rfl rfl (l:=(.int .i64 (n:Int))::(.int .i64 10)::uu52) rfl ?_
 intro cf cs K hK
 refine Z8 ?_;refine jfk rfl zq rfl ?_;refine Z6 ?_;refine k_leqT rfl zq zO ?_;refine Z2 ?_;refine jn2 rfl rfl zO ?_;refine Z6 ?_;refine jag (Post:=fun v=>v=_) rfl zq zK (fun H' hH=>f178_c m H' n hn) ?_
 rintro v rfl;refine Z4 ?_;refine jac (h) rfl Tryz.func174 rfl jaa ?_;refine Zs ?_
 exact ⟨rfl,rfl⟩
theorem f155_c (m:Md Tryz.prog B) (h:Hp) (n:Nat) (hn:n<100):FnC m 155 #[.int .i64 (n:Int)] h fun v h'=>h'=h∧v=str (digS n):=by
 refine jae Tryz.func155 rfl rfl (l:=[.int .i64 (n:Int),undef,undef,undef,undef]) rfl ?_
 intro cf cs K hK
 refine Z7 ?_;refine jag (Post:=fun v=>v=_) rfl zq zK (fun H' hH=>f174_c m H' n hn) ?_
 rintro v rfl;refine Z4 ?_;refine jac (h) rfl Tryz.func155 rfl jaa ?_;refine Zs ?_
 exact ⟨rfl,rfl⟩
theorem f108_c (m:Md Tryz.prog B) (h:Hp) (n:Nat) (hn:n<100):FnC m 108 #[.int .i64 (n:Int)] h fun v h'=>h'=h∧v=str (digS n):=by
 refine jae Tryz.func108 rfl rfl (l:=[.int .i64 (n:Int),undef,undef,undef,undef]) rfl ?_
 intro cf cs K hK
 refine Z7 ?_;refine jag (Post:=fun v=>v=_) rfl zq zK (fun H' hH=>f155_c m H' n hn) ?_
 rintro v rfl;refine Z4 ?_;refine jac (h) rfl Tryz.func108 rfl jaa ?_;refine Zs ?_
 exact ⟨rfl,rfl⟩
theorem k_quoB {m:Md P B} {x:Operand} {z w:Int} (ho:ops[i]?=some ⟨d,.binOp .quo t x y u,ty,pos,af,g⟩) (hw:Wt ops l g) [KHeap kd S h H] [ex:OpV l x (.int .i64 z)] [ey:OpV l y (.int .i64 w)] (h0:w≠0) (hv:jep (z.tdiv w)) [PutV l d (.int .i64 (z.tdiv w)) l'] (q:RegK m S ops r l' h C):RegK m S ops ((i,kd)::r) l h C:=
 RegK.rd (v:= .int .i64 (z.tdiv w)) ho hw (jaY ex.eq ey.eq zS (by
  simp only [binOp,Op.intDiv,if_neg h0,jdK hv]
  rfl)) q
theorem quo_big (h0:0<k) (h:k≤1000):1000000≤(9223372036854775807:Int).tdiv (k:Int)∧(9223372036854775807:Int).tdiv (k:Int)≤9223372036854775807:=by
 have e:(9223372036854775807:Int).tdiv (k:Int)=((9223372036854775807/k:Nat):Int):=(Int.ofNat_tdiv 9223372036854775807 k).symm
 rw [e];have h1:1000000≤9223372036854775807/k:=(Nat.le_div_iff_mul_le h0).2 zO
 have h2:=Nat.div_le_self 9223372036854775807 k
 omega
def jq1 (ss:List Str):List Nat:=ss.map List.length
theorem jnZ (h:k<ss.length):(jq1 ss).getD k 0=(ss.getD k []).length:=by
 rw [jq1,gC,ga,gD h,gC,gD h];rfl
theorem lens_le {c:Nat} (h: ∀s∈ss,s.length≤c): ∀k,((jq1 ss).take k).sum≤k*c:=by
 intro k
 induction k with
 |zero=>simp
 |succ k ih=>
  by_cases hk:k<ss.length
  ·rw [jfO _ _ (by simpa [jq1] using hk),jnZ hk];have:=h _ (jal (l:=ss) hk)
   have e:ss.getD k default=ss.getD k []:=rfl
   rw [e] at this
   rw [Gc];omega
  ·rw [gh (by simp [jq1];omega)];rw [gh (by simp [jq1];omega)] at ih
   rw [Gc];omega
def jgf (sep:Str) (ss:List Str) (k:Nat):Str:=ss.getD 0 []++((ss.drop 1).take k).flatMap fun x=>sep++x
theorem jjS (sep:Str) (ss:List Str):jgf sep ss 0=ss.getD 0 []:=by simp [jgf]
theorem jgR (sep:Str) (h:k+1<ss.length):jgf sep ss (k+1)=jgf sep ss k++sep++(ss.drop 1).getD k []:=by
 rw [jgf,jgf,ja5 (α:=Str) (ss.drop 1) k (by rw [Gw];omega),Gd];simp only [vW,List.flatMap_nil,gd,gG]
 rfl
theorem jpn (ss:List Str):jay (ss.drop 1)=(jay ss).drop 1:=by have:=jiR ss 1;simpa using this
theorem jrl {sep:Str} (h:0<sep.length) (hk:0<k) (hl:k<ss.length):0<(jgf sep ss k).length:=by
 match k,hk with
 |k+1,_=>rw [jgR sep zO,gJ,gJ];omega
theorem jiC (sep:Str) (h:0<ss.length):jgf sep ss (ss.length-1)=jpa sep ss:=by
 match ss,h with
 |a::r,_=>simp [jgf,jpa]
theorem jrm (sep:Str) {c:Nat} (hs:sep.length≤c) (h: ∀s∈ss,s.length≤c): ∀k,(jgf sep ss k).length≤c+k*(2*c):=by
 have h0:(ss.getD 0 []).length≤c:=by
  by_cases e:0<ss.length
  ·exact h _ (jal (l:=ss) e)
  ·rw [gC,gl zO];simp
 intro k
 induction k with
 |zero=>rw [jjS];omega
 |succ k ih=>
  by_cases hk:k+1<ss.length
  ·rw [jgR sep hk,gJ,gJ,Gc];have:((ss.drop 1).getD k []).length≤c:=h _ (List.mem_of_mem_drop (jal (l:=ss.drop 1) (i:=k) (by rw [Gw];omega)))
   omega
  ·rw [jgf,gh (by rw [Gw];omega)];rw [jgf,gh (by rw [Gw];omega)] at ih
   rw [Gc];omega
theorem f109_c (m:Md Tryz.prog B) (h:Hp) {c:Nat} (rd:RdS B h 1 (.slice p n c) n (jay ss)) (hcap:n≤c) (hn:2≤n∧n≤1000) (hss: ∀s∈ss,s.length≤100000) (sep:Str) (hsep:0<sep.length∧sep.length≤100000):FnC m 109 #[.slice p n c,str sep] h fun v h'=>h'=h∧v=str (jpa sep ss):=by
 refine jae Tryz.func109 rfl rfl (l:=(.slice p n c)::(str sep)::uu73) rfl ?_
 intro cf cs K hK
 refine Z13 ?_;refine jlU rfl zq zO ?_;refine Z5 ?_;refine jlU rfl zq zO ?_;refine Z14 ?_;refine k_gtrT rfl zq zO ?_;refine Z4 ?_
 have hqb:=quo_big (k:=n-1) zO zO
 rw [show ((n-1:Nat):Int)=(n:Int)-1 by omega] at hqb
 refine Z6 ?_;refine k_quoB rfl zq zO (by unfold jep;omega) ?_;refine k_geqF rfl zq zO ?_;refine Z10 ?_
 have hmu:0≤(sep.length:Int)*((n:Int)-1)∧(sep.length:Int)*((n:Int)-1)≤100000000:=⟨Int.mul_nonneg zO zO,by have:=Int.mul_le_mul (show (sep.length:Int)≤100000 by omega) (show (n:Int)-1≤1000 by omega) zO zO;omega⟩
 refine D26 ?_;refine Z5 ?_
 obtain ⟨Z,hZ⟩: ∃Z:Nat,(sep.length:Int)*((n:Int)-1)=(Z:Int):=⟨((sep.length:Int)*((n:Int)-1)).toNat,by omega⟩
 have hZ0:sep.length≤Z:=by have:=Int.mul_le_mul_of_nonneg_left (show (1:Int)≤(n:Int)-1 by omega) (show 0≤(sep.length:Int) by omega);omega
 rw [Int.zero_add,hZ];have hll:=rd.elen zA
 refine Z6 ?_
 refine jaf (fun nn l h'=> ∃(k:Nat),nn=n-k∧(k≤n)∧(∃U:Nat→Value,l=((.slice p n c)::(str sep)::(U 2)::(U 3)::(U 4)::(.int .i64 ((Z+((jq1 ss).take k).sum:Nat):Int))::vw33 U 6 ((.slice p n c)::(.int .i64 (n:Int))::(.int .i64 (k:Int))::vw33 U 42 [])))∧h=h') _ ⟨0,rfl,by omega,exU rfl,rfl⟩ ?_;rintro nn l h' ⟨k,rfl,hk,⟨U,rfl⟩,rfl⟩ hnext;have hlk:=lens_le hss k
 refine Z2 ?_
 refine jak rfl zq (fun hc=>?_) (fun hc=>?_)
 ·refine Z8 ?_
  obtain ⟨rd_b,rd_o,rfl⟩:=rd.ptr zO
  refine D0 ?_;refine jaI rfl zq (rd.sat k zO zO) ?_;refine Z4 ?_
  have hsk:(ss.getD k []).length≤100000:=hss _ (jal (l:=ss) zO)
  refine Z5 ?_
  refine jaz rfl zq (fun hc=>?_) (fun hc=>?_)
  ·omega
  ·refine Z15 ?_
   rw [show ((Z+((jq1 ss).take k).sum:Nat):Int)+((ss.getD k []).length:Int)=((Z+((jq1 ss).take (k+1)).sum:Nat):Int) by rw [jfO _ _ (by simp [jq1];omega),jnZ zO];omega];exact E25
 ·refine Z6 ?_
  refine jaB rfl zq (fun q8=>jap (jad ?_));refine Z2 ?_
  have hkn:k=n:=by omega
  subst hkn
  obtain ⟨T,hT⟩: ∃T,T=Z+((jq1 ss).take k).sum:=⟨_,rfl⟩
  rw [←hT];have hs0:(ss.getD 0 []).length≤100000:=hss _ (jal (l:=ss) zO)
  refine Z2 ?_;refine jbt rfl zq zK (f156_c m h (q:=q8) T zO zO) ?_
  rintro _ _ ⟨v0,M0,rfl,ho0⟩;refine Z5 ?_
  obtain ⟨rd_b,rd_o,rfl⟩:=rd.ptr zO
  refine D0 ?_;refine jaI rfl zq (rd.sat 0 zO zO) ?_;refine jbt rfl zq zK (f157_c m h M0 (q:=q8) (pa:=some ⟨q8,0,none⟩) (v:=v0) (t:=[]) (.inr rfl) ho0 (ss.getD 0 []) (by rw [vk];omega)) ?_
  rintro _ _ ⟨v1,M1,rfl,ho1,rfl⟩;refine Z6 ?_;refine jgc (a:=1) rfl zq rfl zO ?_
  have rdc:=rd.cut (lo:=1) zO hcap
  rw [GK,←jpn] at rdc
  refine Z4 ?_
  refine jaf (fun nn l h'=> ∃(j:Nat) (w:Value) (M:Hp),nn=k-1-j∧(j≤k-1)∧(OwnS 5 1 w (jgf sep ss j).length ((jgf sep ss j).map jcc) M)∧(∃U:Nat→Value,l=((.slice (some ⟨rd_b,rd_o,none⟩) k c)::(str sep)::vw6 U 2 ((.pointer (some ⟨q8,0,none⟩))::vw54 U 9 ((.slice (jmt 1 (some ⟨rd_b,rd_o,none⟩) c 1) (k-1) (c-1))::(.int .i64 ((k-1:Nat):Int))::(.int .i64 (j:Int))::vw9 U 66 []))))∧h++[jmn q8 (some ⟨q8,0,none⟩) w]++M=h') _ ⟨0,v1,M1,rfl,by omega,by rw [jjS];simpa using ho1,exU rfl,rfl⟩ ?_;rintro nn l h' ⟨j,w,M,rfl,hj,ho,⟨U,rfl⟩,rfl⟩ hnext;have hjl:=jrm sep (c:=100000) hsep.2 hss j
  have hdl:(ss.drop 1).length=k-1:=by rw [Gw];omega
  refine Z2 ?_
  refine jak rfl zq (fun hc=>?_) (fun hc=>?_)
  ·refine Z7 ?_
   obtain ⟨cb,co,hcp⟩:=rdc.ptr zO
   rw [hcp] at rdc⊢
   refine Zs ?_;refine D11 ?_;refine jaI rfl zq (rdc.sat j zO zO) ?_;refine Z3 ?_
   have hdj:((ss.drop 1).getD j []).length≤100000:=hss _ (List.mem_of_mem_drop (jal (l:=ss.drop 1) zO))
   have hjb:j*(2*100000)≤1000*200000:=vt zO zO
   refine Z2 ?_;refine jbt rfl zq zK (f157_c m h M (q:=q8) (pa:=some ⟨q8,0,none⟩) (.inr rfl) ho (sep) zO) ?_
   rintro _ _ ⟨w1,M1b,rfl,ho2,rfl⟩;refine Z4 ?_;refine jbt rfl zq zK (f157_c m h M1b (q:=q8) (pa:=some ⟨q8,0,none⟩) (.inr rfl) ho2 ((ss.drop 1).getD j []) (by rw [gJ];omega)) ?_
   rintro _ _ ⟨w2,M2,rfl,ho3,rfl⟩;refine Z7 ?_
   rw [←hcp];exact m.weak jaa (hnext _ _ _ zO ⟨j+1,w2,M2,rfl,by omega,by rw [jgR sep zO];exact ho3,exU rfl,rfl⟩)
  ·refine Z5 ?_
   have hjk:j=ss.length-1:=by omega
   rw [hjk,jiC sep zO] at ho
   rw [hjk,jiC sep zO] at hjl
   have hjp:0<(jpa sep ss).length:=by rw [←jiC sep (show 0<ss.length by omega)];exact jrl hsep.1 zO zO
   have hjb:(ss.length-1)*(2*100000)≤1000*200000:=vt zO zO
   refine Zs ?_;refine jbt rfl zq zK (f158_c m h (q:=q8) ho hjp zO) ?_
   rintro _ _ ⟨rfl,rfl⟩;refine Z4 ?_;refine jac (h) rfl Tryz.func109 rfl jaa ?_;refine Zs ?_
   exact ⟨rfl,rfl⟩
end
section
variable [LaidO B]
theorem jjL (h:k<v.length):jay ((v.map jeq).take (k+1))=jay ((v.map jeq).take k)++[str (jeq (v.getD k 0))]:=by
 rw [ja5 (α:=Str) (v.map jeq) k (by simpa using h),jaX];congr 1
 rw [gC,ga,gD h,gC,gD h];rfl
theorem jqw (x:Int):(jeq x).length≤2:=by
 unfold jeq digS
 split
 ·simp
 ·split<;>simp
theorem f70_c (m:Md Tryz.prog B) (h:Hp) (hv:PtOk v):FnC m 70 #[.agg (jaq v).toArray] h fun w h'=>h'=h∧w=str (jeD v):=by
 refine jae Tryz.func70 rfl rfl (l:=(.agg (jaq v).toArray)::uu22) rfl ?_
 intro cf cs K hK
 refine Z2 ?_
 refine jaF rfl zq (fun q1=>jap (jad ?_));refine Z9 ?_;refine jdc rfl zq hv.len ?_;refine Z3 ?_
 refine jaf (fun nn l h'=> ∃(k:Nat) (wp:Option Addr) (wc:Nat) (M:Hp),nn=3-k∧(k≤3)∧(OwnS 9 1 (.slice wp k wc) k (jay ((v.map jeq).take k)) M)∧(∃U:Nat→Value,l=((.agg (jaq v).toArray)::(.pointer (some ⟨q1,0,none⟩))::(U 2)::(.slice wp k wc)::(U 4)::(U 5)::(.agg (jaq v).toArray)::(.int .i64 (k:Int))::vw15 U 8 []))∧h++[⟨true,q1,.cells (jaq v).toArray 117 (0,0)⟩]++M=h') _ ⟨0,none,0,[],rfl,by omega,by simpa [jay] using OwnS.nil,exU rfl,zS⟩ ?_;rintro nn l h' ⟨k,wp,wc,M,rfl,hk,how,⟨U,rfl⟩,rfl⟩ hnext;refine Z2 ?_
 refine jak rfl zq (fun hc=>?_) (fun hc=>?_)
 ·refine Z8 ?_;refine k_ixv rfl zq zO zO (jmX (by rw [hv.len];omega)) ?_;refine Z5 ?_
  refine jaA rfl zq (fun hc=>?_) (fun hc=>?_);refine Z4 ?_
  refine jcb kdq rfl zq zA zA rfl (fun q13=>jap (jad ?_));rotate_left
  refine Z5 ?_
  have hlo:=hv.lo k
  have hhi:=hv.hi k zO
  have hmo:=jf6 (k:=k) zO
  obtain ⟨a,ha⟩: ∃a:Nat,v.getD k 0=(a:Int):=⟨(v.getD k 0).toNat,by omega⟩
  rw [ha];refine jag (Post:=fun v=>v=_) rfl zq zK (fun H' hH=>f108_c m H' a zO) ?_;rintro v rfl;refine Zs ?_
  refine jcb kdq rfl zq zA zA rfl (fun q18=>jap (jad ?_));all_goals
   refine ja2 rfl zq rfl how kdq zO zO (fun w9 n9 o9=>jad ?_);obtain ⟨p9,c9,rfl,hc9,r9⟩:=jas (B:=B) o9
   refine Z7 ?_
  ·exact m.weak jaa (hnext _ _ _ zO ⟨k+1,p9,c9,n9,rfl,by omega,by rw [jjL (by rw [hv.len];omega),jeq,if_neg zO,ha,gb];exact o9,exU rfl,rfl⟩)
  ·exact m.weak jaa (hnext _ _ _ zO ⟨k+1,p9,c9,n9,rfl,by omega,by rw [jjL (by rw [hv.len];omega),jeq,if_pos zO];exact o9,exU rfl,rfl⟩)
 ·refine Z7 ?_
  have hk3:k=3:=by omega
  subst hk3
  rw [gh (by rw [gU,hv.len];omega)] at how
  obtain ⟨p0,c0,e0,hc0,r0⟩:=jas (B:=B) how
  obtain ⟨rfl,-,rfl⟩:=Value.slice.inj e0
  refine jag (Post:=fun w=>w=str (jeD v)) rfl zq zK (fun H' hH=>f109_c m H' (r0.keeps (sq hH)) hc0 zO (fun s hs=>by obtain ⟨x,_,rfl⟩:=gP.1 hs;have:=jqw x;omega) [45] zA) ?_;rintro w rfl;refine Z4 ?_;refine jac (h) rfl Tryz.func70 rfl jaa ?_;refine Zs ?_
  exact ⟨rfl,rfl⟩
def figN (n:Nat):Str:=jeD (jdt n)
theorem f23_c (m:Md Tryz.prog B) (h:Hp) (x:Int):FnC m 23 #[.int .i64 x] h fun w h'=>h'=h∧w= .tuple [str (if 0≤x∧x≤959 then figN x.toNat else []),.int .i64 (if 0≤x∧x≤959 then 0 else 1)].toArray:=by
 refine jae Tryz.func23 rfl rfl (l:=(.int .i64 x)::uu9) rfl ?_
 intro cf cs K hK
 refine Z9 ?_;refine jag (Post:=fun v=>IsB _ v) rfl zq zK (fun H' hH=>f33_c m H' x 0 959) ?_
 rintro v (⟨hc,rfl⟩|⟨hc,rfl⟩);refine Z6 ?_
 obtain ⟨n,hn⟩: ∃n:Nat,x=(n:Int):=⟨x.toNat,by omega⟩
 subst hn
 refine Z2 ?_;refine jag (Post:=fun w=>w= .agg (jaq (jdt n)).toArray) rfl zq zK (fun H' hH=>f69_c m H' n zO) ?_
 rintro w rfl;refine Zs ?_;refine jag (Post:=fun v=>v=_) rfl zq zK (fun H' hH=>f70_c m H' (parts_n (n:=n) zO)) ?_
 rintro v rfl;refine Zs ?_
 rotate_left
 refine Z6 ?_
 all_goals
  refine Z4 ?_;refine jac (h) rfl Tryz.func23 rfl jaa ?_;refine Zs ?_
 ·rw [if_neg hc,if_neg hc];exact ⟨rfl,rfl⟩
 ·rw [if_pos hc,if_pos hc];exact ⟨rfl,rfl⟩
def firstM (l:List Int):Int:=l.getD 0 0
def lastM (l:List Int):Int:=l.getD (l.length-1) 0
def lowN (v:List Int):Nat:=96*(v.getD 0 0).toNat+8*(v.getD 1 0).toNat+(v.getD 2 0).toNat
theorem low_fits (hv:PtOk v):lowN v<960∧jfC v (lowN v)=true:=by
 have h0:=hv.hi 0 zA
 have h1:=hv.hi 1 zA
 have h2:=hv.hi 2 zA
 have m0:mosts.getD 0 0=9:=rfl
 have m1:mosts.getD 1 0=11:=rfl
 have m2:mosts.getD 2 0=7:=rfl
 rw [m0] at h0
 rw [m1] at h1
 rw [m2] at h2
 have l0:=hv.lo 0
 have l1:=hv.lo 1
 have l2:=hv.lo 2
 unfold lowN
 refine ⟨by omega,?_⟩
 rw [jfC,gX];intro j hj
 rw [gT] at hj
 simp only [GR,decide_eq_true_eq]
 rcases (by omega:j=0∨j=1∨j=2) with rfl|rfl|rfl
 ·show v.getD 0 0<0∨v.getD 0 0=(((96*(v.getD 0 0).toNat+8*(v.getD 1 0).toNat+(v.getD 2 0).toNat)/96:Nat):Int)
  omega
 ·show v.getD 1 0<0∨v.getD 1 0=(((96*(v.getD 0 0).toNat+8*(v.getD 1 0).toNat+(v.getD 2 0).toNat)/8%12:Nat):Int)
  omega
 ·show v.getD 2 0<0∨v.getD 2 0=(((96*(v.getD 0 0).toNat+8*(v.getD 1 0).toNat+(v.getD 2 0).toNat)%8:Nat):Int)
  omega
theorem mea_pos (hv:PtOk v):0<(jkJ v).length:=by
 obtain ⟨h1,h2⟩:=low_fits hv
 exact Vo (gP.2 ⟨lowN v,gV.2 ⟨gT.2 h1,h2⟩,rfl⟩)
theorem mea_le (v:List Int):(jkJ v).length≤960:=jmS v 960
theorem f22_c (m:Md Tryz.prog B) (h:Hp) (s:Str) (hl:s.length≤100000):FnC m 22 #[str s] h fun w h'=>h'=h∧w= .tuple [.int .i64 (if jbc s then firstM (jdw s) else 0),.int .i64 (if jbc s then lastM (jdw s) else 0),.int .i64 (if jbc s then ((jdw s).length:Int) else 0),.int .i64 (if jbc s then 0 else 3)].toArray:=by
 refine jae Tryz.func22 rfl rfl (l:=(str s)::uu28) rfl ?_
 intro cf cs K hK
 refine Z10 ?_;refine jag (Post:=fun v=>v=_) rfl zq zK (fun H' hH=>f67_c m H' s hl) ?_
 rintro v rfl;refine Z4 ?_
 refine jaB rfl zq (fun q6=>jap (jad ?_));refine jer rfl zq (ja7 s).len (by rw [(ja7 s).len];rfl) ?_;refine Z4 ?_;cases hfo:jbc s
 refine Z8 ?_
 rotate_left
 refine Z8 ?_;refine jdc rfl zq (ja7 s).len ?_;refine jaJ rfl zq zK (Post:=fun w new=>OwnS 3 1 w (jkJ (jau s)).length (jaq (jkJ (jau s))) new) (fun H' hH=>f68_c m H' (ja7 s)) ?_
 rintro w n17 o17;refine jaG (jad ?_);obtain ⟨p17,c17,rfl,hc17,r17⟩:=jas (B:=B) o17
 have hmp:=mea_pos (ja7 s)
 have hml:=mea_le (jau s)
 refine Z3 ?_;refine jan [Zp 0,Zp 1,Zp 3,Zp 4,Zp 5,Zp 6,Zp 7,Zp 9,Zp 10,Zr 2,Zp 11,Zr 8,Zp 12,Zp 13,Zp 14] zK zK (gE _) ?_;refine Zs ?_
 obtain ⟨r17_b,r17_o,rfl⟩:=r17.ptr zO
 refine D0 ?_;refine Z4 ?_;refine D11 ?_;refine Z2 ?_;refine jaI rfl zq (r17.iat 0 zO zO) ?_;refine Zs ?_;refine jaI rfl zq (r17.iat ((jkJ (jau s)).length-1) zO zO) ?_
 all_goals
  refine Z5 ?_;refine jac (h) rfl Tryz.func22 rfl jaa ?_;refine Zs ?_
 ·have hme:jdw s=jkJ (jau s):=by rw [jdw,if_pos hfo]
  rw [if_pos hfo,if_pos hfo,if_pos hfo,if_pos hfo,hme];exact ⟨rfl,rfl⟩
 ·rw [if_neg (by simp [hfo]),if_neg (by simp [hfo]),if_neg (by simp [hfo]),if_neg (by simp [hfo])];exact ⟨rfl,rfl⟩
end
section
variable [LaidO B]
theorem jjZ (ss:List Str) (i:Nat):jay (ss.take i)=(jay ss).take i:=by have:=jmd ss i;simpa using this
theorem byte_at {rw:Bool} [x:Has h q rw (.cells (s.map jcc++junk).toArray e f)] (i:Nat) (hi:i<s.length):Rd B h ⟨q,0+(i:Int).toNat*1,none⟩ (.int .u8 ((s.getD i 0).toNat:Int)):=by
 refine Rd.held x.mem ?_
 rw [show 0+(i:Int).toNat*1=i by omega,gZ,ge (by simpa using hi),ga,gD hi,gC,gD hi];rfl
theorem f115_c (m:Md Tryz.prog B) (h:Hp) (s:Str) (hl:s.length≤100000):FnC m 115 #[str s] h fun v h'=>h'=h∧IsB (jhe s) v:=by
 refine jae Tryz.func115 rfl rfl (l:=(str s)::uu30) rfl ?_
 intro cf cs K hK
 refine Z8 ?_
 refine k_s2b rfl zq jke und192 zK kdq (fun q6 N junk hjk=>jap (jad ?_));refine Z4 ?_
 refine jaf (fun nn l h'=> ∃(i:Nat),nn=s.length-i∧(i≤s.length)∧(∀j,j<i→jiX j (s.getD j 0))∧(∃U:Nat→Value,l=((str s)::vw5 U 1 ((.slice (some ⟨q6,0,none⟩) s.length N)::(.int .i64 (s.length:Int))::(.int .i64 (i:Int))::vw22 U 9 [])))∧h++[⟨true,q6,.cells (s.map jcc++junk).toArray 5 (N,N+1)⟩]=h') _ ⟨0,rfl,by omega,fun j hj=>absurd hj zO,exU rfl,rfl⟩ ?_;rintro nn l h' ⟨i,rfl,hi,hch,⟨U,rfl⟩,rfl⟩ hnext;refine Z2 ?_
 refine jak rfl zq (fun hc=>?_) (fun hc=>?_)
 ·refine Z9 ?_;refine D11 ?_;refine jaI rfl zq (byte_at i zO) ?_
  obtain ⟨ch,hcc⟩: ∃ch,ch=s.getD i 0:=⟨_,rfl⟩
  rw [←hcc];have hcb:=ch.toNat_lt
  refine Z4 ?_;refine rr14 ?_;refine Zs ?_;refine jdd (n':=(ch.toNat:Int)) rfl zq zK (jdK (by unfold jep;omega)) ?_;refine D21 ?_
  rintro v (⟨hc,rfl⟩|⟨hc,rfl⟩)
  ·refine Z20 ?_
   exact m.weak jaa (hnext _ _ _ zO ⟨i+1,rfl,by omega,by
    intro j hj
    by_cases e:j<i
    ·exact hch j e
    ·obtain rfl:j=i:=by omega
     rw [←hcc];unfold jiX
     omega,exU rfl,rfl⟩)
  ·refine Z4 ?_
   refine jaA rfl rfl (fun hc=>?_) (fun hc=>?_)
   ·refine Z14 ?_;refine jac (h) rfl Tryz.func115 rfl jaa ?_;refine Zs ?_
    refine ⟨rfl,IsB.no fun e=>?_⟩
    have:=e.2 i zO
    rw [←hcc] at this
    unfold jiX at this
    omega
   ·refine Z2 ?_;refine jdd (n':=(ch.toNat:Int)) rfl rfl zK (jdK (by unfold jep;omega)) ?_;refine jag (Post:=fun v=>IsB _ v) rfl rfl zK (fun H' hH=>f33_c m H' _ _ _) ?_
    rintro v (⟨hc,rfl⟩|⟨hc,rfl⟩)
    ·refine jpD ?_;refine Z10 ?_
     exact m.weak jaa (hnext _ _ _ zO ⟨i+1,rfl,by omega,by
      intro j hj
      by_cases e:j<i
      ·exact hch j e
      ·obtain rfl:j=i:=by omega
       rw [←hcc];unfold jiX
       omega,exU rfl,rfl⟩)
    ·refine D135 ?_;refine Z9 ?_;refine jac (h) rfl Tryz.func115 rfl jaa ?_;refine Zs ?_
     refine ⟨rfl,IsB.no fun e=>?_⟩
     have:=e.2 i zO
     rw [←hcc] at this
     unfold jiX at this
     omega
 ·refine Z8 ?_;refine D21 ?_
  rintro v (⟨hc,rfl⟩|⟨hc,rfl⟩);all_goals
   refine Z4 ?_;refine jac (h) rfl Tryz.func115 rfl jaa ?_;refine Zs ?_
  ·refine ⟨rfl,IsB.yes ⟨by omega,fun j hj=>hch j zO⟩⟩
  ·refine ⟨rfl,IsB.no fun e=>?_⟩
   have:=e.1
   omega
theorem f159_c (m:Md Tryz.prog B) (h:Hp) {c:Nat} (rd:RdS B h 1 (.slice p n c) n (jay ss)) (hn:n≤100000) (s:Str):FnC m 159 #[.slice p n c,str s] h fun v h'=>h'=h∧ ∃x:Int,v= .int .i64 x∧jep x∧(0≤x↔s∈ss):=by
 have hll0:=rd.elen zA
 refine jae Tryz.func159 rfl rfl (l:=(.slice p n c)::(str s)::uu17) rfl ?_
 intro cf cs K hK
 refine Z12 ?_
 refine jaf (fun nn l h'=> ∃(i:Nat),nn=n-i∧(i≤n)∧(∀j,j<i→s≠ss.getD j [])∧(∃U:Nat→Value,l=((.slice p n c)::(str s)::vw5 U 2 ((.int .i64 (n:Int))::(.int .i64 (i:Int))::jpx U 9 [])))∧h=h') _ ⟨0,rfl,by omega,fun j hj=>absurd hj zO,exU rfl,rfl⟩ ?_;rintro nn l h' ⟨i,rfl,hi,hno,⟨U,rfl⟩,rfl⟩ hnext;refine Z2 ?_
 refine jak rfl zq (fun hc=>?_) (fun hc=>?_)
 ·refine Z16 ?_
  obtain ⟨rd_b,rd_o,rfl⟩:=rd.ptr zO
  refine D0 ?_;refine jaI rfl zq (rd.sat i zO zO) ?_
  by_cases hse:s=ss.getD i []
  ·refine jiA rfl zq hse ?_;refine Z8 ?_;refine jac (h) rfl Tryz.func159 rfl jaa ?_;refine Zs ?_;have hll:=rd.elen zA
   exact E28
  ·refine jiB rfl zq hse ?_;refine Z8 ?_;exact m.weak jaa (hnext _ _ _ zO ⟨i+1,rfl,by omega,by
    intro j hj
    by_cases e:j<i
    ·exact hno j e
    ·obtain rfl:j=i:=by omega
     exact hse,exU rfl,rfl⟩)
 ·refine Z9 ?_;refine jac (h) rfl Tryz.func159 rfl jaa ?_;refine Zs ?_
  have hll:=rd.elen zA
  refine ⟨rfl,_,rfl,by unfold jep;omega,⟨fun e=>by omega,fun e=>?_⟩⟩
  obtain ⟨j,hj,e2⟩:=GE.1 e
  refine absurd ?_ (hno j zO)
  rw [gC,gD hj];exact e2.symm
theorem f116_c (m:Md Tryz.prog B) (h:Hp) {c:Nat} (rd:RdS B h 1 (.slice p n c) n (jay ss)) (hn:n≤100000) (s:Str):FnC m 116 #[.slice p n c,str s] h fun v h'=>h'=h∧IsB (s∈ss) v:=by
 refine jae Tryz.func116 rfl rfl (l:=(.slice p n c)::(str s)::uu7) rfl ?_
 intro cf cs K hK
 refine Z8 ?_;refine jag (Post:=fun v=> ∃x:Int,v= .int .i64 x∧jep x∧(0≤x↔s∈ss)) rfl zq zK (fun H' hH=>f159_c m H' (rd.keeps (sq hH)) hn s) ?_
 rintro v ⟨x,rfl,hx64,hxi⟩;refine Zs ?_
 refine jbG rfl zq (fun hc=>?_) (fun hc=>?_)
 ·refine Z3 ?_;refine jac (h) rfl Tryz.func116 rfl jaa ?_;refine Zs ?_
  exact ⟨rfl,IsB.yes (hxi.1 hc)⟩
 ·refine Z3 ?_;refine jac (h) rfl Tryz.func116 rfl jaa ?_;refine Zs ?_
  exact ⟨rfl,IsB.no fun e=>absurd (hxi.2 e) zO⟩
theorem f82_c (m:Md Tryz.prog B) (h:Hp) (rds:RdS B h 1 (.slice ps ns ks) ns (jay b.sts)) (hcs:ns≤ks) (hns:ns≤1000) (hsl: ∀s∈b.sts,s.length≤100000):FnC m 82 #[tbV b ps ns ks pw nw cw pb nb cb] h fun v h'=>h'=h∧v= .int .i64 (jek b):=by
 have hml:=rds.elen zA
 refine jae Tryz.func82 rfl rfl (l:=(tbV b ps ns ks pw nw cw pb nb cb)::uu39) rfl ?_
 intro cf cs K hK
 refine Z2 ?_
 refine jaF rfl zq (fun q1=>jap (jad ?_));refine Z9 ?_;refine D21 ?_
 rintro v (⟨hc,rfl⟩|⟨hc,rfl⟩)
 ·refine Z11 ?_;refine D21 ?_
  rintro v (⟨hc,rfl⟩|⟨hc,rfl⟩)
  ·refine Z17 ?_
   refine jaf (fun nn l h'=> ∃(i:Nat),nn=ns-i∧(i≤ns)∧(jdu [] b.sts=jdu (b.sts.take i) (b.sts.drop i))∧(∃U:Nat→Value,l=((tbV b ps ns ks pw nw cw pb nb cb)::(.pointer (some ⟨q1,0,none⟩))::vw18 U 2 ((.slice ps ns ks)::(.int .i64 (ns:Int))::(.int .i64 (i:Int))::vw17 U 23 [])))∧h++[⟨true,q1,.cells (tbL b ps ns ks pw nw cw pb nb cb).toArray 71 (0,0)⟩]=h') _ ⟨0,rfl,by omega,by simp,exU rfl,rfl⟩ ?_;rintro nn l h' ⟨i,rfl,hi,hnm,⟨U,rfl⟩,rfl⟩ hnext;refine Z2 ?_
   refine jak rfl zq (fun hc=>?_) (fun hc=>?_)
   ·refine Z9 ?_
    obtain ⟨rds_b,rds_o,rfl⟩:=rds.ptr zO
    refine D0 ?_;refine jaI rfl zq (rds.sat i zO zO) ?_;refine Z5 ?_
    have hdr:b.sts.drop i=b.sts.getD i []::b.sts.drop (i+1):=jkX zO
    have hsi:(b.sts.getD i []).length≤100000:=hsl _ (jal (l:=b.sts) zO)
    have rdt:=rds.pre (m:=i) zO
    rw [GK,←jjZ] at rdt
    refine Z2 ?_;refine jag (Post:=fun v=>IsB _ v) rfl zq zK (fun H' hH=>f115_c m H' _ hsi) ?_
    rintro v (⟨hc,rfl⟩|⟨hc,rfl⟩)
    ·refine Z11 ?_;refine jlQ (b:=i) rfl zq rds.okp rfl zO ?_;refine Zs ?_;refine jag (Post:=fun v=>IsB _ v) rfl zq zK (fun H' hH=>f116_c m H' (rdt.keeps (sq hH)) zO _) ?_
     rintro v (⟨hc,rfl⟩|⟨hc,rfl⟩)
     ·refine Z9 ?_;refine D114 ?_;refine Zs ?_
      refine ⟨rfl,congrArg (Value.int .i64) ?_⟩
      first
       |exact (jc8 zO).symm
       |exact (jc7 zO zO).symm
       |(rw [jbg zO zO,hnm,hdr];exact E29)
       |(rw [jbg zO zO,hnm,gS zO];rfl)
     ·refine Z11 ?_
      exact m.weak jaa (hnext _ _ _ zO ⟨i+1,rfl,by omega,by rw [hnm,hdr,jnU zD zD,←jjy b.sts i zO],exU rfl,rfl⟩)
    ·refine Z10 ?_;refine D114 ?_;refine Zs ?_
     refine ⟨rfl,congrArg (Value.int .i64) ?_⟩
     first
      |exact (jc8 zO).symm
      |exact (jc7 zO zO).symm
      |(rw [jbg zO zO,hnm,hdr];exact E29)
      |(rw [jbg zO zO,hnm,gS zO];rfl)
   ·refine Z9 ?_;refine D114 ?_;refine Zs ?_
    refine ⟨rfl,congrArg (Value.int .i64) ?_⟩
    first
     |exact (jc8 zO).symm
     |exact (jc7 zO zO).symm
     |(rw [jbg zO zO,hnm,hdr];exact E29)
     |(rw [jbg zO zO,hnm,gS zO];rfl)
  ·refine Z10 ?_;refine D114 ?_;refine Zs ?_
   refine ⟨rfl,congrArg (Value.int .i64) ?_⟩
   first
    |exact (jc8 zO).symm
    |exact (jc7 zO zO).symm
    |(rw [jbg zO zO,hnm,hdr];exact E29)
    |(rw [jbg zO zO,hnm,gS zO];rfl)
 ·refine Z10 ?_;refine D114 ?_;refine Zs ?_
  refine ⟨rfl,congrArg (Value.int .i64) ?_⟩
  first
   |exact (jc8 zO).symm
   |exact (jc7 zO zO).symm
   |(rw [jbg zO zO,hnm,hdr];exact E29)
   |(rw [jbg zO zO,hnm,gS zO];rfl)
end
section
variable [LaidO B]
theorem jaQ (h:0<i):jmM ls i=some (ls.getD (i-1) default).lat:=by
 match i,h with
 |i+1,_=>rfl
theorem ja9 (lps:List Lp) (i:Nat) (h:i<lps.length):(lps.map (·.ln)).getD i default=(lps.getD i default).ln:=by
 rw [gC,ga,gD h,gC,gD h];rfl
theorem f117_c (m:Md Tryz.prog B) (h:Hp) (rds:RdS B h 1 (.slice ps ns ks) ns (jay b.sts)) (hcs:ns≤ks) (hns:ns≤1000) (hsl: ∀s∈b.sts,s.length≤100000) {nl cl:Nat} (hln:RdLn B h (.slice pl nl cl) nl lns) (hnl:nl≤1000) (hsm: ∀l∈lns,l.figs.length≤1000∧ ∀f∈l.figs,f.length≤100000):FnC m 117 #[tbV b ps ns ks pw nw cw pb nb cb,.slice pl nl cl] h fun v h'=>h'=h∧v= .int .i64 (jaD b.sts.length lns):=by
 have hml:=rds.elen zA
 obtain ⟨lps,rfl,rl,hfig⟩:=hln
 have hll:=rl.elen zA
 refine jae Tryz.func117 rfl rfl (l:=(tbV b ps ns ks pw nw cw pb nb cb)::(.slice pl nl cl)::uu67) rfl ?_
 intro cf cs K hK
 refine Z2 ?_
 refine jaF rfl zq (fun q2=>jap (jad ?_));refine Z7 ?_
 refine jaz rfl zq (fun hc=>?_) (fun hc=>?_)
 ·refine Z7 ?_;refine D62 ?_;refine Zs ?_
  refine ⟨rfl,congrArg (Value.int .i64) ?_⟩
  first
   |(rw [jaD,if_pos zI];done)
   |(rw [jaD,if_neg zI,hlm];first
     |(rw [gS zI];rfl)
     |(rw [hdr];first
       |exact (jb4 zO).symm
       |exact E30
       |exact E31
       |exact E32))
 ·refine Z11 ?_
  refine jaf (fun nn l h'=> ∃(i:Nat),nn=nl-i∧(i≤nl)∧(jb0 b.sts.length none (lps.map (·.ln))=jb0 b.sts.length (jmM (lps.map (·.ln)) i) ((lps.map (·.ln)).drop i))∧(∃U:Nat→Value,l=((tbV b ps ns ks pw nw cw pb nb cb)::(.slice pl nl cl)::(.pointer (some ⟨q2,0,none⟩))::vw11 U 3 ((.slice pl nl cl)::(.int .i64 (nl:Int))::(.int .i64 (i:Int))::vw52 U 17 [])))∧h++[⟨true,q2,.cells (tbL b ps ns ks pw nw cw pb nb cb).toArray 71 (0,0)⟩]=h') _ ⟨0,rfl,by omega,rfl,exU rfl,rfl⟩ ?_;rintro nn l h' ⟨i,rfl,hi,hlm,⟨U,rfl⟩,rfl⟩ hnext1;refine Z2 ?_
  refine jak rfl zq (fun hc=>?_) (fun hc=>?_)
  ·refine Z7 ?_
   obtain ⟨rl_b,rl_o,rfl⟩:=rl.ptr zO
   refine Z2 ?_;refine D11 ?_;refine jca (vs:=[.int .i64 (lps.getD i default).ln.lat,.slice (lps.getD i default).p (lps.getD i default).ln.figs.length (lps.getD i default).c]) rfl zq rfl (rl.eat i zO zO) ?_
   obtain ⟨x,hx⟩: ∃x,x=lps.getD i default:=⟨_,rfl⟩
   rw [←hx];refine jaB rfl zq (fun q6=>jap (jad ?_));refine Zs ?_;refine D7 ?_;refine Z4 ?_
   have hxm:x∈lps:=hx▸jal zO
   obtain ⟨hxc,rdf0⟩:=hfig x hxm
   have hdr:(lps.map (·.ln)).drop i=x.ln::(lps.map (·.ln)).drop (i+1):=by rw [jkX zI,ja9 _ _ zO,←hx]
   obtain ⟨hfl,hfs⟩:=hsm x.ln (gP.2 ⟨x,hxm,rfl⟩)
   refine Z3 ?_;refine D21 ?_
   rintro v (⟨hc,rfl⟩|⟨hc,rfl⟩)
   ·refine Z6 ?_;refine jan [Zp 0,Zp 1,Zp 2,Zp 3,Zp 5,Zp 6,Zp 7,Zp 8,Zp 9,Zr 4,Zr 10,Zp 11,Zp 12,Zp 13] zK zK (gE _) ?_;refine Zs ?_
    refine jaz rfl zq (fun hc=>?_) (fun hc=>?_)
    ·refine Z4 ?_;refine D100 ?_;refine D113 ?_;refine Zs ?_;refine jkM rfl rfl ?_;refine D115 ?_
     refine jbK rfl rfl (fun hc=>?_) (fun hc=>?_)
     ·refine Z9 ?_;refine D62 ?_;refine Zs ?_
      refine ⟨rfl,congrArg (Value.int .i64) ?_⟩
      first
       |(rw [jaD,if_pos zI];done)
       |(rw [jaD,if_neg zI,hlm];first
         |(rw [gS zI];rfl)
         |(rw [hdr];first
           |exact (jb4 zO).symm
           |exact E30
           |exact E31
           |exact E32))
     ·refine Z5 ?_
      have hnu: ¬jhv (jmM (lps.map (·.ln)) i) x.ln.lat:=by
       rintro ⟨y,e1,e2⟩;first
        |(have hi0:i=0:=by omega
          subst hi0
          cases e1)
        |(rw [jaQ zO,ja9 _ _ zO] at e1;have e3:=gF e1;omega)
      refine Z8 ?_
      refine jaP rfl zq (fun hc=>?_) (fun hc=>?_)
      ·refine Z8 ?_;refine D62 ?_;refine Zs ?_
       refine ⟨rfl,congrArg (Value.int .i64) ?_⟩
       first
        |(rw [jaD,if_pos zI];done)
        |(rw [jaD,if_neg zI,hlm];first
          |(rw [gS zI];rfl)
          |(rw [hdr];first
            |exact (jb4 zO).symm
            |exact E30
            |exact E31
            |exact E32))
      ·refine Z13 ?_
       refine jaf (fun nn l h'=> ∃(k:Nat),nn=x.ln.figs.length-k∧(k≤x.ln.figs.length)∧(∀j,j<k→jbw (x.ln.figs.getD j [])=true)∧(∃U:Nat→Value,l=((tbV b ps ns ks pw nw cw pb nb cb)::(.slice (some ⟨rl_b,rl_o,none⟩) nl cl)::(.pointer (some ⟨q2,0,none⟩))::vw11 U 3 ((.slice (some ⟨rl_b,rl_o,none⟩) nl cl)::(.int .i64 (nl:Int))::(.int .i64 (i:Int))::vw33 U 17 ((.slice x.p x.ln.figs.length x.c)::(.int .i64 (x.ln.figs.length:Int))::(.int .i64 (k:Int))::vw16 U 53 []))))∧h++[⟨true,q2,.cells (tbL b ps ns ks pw nw cw pb nb cb).toArray 71 (0,0)⟩,⟨true,q6,.cells [.int .i64 x.ln.lat,.slice x.p x.ln.figs.length x.c].toArray 114 (0,0)⟩]=h') _ ⟨0,rfl,by omega,fun j hj=>absurd hj zO,exU rfl,rfl⟩ ?_;rintro nn l h' ⟨k,rfl,hk,hfk,⟨U,rfl⟩,rfl⟩ hnext2;refine Z2 ?_
       refine jak rfl zq (fun hc=>?_) (fun hc=>?_)
       ·refine Z7 ?_
        have rdf:=rdf0 zO
        obtain ⟨fb,fo,hfp⟩:=rdf.ptr zO
        have rdg:=rdf
        rw [hfp] at rdg
        have hsk:(x.ln.figs.getD k []).length≤100000:=hfs _ (jal (l:=x.ln.figs) zO)
        refine Zs ?_;refine D57 ?_;refine D105 ?_;refine Z5 ?_;refine jag (Post:=fun v=>v=_) rfl zq zK (fun H' hH=>f67_c m H' _ hsk) ?_
        rintro v rfl;refine Z4 ?_
        refine jaB rfl zq (fun q9=>jap (jad ?_));refine D58 ?_;refine Z3 ?_
        cases hfo:jbc (x.ln.figs.getD k [])
        all_goals
         refine Z2 ?_
        ·refine Z3 ?_
         by_cases hda:x.ln.figs.getD k []=[45]
         ·refine jgO rfl rfl hda ?_;refine Z9 ?_;exact m.weak jaa (hnext2 _ _ _ zO ⟨k+1,rfl,by omega,fun j hj=>by
           by_cases e:j<k
           ·exact hfk j e
           ·obtain rfl:j=k:=by omega
            first|(rw [jbw,hfo];rfl)|(rw [jbw,decide_eq_true (show x.ln.figs.getD j []=jjn from hda)];simp),exU rfl,rfl⟩)
         ·refine jiz rfl rfl hda ?_;refine Z8 ?_;refine D62 ?_;refine Zs ?_;refine ⟨rfl,congrArg (Value.int .i64) ?_⟩
          first
           |(rw [jaD,if_pos zI];done)
           |(rw [jaD,if_neg zI,hlm];first
             |(rw [gS zI];rfl)
             |(rw [hdr];first
               |exact (jb4 zO).symm
               |exact E30
               |exact E31
               |exact E32))
        ·refine Z13 ?_
         exact m.weak jaa (hnext2 _ _ _ zO ⟨k+1,rfl,by omega,fun j hj=>by
          by_cases e:j<k
          ·exact hfk j e
          ·obtain rfl:j=k:=by omega
           first|(rw [jbw,hfo];rfl)|(rw [jbw,decide_eq_true (show x.ln.figs.getD j []=jjn from hda)];simp),exU rfl,rfl⟩)
       ·refine Z5 ?_
        have hall: ∀f∈x.ln.figs,jbw f=true:=fun f hf=>by
         obtain ⟨j,hj,e⟩:=GE.1 hf
         have:=hfk j zO
         rw [gC,gD hj] at this
         exact e▸this
        refine Z4 ?_
        exact E33
    ·refine Z15 ?_
     have hnu: ¬jhv (jmM (lps.map (·.ln)) i) x.ln.lat:=by
      rintro ⟨y,e1,e2⟩;first
       |(have hi0:i=0:=by omega
         subst hi0
         cases e1)
       |(rw [jaQ zO,ja9 _ _ zO] at e1;have e3:=gF e1;omega)
     refine Z8 ?_
     refine jaP rfl zq (fun hc=>?_) (fun hc=>?_)
     ·refine Z8 ?_;refine D62 ?_;refine Zs ?_
      refine ⟨rfl,congrArg (Value.int .i64) ?_⟩
      first
       |(rw [jaD,if_pos zI];done)
       |(rw [jaD,if_neg zI,hlm];first
         |(rw [gS zI];rfl)
         |(rw [hdr];first
           |exact (jb4 zO).symm
           |exact E30
           |exact E31
           |exact E32))
     ·refine Z13 ?_
      refine jaf (fun nn l h'=> ∃(k:Nat),nn=x.ln.figs.length-k∧(k≤x.ln.figs.length)∧(∀j,j<k→jbw (x.ln.figs.getD j [])=true)∧(∃U:Nat→Value,l=((tbV b ps ns ks pw nw cw pb nb cb)::(.slice (some ⟨rl_b,rl_o,none⟩) nl cl)::(.pointer (some ⟨q2,0,none⟩))::vw11 U 3 ((.slice (some ⟨rl_b,rl_o,none⟩) nl cl)::(.int .i64 (nl:Int))::(.int .i64 (i:Int))::vw33 U 17 ((.slice x.p x.ln.figs.length x.c)::(.int .i64 (x.ln.figs.length:Int))::(.int .i64 (k:Int))::vw16 U 53 []))))∧h++[⟨true,q2,.cells (tbL b ps ns ks pw nw cw pb nb cb).toArray 71 (0,0)⟩,⟨true,q6,.cells [.int .i64 x.ln.lat,.slice x.p x.ln.figs.length x.c].toArray 114 (0,0)⟩]=h') _ ⟨0,rfl,by omega,fun j hj=>absurd hj zO,exU rfl,rfl⟩ ?_;rintro nn l h' ⟨k,rfl,hk,hfk,⟨U,rfl⟩,rfl⟩ hnext2;refine Z2 ?_
      refine jak rfl zq (fun hc=>?_) (fun hc=>?_)
      ·refine Z7 ?_
       have rdf:=rdf0 zO
       obtain ⟨fb,fo,hfp⟩:=rdf.ptr zO
       have rdg:=rdf
       rw [hfp] at rdg
       have hsk:(x.ln.figs.getD k []).length≤100000:=hfs _ (jal (l:=x.ln.figs) zO)
       refine Zs ?_;refine D57 ?_;refine D105 ?_;refine Z5 ?_;refine jag (Post:=fun v=>v=_) rfl zq zK (fun H' hH=>f67_c m H' _ hsk) ?_
       rintro v rfl;refine Z4 ?_
       refine jaB rfl zq (fun q9=>jap (jad ?_));refine D58 ?_;refine Z3 ?_
       cases hfo:jbc (x.ln.figs.getD k [])
       all_goals
        refine Z2 ?_
       ·refine Z3 ?_
        by_cases hda:x.ln.figs.getD k []=[45]
        ·refine jgO rfl rfl hda ?_;refine Z9 ?_;exact m.weak jaa (hnext2 _ _ _ zO ⟨k+1,rfl,by omega,fun j hj=>by
          by_cases e:j<k
          ·exact hfk j e
          ·obtain rfl:j=k:=by omega
           first|(rw [jbw,hfo];rfl)|(rw [jbw,decide_eq_true (show x.ln.figs.getD j []=jjn from hda)];simp),exU rfl,rfl⟩)
        ·refine jiz rfl rfl hda ?_;refine Z8 ?_;refine D62 ?_;refine Zs ?_;refine ⟨rfl,congrArg (Value.int .i64) ?_⟩
         first
          |(rw [jaD,if_pos zI];done)
          |(rw [jaD,if_neg zI,hlm];first
            |(rw [gS zI];rfl)
            |(rw [hdr];first
              |exact (jb4 zO).symm
              |exact E30
              |exact E31
              |exact E32))
       ·refine Z13 ?_
        exact m.weak jaa (hnext2 _ _ _ zO ⟨k+1,rfl,by omega,fun j hj=>by
         by_cases e:j<k
         ·exact hfk j e
         ·obtain rfl:j=k:=by omega
          first|(rw [jbw,hfo];rfl)|(rw [jbw,decide_eq_true (show x.ln.figs.getD j []=jjn from hda)];simp),exU rfl,rfl⟩)
      ·refine Z5 ?_
       have hall: ∀f∈x.ln.figs,jbw f=true:=fun f hf=>by
        obtain ⟨j,hj,e⟩:=GE.1 hf
        have:=hfk j zO
        rw [gC,gD hj] at this
        exact e▸this
       refine Z4 ?_
       exact E33
   ·refine Z10 ?_;refine D62 ?_;refine Zs ?_
    refine ⟨rfl,congrArg (Value.int .i64) ?_⟩
    first
     |(rw [jaD,if_pos zI];done)
     |(rw [jaD,if_neg zI,hlm];first
       |(rw [gS zI];rfl)
       |(rw [hdr];first
         |exact (jb4 zO).symm
         |exact E30
         |exact E31
         |exact E32))
  ·refine Z9 ?_;refine D62 ?_;refine Zs ?_
   refine ⟨rfl,congrArg (Value.int .i64) ?_⟩
   first
    |(rw [jaD,if_pos zI];done)
    |(rw [jaD,if_neg zI,hlm];first
      |(rw [gS zI];rfl)
      |(rw [hdr];first
        |exact (jb4 zO).symm
        |exact E30
        |exact E31
        |exact E32))
end
section
variable [LaidO B]
def halvesL:List Value:=[str [119,97,116,101,114],.bool false,.func (.func 207) #[] #[],str [98,117,116,116],.bool true,.func (.func 208) #[] #[]]
def hwS (i:Nat):Str:=if i=0 then [119,97,116,101,114] else [98,117,116,116]
def hbS (i:Nat):Bool:=decide (i≠0)
def hL (b:Tb) (i:Nat):List Ln:=if i=0 then b.waters else b.butts
theorem half_get (i:Nat) (hi:i<2):(halvesL.drop ((i:Int).toNat*3)).take 3=[str (hwS i),.bool (hbS i),.func (.func (207+i)) #[] #[]]:=by
 rcases (by omega:i=0∨i=1) with rfl|rfl<;>rfl
theorem jiG (i:Nat) (hi:i<2):jbM Tryz.prog (207+i)=true:=by
 rcases (by omega:i=0∨i=1) with rfl|rfl<;>kernel_rfl
theorem jfQ {α:Type} [Inhabited α] (f:α→Nat) (xs:List α) (k:Nat) (h:k<xs.length):((xs.take (k+1)).map f).sum=((xs.take k).map f).sum+f (xs.getD k default):=by
 rw [ja5 xs k h,GA,VZ];simp
theorem jhZ {α:Type} (f:α→Nat) (c:Nat): ∀(xs:List α),(∀x∈xs,f x≤c)→(xs.map f).sum≤xs.length*c
 |[],_=>by simp
 |x::r,h=>by
  have h1:=h x zS
  have h2:=jhZ f c r fun y hy=>h y (by simp [hy])
  simp only [gu,vL,gY,Gc]
  omega
theorem jh5 (s:Str):jfT s≤3:=by
 have:=vJ (p:=fun x:Int=>decide (x= -1)) (l:=jau s)
 rw [(ja7 s).len] at this
 exact this
theorem jkq {l:Ln} (h:l.figs.length≤1000):jht l≤3000:=by
 have:=jhZ jfT 3 l.figs fun s _=>jh5 s
 unfold jht
 omega
theorem jp9 (h:ls.length≤1000) (hf: ∀l∈ls,l.figs.length≤1000):jjd ls≤3000000:=by
 have:=jhZ jht 3000 ls fun l hl=>jkq (hf l hl)
 unfold jjd
 omega
theorem jcv {c:Nat} (r:RdLn B h (.slice p n c) n ls):ls.length=n:=by
 obtain ⟨lps,hle,rl,_⟩:=r
 rw [←hle,gU,rl.elen zA]
def jjp (b:Tb) (i:Nat):Nat:=((List.range i).map fun j=>jjd (hL b j)).sum
theorem jrS (b:Tb) (i:Nat):jjp b (i+1)=jjp b i+jjd (hL b i):=by
 rw [jjp,GT,GA,VZ];simp [jjp]
theorem f207_c (m:Md Tryz.prog B) (h:Hp) (q:Nat):FnC m 207 #[.pointer (some ⟨q,0,none⟩)] h fun v h'=>h'=h∧v= .pointer (some ⟨q,2,none⟩):=by
 refine jae Tryz.func207 rfl rfl (l:=[.pointer (some ⟨q,0,none⟩),undef,undef,undef,undef,undef]) rfl ?_
 intro cf cs K hK
 refine Z12 ?_;refine jac (h) rfl Tryz.func207 rfl jaa ?_;refine Zs ?_
 exact ⟨rfl,rfl⟩
theorem f208_c (m:Md Tryz.prog B) (h:Hp) (q:Nat):FnC m 208 #[.pointer (some ⟨q,0,none⟩)] h fun v h'=>h'=h∧v= .pointer (some ⟨q,3,none⟩):=by
 refine jae Tryz.func208 rfl rfl (l:=[.pointer (some ⟨q,0,none⟩),undef,undef,undef,undef,undef]) rfl ?_
 intro cf cs K hK
 refine Z12 ?_;refine jac (h) rfl Tryz.func208 rfl jaa ?_;refine Zs ?_
 exact ⟨rfl,rfl⟩
theorem jrt (m:Md Tryz.prog B) (h:Hp) (q i:Nat) (hi:i<2):FnC m (207+i) #[.pointer (some ⟨q,0,none⟩)] h fun v h'=>h'=h∧v= .pointer (some ⟨q,2+i,none⟩):=by
 rcases (by omega:i=0∨i=1) with rfl|rfl
 ·exact f207_c m h q
 ·exact f208_c m h q
theorem jrr (rdw:RdLn B h (.slice pw nw cw) nw b.waters) (hw:nw≤1000) (rdb:RdLn B h (.slice pb nb cb) nb b.butts) (hb:nb≤1000) (i:Nat) (hi:i<2):
  ∃pl nl cl,(tbL b ps ns ks pw nw cw pb nb cb)[2+i]?=some (.slice pl nl cl)∧RdLn B h (.slice pl nl cl) nl (hL b i)∧nl≤1000:=by
 rcases (by omega:i=0∨i=1) with rfl|rfl
 ·exact ⟨pw,nw,cw,rfl,rdw,hw⟩
 ·exact ⟨pb,nb,cb,rfl,rdb,hb⟩
theorem rd_nth {o:Nat} {rw:Bool} {v:Value} [x:Has h q rw (.cells cs.toArray t f)] (e:cs[o]?=some v):Rd B h ⟨q,o,none⟩ v:=Rd.held x.mem (by simpa using e)
theorem f83_c (m:Md Tryz.prog B) (h:Hp) (rds:RdS B h 1 (.slice ps ns ks) ns (jay b.sts)) (hcs:ns≤ks) (hns:ns≤1000) (hsl: ∀s∈b.sts,s.length≤100000) (rdw:RdLn B h (.slice pw nw cw) nw b.waters) (hnw:nw≤1000) (rdb:RdLn B h (.slice pb nb cb) nb b.butts) (hnb:nb≤1000) (hsm:TbSm b):FnC m 83 #[tbV b ps ns ks pw nw cw pb nb cb] h fun v h'=>h'=h∧v= .int .i64 (jiZ b):=by
 have hml:=rds.elen zA
 have hsw:=jp9 (ls:=b.waters) (by rw [jcv rdw];exact hnw) fun l hl=>(hsm.wat l hl).1
 have hsb:=jp9 (ls:=b.butts) (by rw [jcv rdb];exact hnb) fun l hl=>(hsm.but l hl).1
 refine jae Tryz.func83 rfl rfl (l:=(tbV b ps ns ks pw nw cw pb nb cb)::uu56) rfl ?_
 intro cf cs K hK
 refine Z2 ?_
 refine jaF rfl zq (fun q1=>jap (jad ?_));refine Z9 ?_;refine jca (vs:=halvesL) rfl zq rfl jfB ?_;refine Z3 ?_
 refine jaf (fun nn l h'=> ∃(i:Nat),nn=2-i∧(i≤2)∧(∀j,j<i→jaD b.sts.length (hL b j)=0)∧(∃U:Nat→Value,l=((tbV b ps ns ks pw nw cw pb nb cb)::(.pointer (some ⟨q1,0,none⟩))::(U 2)::(.int .i64 (jjp b i:Int))::jpx U 4 ((.agg halvesL.toArray)::(.int .i64 (i:Int))::vw41 U 16 [])))∧h++[⟨true,q1,.cells (tbL b ps ns ks pw nw cw pb nb cb).toArray 71 (0,0)⟩]=h') _ ⟨0,rfl,by omega,fun j hj=>absurd hj zO,exU rfl,rfl⟩ ?_;rintro nn l h' ⟨i,rfl,hi,hz,⟨U,rfl⟩,rfl⟩ hnext1;have hcb:jjp b i≤i*3000000:=by
  rcases (by omega:i=0∨i=1∨i=2) with rfl|rfl|rfl<;>simp [jjp,GT,hL]<;>omega
 refine Z2 ?_
 refine jak rfl zq (fun hc=>?_) (fun hc=>?_)
 ·refine Z8 ?_;refine jn3 rfl zq zO zO (half_get i zO) ?_
  refine jaB rfl zq (fun q5=>jap (jad ?_));refine D7 ?_;refine Z2 ?_
  obtain ⟨pl,nl,cl,hsl1,hln,hnl⟩:=jrr (B:=B) (b:=b) (ps:=ps) (ns:=ns) (ks:=ks) rdw hnw rdb hnb i zO
  have hsmi: ∀l∈hL b i,l.figs.length≤1000∧ ∀f∈l.figs,f.length≤100000:=by
   unfold hL
   split
   ·exact hsm.wat
   ·exact hsm.but
  refine Z4 ?_;refine D94 ?_
  rintro v rfl;refine Z2 ?_;refine jaI (v:= .slice pl nl cl) rfl zq (rd_nth hsl1) ?_;refine Z7 ?_;refine jag (Post:=fun v=>v=_) rfl zq zK (fun H' hH=>f117_c m H' (rds.keeps (sq hH)) hcs hns hsl (hln.keeps (sq hH)) hnl hsmi) ?_
  rintro v rfl;refine Z6 ?_
  refine jaP rfl zq (fun hc=>?_) (fun hc=>?_)
  ·refine Z8 ?_;refine jac (h) rfl Tryz.func83 rfl jaa ?_;refine Zs ?_
   refine ⟨rfl,congrArg (Value.int .i64) ?_⟩
   rcases (by omega:i=0∨i=1) with rfl|rfl
   ·rw [jiZ,if_pos (show jaD b.sts.length b.waters≠0 by assumption)];rfl
   ·rw [jiZ,if_neg (fun e=>e (hz 0 zO)),if_pos (show jaD b.sts.length b.butts≠0 by assumption)];rfl
  ·refine Z4 ?_
   obtain ⟨lps,hle,rl,hfig⟩:=hln
   have hll:=rl.elen zA
   have hln2:(hL b i).length=nl:=by rw [←hle,gU,hll]
   refine Z6 ?_
   rw [show (jjp b i:Int)=((jjp b i+((hL b i).take 0|>.map jht).sum:Nat):Int) by simp];refine jaf (fun nn l h'=> ∃(k:Nat),nn=nl-k∧(k≤nl)∧(∃U:Nat→Value,l=((tbV b ps ns ks pw nw cw pb nb cb)::(.pointer (some ⟨q1,0,none⟩))::(U 2)::(.int .i64 ((jjp b i+((hL b i).take k|>.map jht).sum:Nat):Int))::jpx U 4 ((.agg halvesL.toArray)::(.int .i64 (i:Int))::vw14 U 16 ((.slice pl nl cl)::(.int .i64 (nl:Int))::(.int .i64 (k:Int))::vw24 U 33 []))))∧h++[⟨true,q1,.cells (tbL b ps ns ks pw nw cw pb nb cb).toArray 71 (0,0)⟩,⟨true,q5,.cells [str (hwS i),.bool (hbS i),.func (.func (207+i)) #[] #[]].toArray 135 (0,0)⟩]=h') _ ⟨0,rfl,by omega,exU rfl,rfl⟩ ?_;rintro nn l h' ⟨k,rfl,hk,⟨U,rfl⟩,rfl⟩ hnext2;have hsk:((hL b i).take k|>.map jht).sum≤k*3000:=GJ (jhZ jht 3000 _ fun l hl=>jkq (hsmi l (xH hl)).1) (GP _ zN)
   refine Z2 ?_
   refine jak rfl zq (fun hc=>?_) (fun hc=>?_)
   ·refine Z7 ?_
    obtain ⟨rl_b,rl_o,rfl⟩:=rl.ptr zO
    refine Zs ?_;refine D11 ?_;refine D61 ?_
    obtain ⟨x,hx⟩: ∃x,x=lps.getD k default:=⟨_,rfl⟩
    rw [←hx];refine jaB rfl zq (fun q9=>jap (jad ?_));refine D7 ?_;refine Z2 ?_
    have hxm:x∈lps:=hx▸jal zO
    obtain ⟨hxc,rdf0⟩:=hfig x hxm
    have hxl:(hL b i).getD k default=x.ln:=by rw [←hle,ja9 _ _ zO,←hx]
    obtain ⟨hfl,hfs⟩:=hsmi x.ln (hxl▸jal zO)
    have hkb:k*3000≤1000*3000:=GP _ zO
    refine Z7 ?_
    rw [show ((jjp b i+((hL b i).take k|>.map jht).sum:Nat):Int)=((jjp b i+((hL b i).take k|>.map jht).sum+((x.ln.figs.take 0).map jfT).sum:Nat):Int) by simp];refine jaf (fun nn l h'=> ∃(j:Nat),nn=x.ln.figs.length-j∧(j≤x.ln.figs.length)∧(∃U:Nat→Value,l=((tbV b ps ns ks pw nw cw pb nb cb)::(.pointer (some ⟨q1,0,none⟩))::(U 2)::(.int .i64 ((jjp b i+((hL b i).take k|>.map jht).sum+((x.ln.figs.take j).map jfT).sum:Nat):Int))::jpx U 4 ((.agg halvesL.toArray)::(.int .i64 (i:Int))::vw14 U 16 ((.slice (some ⟨rl_b,rl_o,none⟩) nl cl)::(.int .i64 (nl:Int))::(.int .i64 (k:Int))::vw4 U 33 ((.slice x.p x.ln.figs.length x.c)::(.int .i64 (x.ln.figs.length:Int))::(.int .i64 (j:Int))::vw17 U 40 [])))))∧h++[⟨true,q1,.cells (tbL b ps ns ks pw nw cw pb nb cb).toArray 71 (0,0)⟩,⟨true,q5,.cells [str (hwS i),.bool (hbS i),.func (.func (207+i)) #[] #[]].toArray 135 (0,0)⟩,⟨true,q9,.cells [.int .i64 x.ln.lat,.slice x.p x.ln.figs.length x.c].toArray 114 (0,0)⟩]=h') _ ⟨0,rfl,by omega,exU rfl,rfl⟩ ?_;rintro nn l h' ⟨j,rfl,hj,⟨U,rfl⟩,rfl⟩ hnext3;have hsj:((x.ln.figs.take j).map jfT).sum≤j*3:=GJ (jhZ jfT 3 _ fun s _=>jh5 s) (GP _ zN)
    refine Z2 ?_
    refine jak rfl zq (fun hc=>?_) (fun hc=>?_);refine Z7 ?_
    have rdf:=rdf0 zO
    obtain ⟨fb,fo,hfp⟩:=rdf.ptr zO
    have rdg:=rdf
    rw [hfp] at rdg
    have hsk2:(x.ln.figs.getD j []).length≤100000:=hfs _ (jal (l:=x.ln.figs) zO)
    refine Zs ?_;refine D57 ?_;refine jaI rfl zq (rdg.sat j zO zO) ?_;refine Z5 ?_;refine jag (Post:=fun v=>v=_) rfl zq zK (fun H' hH=>f67_c m H' _ hsk2) ?_
    rintro v rfl;refine Z4 ?_
    refine jaB rfl zq (fun q12=>jap (jad ?_));refine D58 ?_;refine Z4 ?_;refine D43 ?_;refine jag (Post:=fun v=>v= .int .i64 (jfT (x.ln.figs.getD j []):Int)) rfl zq zK (fun H' hH=>f118_c m H' (ja7 _).len) ?_
    rintro v rfl;refine Zs ?_
    have hfj:=jh5 (x.ln.figs.getD j [])
    refine Z4 ?_
    rotate_left
    refine Z5 ?_
    have hjn:j=x.ln.figs.length:=by omega
    all_goals
     refine Z4 ?_
    ·rw [hjn,gh (gL _),show jjp b i+((hL b i).take k|>.map jht).sum+(x.ln.figs.map jfT).sum=jjp b i+((hL b i).take (k+1)|>.map jht).sum by rw [jfQ jht _ _ zO,hxl,VA];rfl];exact m.weak jaa (hnext2 _ _ _ zO ⟨k+1,rfl,by omega,exU rfl,rfl⟩)
    ·rw [show ((jjp b i+((hL b i).take k|>.map jht).sum+((x.ln.figs.take j).map jfT).sum:Nat):Int)+(jfT (x.ln.figs.getD j []):Int)=((jjp b i+((hL b i).take k|>.map jht).sum+((x.ln.figs.take (j+1)).map jfT).sum:Nat):Int) by rw [jfQ jfT _ _ zO];show _+((jfT (x.ln.figs.getD j default):Nat):Int)=_;omega];exact m.weak jaa (hnext3 _ _ _ zO ⟨j+1,rfl,by omega,exU rfl,rfl⟩)
   ·refine Z5 ?_
    have hkn:k=nl:=by omega
    have hin2:i<2:=by omega
    refine Z4 ?_
    rw [hkn,gh zO,show jjp b i+((hL b i).map jht).sum=jjp b (i+1) from (jrS b i).symm];exact m.weak jaa (hnext1 _ _ _ zO ⟨i+1,rfl,by omega,fun j hj=>by
     by_cases e:j<i
     ·exact hz j e
     ·obtain rfl:j=i:=by omega
      omega,exU rfl,rfl⟩)
 ·refine Z6 ?_
  have hi2:i=2:=by omega
  subst hi2
  have hz0:=hz 0 zO
  have hz1:=hz 1 zO
  rw [show hL b 0=b.waters from rfl] at hz0
  rw [show hL b 1=b.butts from rfl] at hz1
  have hc2:jjp b 2=jjd b.waters+jjd b.butts:=by simp [jjp,GT,hL]
  refine Z2 ?_
  refine jaz rfl zq (fun hc=>?_) (fun hc=>?_);refine Z2 ?_
  rotate_left
  refine Z3 ?_
  all_goals
   refine Z5 ?_;refine jac (h) rfl Tryz.func83 rfl jaa ?_;refine Zs ?_
  ·exact ⟨rfl,by rw [jiZ,if_neg (fun e=>e hz0),if_neg (fun e=>e hz1),if_neg zO]⟩
  ·exact ⟨rfl,by rw [jiZ,if_neg (fun e=>e hz0),if_neg (fun e=>e hz1),if_pos zO]⟩
end
section
variable [LaidO B]
def chkT (b:Tb) (k:Nat):Int:=if k=0 then jek b else jiZ b
theorem jmk (hk:k<2) (h: ∀i,i<k→chkT b i=0) (hs:chkT b k≠0):tbS b=chkT b k:=by
 rcases (by omega:k=0∨k=1) with rfl|rfl
 ·rw [tbS,if_pos (show jek b≠0 from hs)];rfl
 ·rw [tbS,if_neg (fun e=>e (show jek b=0 from h 0 zO))];rfl
theorem jj3 (h: ∀i,i<2→chkT b i=0):tbS b=0:=by
 rw [tbS,if_neg (fun e=>e (show jek b=0 from h 0 zO))];exact h 1 zO
theorem chkT_get (v:Value) (k:Nat) (hk:k<2):([Value.func (.func 82) #[v] #[],.func (.func 83) #[v] #[]].toArray)[(k:Int).toNat*1]?=some (.func (.func (82+k)) #[v] #[]):=by
 rcases (by omega:k=0∨k=1) with rfl|rfl<;>rfl
theorem jrW (k:Nat) (hk:k<2):jbM Tryz.prog (82+k)=true:=by
 rcases (by omega:k=0∨k=1) with rfl|rfl<;>kernel_rfl
theorem chkT_c (m:Md Tryz.prog B) (h:Hp) (rds:RdS B h 1 (.slice ps ns ks) ns (jay b.sts)) (hcs:ns≤ks) (hns:ns≤1000) (hsl: ∀s∈b.sts,s.length≤100000) (rdw:RdLn B h (.slice pw nw cw) nw b.waters) (hnw:nw≤1000) (rdb:RdLn B h (.slice pb nb cb) nb b.butts) (hnb:nb≤1000) (hsm:TbSm b) (k:Nat) (hk:k<2):FnC m (82+k) #[tbV b ps ns ks pw nw cw pb nb cb] h fun v h'=>h'=h∧v= .int .i64 (chkT b k):=by
 rcases (by omega:k=0∨k=1) with rfl|rfl
 ·exact f82_c m h rds hcs hns hsl
 ·exact f83_c m h rds hcs hns hsl rdw hnw rdb hnb hsm
theorem f31_c (m:Md Tryz.prog B) (h:Hp) (rds:RdS B h 1 (.slice ps ns ks) ns (jay b.sts)) (hcs:ns≤ks) (hns:ns≤1000) (hsl: ∀s∈b.sts,s.length≤100000) (rdw:RdLn B h (.slice pw nw cw) nw b.waters) (hnw:nw≤1000) (rdb:RdLn B h (.slice pb nb cb) nb b.butts) (hnb:nb≤1000) (hsm:TbSm b):FnC m 31 #[tbV b ps ns ks pw nw cw pb nb cb] h fun v h'=>h'=h∧v= .int .i64 (tbS b):=by
 refine jae Tryz.func31 rfl rfl (l:=(tbV b ps ns ks pw nw cw pb nb cb)::uu24) rfl ?_
 intro cf cs K hK
 refine Z2 ?_
 refine jaF rfl zq (fun q1=>jap (jad ?_));refine Z5 ?_;refine D39 ?_
 refine jaB rfl zq (fun q3=>jap (jad ?_));refine D7 ?_;refine Z5 ?_;refine jhy rfl zq ?_;refine Zs ?_;refine jhy rfl zq ?_
 refine jcb kdq rfl zq zA zA rfl (fun q13=>jap (jad ?_));refine Z4 ?_
 refine jaf (fun nn l h'=> ∃(k:Nat),nn=2-k∧(k≤2)∧(∀i,i<k→chkT b i=0)∧(∃U:Nat→Value,l=((tbV b ps ns ks pw nw cw pb nb cb)::vw12 U 1 ((.slice (some ⟨q13,0,none⟩) 2 2)::(.int .i64 (2:Int))::(.int .i64 (k:Int))::vw9 U 16 [])))∧h++[⟨true,q1,.cells (tbL b ps ns ks pw nw cw pb nb cb).toArray 25 (0,0)⟩,⟨true,q3,.cells (tbL b ps ns ks pw nw cw pb nb cb).toArray 71 (0,0)⟩,⟨true,q13,.cells [.func (.func 82) #[tbV b ps ns ks pw nw cw pb nb cb] #[],.func (.func 83) #[tbV b ps ns ks pw nw cw pb nb cb] #[]].toArray 131 (0,0)⟩]=h') _ ⟨0,rfl,by omega,fun i hi=>by omega,exU rfl,rfl⟩ ?_;rintro nn l h' ⟨k,rfl,hk3,he,⟨U,rfl⟩,rfl⟩ hnext;refine Z2 ?_
 refine jak rfl zq (fun hc=>?_) (fun hc=>?_)
 ·refine Z8 ?_;refine D11 ?_;refine jaI (v:= .func (.func (82+k)) #[tbV b ps ns ks pw nw cw pb nb cb] #[]) rfl zq (Rd.held (Has.mem (b:=q13)) (by simpa using chkT_get _ k zO)) ?_;refine Z5 ?_;refine jfi (Post:=fun v=>v=_) rfl zq (jrW k zO) (fun H' hH=>chkT_c m H' (rds.keeps (sq hH)) hcs hns hsl (rdw.keeps (sq hH)) hnw (rdb.keeps (sq hH)) hnb hsm k zO) ?_
  rintro v rfl;refine Z6 ?_
  refine jaP rfl zq (fun hc=>?_) (fun hc=>?_)
  ·refine Z8 ?_;refine jac (h) rfl Tryz.func31 rfl jaa ?_;refine Zs ?_
   refine ⟨rfl,congrArg (Value.int .i64) ?_⟩
   first
    |exact (jmk zO he zD).symm
    |exact (jj3 (fun i hi=>he i zO)).symm
  ·refine Z8 ?_
   exact m.weak jaa (hnext _ _ _ zO ⟨k+1,rfl,by omega,fun i hi=>by
    by_cases e:i<k
    ·exact he i e
    ·obtain rfl:i=k:=by omega
     first|assumption|omega,exU rfl,rfl⟩)
 ·refine Z9 ?_;refine jac (h) rfl Tryz.func31 rfl jaa ?_;refine Zs ?_
  refine ⟨rfl,congrArg (Value.int .i64) ?_⟩
  first
   |exact (jmk zO he zD).symm
   |exact (jj3 (fun i hi=>he i zO)).symm
end
section
theorem jl0 (h:i<s.length):s[((i:Nat):Int).toNat]?=some (s.getD i 0):=by
 rw [gb,gD h,gC,gD h];rfl
theorem jkS (h:0<s.length):s[(0:Int).toNat]?=some (s.getD 0 0):=jl0 (i:=0) h
def jgv (s:Str):Nat:=s.countP fun c=>decide (c.toNat=63)
theorem jiU {α:Type} [Inhabited α] (p:α→Bool) (xs:List α) (k:Nat) (h:k<xs.length):(xs.take (k+1)).countP p=(xs.take k).countP p+if p (xs.getD k default) then 1 else 0:=by
 rw [ja5 xs k h,VD];simp
def smuK (s:Str) (i:Nat):Nat:=jgv (s.take i)
theorem smuK_le (s:Str) (i:Nat):smuK s i≤i:=GJ vJ zN
theorem smuK_yes (h:i<s.length) (e:((s.getD i 0).toNat:Int)=63):(smuK s i:Int)+1=(smuK s (i+1):Int):=by
 have:=jiU (fun c:UInt8=>decide (c.toNat=63)) s i h
 rw [show s.getD i default=s.getD i 0 from rfl,if_pos (decide_eq_true zO)] at this
 show ((_:Nat):Int)+1=((_:Nat):Int)
 unfold smuK jgv
 omega
theorem smuK_no (h:i<s.length) (e: ¬((s.getD i 0).toNat:Int)=63):(smuK s i:Int)=(smuK s (i+1):Int):=by
 have:=jiU (fun c:UInt8=>decide (c.toNat=63)) s i h
 rw [show s.getD i default=s.getD i 0 from rfl,if_neg (fun e2=>e (by have:=of_decide_eq_true e2;omega))] at this
 unfold smuK jgv
 omega
theorem smuK_all (h:i=s.length):smuK s i=jgv s:=by rw [smuK,gh zO]
theorem f119_c (m:Md Tryz.prog B) (h:Hp) (c:UInt8):FnC m 119 #[.int .u8 (c.toNat:Int)] h fun v h'=>h'=h∧IsB (48≤c.toNat∧c.toNat≤57) v:=by
 refine jae Tryz.func119 rfl rfl (l:=(.int .u8 (c.toNat:Int))::uu8) rfl ?_
 intro cf cs K hK
 refine Z7 ?_
 refine jbG rfl zq (fun hc=>?_) (fun hc=>?_)
 ·refine Z2 ?_
  refine jbK rfl rfl (fun hc=>?_) (fun hc=>?_);all_goals
   refine Z4 ?_;refine jac (h) rfl Tryz.func119 rfl jaa ?_;refine Zs ?_
   exact E0
 ·refine Z7 ?_;refine jac (h) rfl Tryz.func119 rfl jaa ?_;refine Zs ?_
  exact E0
theorem f87_c (m:Md Tryz.prog B) (h:Hp) (s:Str) (hl:s.length≤100000):FnC m 87 #[str s] h fun v h'=>h'=h∧IsB (jhe s) v:=by
 refine jae Tryz.func87 rfl rfl (l:=(str s)::uu39) rfl ?_
 intro cf cs K hK
 refine Z6 ?_;refine rr13 ?_;refine Z2 ?_
 refine jak rfl zq (fun hc=>?_) (fun hc=>?_)
 ·refine Z17 ?_;refine D98 ?_;refine Zs ?_
  first
   |exact E34
   |exact E35
   |exact E36
   |exact E37
 ·refine Z2 ?_;refine jn1 rfl rfl jke ?_
  refine jaz rfl rfl (fun hc=>?_) (fun hc=>?_)
  ·refine Z13 ?_;refine D98 ?_;refine Zs ?_
   first
    |exact E34
    |exact E35
    |exact E36
    |exact E37
  ·refine Z3 ?_;refine jhj (c:=s.getD 0 0) rfl rfl jke zO (jkS zO) ?_;refine jag (Post:=fun v=>IsB _ v) rfl rfl zK (fun H' hH=>f119_c m H' _) ?_
   rintro v (⟨hc,rfl⟩|⟨hc,rfl⟩)
   ·refine Z9 ?_;refine D98 ?_;refine Zs ?_
    first
     |exact E34
     |exact E35
     |exact E36
     |exact E37
   ·refine Z11 ?_
    refine jaf (fun nn l h'=> ∃(i:Nat),nn=s.length-i∧(i≤s.length)∧(∀j,j<i→jiX j (s.getD j 0))∧(∃U:Nat→Value,l=((str s)::(U 1)::(U 2)::(.int .i64 (i:Int))::vw36 U 4 []))∧h=h') _ ⟨0,rfl,by omega,fun j hj=>absurd hj zO,exU rfl,rfl⟩ ?_;rintro nn l h' ⟨i,rfl,hi,hch,⟨U,rfl⟩,rfl⟩ hnext;refine Z6 ?_
    refine jak rfl zq (fun hc=>?_) (fun hc=>?_)
    ·refine Z6 ?_;refine rr17 ?_;refine Z2 ?_;refine jhj (c:=s.getD i 0) rfl zq jke zO (jl0 zO) ?_
     obtain ⟨ch,hcc⟩: ∃ch,ch=s.getD i 0:=⟨_,rfl⟩
     rw [←hcc];have hcb:=ch.toNat_lt
     refine D47 ?_
     rintro v (⟨hc,rfl⟩|⟨hc,rfl⟩)
     ·refine Z23 ?_
      exact m.weak jaa (hnext _ _ _ zO ⟨i+1,rfl,by omega,by
       intro j hj
       by_cases e:j<i
       ·exact hch j e
       ·obtain rfl:j=i:=by omega
        rw [←hcc];have hct:=congrArg UInt8.toNat hcc
        rcases VB j with rfl|hp<;>unfold jiX<;>omega,exU rfl,rfl⟩)
     ·refine Z5 ?_;refine D116 ?_
      rw [←hcc];refine jak rfl rfl (fun hc=>?_) (fun hc=>?_)
      ·refine Z14 ?_;refine D98 ?_;refine Zs ?_
       first
        |exact E34
        |exact E35
        |exact E36
        |exact E37
      ·refine Z3 ?_;refine D116 ?_
       rw [←hcc];refine jaz rfl rfl (fun hc=>?_) (fun hc=>?_)
       ·refine Z9 ?_;refine D98 ?_;refine Zs ?_
        first
         |exact E34
         |exact E35
         |exact E36
         |exact E37
       ·refine Z11 ?_
        exact m.weak jaa (hnext _ _ _ zO ⟨i+1,rfl,by omega,by
         intro j hj
         by_cases e:j<i
         ·exact hch j e
         ·obtain rfl:j=i:=by omega
          rw [←hcc];have hct:=congrArg UInt8.toNat hcc
          rcases VB j with rfl|hp<;>unfold jiX<;>omega,exU rfl,rfl⟩)
    ·refine Z8 ?_;refine D98 ?_;refine Zs ?_
     first
      |exact E34
      |exact E35
      |exact E36
      |exact E37
theorem f90_c (m:Md Tryz.prog B) (h:Hp) (s:Str) (hl:s.length≤100000):FnC m 90 #[str s] h fun v h'=>h'=h∧v= .int .i64 (jgv s:Int):=by
 refine jae Tryz.func90 rfl rfl (l:=(str s)::uu17) rfl ?_
 intro cf cs K hK
 refine Z14 ?_
 refine jaf (fun nn l h'=> ∃(i:Nat),nn=s.length-i∧(i≤s.length)∧(∃U:Nat→Value,l=((str s)::(U 1)::(U 2)::(.int .i64 (smuK s i:Int))::(.int .i64 (i:Int))::vw13 U 5 []))∧h=h') _ ⟨0,rfl,by omega,exU rfl,rfl⟩ ?_;rintro nn l h' ⟨i,rfl,hi,⟨U,rfl⟩,rfl⟩ hnext;have hcl:=smuK_le s i
 refine Z6 ?_
 refine jak rfl zq (fun hc=>?_) (fun hc=>?_)
 ·refine Z9 ?_;refine jhj (c:=s.getD i 0) rfl zq jke zO (jl0 zO) ?_
  refine jaA rfl zq (fun hc=>?_) (fun hc=>?_);refine Z7 ?_
  rotate_left
  refine Z3 ?_
  all_goals
   refine Z6 ?_
   first
    |rw [smuK_yes zO zD]
    |rw [smuK_no zO zD]
   exact E38
 ·refine Z9 ?_;refine jac (h) rfl Tryz.func90 rfl jaa ?_;refine Zs ?_
  exact ⟨rfl,by rw [smuK_all zO]⟩
theorem f88_c (m:Md Tryz.prog B) (h:Hp) {c:Nat} (rd:RdS B h 1 (.slice p n c) n (jay ss)) (hn:n≤100000) (s:Str):FnC m 88 #[.slice p n c,str s] h fun v h'=>h'=h∧ ∃x:Int,v= .int .i64 x∧jep x∧(0≤x↔s∈ss):=by
 have hll0:=rd.elen zA
 refine jae Tryz.func88 rfl rfl (l:=(.slice p n c)::(str s)::uu17) rfl ?_
 intro cf cs K hK
 refine Z10 ?_
 refine jaf (fun nn l h'=> ∃(i:Nat),nn=n-i∧(i≤n)∧(∀j,j<i→ss.getD j []≠s)∧(∃U:Nat→Value,l=((.slice p n c)::(str s)::(U 2)::(U 3)::(U 4)::(.int .i64 (i:Int))::vw13 U 6 []))∧h=h') _ ⟨0,rfl,by omega,fun j hj=>absurd hj zO,exU rfl,rfl⟩ ?_;rintro nn l h' ⟨i,rfl,hi,hno,⟨U,rfl⟩,rfl⟩ hnext;refine Z6 ?_
 refine jak rfl zq (fun hc=>?_) (fun hc=>?_)
 ·refine Z9 ?_
  obtain ⟨rd_b,rd_o,rfl⟩:=rd.ptr zO
  refine D0 ?_;refine jaI rfl zq (rd.sat i zO zO) ?_;refine Zs ?_
  by_cases hse:ss.getD i []=s
  ·refine jiA rfl zq hse ?_;refine Z8 ?_;refine jac (h) rfl Tryz.func88 rfl jaa ?_;refine Zs ?_;have hll:=rd.elen zA
   exact E28
  ·refine jiB rfl zq hse ?_;refine Z9 ?_;exact m.weak jaa (hnext _ _ _ zO ⟨i+1,rfl,by omega,by
    intro j hj
    by_cases e:j<i
    ·exact hno j e
    ·obtain rfl:j=i:=by omega
     exact hse,exU rfl,rfl⟩)
 ·refine Z8 ?_;refine jac (h) rfl Tryz.func88 rfl jaa ?_;refine Zs ?_
  have hll:=rd.elen zA
  refine ⟨rfl,_,rfl,by unfold jep;omega,⟨fun e=>by omega,fun e=>?_⟩⟩
  obtain ⟨j,hj,e2⟩:=GE.1 e
  refine absurd ?_ (hno j zO)
  rw [gC,gD hj];exact e2
end
end Go.Proofs
