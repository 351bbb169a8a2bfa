/- A part of the proof of a law: my own separation logic over the machine, and walks of the program. Condition of each theorem: as its statement says. -/
import Derived.Test.YtgplnpdblmcdoaaGreatDoorWB9
import Derived.WalkKit
import Derived.Conc.Events
import Derived.Conc.Own
import Derived.Orders
import Derived.IntWalk
import Derived.Test.YtgplnpdblmcdoaaGreatDoorProg
set_option linter.all false
namespace Go.Lo
open Go.Conc (G)
section
variable {α β:Type} {P:Program} {B:Array Obj} {h:Hp}
end
theorem Rd.app {B:Array Obj} {h:Hp} {a:Addr} {v:Value} (r:Rd B h a v) (l:Hp):Rd B (h++l) a v:=r.keeps (List.sublist_append_left _ _)
section
variable {P:Program} {B:Array Obj} {h:Hp}
end
section
variable {P:Program} {B:Array Obj}
end
end Go.Lo
namespace Go.Lo
open Go.Conc (G)
section
variable {P:Program} {B:Array Obj} {h:Hp}
end
section
variable {P:Program} {B:Array Obj} {m:Md P B} {ops:Array Oper} {l l':List Value} {S h H:Hp} {C:List Value→Hp→Prop} {i:Nat} {kd:Kd} {r:List (Nat×Kd)}
 {d:Option Tmp} {ty:TypeId} {pos:String} {af:Array Edge} {g:Option (Nat×Bool)}
theorem k_neg {t:TypeId} {x:Operand} {a:Int} (ho:ops[i]?=some ⟨d,.unOp .neg t x,ty,pos,af,g⟩) (hw:Wt ops l g) [KHeap kd S h H] [ex:OpV l x (.int .i64 a)] (hr:In64 (-a)) [PutV l d (.int .i64 (-a)) l'] (n:RegK m S ops r l' h C):RegK m S ops ((i,kd)::r) l h C:=
 RegK.rd (v:= .int .i64 (-a)) ho hw (by simp only [execOp,ex.eq,Op.unary,Op.intArith];rw [show (0:Int)-a= -a by omega,wrap_in hr];exact Reads.value (Reads.pure _)) n
end
end Go.Lo
namespace Go.Lo
open Go.Conc (G)
section
variable {P:Program} {B:Array Obj} {m:Md P B} {ops:Array Oper} {l l':List Value} {S h h' H:Hp} {C:List Value→Hp→Prop} {i:Nat} {kd:Kd} {r:List (Nat×Kd)}
 {d:Option Tmp} {ty:TypeId} {pos:String} {af:Array Edge} {g:Option (Nat×Bool)}
end
end Go.Lo
namespace Go.Lo
open Go.Conc (G)
section
variable {P:Program} {B:Array Obj} {m:Md P B} {ops:Array Oper} {l l':List Value} {S h h' H:Hp} {C:List Value→Hp→Prop} {i:Nat} {kd:Kd} {r:List (Nat×Kd)}
 {d:Option Tmp} {ty:TypeId} {pos:String} {af:Array Edge} {g:Option (Nat×Bool)}
theorem RdS.int {n c:Nat} {p:Option Addr} {b o:Nat} {xs:List Int} (rd:RdS B h 1 (.slice p n c) n (ints xs)) (hp:p=some ⟨b,o,none⟩) {j:Int} (h0:0≤j) (h1:j<n):Rd B h ⟨b,o+j.toNat*1,none⟩ (.int .i64 (xs.getD j.toNat 0)):=by
 obtain ⟨p',c',e,hl,⟨e',e''⟩|⟨b',o',e',rd⟩⟩:=rd
 ·omega
 ·obtain ⟨rfl,_,rfl⟩:=Value.slice.inj e
  rw [hp] at e'
  obtain ⟨rfl,rfl,_⟩:=Addr.mk.inj (Option.some.inj e')
  have hj:j.toNat<xs.length:=by simp at hl;omega
  have:=rd j.toNat (by simpa using hj)
  rw [Nat.mul_one];rw [List.getD_eq_getElem?_getD,List.getElem?_map,List.getElem?_eq_getElem hj] at this
  rw [List.getD_eq_getElem?_getD,List.getElem?_eq_getElem hj];exact this
end
end Go.Lo
namespace Go.Proofs
open Go.Lo
set_option maxRecDepth 100000
instance:Scal Tryz.prog 40:=⟨by kernel_rfl⟩
instance:SliceT Tryz.prog 40 30 2:=⟨by kernel_rfl⟩
instance:Scal Tryz.prog 41:=⟨by kernel_rfl⟩
instance:SliceT Tryz.prog 41 178 4:=⟨by kernel_rfl⟩
instance:AggT Tryz.prog 43 5:=⟨by kernel_rfl⟩
instance:ZeroT Tryz.prog 43 (.agg [.int .i64 0,.int .i64 0,.int .i64 0,.slice none 0 0,.slice none 0 0].toArray):=⟨by kernel_rfl⟩
instance:StructT Tryz.prog 43 [(0,1),(1,1),(2,1),(3,1),(4,1)]:=⟨by kernel_rfl⟩
instance:FieldT Tryz.prog 43 0 0 3:=⟨by kernel_rfl⟩
instance:FieldT Tryz.prog 43 1 1 3:=⟨by kernel_rfl⟩
instance:FieldT Tryz.prog 43 2 2 3:=⟨by kernel_rfl⟩
instance:FieldT Tryz.prog 43 3 3 40:=⟨by kernel_rfl⟩
instance:FieldT Tryz.prog 43 4 4 41:=⟨by kernel_rfl⟩
instance:AggT Tryz.prog 104 5:=⟨by kernel_rfl⟩
instance:ZeroT Tryz.prog 104 (.agg [.int .i64 0,.int .i64 0,.int .i64 0,.slice none 0 0,.slice none 0 0].toArray):=⟨by kernel_rfl⟩
instance:StructT Tryz.prog 104 [(0,5)]:=⟨by kernel_rfl⟩
instance:FieldT Tryz.prog 104 0 0 43:=⟨by kernel_rfl⟩
instance:AggT Tryz.prog 106 7:=⟨by kernel_rfl⟩
instance:ZeroT Tryz.prog 106 (.agg [.int .i64 0,.int .i64 0,.int .i64 0,.int .i64 0,.int .i64 0,.int .i64 0,.int .i64 0].toArray):=⟨by kernel_rfl⟩
instance:ArrayT Tryz.prog 106 7 3 1:=⟨by kernel_rfl⟩
instance:Scal Tryz.prog 124:=⟨by kernel_rfl⟩
instance:AggT Tryz.prog 178 4:=⟨by kernel_rfl⟩
instance:ZeroT Tryz.prog 178 (.agg [.int .i64 0,.int .i64 0,.int .i64 0,.int .i64 0].toArray):=⟨by kernel_rfl⟩
instance:FieldT Tryz.prog 178 0 0 3:=⟨by kernel_rfl⟩
instance:FieldT Tryz.prog 178 1 1 3:=⟨by kernel_rfl⟩
instance:FieldT Tryz.prog 178 2 2 30:=⟨by kernel_rfl⟩
instance:AggT Tryz.prog 186 3:=⟨by kernel_rfl⟩
instance:ArrayT Tryz.prog 186 3 124 1:=⟨by kernel_rfl⟩
end Go.Proofs
namespace Go.Lo
open Go.Conc (G)
structure Ru where
 a:Int
 b:Int
 lo:Int
 hi:Int
 deriving DecidableEq,Inhabited
structure Bk where
 bend:Int
 twist:Int
 turns:Int
 marks:List Sp
 rules:List Ru
 deriving DecidableEq,Inhabited
abbrev spL (x:Sp):List Value:=[.int .i64 x.lo,.int .i64 x.hi]
abbrev ruL (x:Ru):List Value:=[.int .i64 x.a,.int .i64 x.b,.int .i64 x.lo,.int .i64 x.hi]
instance:Enc Sp 2 where
 enc:=spL
 len:=fun _=>rfl
 one:=fun _=>one_all rfl
instance:Enc Ru 4 where
 enc:=ruL
 len:=fun _=>rfl
 one:=fun _=>one_all rfl
abbrev spV (x:Sp):Value:= .agg (spL x).toArray
abbrev bookL (x y z:Int) (mv rv:Value):List Value:=[.int .i64 x,.int .i64 y,.int .i64 z,mv,rv]
abbrev bookV (x y z:Int) (mv rv:Value):Value:= .agg (bookL x y z mv rv).toArray
abbrev bkL (b:Bk) (pm:Option Addr) (nm cm:Nat) (pr:Option Addr) (nr cr:Nat):List Value:=bookL b.bend b.twist b.turns (.slice pm nm cm) (.slice pr nr cr)
abbrev bkV (b:Bk) (pm:Option Addr) (nm cm:Nat) (pr:Option Addr) (nr cr:Nat):Value:= .agg (bkL b pm nm cm pr nr cr).toArray
section
variable {B:Array Obj} {h H:Hp}
end
section
variable {P:Program} {B:Array Obj} {m:Md P B} {ops:Array Oper} {l l':List Value} {S h h' H:Hp} {C:List Value→Hp→Prop} {i:Nat} {kd:Kd} {r:List (Nat×Kd)}
 {d:Option Tmp} {ty:TypeId} {pos:String} {af:Array Edge} {g:Option (Nat×Bool)}
end
end Go.Lo
namespace Go.Lo
open Go.Conc (G)
section
variable {B:Array Obj} {h:Hp}
theorem RdS.okp {k n c:Nat} {p:Option Addr} {ys:List Value} (rd:RdS B h k (.slice p n c) n ys):OkP p:=by
 obtain ⟨p',c',e,_,⟨rfl,_⟩|⟨b,o,rfl,_⟩⟩:=rd
 ·exact .inl (Value.slice.inj e).1
 ·exact .inr ⟨b,o,(Value.slice.inj e).1⟩
end
section
variable {P:Program} {B:Array Obj} {m:Md P B} {ops:Array Oper} {l l':List Value} {S h h' H:Hp} {C:List Value→Hp→Prop} {i:Nat} {kd:Kd} {r:List (Nat×Kd)}
 {d:Option Tmp} {ty:TypeId} {pos:String} {af:Array Edge} {g:Option (Nat×Bool)}
end
end Go.Lo
namespace Go.Lo
open Go.Conc (G)
abbrev htV (l:List Int):Value:= .agg (hts l).toArray
theorem hts_length (l:List Int):(hts l).length=7:=by simp [hts,padL]
theorem hts_one (l:List Int): ∀u∈hts l,u.oneCell'=true:=ints_one _
theorem padL_get {l:List Int} {k:Nat} (hk:k<7):(padL l)[k]?=some (l.getD k 0):=by
 unfold padL
 rw [List.getElem?_take,if_pos hk,List.getD_eq_getElem?_getD];by_cases h:k<l.length
 ·rw [List.getElem?_append_left h,List.getElem?_eq_getElem h];rfl
 ·rw [List.getElem?_append_right (by omega),List.getElem?_replicate,if_pos (by omega),List.getElem?_eq_none (by omega)];rfl
theorem hts_get {l:List Int} {k:Nat} (hk:k<7):(hts l)[k]?=some (.int .i64 (l.getD k 0)):=by
 simp [hts,padL_get hk]
instance {l:List Int}:Ones (hts l):=⟨hts_one l⟩
instance {l:List Int}:Seg (hts l) 0 7 (hts l):=⟨by rw [List.drop_zero];exact List.take_of_length_le (by rw [hts_length];exact Nat.le_refl _),hts_length l⟩
instance {v1 v2 v3 v4 v5 v6 v7:Value} {m:List Int}:SetSeg [v1,v2,v3,v4,v5,v6,v7] 0 (hts m) (hts m):=⟨by simp [hts_length],by simp [hts_length]⟩
theorem hts_nil:hts []=[.int .i64 0,.int .i64 0,.int .i64 0,.int .i64 0,.int .i64 0,.int .i64 0,.int .i64 0]:=by simp [hts,padL,ints,List.replicate]
theorem hts_copy (xs:List Int) {n:Nat} (hn:xs.length=n):hts xs=(ints xs).take 7++(hts []).drop (min n 7):=by
 have e:(hts [])=ints (List.replicate 7 0):=by simp [hts,padL]
 rw [e,←ints_take,←ints_drop,←ints_append,hts,padL];congr 1
 rw [List.take_append,hn,List.take_replicate,List.drop_replicate];congr 2
 omega
section
variable {B:Array Obj} {h H:Hp}
theorem rdS_hts {q n t:Nat} {rw:Bool} {f:Nat×Nat} {l:List Int} [x:Has h q rw (.cells (hts l).toArray t f)] (hl:l.length=n) (hn:n≤7) (c:Nat):RdS B h 1 (.slice (some ⟨q,0,none⟩) n c) n (ints l):=
 ⟨_,c,rfl,by simp [hl],.inr ⟨q,0,rfl,fun j hj=>by
  rw [Nat.zero_add];have hj':j<n:=by simpa [hl] using hj
  refine Rd.held x.mem ?_
  rw [List.getElem?_toArray,hts_get (by omega)];simp only [List.getD_eq_getElem?_getD,List.getElem?_map]
  rw [List.getElem?_eq_getElem (by omega)];rfl⟩⟩
end
section
variable {P:Program} {B:Array Obj} {m:Md P B} {ops:Array Oper} {l l':List Value} {S h h' H:Hp} {C:List Value→Hp→Prop} {i:Nat} {kd:Kd} {r:List (Nat×Kd)}
 {d:Option Tmp} {ty:TypeId} {pos:String} {af:Array Edge} {g:Option (Nat×Bool)}
end
end Go.Lo
namespace Go.Lo
open Go.Conc (G)
section
variable {P:Program} {B:Array Obj} {m:Md P B} {ops:Array Oper} {l l':List Value} {S h h' H:Hp} {C:List Value→Hp→Prop} {i:Nat} {kd:Kd} {r:List (Nat×Kd)}
 {d:Option Tmp} {ty:TypeId} {pos:String} {af:Array Edge} {g:Option (Nat×Bool)}
end
end Go.Lo
namespace Go.Lo
open Go.Conc (G)
section
variable {P:Program} {B:Array Obj} {m:Md P B} {S:Hp} {ops:Array Oper}
theorem DrawT.mono {l:List Value} {h:Hp} {C C':List Value→Hp→Prop} (hc: ∀l h,C l h→C' l h) {E:List (Nat×Nat)} (t:DrawT m S ops l h C E):DrawT m S ops l h C' E:=by
 induction t with
 |leaf r hok t=>exact .leaf r hok (RegK.mono hc t)
 |split a b hab _ _ ih1 ih2=>exact .split a b hab ih1 ih2
theorem run_drawC (C:List Value→Hp→Prop) {b:Frame} {ds:List Deferred} {k:List Item} {cs:List Frame} {K:Goroutine→Hp→Prop} {id:Nat} {l:List Value} {h:Hp} (r0:List Nat) (hm:(P.follows .mixedOrders||!Region.departs ops)=true)
  (hok:(topoOk ops [] (r0.map fun i=>(i,Kd.free))&&(List.range ops.size).all fun i=>r0.contains i)=true) (hS:S.Sublist h) (t:DrawT m S ops l h C []) (n: ∀l' h',C l' h'→m.R K (Gr b l' ds k cs) h'):m.R K (Gr b l ds (.code (.region id ops true)::k) cs) h:=
 run_drawT r0 hm hok hS (t.mono n)
end
end Go.Lo
namespace Go.Lo
theorem segN_at {pts:List Pt} {hh:Int} {i:Nat} (up: ∀i,i+1<pts.length→(pts.getD i default).h<(pts.getD (i+1) default).h) (hi:i+1<pts.length) (h1:(pts.getD i default).h<hh) (h2:hh≤(pts.getD (i+1) default).h):segN pts hh=i:=by
 have mono: ∀j k,j≤k→k<pts.length→(pts.getD j default).h≤(pts.getD k default).h:=by
  intro j k hjk
  induction k with
  |zero=>
       intro _
       obtain rfl:j=0:=by omega
       exact Int.le_refl _
  |succ k ih=>
   intro hk
   rcases Nat.lt_or_ge j (k+1) with h|h
   ·have:=ih (by omega) (by omega);have:=up k hk;omega
   ·obtain rfl:j=k+1:=by omega
    exact Int.le_refl _
 refine segN_eq hi (fun k hk=>?_) h2
 have:=mono (k+1) i (by omega) (by omega)
 omega
theorem atI_between {pts:List Pt} {l:List Int} {hh:Int} {i:Nat} (up: ∀i,i+1<pts.length→(pts.getD i default).h<(pts.getD (i+1) default).h) (hi:i+1<pts.length) (h1:(pts.getD i default).h≤hh) (h2:hh≤(pts.getD (i+1) default).h):
  atI pts l hh=l.getD i 0+((l.getD (i+1) 0-l.getD i 0)*(hh-(pts.getD i default).h))/((pts.getD (i+1) default).h-(pts.getD i default).h):=by
 rcases Int.lt_or_eq_of_le h1 with h|h
 ·unfold atI downI
  rw [segN_at up hi h h2]
 ·subst h
  rw [Int.sub_self,Int.mul_zero,Int.zero_ediv,Int.add_zero];cases i with
  |zero=>
   unfold atI downI
   rw [segN_eq (i:=0) hi (fun k hk=>by omega) h2];simp
  |succ i=>
   have hu:=up i (by omega)
   unfold atI downI
   rw [segN_at (i:=i) up (by omega) hu (Int.le_refl _)];have:(pts.getD (i+1) default).h-(pts.getD i default).h≠0:=by omega
   simp only
   rw [Int.mul_ediv_cancel _ this];omega
end Go.Lo
namespace Go.Proofs
open Go.Lo
open Go.Conc (G)
set_option maxRecDepth 100000
set_option synthInstance.maxHeartbeats 1000000
section
variable {P:Program} {B:Array Obj} {m:Md P B} {ops:Array Oper} {l l':List Value} {S h h' H:Hp} {C:List Value→Hp→Prop} {i:Nat} {kd:Kd} {r:List (Nat×Kd)}
 {d:Option Tmp} {ty:TypeId} {pos:String} {af:Array Edge} {g:Option (Nat×Bool)}
theorem reads_eqBoolK {t:TypeId} (hb:P.underlying t=some .bool) (a c:Bool):Reads P B (Op.equal t (.bool a) (.bool c)) H (a==c):=by
 show Reads P B (Op.equalIn 10000 t (.bool a) (.bool c)) H (a==c)
 unfold Op.equalIn
 exact Reads.bind (still_und hb).reads (Reads.pure _)
theorem k_eqBT {t u:TypeId} {x y:Operand} {a c:Bool} (ho:ops[i]?=some ⟨d,.binOp .eql t x y u,ty,pos,af,g⟩) (hw:Wt ops l g) (hb:P.underlying t=some .bool) [KHeap kd S h H] [ex:OpV l x (.bool a)] [ey:OpV l y (.bool c)] (e:a=c) [PutV l d (.bool true) l'] (q:RegK m S ops r l' h C):RegK m S ops ((i,kd)::r) l h C:=
 RegK.rd (v:= .bool true) ho hw (by
  subst e
  simp only [execOp,ex.eq,ey.eq]
  refine Reads.value (Reads.bind (a:=()) (Reads.pure _) ?_)
  show Reads P B (Op.equal t (.bool a) (.bool a)>>=fun b=>pure (Value.bool b)) H _
  have:=reads_eqBoolK (P:=P) (B:=B) (H:=H) hb a a
  rw [beq_self_eq_true] at this
  exact Reads.bind this (Reads.pure _)) q
end
theorem isB_false {p:Prop} {v:Value} (h:IsB p v) (k: ¬p):v= .bool false:=h.elim (fun x=>absurd x.1 k) fun x=>x.2
end Go.Proofs
namespace Go.Proofs
open Go.Lo
open Go.Conc (G)
set_option maxRecDepth 100000
set_option synthInstance.maxSize 100000
set_option synthInstance.maxHeartbeats 1000000
set_option maxHeartbeats 4000000
variable {B:Array Obj}
def diffs:List Int→List Int
 |a::b::r=>(b-a)::diffs (b::r)
 |_=>[]
def bends (xs:List Int):List Int:=diffs (diffs xs)
def turnSt (s:Int×Int) (k:Int):Int×Int:=(if (k>0∧s.2<0)∨(k<0∧s.2>0) then s.1+1 else s.1,if k≠0 then k else s.2)
def turnF (l:List Int):Int×Int:=l.foldl turnSt (0,0)
def turns (xs:List Int):Int:=(turnF (bends xs)).1
end Go.Proofs
namespace Go.Proofs
open Go.Lo
open Go.Conc (G)
set_option maxRecDepth 100000
set_option synthInstance.maxSize 100000
set_option synthInstance.maxHeartbeats 1000000
set_option maxHeartbeats 4000000
variable {B:Array Obj}
variable [LaidF B]
theorem _root_.Go.Lo.PtsOk.lt {pts:List Pt} (k:PtsOk pts): ∀(d i:Nat),i+d+1<pts.length→(pts.getD i default).h<(pts.getD (i+d+1) default).h
 |0,i,h=>k.up i (by omega)
 |d+1,i,h=>by
  have h1:=k.lt d i (by omega)
  have h2:=k.up (i+d+1) (by omega)
  rw [show i+(d+1)+1=i+d+1+1 by omega];omega
theorem row_small {b:Fb} {ln:List Int} (hv:FOk b) (hl:ln.length=b.pts.length) (hs:spansF b ln):SmL ln:=fun j=>by
 by_cases h:j<ln.length
 ·have h1:=hs j h
  have h2:=hv.pts.span (i:=j) (by omega)
  omega
 ·rw [List.getD_eq_getElem?_getD,List.getElem?_eq_none (by omega)];simp
end Go.Proofs
namespace Go.Proofs.Bt
open Go.Proofs
open Go.Lo
open Go.Conc (G)
set_option maxRecDepth 100000
set_option synthInstance.maxSize 100000
set_option synthInstance.maxHeartbeats 1000000
set_option maxHeartbeats 4000000
variable {B:Array Obj}
def diffs:List Int→List Int
 |a::b::r=>(b-a)::diffs (b::r)
 |_=>[]
theorem diffs_length: ∀(l:List Int),(diffs l).length=l.length-1
 |[]=>rfl
 |[_]=>rfl
 |a::b::r=>by simp [diffs,diffs_length (b::r)]
theorem diffs_get: ∀(l:List Int) (k:Nat),k+1<l.length→(diffs l)[k]?=some (l.getD (k+1) 0-l.getD k 0)
 |[],k,h=>by simp at h
 |[_],k,h=>by simp at h
 |a::b::r,0,_=>by simp [diffs]
 |a::b::r,k+1,h=>by
  have:=diffs_get (b::r) k (by simpa using h)
  simpa [diffs] using this
theorem diffs_take (l:List Int) (k:Nat) (h:k+1<l.length):(diffs l).take (k+1)=(diffs l).take k++[l.getD (k+1) 0-l.getD k 0]:=by
 rw [List.take_add_one,diffs_get l k h];rfl
theorem f106_c (m:Md Tryz.prog B) (h:Hp) (v:Value) (xs:List Int) (n:Nat) (hn:n=xs.length) (hmax:n≤1000) (hb: ∀j,-100000≤xs.getD j 0∧xs.getD j 0≤100000) (rd:RdS B h 1 v n (ints xs)):
  FnC m 106 #[v] h fun v' h'=> ∃new,h'=h++new∧OwnS 3 1 v' (n-1) (ints (diffs xs)) new:=by
 obtain ⟨p,c,rfl,hl,hp⟩:=id rd
 refine fn_enter Tryz.func106 rfl rfl (l:=(.slice p n c)::uu24) rfl ?_
 intro cf cs K hK
 refine d83 ?_;refine d69 ?_;refine d135 ?_
 refine run_loop (fun nn l h'=> ∃(k:Nat) (w:Value) (new:Hp),nn=n-k∧(k+1≤max n 1)∧(OwnS 3 1 w k (ints ((diffs xs).take k)) new)∧(∃U:Nat→Value,l=((.slice p n c)::(U 1)::(U 2)::w::(.int .i64 ((k:Int)+1))::vw20 U 5 []))∧h++new=h') _ ⟨0,_,[],rfl,by omega,OwnS.nil,exU rfl,(by simp)⟩ ?_;rintro nn l h' ⟨k,w,new,rfl,hk,ho,⟨U,rfl⟩,rfl⟩ hnext;subst hn
 refine run_seq ?_;refine d120 ?_;refine k_lssS rfl zq (fun hc=>?_) (fun hc=>?_)
 ·refine d94 ?_
  refine run_draw [(0,.pure),(1,.pure),(2,.pure),(3,.pure),(5,.pure),(6,.pure),(7,.pure),(8,.pure),(4,.read),(9,.read),(10,.pure),(11,.keep),(12,.free),(13,.pure)] (by kernel_rfl) (by kernel_rfl) (List.Sublist.refl _) ?_;obtain ⟨b,o,rfl⟩:=rd.ptr (by omega)
  have hb1:=hb (k+1)
  have hb0:=hb k
  have e1:((k:Int)+1).toNat=k+1:=by omega
  have e0:((k:Int)+1-1).toNat=k:=by omega
  refine d3 ?_;refine d39 ?_;refine d55 ?_
  refine k_ld rfl zq ((rd.int rfl (by omega) (by omega)).app _) ?_;refine k_ld rfl zq ((rd.int rfl (by omega) (by omega)).app _) ?_;rw [e1,e0];refine k_sub rfl zq (by unfold In64;omega) ?_;refine k_bs kdq rfl zq (by decide) (by decide) rfl (fun q22=>k_hp (k_put ?_));refine k_app1 (F:=h) rfl zq rfl ho kdq (by omega) (by omega) (fun w2 new2 ho2=>k_put ?_);rw [show ints ((diffs xs).take k)++[Value.int .i64 (xs.getD (k+1) 0-xs.getD k 0)]=ints ((diffs xs).take (k+1)) by rw [diffs_take xs k (by omega)];simp] at ho2
  refine d45 ?_;refine rr3 ?_;refine d59 ?_
  exact m.weak weakSub (hnext _ _ _ (by omega) ⟨k+1,_,_,rfl,by omega,ho2,exU rfl,rfl⟩)
 ·refine d67 ?_;refine d95 ?_
  refine run_res (h++new) rfl Tryz.func106 rfl weakSub ?_;refine hK _ _ ?_;obtain rfl:k=xs.length-1:=by omega
  rw [List.take_of_length_le (by rw [diffs_length];exact Nat.le_refl _)] at ho
  exact ⟨_,rfl,ho⟩
theorem f110_c (m:Md Tryz.prog B) (h:Hp) (x lo hi:Int):FnC m 110 #[.int .i64 x,.int .i64 lo,.int .i64 hi] h fun v h'=>h'=h∧IsB (lo≤x∧x≤hi) v:=by
 refine fn_enter Tryz.func110 rfl rfl (l:=(.int .i64 x)::(.int .i64 lo)::(.int .i64 hi)::uu12) rfl ?_
 intro cf cs K hK
 refine d83 ?_;refine rs9 ?_;refine d3 ?_
 refine k_leqS rfl zq (fun hc=>?_) (fun hc=>?_)
 ·refine d23 ?_;refine k_mv rfl rfl ?_
  refine k_leqS rfl rfl (fun hc=>?_) (fun hc=>?_)
  ·refine d82 ?_
   refine run_res (h) rfl Tryz.func110 rfl weakSub ?_;refine hK _ _ ?_;first|exact ⟨rfl,IsB.yes (by omega)⟩|exact ⟨rfl,IsB.no (by omega)⟩
  ·refine d82 ?_
   refine run_res (h) rfl Tryz.func110 rfl weakSub ?_;refine hK _ _ ?_;first|exact ⟨rfl,IsB.yes (by omega)⟩|exact ⟨rfl,IsB.no (by omega)⟩
 ·refine d52 ?_;refine d63 ?_;refine d0 ?_
  refine run_res (h) rfl Tryz.func110 rfl weakSub ?_;refine hK _ _ ?_;first|exact ⟨rfl,IsB.yes (by omega)⟩|exact ⟨rfl,IsB.no (by omega)⟩
theorem f225_c (m:Md Tryz.prog B) (h:Hp) (a b lo hi n:Int) (h0: -10000≤lo) (h1:hi≤10000):FnC m 225 #[.agg [.int .i64 a,.int .i64 b].toArray,.int .i64 lo,.int .i64 hi,.int .i64 n] h fun v h'=>h'=h∧IsB (lo≤a∧a≤b∧b≤hi∧b-a<n) v:=by
 refine fn_enter Tryz.func225 rfl rfl (l:=(.agg [.int .i64 a,.int .i64 b].toArray)::(.int .i64 lo)::(.int .i64 hi)::(.int .i64 n)::uu31) rfl ?_
 intro cf cs K hK
 refine rs2 ?_;refine k_box rfl zq (fun q4=>k_hp (k_put ?_));refine d12 ?_
 refine run_region [(0,.free),(1,.free),(2,.free),(3,.free),(4,.free),(5,.free),(6,.free),(7,.free),(8,.free),(9,.free),(10,.free),(11,.free),(12,.free),(13,.free),(14,.free),(15,.free),(16,.free),(17,.free),(18,.free),(19,.free),(20,.free),(21,.free),(22,.free),(23,.free),(24,.free),(25,.free),(26,.free)] (by kernel_rfl) (by kernel_rfl) ?_;refine mq rfl ?_;refine d2 ?_
 refine k_leqS rfl zq (fun hc=>?_) (fun hc=>?_)
 ·refine mq rfl ?_;refine d25 ?_;refine d25 ?_
  refine k_leqS rfl rfl (fun hc=>?_) (fun hc=>?_)
  ·refine k_pickT rfl zq ?_;refine mq rfl ?_;refine d25 ?_;refine k_mv rfl rfl ?_;refine k_leqS rfl rfl (fun hc=>?_) (fun hc=>?_)
   ·refine k_pickT rfl zq ?_;refine mq rfl ?_;refine d25 ?_;refine d144 ?_;refine k_mv rfl rfl ?_;refine k_lssS rfl rfl (fun hc=>?_) (fun hc=>?_)
    ·refine d82 ?_
     refine run_res (h) rfl Tryz.func225 rfl weakSub ?_;refine hK _ _ ?_;first|exact ⟨rfl,IsB.yes (by omega)⟩|exact ⟨rfl,IsB.no (by omega)⟩
    ·refine d82 ?_
     refine run_res (h) rfl Tryz.func225 rfl weakSub ?_;refine hK _ _ ?_;first|exact ⟨rfl,IsB.yes (by omega)⟩|exact ⟨rfl,IsB.no (by omega)⟩
   ·refine k_pickT rfl zq ?_;refine d112 ?_;refine d63 ?_;refine d0 ?_;refine run_res (h) rfl Tryz.func225 rfl weakSub ?_;refine hK _ _ ?_;first|exact ⟨rfl,IsB.yes (by omega)⟩|exact ⟨rfl,IsB.no (by omega)⟩
  ·refine k_pickT rfl zq ?_;refine d68 ?_;refine k_pickF rfl zq ?_;refine d112 ?_;refine d63 ?_;refine d0 ?_;refine run_res (h) rfl Tryz.func225 rfl weakSub ?_;refine hK _ _ ?_;first|exact ⟨rfl,IsB.yes (by omega)⟩|exact ⟨rfl,IsB.no (by omega)⟩
 ·refine d68 ?_;refine d63 ?_;refine d68 ?_;refine k_pickF rfl zq ?_;refine d112 ?_;refine d63 ?_;refine d0 ?_
  refine run_res (h) rfl Tryz.func225 rfl weakSub ?_;refine hK _ _ ?_;first|exact ⟨rfl,IsB.yes (by omega)⟩|exact ⟨rfl,IsB.no (by omega)⟩
theorem f107_c (m:Md Tryz.prog B) (h:Hp) (x y z:Int) (p:Option Addr) (n c:Nat) (q:Option Addr) (k e:Nat):FnC m 107 #[bookV x y z (.slice p n c) (.slice q k e)] h fun v h'=>h'=h∧v= .int .i64 n:=by
 refine fn_enter Tryz.func107 rfl rfl (l:=(bookV x y z (.slice p n c) (.slice q k e))::uu6) rfl ?_
 intro cf cs K hK
 refine rs2 ?_;refine k_box rfl zq (fun q1=>k_hp (k_put ?_));refine aq rfl ?_;refine rs5 ?_;refine d149 ?_;refine d0 ?_
 refine run_res (h) rfl Tryz.func107 rfl weakSub ?_;refine hK _ _ ?_;exact ⟨rfl,rfl⟩
theorem f64_c (m:Md Tryz.prog B) (h:Hp) (x y z:Int) (p:Option Addr) (n c:Nat) (q:Option Addr) (k e:Nat) (i:Int) (hn:n≤1000):FnC m 64 #[bookV x y z (.slice p n c) (.slice q k e),.int .i64 i] h fun v h'=>h'=h∧v= .int .i64 (if 0≤i∧i≤n-1 then 0 else 6):=by
 refine fn_enter Tryz.func64 rfl rfl (l:=(bookV x y z (.slice p n c) (.slice q k e))::(.int .i64 i)::uu9) rfl ?_
 intro cf cs K hK
 refine rs2 ?_;refine k_box rfl zq (fun q2=>k_hp (k_put ?_));refine d12 ?_;refine rs6 ?_;refine mq rfl ?_;refine k_ldA rfl zq ?_
 refine k_calP (Post:=fun v=>v=_) rfl zq (by kernel_rfl) (fun H' hH=>f107_c m _ _ _ _ _ _ _ _ _ _) ?_;rintro v rfl;refine k_put ?_;refine k_sub rfl zq (by unfold In64;omega) ?_;refine k_calP (Post:=fun v=>IsB _ v) rfl zq (by kernel_rfl) (fun H' hH=>f110_c m _ _ _ _) ?_;rintro v (⟨hc,rfl⟩|⟨hc,rfl⟩)
 ·refine d40 ?_;refine d13 ?_;refine d37 ?_
  refine run_res (h) rfl Tryz.func64 rfl weakSub ?_;refine hK _ _ ?_;first|exact ⟨rfl,by rw [if_pos (by assumption)]⟩|exact ⟨rfl,by rw [if_neg (by assumption)]⟩
 ·refine d41 ?_;refine d58 ?_
  refine run_res (h) rfl Tryz.func64 rfl weakSub ?_;refine hK _ _ ?_;first|exact ⟨rfl,by rw [if_pos (by assumption)]⟩|exact ⟨rfl,by rw [if_neg (by assumption)]⟩
end Go.Proofs.Bt
namespace Go.Proofs.Bt
open Go.Proofs
open Go.Lo
open Go.Conc (G)
set_option maxRecDepth 100000
set_option synthInstance.maxSize 100000
set_option synthInstance.maxHeartbeats 1000000
set_option maxHeartbeats 4000000
variable {B:Array Obj}
theorem mem_getD {xs:List Int} {x:Int}:x∈xs↔ ∃i,i<xs.length∧xs.getD i 0=x:=by
 rw [List.mem_iff_getElem];constructor
 ·rintro ⟨i,h,e⟩;exact ⟨i,h,by rw [List.getD_eq_getElem?_getD,List.getElem?_eq_getElem h];exact e⟩
 ·rintro ⟨i,h,e⟩;exact ⟨i,h,by rw [List.getD_eq_getElem?_getD,List.getElem?_eq_getElem h] at e;exact e⟩
end Go.Proofs.Bt
namespace Go.Proofs.Bt
open Go.Proofs
open Go.Lo
open Go.Conc (G)
set_option maxRecDepth 100000
set_option synthInstance.maxSize 100000
set_option synthInstance.maxHeartbeats 1000000
set_option maxHeartbeats 4000000
variable {B:Array Obj}
def bends (xs:List Int):List Int:=diffs (diffs xs)
theorem bends_length (xs:List Int):(bends xs).length=xs.length-2:=by simp [bends,diffs_length];omega
theorem diffs_getD (l:List Int) (k:Nat) (h:k+1<l.length):(diffs l).getD k 0=l.getD (k+1) 0-l.getD k 0:=by
 rw [List.getD_eq_getElem?_getD,diffs_get l k h];rfl
theorem getD_out (l:List Int) (k:Nat) (h:l.length≤k):l.getD k 0=0:=by
 rw [List.getD_eq_getElem?_getD,List.getElem?_eq_none (by omega)];rfl
def Small (m:Int) (xs:List Int):Prop:= ∀j,-m≤xs.getD j 0∧xs.getD j 0≤m
theorem Small.diffs {m:Int} {xs:List Int} (hb:Small m xs):Small (2*m) (diffs xs):=fun j=>by
 have h1:=hb j
 have h2:=hb (j+1)
 by_cases h:j+1<xs.length
 ·rw [diffs_getD xs j h];omega
 ·rw [getD_out _ _ (by rw [diffs_length];omega)];omega
theorem Small.bends {m:Int} {xs:List Int} (hb:Small m xs):Small (4*m) (bends xs):=fun j=>by
 have:=hb.diffs.diffs j
 unfold Go.Proofs.Bt.bends
 omega
def turnSt (s:Int×Int) (k:Int):Int×Int:=(if (k>0∧s.2<0)∨(k<0∧s.2>0) then s.1+1 else s.1,if k≠0 then k else s.2)
def turnF (l:List Int):Int×Int:=l.foldl turnSt (0,0)
def turns (xs:List Int):Int:=(turnF (bends xs)).1
theorem turnF_take (l:List Int) (k:Nat) (h:k<l.length):turnF (l.take (k+1))=turnSt (turnF (l.take k)) (l.getD k 0):=by
 rw [take_snoc' l k h,turnF,List.foldl_append];rfl
def withinL (l:List Int) (m:Int):Prop:= ∀x∈l,-m≤x∧x≤m
def fair (be tw tu:Int) (xs:List Int):Prop:=withinL (bends xs) be∧withinL (diffs (bends xs)) tw∧turns xs≤tu
end Go.Proofs.Bt
namespace Go.Proofs.Bt
open Go.Proofs
open Go.Lo
open Go.Conc (G)
set_option maxRecDepth 100000
set_option synthInstance.maxSize 100000
set_option synthInstance.maxHeartbeats 1000000
set_option maxHeartbeats 4000000
variable {B:Array Obj}
def okM (x:Sp):Prop:=0≤x.lo∧x.lo≤x.hi∧x.hi≤959∧x.hi-x.lo<3
instance (x:Sp):Decidable (okM x):=by unfold okM;infer_instance
instance (ms:List Sp):Decidable (∀x∈ms,okM x):=List.decidableBAll _ _
def marksS (ms:List Sp):Int:=if¬(3≤ms.length∧ms.length≤7) then 2 else if∀x∈ms,okM x then 0 else 1
def rules1 (many:Int):List Ru→Int
 |[]=>0
 |r::t=>if¬(0≤r.a∧r.a≤many-1)∨ ¬(0≤r.b∧r.b≤many-1) then 6 else if r.a≥r.b then 7 else if¬(-959≤r.lo∧r.lo≤r.hi∧r.hi≤959) then 1 else rules1 many t
def rulesS (many:Int) (rs:List Ru):Int:=if rs.length>4 then 2 else rules1 many rs
def bookS (b:Bk):Int:=
 if¬(0≤b.bend∧b.bend≤99)∨ ¬(0≤b.twist∧b.twist≤99)∨ ¬(0≤b.turns∧b.turns≤5) then 1 else
 if marksS b.marks≠0 then marksS b.marks else rulesS b.marks.length b.rules
def lineS (many:Nat) (xs:List Int):Int:=if xs.length≠many then 2 else if∀x∈xs,0≤x∧x≤959 then 0 else 1
end Go.Proofs.Bt
namespace Go.Proofs.Bt
open Go.Proofs
open Go.Lo
open Go.Conc (G)
set_option maxRecDepth 100000
set_option synthInstance.maxSize 100000
set_option synthInstance.maxHeartbeats 1000000
set_option maxHeartbeats 4000000
variable {B:Array Obj}
structure Valid (b:Bk):Prop where
 bend:0≤b.bend∧b.bend≤99
 twist:0≤b.twist∧b.twist≤99
 turns:0≤b.turns∧b.turns≤5
 many:3≤b.marks.length∧b.marks.length≤7
 marks: ∀x∈b.marks,okM x
 few:b.rules.length≤4
 rules: ∀r∈b.rules,(0≤r.a∧r.a<b.marks.length)∧(0≤r.b∧r.b<b.marks.length)∧r.a<r.b∧ -959≤r.lo∧r.lo≤r.hi∧r.hi≤959
theorem marksS_zero {ms:List Sp} (h:marksS ms=0):(3≤ms.length∧ms.length≤7)∧ ∀x∈ms,okM x:=by
 unfold marksS at h
 split at h
 ·omega
 ·split at h
  ·rename_i h1 h2
   exact ⟨by omega,h2⟩
  ·omega
theorem rules1_zero {many:Int}: ∀{rs:List Ru},rules1 many rs=0→ ∀r∈rs,(0≤r.a∧r.a<many)∧(0≤r.b∧r.b<many)∧r.a<r.b∧ -959≤r.lo∧r.lo≤r.hi∧r.hi≤959
 |[],_,r,hr=>by simp at hr
 |x::t,h,r,hr=>by
  unfold rules1 at h
  split at h
  ·omega
  ·split at h
   ·omega
   ·split at h
    ·omega
    ·rcases List.mem_cons.1 hr with rfl|hr
     ·refine ⟨?_,?_,?_,?_,?_,?_⟩<;>omega
     ·exact rules1_zero h r hr
theorem valid_of {b:Bk} (h:bookS b=0):Valid b:=by
 unfold bookS at h
 split at h
 ·omega
 ·split at h
  ·contradiction
  ·rename_i h1 h2
   obtain ⟨m1,m2⟩:=marksS_zero (ms:=b.marks) (by omega)
   unfold rulesS at h
   split at h
   ·omega
   ·exact ⟨by omega,by omega,by omega,m1,m2,by omega,fun r hr=>rules1_zero h r hr⟩
end Go.Proofs.Bt
namespace Go.Proofs.Bt
open Go.Proofs
open Go.Lo
open Go.Conc (G)
set_option maxRecDepth 100000
set_option synthInstance.maxSize 100000
set_option synthInstance.maxHeartbeats 1000000
set_option maxHeartbeats 4000000
variable {B:Array Obj}
theorem Small.le {m m':Int} {xs:List Int} (h:Small m xs) (hm:m≤m'):Small m' xs:=fun j=>by have:=h j;omega
end Go.Proofs.Bt
namespace Go.Proofs.Bt
open Go.Proofs
open Go.Lo
open Go.Conc (G)
set_option maxRecDepth 100000
set_option synthInstance.maxSize 100000
set_option synthInstance.maxHeartbeats 1000000
set_option maxHeartbeats 4000000
variable {B:Array Obj}
def RdI (B:Array Obj) (h:Hp) (w:Value) (xs:List Int):Prop:= ∃p c,w= .slice p xs.length c∧RdS B h 1 (.slice p xs.length c) xs.length (ints xs)
theorem RdI.nil {h:Hp}:RdI B h (.slice none 0 0) []:=⟨none,0,rfl,none,0,rfl,rfl,.inl ⟨rfl,rfl⟩⟩
theorem OwnS.rdI {t:Nat} {w:Value} {n:Nat} {xs:List Int} {new:Hp} (o:OwnS t 1 w n (ints xs) new):RdI B new w xs:=by
 obtain ⟨p,c,rfl,hl⟩:=o.len
 obtain rfl:n=xs.length:=by simpa using hl.symm
 exact ⟨p,c,rfl,o.rd'⟩
theorem lineS_zero {many:Nat} {xs:List Int} (h:lineS many xs=0):xs.length=many∧ ∀x∈xs,0≤x∧x≤959:=by
 unfold lineS at h
 split at h
 ·omega
 ·split at h
  ·exact ⟨by omega,by assumption⟩
  ·omega
theorem lineS_small {many:Nat} {xs:List Int} (h:lineS many xs=0):Small 959 xs:=fun j=>by
 by_cases hj:j<xs.length
 ·have:=(lineS_zero h).2 _ (mem_getD.2 ⟨j,hj,rfl⟩)
  omega
 ·rw [getD_out _ _ (by omega)];omega
end Go.Proofs.Bt
namespace Go.Proofs.Bt
open Go.Proofs
open Go.Lo
open Go.Conc (G)
set_option maxRecDepth 100000
set_option synthInstance.maxSize 100000
set_option synthInstance.maxHeartbeats 1000000
set_option maxHeartbeats 4000000
variable {B:Array Obj}
def handedS (b:Bk) (xs:List Int):Int:=if bookS b≠0 then bookS b else lineS b.marks.length xs
theorem RdI.owned {t:Nat} {w:Value} {n:Nat} {xs:List Int} {new:Hp} (o:OwnS t 1 w n (ints xs) new):RdI B new w xs:=OwnS.rdI o
end Go.Proofs.Bt
namespace Go.Proofs.Bt
open Go.Proofs
open Go.Lo
open Go.Conc (G)
set_option maxRecDepth 100000
set_option synthInstance.maxSize 100000
set_option synthInstance.maxHeartbeats 1000000
set_option maxHeartbeats 4000000
variable {B:Array Obj}
theorem st_ne {p:Prop} [Decidable p] (h:(if p then (0:Int) else 6)≠0): ¬p:=fun e=>h (if_pos e)
theorem st_eq {p:Prop} [Decidable p] (h:(if p then (0:Int) else 6)=0):p:=Classical.byContradiction fun e=>by rw [if_neg e] at h;cases h
variable [Laid B]
theorem laid_rdN {h:Hp} [x:Laid B]:RdN B h 1 0 [.func (.func 220) #[] #[],.func (.func 221) #[] #[],.func (.func 222) #[] #[]]:=fun j hj=>by
 obtain ⟨t,f,e⟩:=x.eq
 refine Rd.base rfl e ?_
 rw [Nat.zero_add,List.getElem?_toArray,List.getD_eq_getElem?_getD,List.getElem?_eq_getElem hj];rfl
theorem f226_c (m:Md Tryz.prog B) (h:Hp) {p:Option Addr} {n c:Nat} {xs:List Sp} (rd:RdS B h 2 (.slice p n c) n (encs xs)) (hn:n≤100000) {fid:Nat} {fc cp:Array Value} {pr:Nat→Prop} (hcall:callB Tryz.prog fid=true) (hf: ∀i,i<n→ ∀H':Hp,h.Sublist H'→FnC m fid (fc++[spV (xs.getD i default)].toArray++cp) H' fun v h'=>h'=H'∧IsB (pr i) v):FnC m 226 #[.slice p n c,.func (.func fid) fc cp] h fun v h'=>h'=h∧ ∃j:Int,v= .int .i64 j∧(0≤j↔ ∃i,i<n∧pr i):=by
 refine fn_enter Tryz.func226 rfl rfl (l:=(.slice p n c)::(.func (.func fid) fc cp)::uu17) rfl ?_
 intro cf cs K hK
 refine d69 ?_;refine d44 ?_;refine d136 ?_
 refine run_loop (fun nn l h'=> ∃(k:Nat),nn=n-k∧(k≤n)∧(∀i,i<k→ ¬pr i)∧(∃U:Nat→Value,l=((.slice p n c)::(.func (.func fid) fc cp)::vw5 U 2 ((.int .i64 (n:Int))::(.int .i64 (k:Int))::vw10 U 9 [])))∧h=h') _ ⟨0,rfl,by omega,fun i hi=>by omega,exU rfl,rfl⟩ ?_;rintro nn l h' ⟨k,rfl,hk,he,⟨U,rfl⟩,rfl⟩ hnext;refine rs1 ?_;refine k_lssS rfl zq (fun hc=>?_) (fun hc=>?_)
 ·refine d104 ?_;refine d19 ?_;refine aq rfl ?_;refine rs6 ?_;refine d3 ?_;refine mq rfl ?_
  obtain ⟨rd_b,rd_o,rfl⟩:=rd.ptr (by omega)
  refine k_ixs rfl zq (by first|rfl|assumption) (by omega) (by omega) ?_;refine k_ldN (vs:=spL (xs.getD k default)) rfl zq rfl (rd.eat k (by omega) (by omega)) ?_;refine k_valP (Post:=fun v=>IsB _ v) rfl zq hcall (fun H' hH=>hf k (by omega) H' hH) ?_;rintro v (⟨hc,rfl⟩|⟨hc,rfl⟩)
  ·refine k_put ?_;refine d7 ?_;refine d95 ?_;refine run_res (h) rfl Tryz.func226 rfl weakSub ?_;refine hK _ _ ?_;first
    |exact ⟨rfl,_,rfl,fun _=>⟨k,by omega,hc⟩,fun _=>by omega⟩
    |(refine ⟨rfl,_,rfl,fun e=>absurd e (by decide),?_⟩;rintro ⟨i,h1,h2⟩;exact absurd h2 (he i (by omega)))
  ·refine k_put ?_;refine d13 ?_;refine d91 ?_;exact m.weak weakSub (hnext _ _ _ (by omega) ⟨k+1,rfl,by omega,fun i hi=>by
    rcases Nat.lt_or_ge i k with h1|h1
    ·exact he i h1
    ·obtain rfl:i=k:=by omega
     exact hc,exU rfl,rfl⟩)
 ·refine d105 ?_;refine d37 ?_
  refine run_res (h) rfl Tryz.func226 rfl weakSub ?_;refine hK _ _ ?_;first
   |exact ⟨rfl,_,rfl,fun _=>⟨k,by omega,hc⟩,fun _=>by omega⟩
   |(refine ⟨rfl,_,rfl,fun e=>absurd e (by decide),?_⟩;rintro ⟨i,h1,h2⟩;exact absurd h2 (he i (by omega)))
theorem f223_c (m:Md Tryz.prog B) (h:Hp) {p:Option Addr} {n c:Nat} {xs:List Sp} (rd:RdS B h 2 (.slice p n c) n (encs xs)) (hn:n≤100000) {fid:Nat} {fc cp:Array Value} {pr:Nat→Prop} (hcall:callB Tryz.prog fid=true) (hf: ∀i,i<n→ ∀H':Hp,h.Sublist H'→FnC m fid (fc++[spV (xs.getD i default)].toArray++cp) H' fun v h'=>h'=H'∧IsB (pr i) v):FnC m 223 #[.slice p n c,.func (.func fid) fc cp] h fun v h'=>h'=h∧IsB (∃i,i<n∧pr i) v:=by
 refine fn_enter Tryz.func223 rfl rfl (l:=(.slice p n c)::(.func (.func fid) fc cp)::uu7) rfl ?_
 intro cf cs K hK
 refine d83 ?_;refine rs5 ?_;refine d3 ?_
 refine k_calP (Post:=fun v=> ∃j:Int,v= .int .i64 j∧(0≤j↔ ∃i,i<n∧pr i)) rfl zq (by kernel_rfl) (fun H' hH=>f226_c m H' (rd.keeps (sq hH)) hn hcall (fun i hi K hK=>hf i hi K (SubH.sub.trans (hH.trans hK)))) ?_;rintro v ⟨j,rfl,hj⟩;refine k_put ?_;refine k_geqS rfl zq (fun hc=>?_) (fun hc=>?_)
 ·refine d0 ?_
  refine run_res (h) rfl Tryz.func223 rfl weakSub ?_;refine hK _ _ ?_;first|exact ⟨rfl,IsB.yes (hj.1 (by assumption))⟩|exact ⟨rfl,IsB.no (fun e=>absurd (hj.2 e) (by omega))⟩
 ·refine d0 ?_
  refine run_res (h) rfl Tryz.func223 rfl weakSub ?_;refine hK _ _ ?_;first|exact ⟨rfl,IsB.yes (hj.1 (by assumption))⟩|exact ⟨rfl,IsB.no (fun e=>absurd (hj.2 e) (by omega))⟩
theorem f153_c (m:Md Tryz.prog B) (h:Hp) {p:Option Addr} {n c:Nat} {xs:List Int} (rd:RdS B h 1 (.slice p n c) n (ints xs)) (hn:n≤100000) {fid:Nat} {fc cp:Array Value} {pr:Nat→Prop} (hcall:callB Tryz.prog fid=true) (hf: ∀i,i<n→ ∀H':Hp,h.Sublist H'→FnC m fid (fc++[Value.int .i64 (xs.getD i 0)].toArray++cp) H' fun v h'=>h'=H'∧IsB (pr i) v):FnC m 153 #[.slice p n c,.func (.func fid) fc cp] h fun v h'=>h'=h∧ ∃j:Int,v= .int .i64 j∧(0≤j↔ ∃i,i<n∧pr i):=by
 refine fn_enter Tryz.func153 rfl rfl (l:=(.slice p n c)::(.func (.func fid) fc cp)::uu17) rfl ?_
 intro cf cs K hK
 refine d69 ?_;refine d44 ?_;refine d136 ?_
 refine run_loop (fun nn l h'=> ∃(k:Nat),nn=n-k∧(k≤n)∧(∀i,i<k→ ¬pr i)∧(∃U:Nat→Value,l=((.slice p n c)::(.func (.func fid) fc cp)::vw5 U 2 ((.int .i64 (n:Int))::(.int .i64 (k:Int))::vw10 U 9 [])))∧h=h') _ ⟨0,rfl,by omega,fun i hi=>by omega,exU rfl,rfl⟩ ?_;rintro nn l h' ⟨k,rfl,hk,he,⟨U,rfl⟩,rfl⟩ hnext;refine rs1 ?_;refine k_lssS rfl zq (fun hc=>?_) (fun hc=>?_)
 ·refine d104 ?_;refine d19 ?_;refine aq rfl ?_;refine rs6 ?_;refine d3 ?_;refine mq rfl ?_
  obtain ⟨rd_b,rd_o,rfl⟩:=rd.ptr (by omega)
  refine k_ixs rfl zq (by first|rfl|assumption) (by omega) (by omega) ?_;refine k_ld rfl zq (rd.iat k (by omega) (by omega)) ?_;refine k_valP (Post:=fun v=>IsB _ v) rfl zq hcall (fun H' hH=>hf k (by omega) H' hH) ?_;rintro v (⟨hc,rfl⟩|⟨hc,rfl⟩)
  ·refine k_put ?_;refine d7 ?_;refine d95 ?_;refine run_res (h) rfl Tryz.func153 rfl weakSub ?_;refine hK _ _ ?_;first
    |exact ⟨rfl,_,rfl,fun _=>⟨k,by omega,hc⟩,fun _=>by omega⟩
    |(refine ⟨rfl,_,rfl,fun e=>absurd e (by decide),?_⟩;rintro ⟨i,h1,h2⟩;exact absurd h2 (he i (by omega)))
  ·refine k_put ?_;refine d13 ?_;refine d91 ?_;exact m.weak weakSub (hnext _ _ _ (by omega) ⟨k+1,rfl,by omega,fun i hi=>by
    rcases Nat.lt_or_ge i k with h1|h1
    ·exact he i h1
    ·obtain rfl:i=k:=by omega
     exact hc,exU rfl,rfl⟩)
 ·refine d105 ?_;refine d37 ?_
  refine run_res (h) rfl Tryz.func153 rfl weakSub ?_;refine hK _ _ ?_;first
   |exact ⟨rfl,_,rfl,fun _=>⟨k,by omega,hc⟩,fun _=>by omega⟩
   |(refine ⟨rfl,_,rfl,fun e=>absurd e (by decide),?_⟩;rintro ⟨i,h1,h2⟩;exact absurd h2 (he i (by omega)))
theorem f101_c (m:Md Tryz.prog B) (h:Hp) {p:Option Addr} {n c:Nat} {xs:List Int} (rd:RdS B h 1 (.slice p n c) n (ints xs)) (hn:n≤100000) {fid:Nat} {fc cp:Array Value} {pr:Nat→Prop} (hcall:callB Tryz.prog fid=true) (hf: ∀i,i<n→ ∀H':Hp,h.Sublist H'→FnC m fid (fc++[Value.int .i64 (xs.getD i 0)].toArray++cp) H' fun v h'=>h'=H'∧IsB (pr i) v):FnC m 101 #[.slice p n c,.func (.func fid) fc cp] h fun v h'=>h'=h∧IsB (∃i,i<n∧pr i) v:=by
 refine fn_enter Tryz.func101 rfl rfl (l:=(.slice p n c)::(.func (.func fid) fc cp)::uu7) rfl ?_
 intro cf cs K hK
 refine d83 ?_;refine rs5 ?_;refine d3 ?_
 refine k_calP (Post:=fun v=> ∃j:Int,v= .int .i64 j∧(0≤j↔ ∃i,i<n∧pr i)) rfl zq (by kernel_rfl) (fun H' hH=>f153_c m H' (rd.keeps (sq hH)) hn hcall (fun i hi K hK=>hf i hi K (SubH.sub.trans (hH.trans hK)))) ?_;rintro v ⟨j,rfl,hj⟩;refine k_put ?_;refine k_geqS rfl zq (fun hc=>?_) (fun hc=>?_)
 ·refine d0 ?_
  refine run_res (h) rfl Tryz.func101 rfl weakSub ?_;refine hK _ _ ?_;first|exact ⟨rfl,IsB.yes (hj.1 (by assumption))⟩|exact ⟨rfl,IsB.no (fun e=>absurd (hj.2 e) (by omega))⟩
 ·refine d0 ?_
  refine run_res (h) rfl Tryz.func101 rfl weakSub ?_;refine hK _ _ ?_;first|exact ⟨rfl,IsB.yes (hj.1 (by assumption))⟩|exact ⟨rfl,IsB.no (fun e=>absurd (hj.2 e) (by omega))⟩
theorem f224_c (m:Md Tryz.prog B) (h:Hp) (x:Sp):FnC m 224 #[spV x] h fun v h'=>h'=h∧IsB (¬okM x) v:=by
 refine fn_enter Tryz.func224 rfl rfl (l:=[spV x,undef,undef,undef,undef,undef]) rfl ?_
 intro cf cs K hK
 refine rs2 ?_;refine k_box rfl zq (fun q1=>k_hp (k_put ?_));refine aq rfl ?_;refine rs4 ?_;refine k_ldA rfl zq ?_
 refine k_calP (Post:=fun v=>IsB _ v) rfl zq (by kernel_rfl) (fun H' hH=>f225_c m H' _ _ _ _ _ (by decide) (by decide)) ?_;rintro v (⟨hc,rfl⟩|⟨hc,rfl⟩)
 ·refine d40 ?_;refine d0 ?_
  refine run_res (h) rfl Tryz.func224 rfl weakSub ?_;refine hK _ _ ?_;first|exact ⟨rfl,IsB.yes (by unfold okM;omega)⟩|exact ⟨rfl,IsB.no (by unfold okM;omega)⟩
 ·refine d41 ?_;refine d0 ?_
  refine run_res (h) rfl Tryz.func224 rfl weakSub ?_;refine hK _ _ ?_;first|exact ⟨rfl,IsB.yes (by unfold okM;omega)⟩|exact ⟨rfl,IsB.no (by unfold okM;omega)⟩
theorem f154_c (m:Md Tryz.prog B) (h:Hp) (x:Int):FnC m 154 #[.int .i64 x] h fun v h'=>h'=h∧IsB (¬(0≤x∧x≤959)) v:=by
 refine fn_enter Tryz.func154 rfl rfl (l:=[.int .i64 x,undef,undef,undef,undef,undef]) rfl ?_
 intro cf cs K hK
 refine d83 ?_;refine d118 ?_
 refine k_calP (Post:=fun v=>IsB _ v) rfl zq (by kernel_rfl) (fun H' hH=>f110_c m H' _ _ _) ?_;rintro v (⟨hc,rfl⟩|⟨hc,rfl⟩)
 ·refine d40 ?_;refine d0 ?_
  refine run_res (h) rfl Tryz.func154 rfl weakSub ?_;refine hK _ _ ?_;first|exact ⟨rfl,IsB.yes (by omega)⟩|exact ⟨rfl,IsB.no (by omega)⟩
 ·refine d41 ?_;refine d0 ?_
  refine run_res (h) rfl Tryz.func154 rfl weakSub ?_;refine hK _ _ ?_;first|exact ⟨rfl,IsB.yes (by omega)⟩|exact ⟨rfl,IsB.no (by omega)⟩
theorem f220_c (m:Md Tryz.prog B) (h:Hp) {b:Bk} {pm:Option Addr} {nm cm:Nat} {pr:Option Addr} {nr cr:Nat}:FnC m 220 #[bkV b pm nm cm pr nr cr] h fun v h'=>h'=h∧v= .int .i64 (if¬(0≤b.bend∧b.bend≤99)∨ ¬(0≤b.twist∧b.twist≤99)∨ ¬(0≤b.turns∧b.turns≤5) then 1 else 0):=by
 refine fn_enter Tryz.func220 rfl rfl (l:=(bkV b pm nm cm pr nr cr)::uu21) rfl ?_
 intro cf cs K hK
 refine rs2 ?_;refine k_box rfl zq (fun q1=>k_hp (k_put ?_));refine d12 ?_;refine run_seq ?_
 refine run_region [(0,.free),(1,.free),(2,.free),(3,.free),(4,.free),(5,.free),(6,.free),(7,.free),(8,.free),(9,.free),(10,.free),(11,.free),(12,.free),(13,.free),(14,.free),(15,.free),(16,.free),(17,.free),(18,.free)] (by kernel_rfl) (by kernel_rfl) ?_;refine d28 ?_
 refine k_calP (Post:=fun v=>IsB _ v) rfl zq (by kernel_rfl) (fun H' hH=>f110_c m H' _ _ _) ?_;rintro v (⟨hc,rfl⟩|⟨hc,rfl⟩)
 ·refine d40 ?_;refine d119 ?_;refine d25 ?_
  refine k_calP (Post:=fun v=>IsB _ v) rfl rfl (by kernel_rfl) (fun H' hH=>f110_c m H' _ _ _) ?_;rintro v (⟨hc,rfl⟩|⟨hc,rfl⟩)
  ·refine d85 ?_;refine k_pickF rfl zq ?_;refine d119 ?_;refine d25 ?_
   refine k_calP (Post:=fun v=>IsB _ v) rfl rfl (by kernel_rfl) (fun H' hH=>f110_c m H' _ _ _) ?_;rintro v (⟨hc,rfl⟩|⟨hc,rfl⟩)
   ·refine d85 ?_;refine d126 ?_;refine d37 ?_
    refine run_res (h) rfl Tryz.func220 rfl weakSub ?_;refine hK _ _ ?_;refine ⟨rfl,?_⟩
    first|(rw [if_pos (by omega)];done)|(rw [if_neg (by omega)];done)
   ·refine d100 ?_;refine k_pickF rfl zq ?_;refine d58 ?_
    refine run_res (h) rfl Tryz.func220 rfl weakSub ?_;refine hK _ _ ?_;refine ⟨rfl,?_⟩
    first|(rw [if_pos (by omega)];done)|(rw [if_neg (by omega)];done)
  ·refine d100 ?_;refine k_pickF rfl zq ?_;refine d68 ?_;refine k_off rfl rfl ?_;refine d142 ?_
   refine run_res (h) rfl Tryz.func220 rfl weakSub ?_;refine hK _ _ ?_;refine ⟨rfl,?_⟩
   first|(rw [if_pos (by omega)];done)|(rw [if_neg (by omega)];done)
 ·refine d41 ?_;refine d68 ?_;refine k_off rfl rfl ?_;refine k_pickT rfl zq ?_;refine d68 ?_;refine k_off rfl rfl ?_;refine d142 ?_
  refine run_res (h) rfl Tryz.func220 rfl weakSub ?_;refine hK _ _ ?_;refine ⟨rfl,?_⟩
  first|(rw [if_pos (by omega)];done)|(rw [if_neg (by omega)];done)
theorem f221_c (m:Md Tryz.prog B) (h:Hp) {b:Bk} {pm:Option Addr} {nm cm:Nat} {pr:Option Addr} {nr cr:Nat} (rdm:RdS B h 2 (.slice pm nm cm) nm (encs b.marks)) (hm:nm≤1000):FnC m 221 #[bkV b pm nm cm pr nr cr] h fun v h'=>h'=h∧v= .int .i64 (marksS b.marks):=by
 have hml:=rdm.elen (by decide)
 refine fn_enter Tryz.func221 rfl rfl (l:=(bkV b pm nm cm pr nr cr)::uu12) rfl ?_
 intro cf cs K hK
 refine rs2 ?_;refine k_box rfl zq (fun q1=>k_hp (k_put ?_));refine d12 ?_;refine run_block ?_;refine rs5 ?_;refine k_ldA rfl zq ?_
 refine k_calP (Post:=fun v=>v=_) rfl zq (by kernel_rfl) (fun H' hH=>f107_c m H' _ _ _ _ _ _ _ _ _) ?_;rintro v rfl;refine k_put ?_;refine k_calP (Post:=fun v=>IsB _ v) rfl zq (by kernel_rfl) (fun H' hH=>f110_c m H' _ _ _) ?_;rintro v (⟨hc,rfl⟩|⟨hc,rfl⟩)
 ·refine d40 ?_;refine d90 ?_;refine rs5 ?_;refine d28 ?_
  refine k_calP (Post:=fun v=>IsB _ v) rfl zq (by kernel_rfl) (fun H' hH=>f223_c m H' (pr:=fun i=> ¬okM (b.marks.getD i default)) (rdm.keeps (sq hH)) (by omega) (by kernel_rfl) (fun i hi K hK=>f224_c m K _)) ?_;rintro v (⟨hc,rfl⟩|⟨hc,rfl⟩)
  ·refine k_put ?_;refine d146 ?_;refine run_res (h) rfl Tryz.func221 rfl weakSub ?_;refine hK _ _ ?_;refine ⟨rfl,?_⟩
   first
    |(rw [marksS,if_pos (by omega)];done)
    |(rw [marksS,if_neg (by omega),if_neg (fun e=>by obtain ⟨i,h1,h2⟩:=hc;exact h2 (e _ (mem_getDR.2 ⟨i,by omega,rfl⟩)))];done)
    |(rw [marksS,if_neg (by omega),if_pos (fun x hx=>by obtain ⟨i,h1,rfl⟩:=mem_getDR.1 hx;exact Classical.byContradiction fun e=>hc ⟨i,by omega,e⟩)];done)
  ·refine d66 ?_;refine d143 ?_;refine d37 ?_
   refine run_res (h) rfl Tryz.func221 rfl weakSub ?_;refine hK _ _ ?_;refine ⟨rfl,?_⟩
   first
    |(rw [marksS,if_pos (by omega)];done)
    |(rw [marksS,if_neg (by omega),if_neg (fun e=>by obtain ⟨i,h1,h2⟩:=hc;exact h2 (e _ (mem_getDR.2 ⟨i,by omega,rfl⟩)))];done)
    |(rw [marksS,if_neg (by omega),if_pos (fun x hx=>by obtain ⟨i,h1,rfl⟩:=mem_getDR.1 hx;exact Classical.byContradiction fun e=>hc ⟨i,by omega,e⟩)];done)
 ·refine d41 ?_;refine d146 ?_
  refine run_res (h) rfl Tryz.func221 rfl weakSub ?_;refine hK _ _ ?_;refine ⟨rfl,?_⟩
  first
   |(rw [marksS,if_pos (by omega)];done)
   |(rw [marksS,if_neg (by omega),if_neg (fun e=>by obtain ⟨i,h1,h2⟩:=hc;exact h2 (e _ (mem_getDR.2 ⟨i,by omega,rfl⟩)))];done)
   |(rw [marksS,if_neg (by omega),if_pos (fun x hx=>by obtain ⟨i,h1,rfl⟩:=mem_getDR.1 hx;exact Classical.byContradiction fun e=>hc ⟨i,by omega,e⟩)];done)
theorem f222_c (m:Md Tryz.prog B) (h:Hp) {b:Bk} {pm:Option Addr} {nm cm:Nat} {pr:Option Addr} {nr cr:Nat} (rdm:RdS B h 2 (.slice pm nm cm) nm (encs b.marks)) (hm:nm≤1000) (rdr:RdS B h 4 (.slice pr nr cr) nr (encs b.rules)) (hr:nr≤1000):FnC m 222 #[bkV b pm nm cm pr nr cr] h fun v h'=>h'=h∧v= .int .i64 (rulesS b.marks.length b.rules):=by
 have hml:=rdm.elen (by decide)
 have hrl:=rdr.elen (by decide)
 refine fn_enter Tryz.func222 rfl rfl (l:=(bkV b pm nm cm pr nr cr)::uu42) rfl ?_
 intro cf cs K hK
 refine rs2 ?_;refine k_box rfl zq (fun q1=>k_hp (k_put ?_));refine d12 ?_;refine rs5 ?_;refine d149 ?_
 refine k_gtrS rfl zq (fun hc=>?_) (fun hc=>?_)
 ·refine d58 ?_
  refine run_res (h) rfl Tryz.func222 rfl weakSub ?_;refine hK _ _ ?_;refine ⟨rfl,?_⟩
  first
   |(rw [rulesS,if_pos (by omega)];done)
   |(rw [rulesS,if_neg (by omega),he,List.drop_eq_nil_of_le (by omega)];rfl)
   |(rw [rulesS,if_neg (by omega),he,getD_dropR b.rules k (by omega),rules1,if_pos (by omega)];done)
   |(rw [rulesS,if_neg (by omega),he,getD_dropR b.rules k (by omega),rules1,if_neg (by omega),if_pos (by omega)];done)
   |(rw [rulesS,if_neg (by omega),he,getD_dropR b.rules k (by omega),rules1,if_neg (by omega),if_neg (by omega),if_pos (by omega)];done)
 ·refine d38 ?_;refine rs5 ?_;refine d28 ?_;refine d136 ?_
  refine run_loop (fun nn l h'=> ∃(k:Nat),nn=nr-k∧(k≤nr)∧(rules1 b.marks.length b.rules=rules1 b.marks.length (b.rules.drop k))∧(∃U:Nat→Value,l=((bkV b pm nm cm pr nr cr)::(.pointer (some ⟨q1,0,none⟩))::vw10 U 2 ((.slice pr nr cr)::(.int .i64 (nr:Int))::(.int .i64 (k:Int))::(U 15)::vw27 U 16 [])))∧h++[⟨true,q1,.cells (bkL b pm nm cm pr nr cr).toArray 104 (0,0)⟩]=h') _ ⟨0,rfl,by omega,rfl,exU rfl,rfl⟩ ?_;rintro nn l h' ⟨k,rfl,hk,he,⟨U,rfl⟩,rfl⟩ hnext;refine rs1 ?_;refine k_lssS rfl zq (fun hc=>?_) (fun hc=>?_)
  ·refine d104 ?_;refine rs4 ?_
   obtain ⟨rdr_b,rdr_o,rfl⟩:=rdr.ptr (by omega)
   refine k_ixs rfl zq (by first|rfl|assumption) (by omega) (by omega) ?_;refine k_ldN (vs:=[.int .i64 (b.rules.getD k default).a,.int .i64 (b.rules.getD k default).b,.int .i64 (b.rules.getD k default).lo,.int .i64 (b.rules.getD k default).hi]) rfl zq rfl (rdr.eat k (by omega) (by omega)) ?_;refine k_new rfl zq (fun q4=>k_hp (k_put ?_));refine d48 ?_;refine run_block ?_;refine run_seq ?_
   refine run_region [(0,.free),(1,.free),(2,.free),(3,.free),(4,.free),(5,.free),(6,.free),(7,.free),(8,.free),(9,.free),(10,.free),(11,.free),(12,.free)] (by kernel_rfl) (by kernel_rfl) ?_;refine k_ldA rfl zq ?_;refine d2 ?_;refine k_calP (Post:=fun v=>v=_) rfl zq (by kernel_rfl) (fun H' hH=>f64_c m H' _ _ _ _ _ _ _ _ _ _ (by omega)) ?_;rintro v rfl;refine k_put ?_;refine k_neqS rfl zq (fun hc=>?_) (fun hc=>?_)
   ·replace hc:=st_ne hc
    refine d68 ?_;refine k_off rfl rfl ?_;refine k_pickT rfl zq ?_;refine d146 ?_
    refine run_res (h) rfl Tryz.func222 rfl weakSub ?_;refine hK _ _ ?_;refine ⟨rfl,?_⟩
    first
     |(rw [rulesS,if_pos (by omega)];done)
     |(rw [rulesS,if_neg (by omega),he,List.drop_eq_nil_of_le (by omega)];rfl)
     |(rw [rulesS,if_neg (by omega),he,getD_dropR b.rules k (by omega),rules1,if_pos (by omega)];done)
     |(rw [rulesS,if_neg (by omega),he,getD_dropR b.rules k (by omega),rules1,if_neg (by omega),if_pos (by omega)];done)
     |(rw [rulesS,if_neg (by omega),he,getD_dropR b.rules k (by omega),rules1,if_neg (by omega),if_neg (by omega),if_pos (by omega)];done)
   ·replace hc:=st_eq hc
    refine d130 ?_;refine d25 ?_
    refine k_calP (Post:=fun v=>v=_) rfl rfl (by kernel_rfl) (fun H' hH=>f64_c m H' _ _ _ _ _ _ _ _ _ _ (by omega)) ?_;rintro v rfl;refine k_put ?_;refine k_neqS rfl rfl (fun hc=>?_) (fun hc=>?_)
    ·replace hc:=st_ne hc
     refine k_pickF rfl zq ?_;refine d146 ?_;refine run_res (h) rfl Tryz.func222 rfl weakSub ?_;refine hK _ _ ?_;refine ⟨rfl,?_⟩
     first
      |(rw [rulesS,if_pos (by omega)];done)
      |(rw [rulesS,if_neg (by omega),he,List.drop_eq_nil_of_le (by omega)];rfl)
      |(rw [rulesS,if_neg (by omega),he,getD_dropR b.rules k (by omega),rules1,if_pos (by omega)];done)
      |(rw [rulesS,if_neg (by omega),he,getD_dropR b.rules k (by omega),rules1,if_neg (by omega),if_pos (by omega)];done)
      |(rw [rulesS,if_neg (by omega),he,getD_dropR b.rules k (by omega),rules1,if_neg (by omega),if_neg (by omega),if_pos (by omega)];done)
    ·replace hc:=st_eq hc
     refine k_pickF rfl zq ?_;refine d90 ?_;refine rs6 ?_;refine d2 ?_;refine d2 ?_;refine k_geqS rfl zq (fun hc=>?_) (fun hc=>?_)
     ·refine d146 ?_
      refine run_res (h) rfl Tryz.func222 rfl weakSub ?_;refine hK _ _ ?_;refine ⟨rfl,?_⟩
      first
       |(rw [rulesS,if_pos (by omega)];done)
       |(rw [rulesS,if_neg (by omega),he,List.drop_eq_nil_of_le (by omega)];rfl)
       |(rw [rulesS,if_neg (by omega),he,getD_dropR b.rules k (by omega),rules1,if_pos (by omega)];done)
       |(rw [rulesS,if_neg (by omega),he,getD_dropR b.rules k (by omega),rules1,if_neg (by omega),if_pos (by omega)];done)
       |(rw [rulesS,if_neg (by omega),he,getD_dropR b.rules k (by omega),rules1,if_neg (by omega),if_neg (by omega),if_pos (by omega)];done)
     ·refine d90 ?_;refine rs5 ?_;refine d60 ?_
      refine k_calP (Post:=fun v=>IsB _ v) rfl zq (by kernel_rfl) (fun H' hH=>f225_c m H' _ _ _ _ _ (by decide) (by decide)) ?_;rintro v (⟨hc,rfl⟩|⟨hc,rfl⟩)
      ·refine d40 ?_;refine aq rfl ?_;refine d143 ?_;refine d91 ?_
       exact m.weak weakSub (hnext _ _ _ (by omega) ⟨k+1,rfl,by omega,by rw [he,getD_dropR b.rules k (by omega),rules1,if_neg (by omega),if_neg (by omega),if_neg (by omega)],exU rfl,rfl⟩)
      ·refine d41 ?_;refine d146 ?_
       refine run_res (h) rfl Tryz.func222 rfl weakSub ?_;refine hK _ _ ?_;refine ⟨rfl,?_⟩
       first
        |(rw [rulesS,if_pos (by omega)];done)
        |(rw [rulesS,if_neg (by omega),he,List.drop_eq_nil_of_le (by omega)];rfl)
        |(rw [rulesS,if_neg (by omega),he,getD_dropR b.rules k (by omega),rules1,if_pos (by omega)];done)
        |(rw [rulesS,if_neg (by omega),he,getD_dropR b.rules k (by omega),rules1,if_neg (by omega),if_pos (by omega)];done)
        |(rw [rulesS,if_neg (by omega),he,getD_dropR b.rules k (by omega),rules1,if_neg (by omega),if_neg (by omega),if_pos (by omega)];done)
  ·refine d105 ?_;refine d37 ?_
   refine run_res (h) rfl Tryz.func222 rfl weakSub ?_;refine hK _ _ ?_;refine ⟨rfl,?_⟩
   first
    |(rw [rulesS,if_pos (by omega)];done)
    |(rw [rulesS,if_neg (by omega),he,List.drop_eq_nil_of_le (by omega)];rfl)
    |(rw [rulesS,if_neg (by omega),he,getD_dropR b.rules k (by omega),rules1,if_pos (by omega)];done)
    |(rw [rulesS,if_neg (by omega),he,getD_dropR b.rules k (by omega),rules1,if_neg (by omega),if_pos (by omega)];done)
    |(rw [rulesS,if_neg (by omega),he,getD_dropR b.rules k (by omega),rules1,if_neg (by omega),if_neg (by omega),if_pos (by omega)];done)
end Go.Proofs.Bt
namespace Go.Proofs
open Go.Lo
open Go.Conc (G)
set_option maxRecDepth 100000
set_option synthInstance.maxSize 100000
set_option synthInstance.maxHeartbeats 1000000
set_option maxHeartbeats 4000000
variable {B:Array Obj}
variable [LaidF B]
theorem ptsS_of {pts:List Pt} (k:PtsOk pts):ptsS pts=0:=by
 have h2:=k.two
 have h5:=k.five
 unfold ptsS
 rw [if_neg (by omega)];refine scanS_all fun i hi=>?_
 obtain ⟨o1,o2,o3⟩:=k.ok (pts.getD i default) (mem_getDR.2 ⟨i,hi,rfl⟩)
 unfold ptS
 rw [if_neg (by omega),if_neg,if_neg (by omega)];rintro ⟨h0,h1⟩;have:=k.up (i-1) (by omega)
 rw [show i-1+1=i by omega] at this
 omega
theorem fbS_of {b:Fb} (v:FOk b):fbS b=0:=by
 have hp:=v.plank
 have hf:=v.few
 have hf':=v.few'
 have e1:plankS b=0:=by rw [plankS,if_neg (by omega),ptsS_of v.pts]
 have e2:tapesS b=0:=by
  unfold tapesS
  rw [if_neg (by omega)];refine scanS_all fun i hi=>?_
  have h:=v.tapes (b.tapes.getD i default) (mem_getDR.2 ⟨i,hi,rfl⟩)
  generalize b.tapes.getD i default=q at h
  unfold okTp at h
  show tpS b.pts.length q=0
  unfold tpS
  have e:ordS b.pts.length q.f q.t=0:=by rw [ordS,if_neg (by omega),if_neg (by omega)]
  rw [e,if_neg (fun x=>x rfl),if_neg (by omega)]
 have e3:sticksS b=0:=by
  unfold sticksS
  rw [if_neg (by omega)];refine scanS_all fun i hi=>?_
  have h:=v.sticks (b.sticks.getD i default) (mem_getDR.2 ⟨i,hi,rfl⟩)
  generalize b.sticks.getD i default=q at h
  unfold okSk at h
  show skS b.pts q=0
  unfold skS
  rw [if_neg (by omega)]
 rw [fbS,e1,if_neg (fun x=>x rfl),e2,if_neg (fun x=>x rfl),e3]
end Go.Proofs
namespace Go.Proofs.Bt
open Go.Proofs
open Go.Lo
open Go.Conc (G)
set_option maxRecDepth 100000
set_option synthInstance.maxSize 100000
set_option synthInstance.maxHeartbeats 1000000
set_option maxHeartbeats 4000000
variable {B:Array Obj}
variable [Laid B]
def chkS (b:Bk) (k:Nat):Int:=if k=0 then (if¬(0≤b.bend∧b.bend≤99)∨ ¬(0≤b.twist∧b.twist≤99)∨ ¬(0≤b.turns∧b.turns≤5) then 1 else 0) else if k=1 then marksS b.marks else rulesS b.marks.length b.rules
theorem chk_book {b:Bk} {k:Nat} (hk:k<3) (h: ∀i,i<k→chkS b i=0) (hs:chkS b k≠0):bookS b=chkS b k:=by
 unfold bookS
 rcases (by omega:k=0∨k=1∨k=2) with rfl|rfl|rfl
 ·simp only [chkS,if_true] at hs⊢
  by_cases e: ¬(0≤b.bend∧b.bend≤99)∨ ¬(0≤b.twist∧b.twist≤99)∨ ¬(0≤b.turns∧b.turns≤5)
  ·rw [if_pos e,if_pos e]
  ·rw [if_neg e] at hs
   exact absurd rfl hs
 ·have h0:=h 0 (by omega)
  simp only [chkS,if_true] at h0
  have hs':marksS b.marks≠0:=hs
  by_cases e: ¬(0≤b.bend∧b.bend≤99)∨ ¬(0≤b.twist∧b.twist≤99)∨ ¬(0≤b.turns∧b.turns≤5)
  ·rw [if_pos e] at h0
   cases h0
  ·rw [if_neg e,if_pos hs'];rfl
 ·have h0:=h 0 (by omega)
  simp only [chkS,if_true] at h0
  have h1:marksS b.marks=0:=h 1 (by omega)
  by_cases e: ¬(0≤b.bend∧b.bend≤99)∨ ¬(0≤b.twist∧b.twist≤99)∨ ¬(0≤b.turns∧b.turns≤5)
  ·rw [if_pos e] at h0
   cases h0
  ·rw [if_neg e,if_neg (by omega)];rfl
theorem chk_clear {b:Bk} (h: ∀i,i<3→chkS b i=0):bookS b=0:=by
 unfold bookS
 have h0:=h 0 (by omega)
 simp only [chkS,if_true] at h0
 have h1:marksS b.marks=0:=h 1 (by omega)
 by_cases e: ¬(0≤b.bend∧b.bend≤99)∨ ¬(0≤b.twist∧b.twist≤99)∨ ¬(0≤b.turns∧b.turns≤5)
 ·rw [if_pos e] at h0
  cases h0
 ·rw [if_neg e,if_neg (by omega)];exact h 2 (by omega)
theorem chk_get (k:Nat) (hk:k<3):([Value.func (.func 220) #[] #[],.func (.func 221) #[] #[],.func (.func 222) #[] #[]].toArray)[(k:Int).toNat*1]?=some (.func (.func (220+k)) #[] #[]):=by
 rcases (by omega:k=0∨k=1∨k=2) with rfl|rfl|rfl<;>rfl
theorem chk_call (k:Nat) (hk:k<3):callB Tryz.prog (220+k)=true:=by
 rcases (by omega:k=0∨k=1∨k=2) with rfl|rfl|rfl<;>kernel_rfl
theorem chk_c (m:Md Tryz.prog B) (h:Hp) {b:Bk} {pm:Option Addr} {nm cm:Nat} {pr:Option Addr} {nr cr:Nat} (rdm:RdS B h 2 (.slice pm nm cm) nm (encs b.marks)) (hm:nm≤1000) (rdr:RdS B h 4 (.slice pr nr cr) nr (encs b.rules)) (hr:nr≤1000) (k:Nat) (hk:k<3):FnC m (220+k) #[bkV b pm nm cm pr nr cr] h fun v h'=>h'=h∧v= .int .i64 (chkS b k):=by
 rcases (by omega:k=0∨k=1∨k=2) with rfl|rfl|rfl
 ·exact f220_c m h
 ·exact f221_c m h rdm hm
 ·exact f222_c m h rdm hm rdr hr
theorem f60_c (m:Md Tryz.prog B) (h:Hp) {b:Bk} {pm:Option Addr} {nm cm:Nat} {pr:Option Addr} {nr cr:Nat} (rdm:RdS B h 2 (.slice pm nm cm) nm (encs b.marks)) (hm:nm≤1000) (rdr:RdS B h 4 (.slice pr nr cr) nr (encs b.rules)) (hr:nr≤1000):FnC m 60 #[bkV b pm nm cm pr nr cr] h fun v h'=>h'=h∧v= .int .i64 (bookS b):=by
 refine fn_enter Tryz.func60 rfl rfl (l:=(bkV b pm nm cm pr nr cr)::uu17) rfl ?_
 intro cf cs K hK
 refine rs2 ?_;refine k_box rfl zq (fun q1=>k_hp (k_put ?_));refine d12 ?_;refine rs2 ?_
 refine k_ldN (vs:=[.func (.func 220) #[] #[],.func (.func 221) #[] #[],.func (.func 222) #[] #[]]) rfl zq rfl laid_rdN ?_;refine mq rfl ?_;refine d61 ?_
 refine run_loop (fun nn l h'=> ∃(k:Nat),nn=3-k∧(k≤3)∧(∀i,i<k→chkS b i=0)∧(∃U:Nat→Value,l=[bkV b pm nm cm pr nr cr,.pointer (some ⟨q1,0,none⟩),U 2,U 3,U 4,U 5,.agg [.func (.func 220) #[] #[],.func (.func 221) #[] #[],.func (.func 222) #[] #[]].toArray,.int .i64 (k:Int),U 8,U 9,U 10,U 11,U 12,U 13,U 14,U 15,U 16,U 17])∧h++[⟨true,q1,.cells (bkL b pm nm cm pr nr cr).toArray 43 (0,0)⟩]=h') _ ⟨0,rfl,by omega,fun i hi=>by omega,exU rfl,rfl⟩ ?_;rintro nn l h' ⟨k,rfl,hk,he,⟨U,rfl⟩,rfl⟩ hnext;refine rs1 ?_;refine k_lssS rfl zq (fun hc=>?_) (fun hc=>?_)
 ·refine d104 ?_;refine rs2 ?_
  refine k_ixv rfl zq (by omega) (by omega) (chk_get k (by omega)) ?_;refine aq rfl ?_;refine d140 ?_;refine d133 ?_
  refine k_valP (Post:=fun v=>v=_) rfl zq (chk_call k (by omega)) (fun H' hH=>chk_c m H' (rdm.keeps (sq hH)) hm (rdr.keeps (sq hH)) hr k (by omega)) ?_;rintro v rfl;refine d138 ?_
  refine k_neqS rfl zq (fun hc=>?_) (fun hc=>?_)
  ·refine d7 ?_;refine d95 ?_
   refine run_res (h) rfl Tryz.func60 rfl weakSub ?_;refine hK _ _ ?_;first
    |exact ⟨rfl,by rw [chk_book (by omega) he (by assumption)]⟩
    |exact ⟨rfl,by rw [chk_clear (fun i hi=>he i (by omega))]⟩
  ·refine d13 ?_;refine d91 ?_
   exact m.weak weakSub (hnext _ _ _ (by omega) ⟨k+1,rfl,by omega,fun i hi=>by
    rcases Nat.lt_or_ge i k with h1|h1
    ·exact he i h1
    ·obtain rfl:i=k:=by omega
     first|exact hc|exact Classical.byContradiction hc,exU rfl,rfl⟩)
 ·refine d105 ?_;refine d37 ?_
  refine run_res (h) rfl Tryz.func60 rfl weakSub ?_;refine hK _ _ ?_;first
   |exact ⟨rfl,by rw [chk_book (by omega) he (by assumption)]⟩
   |exact ⟨rfl,by rw [chk_clear (fun i hi=>he i (by omega))]⟩
theorem f104_c (m:Md Tryz.prog B) (h:Hp) {b:Bk} {pm:Option Addr} {nm cm:Nat} {pr:Option Addr} {nr cr:Nat} (rdm:RdS B h 2 (.slice pm nm cm) nm (encs b.marks)) (hm:nm≤1000) {p:Option Addr} {n c:Nat} {xs:List Int} (rd:RdS B h 1 (.slice p n c) n (ints xs)) (hn:n≤1000):FnC m 104 #[bkV b pm nm cm pr nr cr,.slice p n c] h fun v h'=>h'=h∧v= .int .i64 (lineS b.marks.length xs):=by
 have hml:=rdm.elen (by decide)
 have hl:=rd.ilen
 refine fn_enter Tryz.func104 rfl rfl (l:=(bkV b pm nm cm pr nr cr)::(.slice p n c)::uu12) rfl ?_
 intro cf cs K hK
 refine rs2 ?_;refine k_box rfl zq (fun q2=>k_hp (k_put ?_));refine d12 ?_;refine run_block ?_;refine rs6 ?_;refine mq rfl ?_;refine k_len rfl zq ?_;refine k_ldA rfl zq ?_
 refine k_calP (Post:=fun v=>v=_) rfl zq (by kernel_rfl) (fun H' hH=>f107_c m H' _ _ _ _ _ _ _ _ _) ?_;rintro v rfl;refine k_put ?_;refine k_neqS rfl zq (fun hc=>?_) (fun hc=>?_)
 ·refine d146 ?_
  refine run_res (h) rfl Tryz.func104 rfl weakSub ?_;refine hK _ _ ?_;refine ⟨rfl,?_⟩
  first
   |(rw [lineS,if_pos (by omega)];done)
   |(rw [lineS,if_neg (by omega),if_neg (fun e=>by obtain ⟨i,h1,h2⟩:=hc;exact h2 (e _ (mem_getD.2 ⟨i,by omega,rfl⟩)))];done)
   |(rw [lineS,if_neg (by omega),if_pos (fun x hx=>by obtain ⟨i,h1,rfl⟩:=mem_getD.1 hx;exact Classical.byContradiction fun e=>hc ⟨i,by omega,e⟩)];done)
 ·refine d90 ?_;refine d44 ?_
  refine k_calP (Post:=fun v=>IsB _ v) rfl zq (by kernel_rfl) (fun H' hH=>f101_c m H' (pr:=fun i=> ¬(0≤xs.getD i 0∧xs.getD i 0≤959)) (rd.keeps (sq hH)) (by omega) (by kernel_rfl) (fun i hi K hK=>f154_c m K _)) ?_;rintro v (⟨hc,rfl⟩|⟨hc,rfl⟩)
  ·refine k_put ?_;refine d146 ?_;refine run_res (h) rfl Tryz.func104 rfl weakSub ?_;refine hK _ _ ?_;refine ⟨rfl,?_⟩
   first
    |(rw [lineS,if_pos (by omega)];done)
    |(rw [lineS,if_neg (by omega),if_neg (fun e=>by obtain ⟨i,h1,h2⟩:=hc;exact h2 (e _ (mem_getD.2 ⟨i,by omega,rfl⟩)))];done)
    |(rw [lineS,if_neg (by omega),if_pos (fun x hx=>by obtain ⟨i,h1,rfl⟩:=mem_getD.1 hx;exact Classical.byContradiction fun e=>hc ⟨i,by omega,e⟩)];done)
  ·refine d66 ?_;refine d143 ?_;refine d37 ?_
   refine run_res (h) rfl Tryz.func104 rfl weakSub ?_;refine hK _ _ ?_;refine ⟨rfl,?_⟩
   first
    |(rw [lineS,if_pos (by omega)];done)
    |(rw [lineS,if_neg (by omega),if_neg (fun e=>by obtain ⟨i,h1,h2⟩:=hc;exact h2 (e _ (mem_getD.2 ⟨i,by omega,rfl⟩)))];done)
    |(rw [lineS,if_neg (by omega),if_pos (fun x hx=>by obtain ⟨i,h1,rfl⟩:=mem_getD.1 hx;exact Classical.byContradiction fun e=>hc ⟨i,by omega,e⟩)];done)
theorem f105_c (m:Md Tryz.prog B) (h:Hp) {p:Option Addr} {n c:Nat} {xs:List Int} (rd:RdS B h 1 (.slice p n c) n (ints xs)) (hn:n≤1000):FnC m 105 #[.slice p n c] h fun v h'=>h'=h∧v=htV xs:=by
 refine fn_enter Tryz.func105 rfl rfl (l:=(.slice p n c)::uu7) rfl ?_
 intro cf cs K hK
 refine rs1 ?_;refine k_new rfl zq (fun q2=>k_hp (k_put ?_));refine k_nil ?_;refine rs1 ?_;refine k_new rfl zq (fun q3=>k_hp (k_put ?_));refine k_nil ?_;refine rs3 ?_;refine k_slAA rfl zq ?_;refine mq rfl ?_;refine k_copy (hts xs) rfl zq rd.up (ints_one _) (by decide) (by rw [hts_copy xs rd.ilen,hts_nil]) (k_put ?_);refine k_nil ?_;refine d114 ?_;refine k_stA rfl zq (by first|rfl|exact hts_length _) ?_;refine k_nil ?_;refine run_ret rfl ?_;refine run_res (h) rfl Tryz.func105 rfl weakSub ?_;refine hK _ _ ?_;exact ⟨rfl,rfl⟩
def Handed (s:Int) (bv:Value) (xs:List Int) (v:Value):Prop:= ∃x y z p1 n1 c1 p2 n2 c2 yl,v= .tuple [bookV x y z (.slice p1 n1 c1) (.slice p2 n2 c2),htV yl,.int .i64 s].toArray∧(s=0→bookV x y z (.slice p1 n1 c1) (.slice p2 n2 c2)=bv∧yl=xs)
theorem handed_no {s:Int} {bv:Value} {xs:List Int} (h:s≠0):Handed s bv xs (.tuple [bookV 0 0 0 (.slice none 0 0) (.slice none 0 0),.agg [.int .i64 0,.int .i64 0,.int .i64 0,.int .i64 0,.int .i64 0,.int .i64 0,.int .i64 0].toArray,.int .i64 s].toArray):=
 ⟨0,0,0,none,0,0,none,0,0,[],by rw [htV,hts_nil],fun e=>absurd e h⟩
theorem f47_c (m:Md Tryz.prog B) (h:Hp) {b:Bk} {pm:Option Addr} {nm cm:Nat} {pr:Option Addr} {nr cr:Nat} (rdm:RdS B h 2 (.slice pm nm cm) nm (encs b.marks)) (hm:nm≤1000) (rdr:RdS B h 4 (.slice pr nr cr) nr (encs b.rules)) (hr:nr≤1000) {p:Option Addr} {n c:Nat} {xs:List Int} (rd:RdS B h 1 (.slice p n c) n (ints xs)) (hn:n≤1000):FnC m 47 #[bkV b pm nm cm pr nr cr,.slice p n c] h fun v h'=>h'=h∧Handed (handedS b xs) (bkV b pm nm cm pr nr cr) xs v:=by
 refine fn_enter Tryz.func47 rfl rfl (l:=[bkV b pm nm cm pr nr cr,.slice p n c,undef,undef,undef,undef,undef,undef,undef,undef,undef,undef,undef,undef,undef,undef,undef,undef,undef,undef,undef,undef,undef,undef,undef,undef,undef,undef,undef,undef]) rfl ?_
 intro cf cs K hK
 refine rs4 ?_;refine k_box rfl zq (fun q2=>k_hp (k_put ?_));refine k_new rfl zq (fun q4=>k_hp (k_put ?_));refine k_new rfl zq (fun q5=>k_hp (k_put ?_));refine d12 ?_;refine d96 ?_
 refine k_calP (Post:=fun v=>v=_) rfl zq (by kernel_rfl) (fun H' hH=>f60_c m H' (rdm.keeps (sq hH)) hm (rdr.keeps (sq hH)) hr) ?_;rintro v rfl;refine d138 ?_
 refine k_neqS rfl zq (fun hc=>?_) (fun hc=>?_)
 ·refine d7 ?_;refine rs6 ?_;refine k_bld rfl zq ?_;refine k_bldZ rfl zq ?_;refine mq rfl ?_;refine k_stA rfl zq rfl ?_
  refine k_stA rfl zq (by first|rfl|exact hts_length _) ?_;refine d0 ?_
  refine run_res (h) rfl Tryz.func47 rfl weakSub ?_;refine hK _ _ ?_;have e:handedS b xs=bookS b:=by rw [handedS,if_pos (by assumption)]
  exact ⟨rfl,by rw [e];exact handed_no (by assumption)⟩
 ·refine d13 ?_;refine rs4 ?_;refine d133 ?_
  refine k_new rfl zq (fun q8=>k_hp (k_put ?_));refine d131 ?_;refine rs4 ?_;refine d71 ?_
  refine k_calP (Post:=fun v=>v=_) rfl zq (by kernel_rfl) (fun H' hH=>f104_c m H' (rdm.keeps (sq hH)) hm (rd.keeps (sq hH)) hn) ?_;rintro v rfl;refine d138 ?_
  refine k_neqS rfl zq (fun hc=>?_) (fun hc=>?_)
  ·refine d7 ?_;refine rs6 ?_;refine k_bld rfl zq ?_;refine k_bldZ rfl zq ?_;refine mq rfl ?_;refine k_stA rfl zq rfl ?_
   refine k_stA rfl zq (by first|rfl|exact hts_length _) ?_;refine d0 ?_
   refine run_res (h) rfl Tryz.func47 rfl weakSub ?_;refine hK _ _ ?_;have e:handedS b xs=lineS b.marks.length xs:=by rw [handedS,if_neg (by omega)]
   exact ⟨rfl,by rw [e];exact handed_no (by assumption)⟩
  ·refine d38 ?_
   refine run_draw [(1,.pure),(0,.read),(2,.keep),(3,.free),(4,.free),(5,.pure)] (by kernel_rfl) (by kernel_rfl) (List.Sublist.refl _) ?_;refine mq rfl ?_;refine k_ldA rfl zq ?_
   refine k_calP (Post:=fun v=>v=_) rfl zq (by kernel_rfl) (fun H' hH=>f105_c m H' (rd.keeps (sq hH)) hn) ?_;rintro v rfl;refine k_put ?_;refine k_stA rfl zq rfl ?_;refine k_stA rfl zq (by first|rfl|exact hts_length _) ?_;refine d0 ?_
   refine run_res (h) rfl Tryz.func47 rfl weakSub ?_;refine hK _ _ ?_;have e:handedS b xs=0:=by rw [handedS,if_neg (by omega)];omega
   exact ⟨rfl,_,_,_,_,_,_,_,_,_,xs,by rw [e],fun _=>⟨rfl,rfl⟩⟩
theorem f48_c (m:Md Tryz.prog B) (h:Hp) {b:Bk} {pm:Option Addr} {nm cm:Nat} {pr:Option Addr} {nr cr:Nat} {l:List Int} (hl:l.length=nm) (h7:nm≤7) (hs:Small 959 l):FnC m 48 #[bkV b pm nm cm pr nr cr,htV l] h fun v h'=> ∃nw,h'=h++nw∧OwnS 3 1 v (nm-2) (ints (bends l)) nw:=by
 refine fn_enter Tryz.func48 rfl rfl (l:=(bkV b pm nm cm pr nr cr)::(htV l)::uu8) rfl ?_
 intro cf cs K hK
 refine rs3 ?_;refine k_box rfl zq (fun q2=>k_hp (k_put ?_));refine k_box rfl zq (fun q3=>k_hp (k_put ?_));refine aq rfl ?_;refine rs6 ?_;refine k_ldA rfl zq ?_
 refine k_calP (Post:=fun v=>v=_) rfl zq (by kernel_rfl) (fun H' hH=>f107_c m H' _ _ _ _ _ _ _ _ _) ?_;rintro v rfl;refine k_put ?_;refine k_slA (c:=nm) rfl zq rfl (by omega) ?_;refine k_calC rfl zq (by kernel_rfl) (Post:=fun v nw=>OwnS 3 1 v (nm-1) (ints (diffs l)) nw) (fun H' hH=>f106_c m H' _ l nm hl.symm (by omega) (hs.le (by omega)) ((rdS_hts (q:=q3) hl (by omega) 7).keeps hH)) ?_;rintro v1 w1 o1;refine k_hpA (k_put ?_);have hsd:=hs.diffs
 refine k_calC rfl zq (by kernel_rfl) (Post:=fun v nw=>OwnS 3 1 v (nm-2) (ints (bends l)) nw) (fun H' hH=>f106_c m H' v1 (diffs l) (nm-1) (by rw [diffs_length];omega) (by omega) (hsd.le (by omega)) (o1.rd'.keeps hH)) ?_;rintro v2 w2 o2;refine k_hpA (k_put ?_);refine d0 ?_
 refine run_res (h++w2) rfl Tryz.func48 rfl weakSub ?_;refine hK _ _ ?_;exact ⟨w2,rfl,o2⟩
theorem f111_c (m:Md Tryz.prog B) (h:Hp) {b:Bk} {pm:Option Addr} {nm cm:Nat} {pr:Option Addr} {nr cr:Nat} {l:List Int} (hl:l.length=nm) (h7:nm≤7) (hs:Small 959 l):FnC m 111 #[bkV b pm nm cm pr nr cr,htV l] h fun v h'=> ∃nw,h'=h++nw∧OwnS 3 1 v (nm-3) (ints (diffs (bends l))) nw:=by
 refine fn_enter Tryz.func111 rfl rfl (l:=(bkV b pm nm cm pr nr cr)::(htV l)::uu7) rfl ?_
 intro cf cs K hK
 refine rs3 ?_;refine k_box rfl zq (fun q2=>k_hp (k_put ?_));refine k_box rfl zq (fun q3=>k_hp (k_put ?_));refine aq rfl ?_;refine rs5 ?_;refine k_ldA rfl zq ?_;refine k_ldA rfl zq ?_
 refine k_calC rfl zq (by kernel_rfl) (fun H' hH=>f48_c m H' hl h7 hs) ?_;rintro v1 w1 o1;refine k_hpA (k_put ?_);have hsb:=hs.bends
 refine k_calC rfl zq (by kernel_rfl) (Post:=fun v nw=>OwnS 3 1 v (nm-3) (ints (diffs (bends l))) nw) (fun H' hH=>f106_c m H' v1 (bends l) (nm-2) (by rw [bends_length];omega) (by omega) (hsb.le (by omega)) (o1.rd'.keeps hH)) ?_;rintro v2 w2 o2;refine k_hpA (k_put ?_);refine d0 ?_
 refine run_res (h++w2) rfl Tryz.func111 rfl weakSub ?_;refine hK _ _ ?_;exact ⟨w2,rfl,o2⟩
end Go.Proofs.Bt
namespace Go.Proofs.Bt
open Go.Proofs
open Go.Lo
open Go.Conc (G)
set_option maxRecDepth 100000
set_option synthInstance.maxSize 100000
set_option synthInstance.maxHeartbeats 1000000
set_option maxHeartbeats 4000000
variable {B:Array Obj}
variable [Laid B]
theorem f112_c (m:Md Tryz.prog B) (h:Hp) {b:Bk} {pm:Option Addr} {nm cm:Nat} {pr:Option Addr} {nr cr:Nat} {ln:List Int} (hl:ln.length=nm) (h7:nm≤7) (hs:Small 959 ln):FnC m 112 #[bkV b pm nm cm pr nr cr,htV ln] h fun v h'=>h'=h∧v= .int .i64 (turns ln):=by
 refine fn_enter Tryz.func112 rfl rfl (l:=[bkV b pm nm cm pr nr cr,htV ln,undef,undef,undef,undef,undef,undef,undef,undef,undef,undef,undef,undef,undef,undef,undef,undef,undef,undef,undef,undef,undef,undef,undef,undef,undef,undef,undef,undef,undef,undef,undef,undef,undef,undef,undef,undef]) rfl ?_
 intro cf cs K hK
 refine rs3 ?_;refine k_box rfl zq (fun q2=>k_hp (k_put ?_));refine k_box rfl zq (fun q3=>k_hp (k_put ?_));refine aq rfl ?_;refine rs2 ?_;refine d99 ?_;refine rs5 ?_;refine k_ldA rfl zq ?_;refine k_ldA rfl zq ?_
 refine k_calC rfl zq (by kernel_rfl) (fun H' hH=>f48_c m H' hl h7 hs) ?_;rintro v1 w1 o1;obtain ⟨p1,c1,rfl,_⟩:=o1.len
 refine k_hpA (k_put ?_);have r1:RdS B w1 1 (.slice p1 (nm-2) c1) (nm-2) (ints (bends ln)):=o1.rd (List.Sublist.refl _)
 have hbl:=bends_length ln
 refine d136 ?_
 refine run_loop (fun nn l h'=> ∃(k:Nat) (s t:Int),nn=nm-k∧(k≤nm-2)∧(turnF ((bends ln).take k)=(s,t))∧(0≤s)∧(s≤k)∧(∃U:Nat→Value,l=((bkV b pm nm cm pr nr cr)::(htV ln)::(.pointer (some ⟨q2,0,none⟩))::(.pointer (some ⟨q3,0,none⟩))::(U 4)::(.int .i64 s)::(.int .i64 t)::vw4 U 7 ((.slice p1 (nm-2) c1)::(.int .i64 ((nm-2:Nat):Int))::(.int .i64 (k:Int))::vw24 U 14 [])))∧h++[⟨true,q2,.cells (bkL b pm nm cm pr nr cr).toArray 104 (0,0)⟩,⟨true,q3,.cells (hts ln).toArray 106 (0,0)⟩]++w1=h') _ ⟨0,0,0,rfl,by omega,rfl,by omega,by omega,exU rfl,by simp⟩ ?_;rintro nn l h' ⟨k,s,t,rfl,hk,hst,hs0,hs1,⟨U,rfl⟩,rfl⟩ hnext;refine rs1 ?_;refine k_lssS rfl zq (fun hc=>?_) (fun hc=>?_)
 ·refine d104 ?_;refine rs3 ?_
  obtain ⟨r1_b,r1_o,rfl⟩:=r1.ptr (by omega)
  refine k_ixs rfl zq (by first|rfl|assumption) (by omega) (by omega) ?_;refine k_ld rfl zq (r1.iat k (by omega) (by omega)) ?_;refine d88 ?_
  refine k_eqlS rfl zq (fun hc=>?_) (fun hc=>?_)
  ·refine d7 ?_;refine run_exit rfl ?_;refine d84 ?_
   have ht:=turnF_take (bends ln) k (by omega)
   rw [hst] at ht
   simp only [turnSt] at ht
   exact m.weak weakSub (hnext _ _ _ (by omega) ⟨k+1,_,_,rfl,by omega,by first|(exfalso;omega)|(rw [ht];repeat first|rw [if_pos (by omega)]|rw [if_neg (by omega)]),by omega,by omega,exU rfl,rfl⟩)
  ·refine d38 ?_;refine run_seq ?_
   refine run_region [(0,.free),(1,.free),(2,.free),(3,.free),(4,.free),(5,.free),(6,.free),(7,.free),(8,.free),(9,.free),(10,.free),(11,.free),(12,.free),(13,.free)] (by kernel_rfl) (by kernel_rfl) ?_;refine mq rfl ?_
   refine k_gtrS rfl zq (fun hc=>?_) (fun hc=>?_)
   ·refine d23 ?_
    refine k_lssS rfl rfl (fun hc=>?_) (fun hc=>?_)
    ·refine k_pickT rfl zq ?_;refine d112 ?_;refine k_pickT rfl zq ?_;refine d7 ?_;refine rr3 ?_;refine d59 ?_;refine rr2 ?_;refine mq rfl ?_;refine d45 ?_;refine d84 ?_;have ht:=turnF_take (bends ln) k (by omega)
     rw [hst] at ht
     simp only [turnSt] at ht
     exact m.weak weakSub (hnext _ _ _ (by omega) ⟨k+1,_,_,rfl,by omega,by first|(exfalso;omega)|(rw [ht];repeat first|rw [if_pos (by omega)]|rw [if_neg (by omega)]),by omega,by omega,exU rfl,rfl⟩)
    ·refine k_pickT rfl zq ?_;refine d23 ?_;refine k_lssS rfl rfl (fun hc=>?_) (fun hc=>?_)
     ·refine k_mv rfl rfl ?_;refine k_mv rfl rfl ?_;refine k_gtrS rfl rfl (fun hc=>?_) (fun hc=>?_)
      ·refine k_pickT rfl rfl ?_;refine k_pickF rfl zq ?_;refine d7 ?_;refine rr3 ?_;refine d59 ?_;refine rr2 ?_;refine mq rfl ?_;refine d45 ?_;refine d84 ?_;have ht:=turnF_take (bends ln) k (by omega)
       rw [hst] at ht
       simp only [turnSt] at ht
       exact m.weak weakSub (hnext _ _ _ (by omega) ⟨k+1,_,_,rfl,by omega,by first|(exfalso;omega)|(rw [ht];repeat first|rw [if_pos (by omega)]|rw [if_neg (by omega)]),by omega,by omega,exU rfl,rfl⟩)
      ·refine k_pickT rfl rfl ?_;refine d126 ?_;refine rr2 ?_;refine mq rfl ?_;refine d45 ?_;refine d84 ?_;have ht:=turnF_take (bends ln) k (by omega)
       rw [hst] at ht
       simp only [turnSt] at ht
       exact m.weak weakSub (hnext _ _ _ (by omega) ⟨k+1,_,_,rfl,by omega,by first|(exfalso;omega)|(rw [ht];repeat first|rw [if_pos (by omega)]|rw [if_neg (by omega)]),by omega,by omega,exU rfl,rfl⟩)
     ·refine k_mv rfl rfl ?_;refine d5 ?_;refine k_pickF rfl rfl ?_;refine d126 ?_;refine rr2 ?_;refine mq rfl ?_;refine d45 ?_;refine d84 ?_;have ht:=turnF_take (bends ln) k (by omega)
      rw [hst] at ht
      simp only [turnSt] at ht
      exact m.weak weakSub (hnext _ _ _ (by omega) ⟨k+1,_,_,rfl,by omega,by first|(exfalso;omega)|(rw [ht];repeat first|rw [if_pos (by omega)]|rw [if_neg (by omega)]),by omega,by omega,exU rfl,rfl⟩)
   ·refine d52 ?_;refine k_pickF rfl zq ?_;refine d23 ?_
    refine k_lssS rfl rfl (fun hc=>?_) (fun hc=>?_)
    ·refine k_mv rfl rfl ?_;refine k_mv rfl rfl ?_;refine k_gtrS rfl rfl (fun hc=>?_) (fun hc=>?_)
     ·refine k_pickT rfl rfl ?_;refine k_pickF rfl zq ?_;refine d7 ?_;refine rr3 ?_;refine d59 ?_;refine rr2 ?_;refine mq rfl ?_;refine d45 ?_;refine d84 ?_;have ht:=turnF_take (bends ln) k (by omega)
      rw [hst] at ht
      simp only [turnSt] at ht
      exact m.weak weakSub (hnext _ _ _ (by omega) ⟨k+1,_,_,rfl,by omega,by first|(exfalso;omega)|(rw [ht];repeat first|rw [if_pos (by omega)]|rw [if_neg (by omega)]),by omega,by omega,exU rfl,rfl⟩)
     ·refine k_pickT rfl rfl ?_;refine d126 ?_;refine rr2 ?_;refine mq rfl ?_;refine d45 ?_;refine d84 ?_;have ht:=turnF_take (bends ln) k (by omega)
      rw [hst] at ht
      simp only [turnSt] at ht
      exact m.weak weakSub (hnext _ _ _ (by omega) ⟨k+1,_,_,rfl,by omega,by first|(exfalso;omega)|(rw [ht];repeat first|rw [if_pos (by omega)]|rw [if_neg (by omega)]),by omega,by omega,exU rfl,rfl⟩)
    ·refine k_mv rfl rfl ?_;refine d5 ?_;refine k_pickF rfl rfl ?_;refine d126 ?_;refine rr2 ?_;refine mq rfl ?_;refine d45 ?_;refine d84 ?_;have ht:=turnF_take (bends ln) k (by omega)
     rw [hst] at ht
     simp only [turnSt] at ht
     exact m.weak weakSub (hnext _ _ _ (by omega) ⟨k+1,_,_,rfl,by omega,by first|(exfalso;omega)|(rw [ht];repeat first|rw [if_pos (by omega)]|rw [if_neg (by omega)]),by omega,by omega,exU rfl,rfl⟩)
 ·refine d105 ?_;refine d95 ?_
  refine run_res (h) rfl Tryz.func112 rfl weakSub ?_;refine hK _ _ ?_;obtain rfl:k=nm-2:=by omega
  rw [List.take_of_length_le (by omega)] at hst
  exact ⟨rfl,by rw [turns,hst]⟩
theorem f108_c (m:Md Tryz.prog B) (h:Hp) (x:Int):FnC m 108 #[.int .i64 x] h fun v h'=> ∃nw,h'=h++nw∧ ∃q,nw=[⟨true,q,.cells [.int .i64 x].toArray 3 (0,0)⟩]∧v= .func (.func 109) #[] [.pointer (some ⟨q,0,none⟩)].toArray:=by
 refine fn_enter Tryz.func108 rfl rfl (l:=[.int .i64 x,undef,undef,undef]) rfl ?_
 intro cf cs K hK
 refine rs2 ?_;refine k_box rfl zq (fun q1=>k_hp (k_put ?_));refine aq rfl ?_;refine rs2 ?_;refine k_fun rfl zq ?_;refine d0 ?_
 refine run_res (h++[⟨true,q1,.cells [.int .i64 x].toArray 3 (0,0)⟩]) rfl Tryz.func108 rfl weakSub ?_;refine hK _ _ ?_;exact ⟨_,rfl,q1,rfl,rfl⟩
theorem f109_c (m:Md Tryz.prog B) (h:Hp) (x y:Int) {q:Nat} (rd:Rd B h ⟨q,0,none⟩ (.int .i64 y)) (hy: -100000≤y∧y≤100000):FnC m 109 #[.int .i64 x,.pointer (some ⟨q,0,none⟩)] h fun v h'=>h'=h∧IsB (¬(-y≤x∧x≤y)) v:=by
 refine fn_enter Tryz.func109 rfl rfl (l:=(.int .i64 x)::(.pointer (some ⟨q,0,none⟩))::uu8) rfl ?_
 intro cf cs K hK
 refine d83 ?_;refine rs7 ?_;refine mq rfl ?_
 refine k_ld rfl zq rd ?_;refine k_neg rfl zq (by unfold In64;omega) ?_;refine k_ld rfl zq rd ?_;refine k_calP (Post:=fun v=>IsB _ v) rfl zq (by kernel_rfl) (fun H' hH=>f110_c m H' _ _ _) ?_;rintro v (⟨hc,rfl⟩|⟨hc,rfl⟩)
 ·refine d40 ?_;refine d0 ?_
  refine run_res (h) rfl Tryz.func109 rfl weakSub ?_;refine hK _ _ ?_;first|exact ⟨rfl,IsB.yes (by omega)⟩|exact ⟨rfl,IsB.no (by omega)⟩
 ·refine d41 ?_;refine d0 ?_
  refine run_res (h) rfl Tryz.func109 rfl weakSub ?_;refine hK _ _ ?_;first|exact ⟨rfl,IsB.yes (by omega)⟩|exact ⟨rfl,IsB.no (by omega)⟩
theorem callB109:callB Tryz.prog 109=true:=by kernel_rfl
theorem rd_has {B:Array Obj} {h:Hp} {q t:Nat} {rw:Bool} {f:Nat×Nat} {v:Value} [x:Has h q rw (.cells [v].toArray t f)]:Rd B h ⟨q,0,none⟩ v:=Rd.held x.mem rfl
theorem f49_c (m:Md Tryz.prog B) (h:Hp) {b:Bk} {pm:Option Addr} {nm cm:Nat} {pr:Option Addr} {nr cr:Nat} {ln:List Int} (hl:ln.length=nm) (h7:nm≤7) (hs:Small 959 ln) (hv:Valid b):FnC m 49 #[bkV b pm nm cm pr nr cr,htV ln] h fun v h'=>h'=h∧IsB (fair b.bend b.twist b.turns ln) v:=by
 have hbl:=bends_length ln
 have hdl:=diffs_length (bends ln)
 have hv1:=hv.bend
 have hv2:=hv.twist
 refine fn_enter Tryz.func49 rfl rfl (l:=(bkV b pm nm cm pr nr cr)::(htV ln)::uu35) rfl ?_
 intro cf cs K hK
 refine rs3 ?_;refine k_box rfl zq (fun q2=>k_hp (k_put ?_));refine k_box rfl zq (fun q3=>k_hp (k_put ?_));refine aq rfl ?_;refine d69 ?_
 refine run_draw [(3,.pure),(4,.pure),(5,.pure),(0,.read),(1,.read),(6,.read),(2,.keep),(7,.keep),(8,.keep),(9,.pure),(10,.pure),(14,.pure),(15,.pure),(16,.pure),(11,.read),(12,.read),(17,.read),(13,.keep),(18,.keep),(19,.keep),(20,.pure),(21,.pure),(22,.pure),(26,.pure),(27,.pure),(23,.read),(24,.read),(28,.read),(25,.keep),(29,.pure),(30,.pure),(31,.pure)] (by kernel_rfl) (by kernel_rfl) (List.Sublist.refl _) ?_;refine mq rfl ?_;refine d8 ?_;refine k_ldA rfl zq ?_;refine d64 ?_
 refine k_calC rfl zq (by kernel_rfl) (fun H' hH=>f48_c m H' hl h7 hs) ?_;rintro v1 w1 o1;obtain ⟨p1,c1,rfl,_⟩:=o1.len
 refine k_hpA (k_put ?_);refine k_callC (Post:=fun v nw=> ∃q,nw=[⟨true,q,.cells [.int .i64 b.bend].toArray 3 (0,0)⟩]∧v= .func (.func 109) #[] [.pointer (some ⟨q,0,none⟩)].toArray) rfl zq (by kernel_rfl) (fun H' hH=>f108_c m H' _) ?_;rintro _ _ ⟨qa,rfl,rfl⟩;refine k_hpA (k_put ?_);refine k_calP (Post:=fun v=>IsB _ v) rfl zq (by kernel_rfl) (fun H' hH=>f101_c m H' (pr:=fun i=> ¬(-b.bend≤(bends ln).getD i 0∧(bends ln).getD i 0≤b.bend)) (o1.rd'.keeps hH) (by omega) callB109 (fun i hi K hK=>by simpa using f109_c m K ((bends ln).getD i 0) b.bend ((rd_has (q:=qa)).keeps (hH.trans hK)) (by omega))) ?_;rintro v (⟨hc,rfl⟩|⟨hc,rfl⟩)
 ·refine k_put ?_;have hA:=hc
  refine k_notT rfl zq ?_;refine d115 ?_;refine d5 ?_;refine k_pickF rfl zq ?_;refine d112 ?_;refine d63 ?_;refine d0 ?_;refine run_res (h) rfl Tryz.func49 rfl weakSub ?_;refine hK _ _ ?_;first
   |exact ⟨rfl,IsB.no fun e=>by
     obtain ⟨i,h1,h2⟩:=hA
     exact h2 (e.1 _ (mem_getD.2 ⟨i,by omega,rfl⟩))⟩
   |exact ⟨rfl,IsB.no fun e=>by
     obtain ⟨i,h1,h2⟩:=hC
     exact h2 (e.2.1 _ (mem_getD.2 ⟨i,by omega,rfl⟩))⟩
   |exact ⟨rfl,IsB.no fun e=>by have:=e.2.2;omega⟩
   |exact ⟨rfl,IsB.yes ⟨fun x hx=>by
     obtain ⟨i,h1,rfl⟩:=mem_getD.1 hx
     exact Classical.byContradiction fun e=>hA ⟨i,by omega,e⟩,fun x hx=>by
     obtain ⟨i,h1,rfl⟩:=mem_getD.1 hx
     exact Classical.byContradiction fun e=>hC ⟨i,by omega,e⟩,by omega⟩⟩
 ·refine k_put ?_;have hA:=hc
  refine k_notF rfl zq ?_;refine d23 ?_;(first|refine k_fa0 rfl rfl ?_|refine k_fa rfl rfl ?_);(first|refine k_fa0 rfl rfl ?_|refine k_fa rfl rfl ?_);refine k_ldA rfl rfl ?_;refine k_ldA rfl rfl ?_;refine k_ldh rfl rfl ?_;refine k_calC rfl rfl (by kernel_rfl) (fun H' hH=>f111_c m H' hl h7 hs) ?_;rintro v2 w2 o2;obtain ⟨p2,c2,rfl,_⟩:=o2.len
  refine k_hpA (k_put ?_);refine k_callC (Post:=fun v nw=> ∃q,nw=[⟨true,q,.cells [.int .i64 b.twist].toArray 3 (0,0)⟩]∧v= .func (.func 109) #[] [.pointer (some ⟨q,0,none⟩)].toArray) rfl rfl (by kernel_rfl) (fun H' hH=>f108_c m H' _) ?_;rintro _ _ ⟨qb,rfl,rfl⟩;refine k_hpA (k_put ?_);refine k_calP (Post:=fun v=>IsB _ v) rfl rfl (by kernel_rfl) (fun H' hH=>f101_c m H' (pr:=fun i=> ¬(-b.twist≤(diffs (bends ln)).getD i 0∧(diffs (bends ln)).getD i 0≤b.twist)) (o2.rd'.keeps hH) (by omega) callB109 (fun i hi K hK=>by simpa using f109_c m K ((diffs (bends ln)).getD i 0) b.twist ((rd_has (q:=qb)).keeps (hH.trans hK)) (by omega))) ?_;rintro v (⟨hc,rfl⟩|⟨hc,rfl⟩)
  ·refine k_put ?_;have hC:=hc
   refine k_notT rfl rfl ?_;refine k_pickT rfl zq ?_;refine d112 ?_;refine d63 ?_;refine d0 ?_;refine run_res (h) rfl Tryz.func49 rfl weakSub ?_;refine hK _ _ ?_;first
    |exact ⟨rfl,IsB.no fun e=>by
      obtain ⟨i,h1,h2⟩:=hA
      exact h2 (e.1 _ (mem_getD.2 ⟨i,by omega,rfl⟩))⟩
    |exact ⟨rfl,IsB.no fun e=>by
      obtain ⟨i,h1,h2⟩:=hC
      exact h2 (e.2.1 _ (mem_getD.2 ⟨i,by omega,rfl⟩))⟩
    |exact ⟨rfl,IsB.no fun e=>by have:=e.2.2;omega⟩
    |exact ⟨rfl,IsB.yes ⟨fun x hx=>by
      obtain ⟨i,h1,rfl⟩:=mem_getD.1 hx
      exact Classical.byContradiction fun e=>hA ⟨i,by omega,e⟩,fun x hx=>by
      obtain ⟨i,h1,rfl⟩:=mem_getD.1 hx
      exact Classical.byContradiction fun e=>hC ⟨i,by omega,e⟩,by omega⟩⟩
  ·refine k_put ?_;have hC:=hc
   refine k_notF rfl rfl ?_;refine k_pickT rfl zq ?_;refine d119 ?_;(first|refine k_fa0 rfl rfl ?_|refine k_fa rfl rfl ?_);refine k_ldA rfl rfl ?_;refine k_ldA rfl rfl ?_;refine k_ldh rfl rfl ?_;refine k_calP (Post:=fun v=>v=_) rfl rfl (by kernel_rfl) (fun H' hH=>f112_c m H' hl h7 hs) ?_;rintro v rfl;refine k_put ?_;refine k_leqS rfl rfl (fun hc=>?_) (fun hc=>?_)
   ·refine d82 ?_
    refine run_res (h) rfl Tryz.func49 rfl weakSub ?_;refine hK _ _ ?_;first
     |exact ⟨rfl,IsB.no fun e=>by
       obtain ⟨i,h1,h2⟩:=hA
       exact h2 (e.1 _ (mem_getD.2 ⟨i,by omega,rfl⟩))⟩
     |exact ⟨rfl,IsB.no fun e=>by
       obtain ⟨i,h1,h2⟩:=hC
       exact h2 (e.2.1 _ (mem_getD.2 ⟨i,by omega,rfl⟩))⟩
     |exact ⟨rfl,IsB.no fun e=>by have:=e.2.2;omega⟩
     |exact ⟨rfl,IsB.yes ⟨fun x hx=>by
       obtain ⟨i,h1,rfl⟩:=mem_getD.1 hx
       exact Classical.byContradiction fun e=>hA ⟨i,by omega,e⟩,fun x hx=>by
       obtain ⟨i,h1,rfl⟩:=mem_getD.1 hx
       exact Classical.byContradiction fun e=>hC ⟨i,by omega,e⟩,by omega⟩⟩
   ·refine d82 ?_
    refine run_res (h) rfl Tryz.func49 rfl weakSub ?_;refine hK _ _ ?_;first
     |exact ⟨rfl,IsB.no fun e=>by
       obtain ⟨i,h1,h2⟩:=hA
       exact h2 (e.1 _ (mem_getD.2 ⟨i,by omega,rfl⟩))⟩
     |exact ⟨rfl,IsB.no fun e=>by
       obtain ⟨i,h1,h2⟩:=hC
       exact h2 (e.2.1 _ (mem_getD.2 ⟨i,by omega,rfl⟩))⟩
     |exact ⟨rfl,IsB.no fun e=>by have:=e.2.2;omega⟩
     |exact ⟨rfl,IsB.yes ⟨fun x hx=>by
       obtain ⟨i,h1,rfl⟩:=mem_getD.1 hx
       exact Classical.byContradiction fun e=>hA ⟨i,by omega,e⟩,fun x hx=>by
       obtain ⟨i,h1,rfl⟩:=mem_getD.1 hx
       exact Classical.byContradiction fun e=>hC ⟨i,by omega,e⟩,by omega⟩⟩
end Go.Proofs.Bt
namespace Go.Proofs.Bt
open Go.Proofs
open Go.Lo
open Go.Conc (G)
set_option maxRecDepth 100000
set_option synthInstance.maxSize 100000
set_option synthInstance.maxHeartbeats 1000000
set_option maxHeartbeats 4000000
variable {B:Array Obj}
variable [Laid B]
theorem hand_zero {b:Bk} {xs:List Int} (h:handedS b xs=0):Valid b∧lineS b.marks.length xs=0:=by
 unfold handedS at h
 split at h
 ·omega
 ·exact ⟨valid_of (by omega),h⟩
theorem f10_c (m:Md Tryz.prog B) (h:Hp) {b:Bk} {pm:Option Addr} {nm cm:Nat} {pr:Option Addr} {nr cr:Nat} (rdm:RdS B h 2 (.slice pm nm cm) nm (encs b.marks)) (hm:nm≤1000) (rdr:RdS B h 4 (.slice pr nr cr) nr (encs b.rules)) (hr:nr≤1000) {p:Option Addr} {n c:Nat} {xs:List Int} (rd:RdS B h 1 (.slice p n c) n (ints xs)) (hn:n≤1000):FnC m 10 #[bkV b pm nm cm pr nr cr,.slice p n c] h fun v h'=> ∃new,h'=h++new∧ ∃w,v= .tuple [w,.int .i64 (handedS b xs)].toArray∧RdI B new w (if handedS b xs≠0 then [] else bends xs):=by
 refine fn_enter Tryz.func10 rfl rfl (l:=(bkV b pm nm cm pr nr cr)::(.slice p n c)::uu20) rfl ?_
 intro cf cs K hK
 refine rs3 ?_;refine k_box rfl zq (fun q2=>k_hp (k_put ?_));refine d47 ?_;refine rs12 ?_;refine d71 ?_
 refine k_calP (Post:=Handed (handedS b xs) (bkV b pm nm cm pr nr cr) xs) rfl zq (by kernel_rfl) (fun H' hH=>f47_c m H' (rdm.keeps (sq hH)) hm (rdr.keeps (sq hH)) hr (rd.keeps (sq hH)) hn) ?_;rintro v ⟨x1,x2,x3,y1,y2,y3,y4,y5,y6,yl,rfl,hz⟩;refine d78 ?_;refine k_ext2 rfl zq ?_
 refine k_new rfl zq (fun q6=>k_hp (k_put ?_));refine k_new rfl zq (fun q7=>k_hp (k_put ?_));refine k_stA rfl zq rfl ?_;refine k_stA rfl zq (by first|rfl|exact hts_length _) ?_;refine d88 ?_
 refine k_neqS rfl zq (fun hc=>?_) (fun hc=>?_)
 ·refine d134 ?_
  refine run_res (h) rfl Tryz.func10 rfl weakSub ?_;refine hK _ _ ?_;exact ⟨[],by simp,_,rfl,by rw [if_pos (by assumption)];exact RdI.nil⟩
 ·refine d13 ?_;refine rs5 ?_
  have hz0:handedS b xs=0:=by omega
  obtain ⟨hz1,rfl⟩:=hz hz0
  injection hz1 with hz1
  injection hz1 with hz1
  injection hz1 with z1 hz1
  injection hz1 with z2 hz1
  injection hz1 with z3 hz1
  injection hz1 with z4 hz1
  injection hz1 with z5 hz1
  injection z1 with _ z1
  injection z2 with _ z2
  injection z3 with _ z3
  injection z4 with u1 u2 u3
  injection z5 with u4 u5 u6
  subst z1 z2 z3 u1 u2 u3 u4 u5 u6
  obtain ⟨hv,hlo⟩:=hand_zero hz0
  have hln:=(lineS_zero hlo).1
  have hml:=rdm.elen (by decide)
  have h7:=hv.many
  have hsm:=lineS_small hlo
  refine k_ldA rfl zq ?_;refine k_ldA rfl zq ?_;refine k_calC rfl zq (by kernel_rfl) (fun H' hH=>f48_c m H' (by omega) (by omega) hsm) ?_;rintro v nw o;refine k_hpA (k_put ?_);refine d27 ?_
  refine run_res (h++nw) rfl Tryz.func10 rfl weakSub ?_;refine hK _ _ ?_;exact ⟨nw,rfl,_,by rw [hz0],by rw [if_neg (fun e=>e hz0)];exact RdI.owned o⟩
theorem f11_c (m:Md Tryz.prog B) (h:Hp) {b:Bk} {pm:Option Addr} {nm cm:Nat} {pr:Option Addr} {nr cr:Nat} (rdm:RdS B h 2 (.slice pm nm cm) nm (encs b.marks)) (hm:nm≤1000) (rdr:RdS B h 4 (.slice pr nr cr) nr (encs b.rules)) (hr:nr≤1000) {p:Option Addr} {n c:Nat} {xs:List Int} (rd:RdS B h 1 (.slice p n c) n (ints xs)) (hn:n≤1000):FnC m 11 #[bkV b pm nm cm pr nr cr,.slice p n c] h fun v h'=>h'=h∧ ∃w,v= .tuple [w,.int .i64 (handedS b xs)].toArray∧IsB (handedS b xs=0∧fair b.bend b.twist b.turns xs) w:=by
 refine fn_enter Tryz.func11 rfl rfl (l:=(bkV b pm nm cm pr nr cr)::(.slice p n c)::uu22) rfl ?_
 intro cf cs K hK
 refine rs3 ?_;refine k_box rfl zq (fun q2=>k_hp (k_put ?_));refine d47 ?_;refine rs12 ?_;refine d71 ?_
 refine k_calP (Post:=Handed (handedS b xs) (bkV b pm nm cm pr nr cr) xs) rfl zq (by kernel_rfl) (fun H' hH=>f47_c m H' (rdm.keeps (sq hH)) hm (rdr.keeps (sq hH)) hr (rd.keeps (sq hH)) hn) ?_;rintro v ⟨x1,x2,x3,y1,y2,y3,y4,y5,y6,yl,rfl,hz⟩;refine d78 ?_;refine k_ext2 rfl zq ?_
 refine k_new rfl zq (fun q6=>k_hp (k_put ?_));refine k_new rfl zq (fun q7=>k_hp (k_put ?_));refine k_stA rfl zq rfl ?_;refine k_stA rfl zq (by first|rfl|exact hts_length _) ?_;refine aq rfl ?_;refine rs10 ?_;refine mq rfl ?_
 refine k_eqlS rfl zq (fun hc=>?_) (fun hc=>?_)
 ·have hz0:handedS b xs=0:=by omega
  obtain ⟨hz1,rfl⟩:=hz hz0
  injection hz1 with hz1
  injection hz1 with hz1
  injection hz1 with z1 hz1
  injection hz1 with z2 hz1
  injection hz1 with z3 hz1
  injection hz1 with z4 hz1
  injection hz1 with z5 hz1
  injection z1 with _ z1
  injection z2 with _ z2
  injection z3 with _ z3
  injection z4 with u1 u2 u3
  injection z5 with u4 u5 u6
  subst z1 z2 z3 u1 u2 u3 u4 u5 u6
  obtain ⟨hv,hlo⟩:=hand_zero hz0
  have hln:=(lineS_zero hlo).1
  have hml:=rdm.elen (by decide)
  have h7:=hv.many
  have hsm:=lineS_small hlo
  refine d130 ?_;refine k_ldA rfl rfl ?_
  refine k_calP (Post:=fun v=>IsB _ v) rfl rfl (by kernel_rfl) (fun H' hH=>f49_c m H' (by omega) (by omega) hsm hv) ?_;rintro v (⟨hc,rfl⟩|⟨hc,rfl⟩)
  ·refine d129 ?_;refine mq rfl ?_;refine d27 ?_
   refine run_res (h) rfl Tryz.func11 rfl weakSub ?_;refine hK _ _ ?_;first
    |exact ⟨rfl,_,rfl,IsB.no (fun e=>absurd e.1 (by omega))⟩
    |exact ⟨rfl,_,rfl,IsB.yes ⟨hz0,by assumption⟩⟩
    |exact ⟨rfl,_,rfl,IsB.no (fun e=>absurd e.2 (by assumption))⟩
  ·refine d129 ?_;refine mq rfl ?_;refine d27 ?_
   refine run_res (h) rfl Tryz.func11 rfl weakSub ?_;refine hK _ _ ?_;first
    |exact ⟨rfl,_,rfl,IsB.no (fun e=>absurd e.1 (by omega))⟩
    |exact ⟨rfl,_,rfl,IsB.yes ⟨hz0,by assumption⟩⟩
    |exact ⟨rfl,_,rfl,IsB.no (fun e=>absurd e.2 (by assumption))⟩
 ·refine d52 ?_;refine d63 ?_;refine mq rfl ?_;refine d27 ?_
  refine run_res (h) rfl Tryz.func11 rfl weakSub ?_;refine hK _ _ ?_;first
   |exact ⟨rfl,_,rfl,IsB.no (fun e=>absurd e.1 (by omega))⟩
   |exact ⟨rfl,_,rfl,IsB.yes ⟨hz0,by assumption⟩⟩
   |exact ⟨rfl,_,rfl,IsB.no (fun e=>absurd e.2 (by assumption))⟩
end Go.Proofs.Bt
namespace Go.Proofs
open Go.Lo
open Go.Conc (G)
set_option maxRecDepth 100000
set_option synthInstance.maxSize 100000
set_option synthInstance.maxHeartbeats 1000000
set_option maxHeartbeats 4000000
variable {b:Fb} {pp:Option Addr} {np cp:Nat} {pt:Option Addr} {nt ct:Nat} {pk:Option Addr} {nk ck:Nat}
variable {B:Array Obj}
variable [LaidF B] [Bt.Laid B]
theorem bent_bends (x y z:Int):Bt.bends [x,y,z]=[x-2*y+z]:=by
 simp only [Bt.bends,Bt.diffs]
 congr 1
 omega
theorem bent_fair (x y z:Int):Bt.fair 0 0 0 [x,y,z]↔x-2*y+z=0:=by
 unfold Bt.fair Bt.turns
 rw [bent_bends];simp only [Bt.withinL,List.mem_cons,List.not_mem_nil,or_false,forall_eq,Bt.diffs,Bt.turnF,List.foldl_cons,List.foldl_nil,Bt.turnSt]
 constructor
 ·rintro ⟨h,_⟩;omega
 ·intro h
  refine ⟨by omega,by simp,?_⟩
  split<;>omega
def bentK (x y z:Int):Bk:=⟨0,0,0,[⟨x,x⟩,⟨y,y⟩,⟨z,z⟩],[]⟩
theorem bent_handed {x y z:Int} (hx:0≤x∧x≤959) (hy:0≤y∧y≤959) (hz:0≤z∧z≤959):Bt.handedS (bentK x y z) [x,y,z]=0:=by
 have hb:Bt.bookS (bentK x y z)=0:=by
  simp [Bt.bookS,bentK,Bt.marksS,Bt.rulesS,Bt.rules1,Bt.okM]
  omega
 rw [Bt.handedS,if_neg (fun e=>e hb),Bt.lineS,if_neg (by simp [bentK]),if_pos];intro w hw
 simp only [List.mem_cons,List.not_mem_nil,or_false] at hw
 omega
def bentF (a c:Pt):Fb:=⟨0,[a,c],[],[]⟩
theorem bent_ok {b:Fb} (hv:FOk b) (h3:3≤b.pts.length):PtsOk (bentF (b.pts.getD 0 default) (b.pts.getD 2 default)).pts where
 two:=Nat.le_refl _
 five:=by simp [bentF]
 ok:=fun x hx=>by
  simp only [bentF,List.mem_cons,List.not_mem_nil,or_false] at hx
  rcases hx with rfl|rfl
  ·exact hv.pts.ok _ (mem_getDR.2 ⟨0,by omega,rfl⟩)
  ·exact hv.pts.ok _ (mem_getDR.2 ⟨2,by omega,rfl⟩)
 up:=fun i hi=>by
  simp only [bentF,List.length_cons,List.length_nil] at hi
  obtain rfl:i=0:=by omega
  have:=hv.pts.lt 1 0 (by omega)
  simpa [bentF] using this
theorem bent_snag {b:Fb} (hv:FOk b) (h3:3≤b.pts.length):fbS (bentF (b.pts.getD 0 default) (b.pts.getD 2 default))=0:=fbS_of ⟨by simp [bentF],bent_ok hv h3,by simp [bentF],by simp [bentF],by simp [bentF],by simp [bentF]⟩
theorem bent_at {b:Fb} {ln:List Int} (hv:FOk b) (h3:3≤b.pts.length) (he:(b.pts.getD 0 default).h+(b.pts.getD 2 default).h=2*(b.pts.getD 1 default).h):
  atI [b.pts.getD 0 default,b.pts.getD 2 default] [ln.getD 0 0,ln.getD 2 0] (b.pts.getD 1 default).h=ln.getD 0 0+(ln.getD 2 0-ln.getD 0 0)/2:=by
 have h01:=hv.pts.up 0 (by omega)
 have h12:=hv.pts.up 1 (by omega)
 simp only [Nat.zero_add,Nat.reduceAdd] at h01 h12
 show atI (bentF (b.pts.getD 0 default) (b.pts.getD 2 default)).pts _ _=_
 rw [atI_between (bent_ok hv h3).up (i:=0) (by simp [bentF]) (show (b.pts.getD 0 default).h≤_ by omega) (show _≤(b.pts.getD 2 default).h by omega)];simp only [bentF,List.getD_cons_zero,List.getD_cons_succ]
 congr 1
 have e:(b.pts.getD 2 default).h-(b.pts.getD 0 default).h=2*((b.pts.getD 1 default).h-(b.pts.getD 0 default).h):=by omega
 rw [e,Int.mul_comm 2];conv=>lhs;rw [Int.mul_comm (ln.getD 2 0-ln.getD 0 0)]
 exact Int.mul_ediv_mul_of_pos _ _ (by omega)
theorem bent_snagAt {b:Fb} {ln:List Int} (hv:FOk b) (h3:3≤b.pts.length) (hs:SmL ln) (he:(b.pts.getD 0 default).h+(b.pts.getD 2 default).h=2*(b.pts.getD 1 default).h):
  atS (bentF (b.pts.getD 0 default) (b.pts.getD 2 default)) [ln.getD 0 0,ln.getD 2 0] (b.pts.getD 1 default).h=0:=by
 have h01:=hv.pts.up 0 (by omega)
 have h12:=hv.pts.up 1 (by omega)
 simp only [Nat.zero_add,Nat.reduceAdd] at h01 h12
 refine atS_0 ?_ ?_
 ·rw [fhandS,if_neg (fun e=>e (bent_snag hv h3)),brS,if_neg (by simp [bentF]),if_neg];rintro ⟨i,hi,h⟩;simp only [List.length_cons,List.length_nil] at hi
  have h0:=hs 0
  have h2:=hs 2
  rcases (by omega:i=0∨i=1) with rfl|rfl
  ·exact h (by simpa using h0)
  ·exact h (by simpa using h2)
 ·show (b.pts.getD 0 default).h≤_∧_≤(b.pts.getD 2 default).h
  omega
theorem rd_one {B:Array Obj} {h:Hp} {a:Addr} {x:Int} (r:Rd B h a (.int .i64 (([x]:List Int).getD 0 0))):Rd B h a (.int .i64 x):=r
theorem weak2 {B:Array Obj} {X:Hp} {a c:Chunk}:Weak B (X++[a,c]) (X++[c,a]):=Weak.perm (List.Perm.append_left X (.swap _ _ _))
theorem weak5 {B:Array Obj} {X:Hp} {x y z a c:Chunk}:Weak B (X++[x,y,z,a,c]) (X++[x,y,z,c,a]):=Weak.perm (List.Perm.append_left X (.cons _ (.cons _ (.cons _ (.swap _ _ _)))))
theorem row3 (l:List Int) (h:3≤l.length):l.take 3=[l.getD 0 0,l.getD 1 0,l.getD 2 0]:=by
 match l,h with
 |a::c::d::r,_=>rfl
theorem Bt.rdITo {h:Hp} {p:Option Addr} {n c:Nat} {xs:List Int} (rd:RdS B h 1 (.slice p n c) n (ints xs)) (m:Nat) (hm:m≤n):RdS B h 1 (.slice p m c) m (ints (xs.take m)):=by
 have:=rd.pre hm
 rwa [Nat.mul_one,←ints_take] at this
theorem f3_t (h:Hp) (rdp:Rp B h b pp np cp) (rdt:Rt B h b pt nt ct) (rdk:Rk B h b pk nk ck) {p:Option Addr} {n c:Nat} {zs:List Int} (rd:RdS B h 1 (.slice p n c) n (u16s zs)) (hz: ∀z∈zs,0≤z∧z≤65535):(Md.starS Tryz.prog B).R (AtEnd Tryz.prog B fun v _=>v= .bool true) (G (Frame.enter Tryz.prog 3 #[fbV b pp np cp pt nt ct pk nk ck,.slice p n c] .normal) []) h:=by
 refine top_enter Tryz.func3 rfl rfl (l:=[fbV b pp np cp pt nt ct pk nk ck,.slice p n c,undef,undef,undef,undef,undef,undef,undef,undef,undef,undef,undef,undef,undef,undef,undef,undef,undef,undef,undef,undef,undef,undef,undef,undef,undef,undef,undef,undef,undef,undef,undef,undef,undef,undef,undef,undef,undef,undef,undef,undef,undef,undef,undef,undef,undef,undef,undef,undef,undef,undef,undef,undef,undef,undef,undef,undef,undef,undef,undef,undef,undef,undef,undef,undef,undef,undef,undef,undef,undef,undef,undef,undef,undef,undef,undef,undef,undef,undef,undef,undef,undef,undef,undef,undef,undef,undef,undef,undef,undef,undef,undef,undef,undef,undef,undef,undef,undef,undef,undef,undef,undef,undef,undef,undef,undef,undef,undef,undef,undef,undef,undef,undef,undef,undef,undef,undef,undef,undef,undef,undef,undef,undef,undef,undef,undef,undef,undef,undef,undef,undef,undef,undef,undef,undef,undef,undef,undef,undef,undef,undef,undef,undef,undef,undef,undef,undef,undef]) rfl ?_
 refine rs2 ?_;refine k_box rfl zq (fun q2=>k_hp (k_put ?_));refine d12 ?_;refine run_seq ?_
 refine run_draw [(0,.read),(1,.keep),(2,.pure),(3,.pure),(4,.pure),(5,.read),(6,.pure),(7,.pure),(8,.pure),(9,.pure),(10,.pure),(15,.pure),(21,.pure),(11,.read),(12,.pure),(13,.pure),(14,.read),(16,.read),(17,.pure),(18,.pure),(19,.read),(20,.pure),(22,.read),(23,.pure),(24,.pure),(25,.read),(26,.pure),(27,.pure),(28,.pure)] (by kernel_rfl) (by kernel_rfl) (List.Sublist.refl _) ?_;refine k_ldA rfl zq ?_;refine k_calP (Post:=fun v=>IsB _ v) rfl zq (by kernel_rfl) (fun H' hH=>f5_c _ H' (rdp.keeps (sq hH)) (rdt.keeps (sq hH)) (rdk.keeps (sq hH))) ?_;rintro v (⟨hc,rfl⟩|⟨hc,rfl⟩)
 ·refine d40 ?_;refine mq rfl ?_;refine d25 ?_;refine k_len rfl rfl ?_
  refine k_lssS rfl rfl (fun hc=>?_) (fun hc=>?_)
  ·refine k_pickF rfl zq ?_;refine d115 ?_;refine d5 ?_;refine d5 ?_;refine d5 ?_;refine d5 ?_;refine d5 ?_;refine k_pickT rfl zq ?_;refine d7 ?_;refine rs2 ?_;refine k_cal rfl zq (by kernel_rfl) (f6_c _) ?_;rintro v h' ⟨nF,rfl,rfl⟩;refine d111 ?_
   refine run_top rfl Tryz.func3 (by kernel_rfl) rfl ?_;rfl
  ·refine k_pickF rfl zq ?_;refine d119 ?_;(first|refine k_fa0 rfl rfl ?_|refine k_fa rfl rfl ?_);refine d25 ?_;obtain ⟨rdp_b,rdp_o,rfl⟩:=rdp.ptr (by omega)
   refine k_ixs rfl rfl (by first|rfl|assumption) (by omega) (by omega) ?_;(first|refine k_fa0 rfl rfl ?_|refine k_fa rfl rfl ?_);refine k_ld rfl rfl (rdp.fat (v:= .int .i64 (b.pts.getD 0 default).h) 0 0 (by omega) (by omega) rfl) ?_;refine k_ldh rfl rfl ?_;refine k_ixs rfl rfl (by first|rfl|assumption) (by omega) (by omega) ?_;(first|refine k_fa0 rfl rfl ?_|refine k_fa rfl rfl ?_);refine k_ld rfl rfl (rdp.fat (v:= .int .i64 (b.pts.getD 2 default).h) 2 0 (by omega) (by omega) rfl) ?_;have hvx:=fbS_zero (b:=b) (by omega)
   have hmx:=rdp.elen (by decide)
   have hb0:=hvx.pts.at (i:=0) (by omega)
   have hb1:=hvx.pts.at (i:=1) (by omega)
   have hb2:=hvx.pts.at (i:=2) (by omega)
   refine k_add rfl rfl (by unfold In64;omega) ?_;refine k_ldh rfl rfl ?_;refine k_ixs rfl rfl (by first|rfl|assumption) (by omega) (by omega) ?_;(first|refine k_fa0 rfl rfl ?_|refine k_fa rfl rfl ?_);refine k_ld rfl rfl (rdp.fat (v:= .int .i64 (b.pts.getD 1 default).h) 1 0 (by omega) (by omega) rfl) ?_;refine k_mul rfl rfl (by unfold In64;omega) ?_;refine k_neqS rfl rfl (fun hc=>?_) (fun hc=>?_)
   ·refine k_pickF rfl zq ?_;refine d7 ?_;refine rs2 ?_;refine k_cal rfl zq (by kernel_rfl) (f6_c _) ?_;rintro v h' ⟨nF,rfl,rfl⟩;refine d111 ?_
    refine run_top rfl Tryz.func3 (by kernel_rfl) rfl ?_;rfl
   ·refine k_pickF rfl zq ?_;refine d38 ?_;have hp:np≤1000:=by omega
    have ht:nt≤1000:=by omega
    have hk:nk≤1000:=by omega
    have h0:fbS b=0:=by omega
    have hv:=fbS_zero h0
    have hv1:=hv.pts.five
    have hv2:=hv.pts.two
    have hml:=rdp.elen (by decide)
    refine rr4 ?_;refine d71 ?_;refine k_calC rfl zq (by kernel_rfl) (Post:=fun v new=> ∃ln,OwnS 3 1 v ln.length (ints ln) new∧ln.length=b.pts.length∧spansF b ln) (fun H' hH=>f7_c _ H' (rdp.keeps (sq hH)) hp hv (rd.keeps (sq hH)) hz) ?_;rintro v n7 ⟨ln,o7,hll,hsp⟩;refine k_hpA (k_put ?_);obtain ⟨pl,cl,rfl,hcl,rl⟩:=own_rdA (B:=B) o7
    have hln:ln.length≤1000:=by omega
    refine d12 ?_
    have hsm:=row_small hv hll hsp
    have hs0:=hsm 0
    have hs1:=hsm 1
    have hs2:=hsm 2
    have he:(b.pts.getD 0 default).h+(b.pts.getD 2 default).h=2*(b.pts.getD 1 default).h:=by omega
    refine run_drawC (fun l' h'=> ∃qP qO,(∃U:Nat→Value,l'=((fbV b (some ⟨rdp_b,rdp_o,none⟩) np cp pt nt ct pk nk ck)::(.slice p n c)::(.pointer (some ⟨q2,0,none⟩))::(U 3)::(U 4)::(.slice pl ln.length cl)::(.pointer (some ⟨qO,0,none⟩))::(U 7)::(U 8)::(U 9)::(U 10)::vw138 U 11 []))∧Weak B h' (h++[⟨true,q2,.cells (fbL b (some ⟨rdp_b,rdp_o,none⟩) np cp pt nt ct pk nk ck).toArray 26 (0,0)⟩]++n7++[⟨true,qP,.cells ([.int .i64 (b.pts.getD 0 default).h,.int .i64 (b.pts.getD 0 default).lo,.int .i64 (b.pts.getD 0 default).hi,.int .i64 (b.pts.getD 2 default).h,.int .i64 (b.pts.getD 2 default).lo,.int .i64 (b.pts.getD 2 default).hi]:List Value).toArray 32 (0,0)⟩,⟨true,qO,.cells ([.int .i64 0,.slice (some ⟨qP,0,none⟩) 2 2,.slice none 0 0,.slice none 0 0]:List Value).toArray 26 (0,0)⟩])) [0,1,2,3,4,5,6,7,8,9,10,11] (by kernel_rfl) (by kernel_rfl) (List.Sublist.refl _) ?_ ?_
    ·refine DrawT.split 8 10 (by decide) ?_ ?_
     ·refine DrawT.leaf [(0,.pure),(4,.pure),(1,.read),(2,.pure),(3,.read),(5,.read),(6,.pure),(7,.read),(8,.keep),(9,.pure),(10,.alloc),(11,.free)] (by kernel_rfl) ?_
      refine d28 ?_;refine k_ixs rfl zq (by first|rfl|assumption) (by omega) (by omega) ?_
      refine k_ldN (vs:=[.int .i64 (b.pts.getD 0 default).h,.int .i64 (b.pts.getD 0 default).lo,.int .i64 (b.pts.getD 0 default).hi]) rfl zq rfl (rdp.eat 0 (by omega) (by omega)) ?_;refine k_ldh rfl zq ?_;refine k_ixs rfl zq (by first|rfl|assumption) (by omega) (by omega) ?_;refine k_ldN (vs:=[.int .i64 (b.pts.getD 2 default).h,.int .i64 (b.pts.getD 2 default).lo,.int .i64 (b.pts.getD 2 default).hi]) rfl zq rfl (rdp.eat 2 (by omega) (by omega)) ?_;refine k_bs kdq rfl zq (by decide) (by decide) rfl (fun qP=>k_hp (k_put ?_));refine k_bld rfl zq ?_;refine k_new rfl zq (fun qO=>k_hp (k_put ?_));refine d48 ?_
      exact ⟨qP,qO,exU rfl,by first|exact weakSub|exact weak2|exact weak5⟩
     ·refine DrawT.leaf [(0,.pure),(4,.pure),(1,.read),(2,.pure),(3,.read),(5,.read),(6,.pure),(7,.read),(10,.alloc),(8,.keep),(9,.pure),(11,.free)] (by kernel_rfl) ?_
      refine d28 ?_;refine k_ixs rfl zq (by first|rfl|assumption) (by omega) (by omega) ?_
      refine k_ldN (vs:=[.int .i64 (b.pts.getD 0 default).h,.int .i64 (b.pts.getD 0 default).lo,.int .i64 (b.pts.getD 0 default).hi]) rfl zq rfl (rdp.eat 0 (by omega) (by omega)) ?_;refine k_ldh rfl zq ?_;refine k_ixs rfl zq (by first|rfl|assumption) (by omega) (by omega) ?_;refine k_ldN (vs:=[.int .i64 (b.pts.getD 2 default).h,.int .i64 (b.pts.getD 2 default).lo,.int .i64 (b.pts.getD 2 default).hi]) rfl zq rfl (rdp.eat 2 (by omega) (by omega)) ?_;refine k_new rfl zq (fun qO=>k_hp (k_put ?_));refine k_bs kdq rfl zq (by decide) (by decide) rfl (fun qP=>k_hp (k_put ?_));refine k_bld rfl zq ?_;refine d48 ?_;exact ⟨qP,qO,exU rfl,by first|exact weakSub|exact weak2|exact weak5⟩
    ·rintro l' h' ⟨qP,qO,⟨U,rfl⟩,hwk⟩;refine (Md.starS Tryz.prog B).weak hwk ?_
     refine run_seq ?_;refine run_draw [(1,.pure),(2,.pure),(4,.pure),(5,.pure),(8,.pure),(0,.read),(3,.read),(6,.read),(9,.read),(10,.pure),(11,.pure),(12,.read),(7,.keep),(13,.keep),(14,.pure),(15,.pure),(16,.pure),(17,.pure),(18,.pure)] (by kernel_rfl) (by kernel_rfl) (List.Sublist.refl _) ?_;refine mq rfl ?_
     obtain ⟨rl_b,rl_o,rfl⟩:=rl.ptr (by omega)
     refine k_ixs rfl zq (by first|rfl|assumption) (by omega) (by omega) ?_;refine mq rfl ?_;refine d18 ?_;refine k_ldA rfl zq ?_;refine k_ld rfl zq (rl.iat 0 (by omega) (by omega)) ?_;refine k_ld rfl zq (rl.iat 2 (by omega) (by omega)) ?_;refine k_ldh rfl zq ?_;refine d18 ?_;refine k_ld rfl zq (rdp.fat (v:= .int .i64 (b.pts.getD 1 default).h) 1 0 (by omega) (by omega) rfl) ?_;refine k_bs kdq rfl zq (by decide) (by decide) rfl (fun qL=>k_hp (k_put ?_));refine k_calP (Post:=fun v=>v= .tuple [.int .i64 (ln.getD 0 0+(ln.getD 2 0-ln.getD 0 0)/2),.int .i64 0].toArray) rfl zq (by kernel_rfl) (fun H' hH=>(f8_c (Md.starS Tryz.prog B) H' (b:=bentF (b.pts.getD 0 default) (b.pts.getD 2 default)) (xs:=[ln.getD 0 0,ln.getD 2 0]) ((rdS_has (q:=qP) (n:=2) (by rfl)).keeps hH) (by omega) rd_none (by omega) rd_none (by omega) (n:=2) ((rdS_has (q:=qL) (n:=2) (by rfl)).keeps hH) (by omega) (b.pts.getD 1 default).h).mono fun v h' e=>⟨e.1,by rw [e.2,orNo_yes (bent_snagAt hv (by omega) hsm he)];exact congrArg (fun z:Int=>Value.tuple [.int .i64 z,.int .i64 0].toArray) (bent_at hv (by omega) he)⟩) ?_;rintro v rfl;refine d78 ?_;refine d99 ?_
     refine run_drawC (fun l' h'=> ∃qM qC,(∃U:Nat→Value,l'=((fbV b (some ⟨rdp_b,rdp_o,none⟩) np cp pt nt ct pk nk ck)::(.slice p n c)::(.pointer (some ⟨q2,0,none⟩))::(U 3)::(U 4)::(.slice (some ⟨rl_b,rl_o,none⟩) ln.length cl)::(.pointer (some ⟨qO,0,none⟩))::(.int .i64 (ln.getD 0 0+(ln.getD 2 0-ln.getD 0 0)/2))::(.int .i64 0)::(.pointer (some ⟨qC,0,none⟩))::(U 10)::vw138 U 11 []))∧Weak B h' (h++[⟨true,q2,.cells (fbL b (some ⟨rdp_b,rdp_o,none⟩) np cp pt nt ct pk nk ck).toArray 26 (0,0)⟩]++n7++[⟨true,qP,.cells ([.int .i64 (b.pts.getD 0 default).h,.int .i64 (b.pts.getD 0 default).lo,.int .i64 (b.pts.getD 0 default).hi,.int .i64 (b.pts.getD 2 default).h,.int .i64 (b.pts.getD 2 default).lo,.int .i64 (b.pts.getD 2 default).hi]:List Value).toArray 32 (0,0)⟩,⟨true,qO,.cells ([.int .i64 0,.slice (some ⟨qP,0,none⟩) 2 2,.slice none 0 0,.slice none 0 0]:List Value).toArray 26 (0,0)⟩,⟨true,qL,.cells ([.int .i64 (ln.getD 0 0),.int .i64 (ln.getD 2 0)]:List Value).toArray 3 (0,0)⟩,⟨true,qM,.cells ([.int .i64 (ln.getD 0 0),.int .i64 (ln.getD 0 0),.int .i64 (ln.getD 1 0),.int .i64 (ln.getD 1 0),.int .i64 (ln.getD 2 0),.int .i64 (ln.getD 2 0)]:List Value).toArray 30 (0,0)⟩,⟨true,qC,.cells ([.int .i64 0,.int .i64 0,.int .i64 0,.slice (some ⟨qM,0,none⟩) 3 3,.slice none 0 0]:List Value).toArray 43 (0,0)⟩])) [0,1,2,3,4,5,6,7,8,9,10,11,12,13,14,15] (by kernel_rfl) (by kernel_rfl) (List.Sublist.refl _) ?_ ?_
     ·refine DrawT.split 12 14 (by decide) ?_ ?_
      ·refine DrawT.leaf [(0,.pure),(1,.pure),(4,.pure),(5,.pure),(8,.pure),(9,.pure),(2,.read),(6,.read),(10,.read),(3,.keep),(7,.keep),(11,.keep),(12,.keep),(13,.pure),(14,.alloc),(15,.free)] (by kernel_rfl) ?_
       refine d39 ?_;refine d39 ?_;refine d39 ?_
       refine k_ld rfl zq (rl.iat 0 (by omega) (by omega)) ?_;refine k_ld rfl zq (rl.iat 1 (by omega) (by omega)) ?_;refine k_ld rfl zq (rl.iat 2 (by omega) (by omega)) ?_;refine k_calP (Post:=fun v=>v= .agg [.int .i64 (ln.getD 0 0),.int .i64 (ln.getD 0 0)].toArray) rfl zq (by kernel_rfl) (fun H' hH=>f9_c _ H' _) ?_;rintro v rfl;refine k_put ?_;refine k_calP (Post:=fun v=>v= .agg [.int .i64 (ln.getD 1 0),.int .i64 (ln.getD 1 0)].toArray) rfl zq (by kernel_rfl) (fun H' hH=>f9_c _ H' _) ?_;rintro v rfl;refine k_put ?_;refine k_calP (Post:=fun v=>v= .agg [.int .i64 (ln.getD 2 0),.int .i64 (ln.getD 2 0)].toArray) rfl zq (by kernel_rfl) (fun H' hH=>f9_c _ H' _) ?_;rintro v rfl;refine k_put ?_;refine k_bs kdq rfl zq (by decide) (by decide) rfl (fun qM=>k_hp (k_put ?_));refine k_bld rfl zq ?_;refine k_new rfl zq (fun qC=>k_hp (k_put ?_));refine k_stA rfl zq (by first|rfl|exact rws_length _) ?_;refine k_nil ?_;exact ⟨qM,qC,exU rfl,by first|exact weakSub|exact weak2|exact weak5⟩
      ·refine DrawT.leaf [(0,.pure),(1,.pure),(4,.pure),(5,.pure),(8,.pure),(9,.pure),(2,.read),(6,.read),(10,.read),(3,.call),(7,.call),(11,.call),(14,.alloc),(12,.keep),(13,.pure),(15,.free)] (by kernel_rfl) ?_
       refine d39 ?_;refine d39 ?_;refine d39 ?_
       refine k_ld rfl zq (rl.iat 0 (by omega) (by omega)) ?_;refine k_ld rfl zq (rl.iat 1 (by omega) (by omega)) ?_;refine k_ld rfl zq (rl.iat 2 (by omega) (by omega)) ?_;refine k_calP (Post:=fun v=>v= .agg [.int .i64 (ln.getD 0 0),.int .i64 (ln.getD 0 0)].toArray) rfl zq (by kernel_rfl) (fun H' hH=>f9_c _ H' _) ?_;rintro v rfl;refine k_put ?_;refine k_calP (Post:=fun v=>v= .agg [.int .i64 (ln.getD 1 0),.int .i64 (ln.getD 1 0)].toArray) rfl zq (by kernel_rfl) (fun H' hH=>f9_c _ H' _) ?_;rintro v rfl;refine k_put ?_;refine k_calP (Post:=fun v=>v= .agg [.int .i64 (ln.getD 2 0),.int .i64 (ln.getD 2 0)].toArray) rfl zq (by kernel_rfl) (fun H' hH=>f9_c _ H' _) ?_;rintro v rfl;refine k_put ?_;refine k_new rfl zq (fun qC=>k_hp (k_put ?_));refine k_bs kdq rfl zq (by decide) (by decide) rfl (fun qM=>k_hp (k_put ?_));refine k_bld rfl zq ?_;refine k_stA rfl zq (by first|rfl|exact rws_length _) ?_;refine k_nil ?_;exact ⟨qM,qC,exU rfl,by first|exact weakSub|exact weak2|exact weak5⟩
     ·rintro l' h' ⟨qM,qC,⟨U,rfl⟩,hwk⟩;refine (Md.starS Tryz.prog B).weak hwk ?_
      refine run_seq ?_;have hhd:=bent_handed hs0 hs1 hs2
      have hl3:ln.take 3=[(ln.getD 0 0),(ln.getD 1 0),(ln.getD 2 0)]:=row3 ln (by omega)
      have rl3:=Bt.rdITo rl 3 (by omega)
      rw [hl3] at rl3
      refine run_draw [(1,.pure),(2,.pure),(0,.read),(3,.keep),(4,.pure),(5,.pure),(6,.pure),(7,.pure),(8,.pure)] (by kernel_rfl) (by kernel_rfl) (List.Sublist.refl _) ?_;refine mq rfl ?_
      refine k_slTo (b:=3) rfl zq rl.okp rfl (by omega) ?_;refine k_ldA rfl zq ?_;refine k_calC rfl zq (by kernel_rfl) (Post:=fun v new=> ∃w,v= .tuple [w,.int .i64 0].toArray∧RdI B new w [(ln.getD 0 0)-2*(ln.getD 1 0)+(ln.getD 2 0)]) (fun H' hH=>(Bt.f10_c _ H' (b:=(bentK (ln.getD 0 0) (ln.getD 1 0) (ln.getD 2 0))) (xs:=[(ln.getD 0 0),(ln.getD 1 0),(ln.getD 2 0)]) ((rdS_has (q:=qM) (n:=3) (by rfl)).keeps hH) (by omega) rd_none (by omega) (rl3.keeps (sq hH)) (by omega)).mono fun v h' e=>by obtain ⟨new,e1,w,e2,e3⟩:=e;rw [hhd] at e2 e3;rw [if_neg (by simp),bent_bends] at e3;exact ⟨new,e1,w,e2,e3⟩) ?_;rintro v n10 ⟨w10,rfl,p10,c10,rfl,r10⟩;refine k_hpA (k_put ?_);refine d42 ?_;refine d99 ?_
      refine run_draw [(1,.pure),(2,.pure),(0,.read),(3,.keep),(4,.pure),(5,.pure),(6,.pure),(7,.pure),(8,.pure)] (by kernel_rfl) (by kernel_rfl) (List.Sublist.refl _) ?_;refine mq rfl ?_
      refine k_slTo (b:=3) rfl zq rl.okp rfl (by omega) ?_;refine k_ldA rfl zq ?_;refine k_calP (Post:=fun v=> ∃w,v= .tuple [w,.int .i64 0].toArray∧IsB ((ln.getD 0 0)-2*(ln.getD 1 0)+(ln.getD 2 0)=0) w) rfl zq (by kernel_rfl) (fun H' hH=>(Bt.f11_c _ H' (b:=(bentK (ln.getD 0 0) (ln.getD 1 0) (ln.getD 2 0))) (xs:=[(ln.getD 0 0),(ln.getD 1 0),(ln.getD 2 0)]) ((rdS_has (q:=qM) (n:=3) (by rfl)).keeps hH) (by omega) rd_none (by omega) (rl3.keeps (sq hH)) (by omega)).mono fun v h' e=>by obtain ⟨e1,w,e2,e3⟩:=e;rw [hhd] at e2 e3;exact ⟨e1,w,e2,IsB.iff ⟨fun x=>(bent_fair _ _ _).1 x.2,fun x=>⟨rfl,(bent_fair _ _ _).2 x⟩⟩ e3⟩) ?_;rintro v ⟨w11,rfl,hw11⟩;refine d78 ?_;refine d99 ?_;refine run_seq ?_
      refine run_region [(0,.free),(1,.free),(2,.free),(3,.free),(4,.free),(5,.free),(6,.free),(7,.free),(8,.free),(9,.free),(10,.free),(11,.free),(12,.free),(13,.free),(14,.free)] (by kernel_rfl) (by kernel_rfl) ?_;refine mq rfl ?_
      refine k_neqF rfl zq (by first|decide|rfl) ?_;refine d23 ?_
      refine k_neqF rfl rfl (by first|decide|rfl) ?_;refine k_pickF rfl zq ?_;refine d23 ?_;refine k_neqF rfl rfl (by first|decide|rfl) ?_;refine k_pickF rfl zq ?_;refine d23 ?_;refine k_len rfl rfl ?_;refine k_neqF rfl rfl (by first|decide|rfl) ?_;refine k_pickF rfl zq ?_;refine d38 ?_;obtain ⟨n10b,n10o,rfl⟩:=r10.ptr (by simp)
      refine rr4 ?_;refine mq rfl ?_;refine k_ixs rfl zq rfl (by omega) (by simp) ?_;refine k_ld (v:= .int .i64 ((ln.getD 0 0)-2*(ln.getD 1 0)+(ln.getD 2 0))) rfl zq (rd_one (r10.iat (j:=0) 0 rfl (by simp))) ?_;refine d12 ?_
      refine run_region [(0,.free),(1,.free),(2,.free),(3,.free),(4,.free),(5,.free),(6,.free),(7,.free),(8,.free),(9,.free),(10,.free),(11,.free),(12,.free),(13,.free),(14,.free),(15,.free),(16,.free),(17,.free),(18,.free),(19,.free),(20,.free),(21,.free),(22,.free),(23,.free),(24,.free),(25,.free),(26,.free),(27,.free),(28,.free)] (by kernel_rfl) (by kernel_rfl) ?_;refine d3 ?_;refine d39 ?_
      refine k_ld rfl zq (rl.iat 1 (by omega) (by omega)) ?_;refine k_sub rfl zq (by unfold In64;omega) ?_;refine k_mul rfl zq (by unfold In64;omega) ?_;refine k_eqlS rfl zq (fun hc=>?_) (fun hc=>?_)
      ·refine d115 ?_;refine k_off rfl rfl ?_;refine k_pickT rfl zq ?_;refine d23 ?_;refine k_mv rfl rfl ?_
       refine k_eqlS rfl rfl (fun hc=>?_) (fun hc=>?_)
       ·obtain rfl:=isB_true hw11 (by omega)
        refine k_eqBT rfl rfl (by kernel_rfl) rfl ?_;refine k_pickT rfl zq ?_;refine mq rfl ?_;refine k_cal rfl rfl (by kernel_rfl) (f6_c _) ?_;rintro v h' ⟨nF,rfl,rfl⟩;refine k_put ?_;refine d82 ?_;refine run_top rfl Tryz.func3 (by kernel_rfl) rfl ?_;rfl
       ·obtain rfl:=isB_false hw11 (by omega)
        refine k_eqBT rfl rfl (by kernel_rfl) rfl ?_;refine k_pickT rfl zq ?_;refine mq rfl ?_;refine k_cal rfl rfl (by kernel_rfl) (f6_c _) ?_;rintro v h' ⟨nF,rfl,rfl⟩;refine k_put ?_;refine d82 ?_;refine run_top rfl Tryz.func3 (by kernel_rfl) rfl ?_;rfl
      ·refine d23 ?_;refine k_mv rfl rfl ?_;refine d22 ?_
       refine k_ld rfl rfl (rl.iat 1 (by omega) (by omega)) ?_;refine k_sub rfl rfl (by unfold In64;omega) ?_;refine k_mul rfl rfl (by unfold In64;omega) ?_;refine k_add rfl rfl (by unfold In64;omega) ?_;refine k_eqlS rfl rfl (fun hc=>?_) (fun hc=>?_)
       ·refine k_pickF rfl zq ?_;refine d23 ?_;refine k_mv rfl rfl ?_;refine k_eqlS rfl rfl (fun hc=>?_) (fun hc=>?_)
        ·obtain rfl:=isB_true hw11 (by omega)
         refine k_eqBT rfl rfl (by kernel_rfl) rfl ?_;refine k_pickT rfl zq ?_;refine mq rfl ?_;refine k_cal rfl rfl (by kernel_rfl) (f6_c _) ?_;rintro v h' ⟨nF,rfl,rfl⟩;refine k_put ?_;refine d82 ?_;refine run_top rfl Tryz.func3 (by kernel_rfl) rfl ?_;rfl
        ·obtain rfl:=isB_false hw11 (by omega)
         refine k_eqBT rfl rfl (by kernel_rfl) rfl ?_;refine k_pickT rfl zq ?_;refine mq rfl ?_;refine k_cal rfl rfl (by kernel_rfl) (f6_c _) ?_;rintro v h' ⟨nF,rfl,rfl⟩;refine k_put ?_;refine d82 ?_;refine run_top rfl Tryz.func3 (by kernel_rfl) rfl ?_;rfl
       ·omega
 ·refine d41 ?_;refine d68 ?_;refine k_pickT rfl zq ?_;refine d115 ?_;refine d5 ?_;refine d5 ?_;refine d5 ?_;refine d5 ?_;refine d5 ?_;refine k_pickT rfl zq ?_;refine d7 ?_;refine rs2 ?_
  refine k_cal rfl zq (by kernel_rfl) (f6_c _) ?_;rintro v h' ⟨nF,rfl,rfl⟩;refine d111 ?_
  refine run_top rfl Tryz.func3 (by kernel_rfl) rfl ?_;rfl
end Go.Proofs
