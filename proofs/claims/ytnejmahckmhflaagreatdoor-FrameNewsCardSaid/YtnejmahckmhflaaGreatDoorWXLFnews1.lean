/- A part of the proof of a law: my own separation logic over the machine, and walks of the program. Condition of each theorem: as its statement says. -/
import Derived.Test.YtnejmahckmhflaaGreatDoorWB9
set_option linter.all false
namespace Go.Lo
open Go.Conc (G)
section
variable {α:Type} {k:Nat} [Enc α k]
theorem encs_cut: ∀(xs:List α) (i:Nat),(encs xs).take (i*k)=encs (xs.take i)∧(encs xs).drop (i*k)=encs (xs.drop i)
 |[],i=>by simp [encs]
 |a::r,0=>by simp [encs]
 |a::r,i+1=>by
  obtain ⟨h1,h2⟩:=encs_cut r i
  have hl:(Enc.enc a).length=k:=Enc.len a
  have e:(i+1)*k=(Enc.enc a).length+i*k:=by rw [hl,Nat.add_mul];omega
  refine ⟨?_,?_⟩
  ·show (Enc.enc a++encs r).take ((i+1)*k)=Enc.enc a++encs (r.take i)
   rw [e,List.take_length_add_append,h1]
  ·show (Enc.enc a++encs r).drop ((i+1)*k)=encs (r.drop i)
   rw [e,List.drop_length_add_append,h2]
theorem encs_take (xs:List α) (i:Nat):encs (xs.take i)=(encs xs).take (i*k):=(encs_cut xs i).1.symm
theorem encs_drop (xs:List α) (i:Nat):encs (xs.drop i)=(encs xs).drop (i*k):=(encs_cut xs i).2.symm
end
section
variable {B:Array Obj} {h H:Hp}
end
end Go.Lo
namespace Go.Lo
open Go.Conc (G)
section
variable {B:Array Obj} {h H:Hp}
theorem RdE.up {vs:List Value} {ll:List (List Int)} (r:RdE B h vs ll) [s:SubH h H]:RdE B H vs ll:=r.keeps s.sub
theorem RdE.cap {vs:List Value} {ll:List (List Int)} (r:RdE B h vs ll) {i:Nat} (hi:i<ll.length) {p:Option Addr} {n c:Nat} (e:vs.getD i undef= .slice p n c):n≤c:=by
 have hl:=r.1.1
 refine r.1.2 (vs.getD i undef) ?_ p n c e
 rw [List.getD_eq_getElem?_getD,List.getElem?_eq_getElem (by omega)];exact List.getElem_mem _
end
section
variable {P:Program} {B:Array Obj} {m:Md P B} {ops:Array Oper} {l l':List Value} {S h h' H:Hp} {C:List Value→Hp→Prop} {i:Nat} {kd:Kd} {r:List (Nat×Kd)}
 {d:Option Tmp} {ty:TypeId} {pos:String} {af:Array Edge} {g:Option (Nat×Bool)}
end
end Go.Lo
namespace Go.Lo
open Go.Conc (G)
section
variable {P:Program} {B:Array Obj} {m:Md P B} {S:Hp} {ops:Array Oper}
theorem DrawT.mono {l:List Value} {h:Hp} {C C':List Value→Hp→Prop} (hc: ∀l h,C l h→C' l h) {E:List (Nat×Nat)} (t:DrawT m S ops l h C E):DrawT m S ops l h C' E:=by
 induction t with
 |leaf r hok t=>exact .leaf r hok (RegK.mono hc t)
 |split a b hab _ _ ih1 ih2=>exact .split a b hab ih1 ih2
theorem run_drawC (C:List Value→Hp→Prop) {b:Frame} {ds:List Deferred} {k:List Item} {cs:List Frame} {K:Goroutine→Hp→Prop} {id:Nat} {l:List Value} {h:Hp} (r0:List Nat) (hm:(P.follows .mixedOrders||!Region.departs ops)=true)
  (hok:(topoOk ops [] (r0.map fun i=>(i,Kd.free))&&(List.range ops.size).all fun i=>r0.contains i)=true) (hS:S.Sublist h) (t:DrawT m S ops l h C []) (n: ∀l' h',C l' h'→m.R K (Gr b l' ds k cs) h'):m.R K (Gr b l ds (.code (.region id ops true)::k) cs) h:=
 run_drawT r0 hm hok hS (t.mono n)
end
end Go.Lo
namespace Go.Lo
open Go.Conc (G)
section
variable {P:Program} {B:Array Obj} {h:Hp}
theorem reads_partA {e n:Nat} {cs:Array Value} {o:Nat} [AggT P e n]:Reads P B (part e cs o) h (.agg (cs.extract o (o+n))):=by
 unfold part
 refine Reads.bind und_agg ?_
 exact Reads.bind (size_agg (P:=P) (n:=n)) (Reads.pure _)
def key4B (P:Program) (t:TypeId):Bool:=match P.underlying t with
 |some (.struct fs)=>(match fs.toList with
  |[f,g,s]=>f.offset==0&&g.offset==1&&s.offset==2&&f.name != "_" &&g.name != "_" &&s.name != "_" &&scalB P f.type&&scalB P g.type&&aggB P s.type 2&&keyB P s.type&&(match P.underlying f.type with|some (.int .i64)=>true|_=>false)&&(match P.underlying g.type with|some (.int .i64)=>true|_=>false)
  |_=>false)&&!P.stoodInHeld t
 |_=>false
class Key4T (P:Program) (t:TypeId):Prop where
 eq:key4B P t=true
theorem Key4T.spec {t:TypeId} [k:Key4T P t]: ∃f g s:Field,P.underlying t=some (.struct #[f,g,s])∧f.offset=0∧g.offset=1∧s.offset=2∧f.name≠ "_" ∧g.name≠ "_" ∧s.name≠ "_" ∧Scal P f.type∧Scal P g.type∧AggT P s.type 2∧KeyT P s.type∧P.underlying f.type=some (.int .i64)∧P.underlying g.type=some (.int .i64)∧P.stoodInHeld t=false:=by
 have:=k.eq
 unfold key4B at this
 split at this
 ·rename_i fs hu
  rw [Bool.and_eq_true] at this
  obtain ⟨h1,h2⟩:=this
  split at h1
  ·rename_i f g s hfs
   simp only [Bool.and_eq_true,beq_iff_eq,bne_iff_ne,ne_eq] at h1
   obtain ⟨⟨⟨⟨⟨⟨⟨⟨⟨⟨⟨a1,a2⟩,a3⟩,b1⟩,b2⟩,b3⟩,c1⟩,c2⟩,c3⟩,c4⟩,a7⟩,a8⟩:=h1
   refine ⟨f,g,s,?_,a1,a2,a3,b1,b2,b3,⟨c1⟩,⟨c2⟩,⟨c3⟩,⟨c4⟩,?_,?_,by simpa using h2⟩
   ·rw [hu];congr 2
    exact Array.ext' (by rw [hfs])
   ·split at a7
    ·assumption
    ·cases a7
   ·split at a8
    ·assumption
    ·cases a8
  ·cases h1
 ·cases this
theorem reads_eq4 (dd:Nat) {t:TypeId} [Key4T P t] (a b c d a' b' c' d':Int):Reads P B (Op.equalIn (dd+3) t (.agg [.int .i64 a,.int .i64 b,.int .i64 c,.int .i64 d].toArray) (.agg [.int .i64 a',.int .i64 b',.int .i64 c',.int .i64 d'].toArray)) h (a==a'&&(b==b'&&(c==c'&&d==d'))):=by
 obtain ⟨f,g,s,hu,o1,o2,o3,n1,n2,n3,s1,s2,s3,s4,u1,u2,hs⟩:=Key4T.spec (P:=P) (t:=t)
 unfold Op.equalIn
 refine Reads.bind (still_und hu).reads ?_
 refine Reads.bind Reads.program' ?_
 simp only [hs,Bool.false_eq_true,if_false,pure_bind]
 rw [←Array.forIn_toList];simp only [List.forIn_cons,List.forIn_nil,n1,n2,n3,ne_eq,not_false_eq_true,if_true,o1,o2,o3,bind_assoc]
 refine Reads.bind (reads_partS (v:= .int .i64 a) rfl) (Reads.bind (reads_partS (v:= .int .i64 a') rfl) (Reads.bind (reads_eqi (dd+1) u1 a a') ?_))
 cases h1:(a==a')
 ·simp only [Bool.not_false,if_true,pure_bind,Bool.false_and]
  exact Reads.pure _
 ·simp only [Bool.not_true,Bool.false_eq_true,if_false,pure_bind,Bool.true_and,bind_assoc]
  refine Reads.bind (reads_partS (v:= .int .i64 b) rfl) (Reads.bind (reads_partS (v:= .int .i64 b') rfl) (Reads.bind (reads_eqi (dd+1) u2 b b') ?_))
  cases h2:(b==b')
  ·simp only [Bool.not_false,if_true,pure_bind,Bool.false_and]
   exact Reads.pure _
  ·simp only [Bool.not_true,Bool.false_eq_true,if_false,pure_bind,Bool.true_and,bind_assoc]
   refine Reads.bind (reads_partA (n:=2)) (Reads.bind (reads_partA (n:=2)) (Reads.bind (reads_eqK dd (t:=s.type) c d c' d') ?_))
   cases h3:(c==c'&&d==d')
   ·simp only [Bool.not_false,if_true,pure_bind]
    exact Reads.pure _
   ·simp only [Bool.not_true,Bool.false_eq_true,if_false,pure_bind]
    exact Reads.pure _
end
section
variable {P:Program} {B:Array Obj} {m:Md P B} {ops:Array Oper} {l l' l'':List Value} {S h h' H:Hp} {C:List Value→Hp→Prop} {i:Nat} {kd:Kd} {r:List (Nat×Kd)}
 {d:Option Tmp} {ty:TypeId} {pos:String} {af:Array Edge} {g:Option (Nat×Bool)}
theorem k_neq4 {t u:TypeId} {x y:Operand} {a b c e a' b' c' e':Int} (ho:ops[i]?=some ⟨d,.binOp .neq t x y u,ty,pos,af,g⟩) (hw:Wt ops l g) [kh:KHeap kd S h H] [ex:OpV l x (.agg [.int .i64 a,.int .i64 b,.int .i64 c,.int .i64 e].toArray)] [ey:OpV l y (.agg [.int .i64 a',.int .i64 b',.int .i64 c',.int .i64 e'].toArray)] [Key4T P t]
  (hg:P.eqGuardType P.depth t=false) [pt:PutV l d (.bool true) l'] [pf:PutV l d (.bool false) l''] (yes: ¬(a=a'∧b=b'∧c=c'∧e=e')→RegK m S ops r l' h C) (no:a=a'∧b=b'∧c=c'∧e=e'→RegK m S ops r l'' h C):RegK m S ops ((i,kd)::r) l h C:=by
 have he:=reads_eq4 (P:=P) (B:=B) (h:=H) 9997 (t:=t) a b c e a' b' c' e'
 by_cases hx:a=a'∧b=b'∧c=c'∧e=e'
 ·have e2:(a==a'&&(b==b'&&(c==c'&&e==e')))=true:=by simp [hx]
  rw [e2] at he
  haveI:PutV l d (.bool !true) l'':=pf
  exact k_neqG ho hw hg he (no hx)
 ·have e2:(a==a'&&(b==b'&&(c==c'&&e==e')))=false:=by simpa using hx
  rw [e2] at he
  haveI:PutV l d (.bool !false) l':=pt
  exact k_neqG ho hw hg he (yes hx)
end
end Go.Lo
namespace Go.Lo
open Go.Conc (G)
section
variable {P:Program} {B:Array Obj} {h:Hp}
def key3B (P:Program) (t:TypeId):Bool:=match P.underlying t with
 |some (.struct fs)=>(match fs.toList with
  |[f,s]=>f.offset==0&&s.offset==1&&f.name != "_" &&s.name != "_" &&scalB P f.type&&aggB P s.type 2&&keyB P s.type&&(match P.underlying f.type with|some (.int .i64)=>true|_=>false)
  |_=>false)&&!P.stoodInHeld t
 |_=>false
class Key3T (P:Program) (t:TypeId):Prop where
 eq:key3B P t=true
theorem Key3T.spec {t:TypeId} [k:Key3T P t]: ∃f s:Field,P.underlying t=some (.struct #[f,s])∧f.offset=0∧s.offset=1∧f.name≠ "_" ∧s.name≠ "_" ∧Scal P f.type∧AggT P s.type 2∧KeyT P s.type∧P.underlying f.type=some (.int .i64)∧P.stoodInHeld t=false:=by
 have:=k.eq
 unfold key3B at this
 split at this
 ·rename_i fs hu
  rw [Bool.and_eq_true] at this
  obtain ⟨h1,h2⟩:=this
  split at h1
  ·rename_i f s hfs
   simp only [Bool.and_eq_true,beq_iff_eq,bne_iff_ne,ne_eq] at h1
   obtain ⟨⟨⟨⟨⟨⟨⟨a1,a2⟩,b1⟩,b2⟩,c1⟩,c3⟩,c4⟩,a7⟩:=h1
   refine ⟨f,s,?_,a1,a2,b1,b2,⟨c1⟩,⟨c3⟩,⟨c4⟩,?_,by simpa using h2⟩
   ·rw [hu];congr 2
    exact Array.ext' (by rw [hfs])
   ·split at a7
    ·assumption
    ·cases a7
  ·cases h1
 ·cases this
theorem reads_eq3 (dd:Nat) {t:TypeId} [Key3T P t] (a c d a' c' d':Int):Reads P B (Op.equalIn (dd+3) t (.agg [.int .i64 a,.int .i64 c,.int .i64 d].toArray) (.agg [.int .i64 a',.int .i64 c',.int .i64 d'].toArray)) h (a==a'&&(c==c'&&d==d')):=by
 obtain ⟨f,s,hu,o1,o3,n1,n3,s1,s3,s4,u1,hs⟩:=Key3T.spec (P:=P) (t:=t)
 unfold Op.equalIn
 refine Reads.bind (still_und hu).reads ?_
 refine Reads.bind Reads.program' ?_
 simp only [hs,Bool.false_eq_true,if_false,pure_bind]
 rw [←Array.forIn_toList];simp only [List.forIn_cons,List.forIn_nil,n1,n3,ne_eq,not_false_eq_true,if_true,o1,o3,bind_assoc]
 refine Reads.bind (reads_partS (v:= .int .i64 a) rfl) (Reads.bind (reads_partS (v:= .int .i64 a') rfl) (Reads.bind (reads_eqi (dd+1) u1 a a') ?_))
 cases h1:(a==a')
 ·simp only [Bool.not_false,if_true,pure_bind,Bool.false_and]
  exact Reads.pure _
 ·simp only [Bool.not_true,Bool.false_eq_true,if_false,pure_bind,Bool.true_and,bind_assoc]
  refine Reads.bind (reads_partA (n:=2)) (Reads.bind (reads_partA (n:=2)) (Reads.bind (reads_eqK dd (t:=s.type) c d c' d') ?_))
  cases h3:(c==c'&&d==d')
  ·simp only [Bool.not_false,if_true,pure_bind]
   exact Reads.pure _
  ·simp only [Bool.not_true,Bool.false_eq_true,if_false,pure_bind]
   exact Reads.pure _
def keySB (P:Program) (t:TypeId):Bool:=match P.underlying t with
 |some (.struct fs)=>(match fs.toList with
  |[f,g,s]=>f.offset==0&&g.offset==1&&s.offset==2&&f.name != "_" &&g.name != "_" &&s.name != "_" &&scalB P f.type&&scalB P g.type&&scalB P s.type&&(match P.underlying s.type with|some .bool=>true|_=>false)&&(match P.underlying f.type with|some (.int .i64)=>true|_=>false)&&(match P.underlying g.type with|some (.int .i64)=>true|_=>false)
  |_=>false)&&!P.stoodInHeld t
 |_=>false
class KeyST (P:Program) (t:TypeId):Prop where
 eq:keySB P t=true
theorem KeyST.spec {t:TypeId} [k:KeyST P t]: ∃f g s:Field,P.underlying t=some (.struct #[f,g,s])∧f.offset=0∧g.offset=1∧s.offset=2∧f.name≠ "_" ∧g.name≠ "_" ∧s.name≠ "_" ∧Scal P f.type∧Scal P g.type∧Scal P s.type∧P.underlying s.type=some .bool∧P.underlying f.type=some (.int .i64)∧P.underlying g.type=some (.int .i64)∧P.stoodInHeld t=false:=by
 have:=k.eq
 unfold keySB at this
 split at this
 ·rename_i fs hu
  rw [Bool.and_eq_true] at this
  obtain ⟨h1,h2⟩:=this
  split at h1
  ·rename_i f g s hfs
   simp only [Bool.and_eq_true,beq_iff_eq,bne_iff_ne,ne_eq] at h1
   obtain ⟨⟨⟨⟨⟨⟨⟨⟨⟨⟨⟨a1,a2⟩,a3⟩,b1⟩,b2⟩,b3⟩,c1⟩,c2⟩,c3⟩,a6⟩,a7⟩,a8⟩:=h1
   refine ⟨f,g,s,?_,a1,a2,a3,b1,b2,b3,⟨c1⟩,⟨c2⟩,⟨c3⟩,?_,?_,?_,by simpa using h2⟩
   ·rw [hu];congr 2
    exact Array.ext' (by rw [hfs])
   ·split at a6
    ·assumption
    ·cases a6
   ·split at a7
    ·assumption
    ·cases a7
   ·split at a8
    ·assumption
    ·cases a8
  ·cases h1
 ·cases this
theorem reads_eqb (dd:Nat) {t:TypeId} (hb:P.underlying t=some .bool) (a c:Bool):Reads P B (Op.equalIn (dd+1) t (.bool a) (.bool c)) h (a==c):=by
 unfold Op.equalIn
 refine Reads.bind (still_und hb).reads ?_
 exact Reads.pure _
theorem reads_eqS (dd:Nat) {t:TypeId} [KeyST P t] (a b a' b':Int) (c c':Bool):Reads P B (Op.equalIn (dd+3) t (.agg [.int .i64 a,.int .i64 b,.bool c].toArray) (.agg [.int .i64 a',.int .i64 b',.bool c'].toArray)) h (a==a'&&(b==b'&&c==c')):=by
 obtain ⟨f,g,s,hu,o1,o2,o3,n1,n2,n3,s1,s2,s3,u3,u1,u2,hs⟩:=KeyST.spec (P:=P) (t:=t)
 unfold Op.equalIn
 refine Reads.bind (still_und hu).reads ?_
 refine Reads.bind Reads.program' ?_
 simp only [hs,Bool.false_eq_true,if_false,pure_bind]
 rw [←Array.forIn_toList];simp only [List.forIn_cons,List.forIn_nil,n1,n2,n3,ne_eq,not_false_eq_true,if_true,o1,o2,o3,bind_assoc]
 refine Reads.bind (reads_partS (v:= .int .i64 a) rfl) (Reads.bind (reads_partS (v:= .int .i64 a') rfl) (Reads.bind (reads_eqi (dd+1) u1 a a') ?_))
 cases h1:(a==a')
 ·simp only [Bool.not_false,if_true,pure_bind,Bool.false_and]
  exact Reads.pure _
 ·simp only [Bool.not_true,Bool.false_eq_true,if_false,pure_bind,Bool.true_and,bind_assoc]
  refine Reads.bind (reads_partS (v:= .int .i64 b) rfl) (Reads.bind (reads_partS (v:= .int .i64 b') rfl) (Reads.bind (reads_eqi (dd+1) u2 b b') ?_))
  cases h2:(b==b')
  ·simp only [Bool.not_false,if_true,pure_bind,Bool.false_and]
   exact Reads.pure _
  ·simp only [Bool.not_true,Bool.false_eq_true,if_false,pure_bind,Bool.true_and,bind_assoc]
   refine Reads.bind (reads_partS (v:= .bool c) rfl) (Reads.bind (reads_partS (v:= .bool c') rfl) (Reads.bind (reads_eqb (dd+1) u3 c c') ?_))
   cases h3:(c==c')
   ·simp only [Bool.not_false,if_true,pure_bind]
    exact Reads.pure _
   ·simp only [Bool.not_true,Bool.false_eq_true,if_false,pure_bind]
    exact Reads.pure _
end
section
variable {P:Program} {B:Array Obj} {m:Md P B} {ops:Array Oper} {l l' l'':List Value} {S h h' H:Hp} {C:List Value→Hp→Prop} {i:Nat} {kd:Kd} {r:List (Nat×Kd)}
 {d:Option Tmp} {ty:TypeId} {pos:String} {af:Array Edge} {g:Option (Nat×Bool)}
theorem k_neq3 {t u:TypeId} {x y:Operand} {a c e a' c' e':Int} (ho:ops[i]?=some ⟨d,.binOp .neq t x y u,ty,pos,af,g⟩) (hw:Wt ops l g) [kh:KHeap kd S h H] [ex:OpV l x (.agg [.int .i64 a,.int .i64 c,.int .i64 e].toArray)] [ey:OpV l y (.agg [.int .i64 a',.int .i64 c',.int .i64 e'].toArray)] [Key3T P t]
  (hg:P.eqGuardType P.depth t=false) [pt:PutV l d (.bool true) l'] [pf:PutV l d (.bool false) l''] (yes: ¬(a=a'∧c=c'∧e=e')→RegK m S ops r l' h C) (no:a=a'∧c=c'∧e=e'→RegK m S ops r l'' h C):RegK m S ops ((i,kd)::r) l h C:=by
 have he:=reads_eq3 (P:=P) (B:=B) (h:=H) 9997 (t:=t) a c e a' c' e'
 by_cases hx:a=a'∧c=c'∧e=e'
 ·have e2:(a==a'&&(c==c'&&e==e'))=true:=by simp [hx]
  rw [e2] at he
  haveI:PutV l d (.bool !true) l'':=pf
  exact k_neqG ho hw hg he (no hx)
 ·have e2:(a==a'&&(c==c'&&e==e'))=false:=by simpa using hx
  rw [e2] at he
  haveI:PutV l d (.bool !false) l':=pt
  exact k_neqG ho hw hg he (yes hx)
theorem k_neqSk {t u:TypeId} {x y:Operand} {a c a' c':Int} {e e':Bool} (ho:ops[i]?=some ⟨d,.binOp .neq t x y u,ty,pos,af,g⟩) (hw:Wt ops l g) [kh:KHeap kd S h H] [ex:OpV l x (.agg [.int .i64 a,.int .i64 c,.bool e].toArray)] [ey:OpV l y (.agg [.int .i64 a',.int .i64 c',.bool e'].toArray)] [KeyST P t]
  (hg:P.eqGuardType P.depth t=false) [pt:PutV l d (.bool true) l'] [pf:PutV l d (.bool false) l''] (yes: ¬(a=a'∧c=c'∧e=e')→RegK m S ops r l' h C) (no:a=a'∧c=c'∧e=e'→RegK m S ops r l'' h C):RegK m S ops ((i,kd)::r) l h C:=by
 have he:=reads_eqS (P:=P) (B:=B) (h:=H) 9997 (t:=t) a c a' c' e e'
 by_cases hx:a=a'∧c=c'∧e=e'
 ·have e2:(a==a'&&(c==c'&&e==e'))=true:=by simp [hx]
  rw [e2] at he
  haveI:PutV l d (.bool !true) l'':=pf
  exact k_neqG ho hw hg he (no hx)
 ·have e2:(a==a'&&(c==c'&&e==e'))=false:=by simpa using hx
  rw [e2] at he
  haveI:PutV l d (.bool !false) l':=pt
  exact k_neqG ho hw hg he (yes hx)
end
end Go.Lo
namespace Go.Proofs
open Go.Lo
set_option maxRecDepth 100000
section
variable {H:Type} {enc:TypeId×Value→H} {w:World} {sp:Nat→Bool} {held:Bool}
theorem sp_arg {r:Reach} {b0:Nat} {v:Value} {d:DataW H} {ps:List MemPlace} (hv:Value.okWide Tryz.prog w r b0 46 v) (h:DataW.Trod enc Tryz.prog w 0 sp held 46 v d ps):
  ∃lo hi:Int,v= .agg [.int .i64 lo,.int .i64 hi].toArray:=by
 obtain ⟨fs,hu,hfs⟩: ∃fs,Tryz.prog.underlying 46=some (.struct fs)∧fs.toList.map (fun f=>(f.offset,f.type))=[(0,3),(1,3)]:=⟨_,Tryz.underlying46,by kernel_rfl⟩
 have h3: Tryz.prog.underlying 3=some (.int .i64):=by kernel_rfl
 unfold Value.okWide at hv
 rw [hu] at hv
 obtain ⟨cs,rfl,hsz,_⟩:=hv
 obtain ⟨fuel,h⟩:=h
 obtain ⟨xs,m,_,_,hl,hxl,hx⟩:=DataW.trod_struct hu h
 have hl2:cs.size=2:=hsz.trans (by kernel_rfl)
 obtain ⟨cl⟩:=cs
 obtain ⟨c0,c1,rfl⟩: ∃c0 c1,cl=[c0,c1]:=by
  match cl,(show cl.length=2 from hl2) with
  |[c0,c1],_=>exact ⟨_,_,rfl⟩
 obtain ⟨f0,f1,rfl⟩: ∃f0 f1,fs= #[f0,f1]:=by
  obtain ⟨fl⟩:=fs
  have hlen:fl.length=2:=by simpa using congrArg List.length hfs
  match fl,hlen with
  |[f0,f1],_=>exact ⟨_,_,rfl⟩
 simp only [List.map_cons,List.map_nil,List.cons.injEq,Prod.mk.injEq,and_true] at hfs
 obtain ⟨⟨o0,t0⟩,o1,t1⟩:=hfs
 have s3: Tryz.prog.cellsOf 3=1:=by kernel_rfl
 have go: ∀i,i<2→ ∃y,xs[i]?=some y:=fun i hi=>⟨_,List.getElem?_eq_getElem (by rw [hxl];exact hi)⟩
 obtain ⟨y0,e0⟩:=go 0 (by omega)
 obtain ⟨y1,e1⟩:=go 1 (by omega)
 have g0:=(hx 0 f0 rfl).trans e0
 have g1:=(hx 1 f1 rfl).trans e1
 rw [t0,o0,s3] at g0
 rw [t1,o1,s3] at g1
 obtain ⟨n0,q0,_,w0⟩:=DataW.trod_int h3 g0
 obtain ⟨n1,q1,_,w1⟩:=DataW.trod_int h3 g1
 obtain rfl:=List.head_eq_of_cons_eq (show [c0]=[Value.int .i64 n0] from q0)
 obtain rfl:=List.head_eq_of_cons_eq (show [c1]=[Value.int .i64 n1] from q1)
 exact ⟨n0,n1,rfl⟩
theorem tp_arg {r:Reach} {b0:Nat} {v:Value} {d:DataW H} {ps:List MemPlace} (hv:Value.okWide Tryz.prog w r b0 99 v) (h:DataW.Trod enc Tryz.prog w 0 sp held 99 v d ps):
  ∃x:Tp,v=tpV x:=by
 obtain ⟨fs,hu,hfs⟩: ∃fs,Tryz.prog.underlying 99=some (.struct fs)∧fs.toList.map (fun f=>(f.offset,f.type))=[(0,3),(1,3),(2,46)]:=⟨_,Tryz.underlying99,by kernel_rfl⟩
 obtain ⟨gs,hu2,hgs⟩: ∃fs,Tryz.prog.underlying 46=some (.struct fs)∧fs.toList.map (fun f=>(f.offset,f.type))=[(0,3),(1,3)]:=⟨_,Tryz.underlying46,by kernel_rfl⟩
 have h3: Tryz.prog.underlying 3=some (.int .i64):=by kernel_rfl
 unfold Value.okWide at hv
 rw [hu] at hv
 obtain ⟨cs,rfl,hsz,_⟩:=hv
 obtain ⟨fuel,h⟩:=h
 obtain ⟨xs,m,_,_,hl,hxl,hx⟩:=DataW.trod_struct hu h
 have hl2:cs.size=4:=hsz.trans (by kernel_rfl)
 obtain ⟨cl⟩:=cs
 obtain ⟨c0,c1,c2,c3,rfl⟩: ∃c0 c1 c2 c3,cl=[c0,c1,c2,c3]:=by
  match cl,(show cl.length=4 from hl2) with
  |[c0,c1,c2,c3],_=>exact ⟨_,_,_,_,rfl⟩
 obtain ⟨f0,f1,f2,rfl⟩: ∃f0 f1 f2,fs= #[f0,f1,f2]:=by
  obtain ⟨fl⟩:=fs
  have hlen:fl.length=3:=by simpa using congrArg List.length hfs
  match fl,hlen with
  |[f0,f1,f2],_=>exact ⟨_,_,_,rfl⟩
 obtain ⟨f3,f4,rfl⟩: ∃f0 f1,gs= #[f0,f1]:=by
  obtain ⟨fl⟩:=gs
  have hlen:fl.length=2:=by simpa using congrArg List.length hgs
  match fl,hlen with
  |[f0,f1],_=>exact ⟨_,_,rfl⟩
 simp only [List.map_cons,List.map_nil,List.cons.injEq,Prod.mk.injEq,and_true] at hfs hgs
 obtain ⟨⟨o0,t0⟩,⟨o1,t1⟩,o2,t2⟩:=hfs
 obtain ⟨⟨o3,t3⟩,o4,t4⟩:=hgs
 have s3: Tryz.prog.cellsOf 3=1:=by kernel_rfl
 have s46: Tryz.prog.cellsOf 46=2:=by kernel_rfl
 have go: ∀i,i<3→ ∃y,xs[i]?=some y:=fun i hi=>⟨_,List.getElem?_eq_getElem (by rw [hxl];exact hi)⟩
 obtain ⟨y0,e0⟩:=go 0 (by omega)
 obtain ⟨y1,e1⟩:=go 1 (by omega)
 obtain ⟨y2,e2⟩:=go 2 (by omega)
 have g0:=(hx 0 f0 rfl).trans e0
 have g1:=(hx 1 f1 rfl).trans e1
 have g2:=(hx 2 f2 rfl).trans e2
 rw [t0,o0,s3] at g0
 rw [t1,o1,s3] at g1
 rw [t2,o2,s46] at g2
 obtain ⟨n0,q0,_,w0⟩:=DataW.trod_int h3 g0
 obtain ⟨n1,q1,_,w1⟩:=DataW.trod_int h3 g1
 obtain ⟨ys,m2,_,_,hl3,hyl,hy⟩:=DataW.trod_struct hu2 g2
 have go2: ∀i,i<2→ ∃y,ys[i]?=some y:=fun i hi=>⟨_,List.getElem?_eq_getElem (by rw [hyl];exact hi)⟩
 obtain ⟨y3,e3⟩:=go2 0 (by omega)
 obtain ⟨y4,e4⟩:=go2 1 (by omega)
 have g3:=(hy 0 f3 rfl).trans e3
 have g4:=(hy 1 f4 rfl).trans e4
 rw [t3,o3,s3] at g3
 rw [t4,o4,s3] at g4
 obtain ⟨n3,q3,_,w3⟩:=DataW.trod_int h3 g3
 obtain ⟨n4,q4,_,w4⟩:=DataW.trod_int h3 g4
 obtain rfl:=List.head_eq_of_cons_eq (show [c0]=[Value.int .i64 n0] from q0)
 obtain rfl:=List.head_eq_of_cons_eq (show [c1]=[Value.int .i64 n1] from q1)
 obtain rfl:=List.head_eq_of_cons_eq (show [c2]=[Value.int .i64 n3] from q3)
 obtain rfl:=List.head_eq_of_cons_eq (show [c3]=[Value.int .i64 n4] from q4)
 exact ⟨⟨n0,n1,n3,n4⟩,rfl⟩
theorem sk_arg {r:Reach} {b0:Nat} {v:Value} {d:DataW H} {ps:List MemPlace} (hv:Value.okWide Tryz.prog w r b0 73 v) (h:DataW.Trod enc Tryz.prog w 0 sp held 73 v d ps):
  ∃x:Sk,v=skV x:=by
 obtain ⟨fs,hu,hfs⟩: ∃fs,Tryz.prog.underlying 73=some (.struct fs)∧fs.toList.map (fun f=>(f.offset,f.type))=[(0,3),(1,3),(2,4)]:=⟨_,Tryz.underlying73,by kernel_rfl⟩
 have h3: Tryz.prog.underlying 3=some (.int .i64):=by kernel_rfl
 have h4: Tryz.prog.underlying 4=some .bool:=by kernel_rfl
 unfold Value.okWide at hv
 rw [hu] at hv
 obtain ⟨cs,rfl,hsz,_⟩:=hv
 obtain ⟨fuel,h⟩:=h
 obtain ⟨xs,m,_,_,hl,hxl,hx⟩:=DataW.trod_struct hu h
 have hl2:cs.size=3:=hsz.trans (by kernel_rfl)
 obtain ⟨cl⟩:=cs
 obtain ⟨c0,c1,c2,rfl⟩: ∃c0 c1 c2,cl=[c0,c1,c2]:=by
  match cl,(show cl.length=3 from hl2) with
  |[c0,c1,c2],_=>exact ⟨_,_,_,rfl⟩
 obtain ⟨f0,f1,f2,rfl⟩: ∃f0 f1 f2,fs= #[f0,f1,f2]:=by
  obtain ⟨fl⟩:=fs
  have hlen:fl.length=3:=by simpa using congrArg List.length hfs
  match fl,hlen with
  |[f0,f1,f2],_=>exact ⟨_,_,_,rfl⟩
 simp only [List.map_cons,List.map_nil,List.cons.injEq,Prod.mk.injEq,and_true] at hfs
 obtain ⟨⟨o0,t0⟩,⟨o1,t1⟩,o2,t2⟩:=hfs
 have s3: Tryz.prog.cellsOf 3=1:=by kernel_rfl
 have s4: Tryz.prog.cellsOf 4=1:=by kernel_rfl
 have go: ∀i,i<3→ ∃y,xs[i]?=some y:=fun i hi=>⟨_,List.getElem?_eq_getElem (by rw [hxl];exact hi)⟩
 obtain ⟨y0,e0⟩:=go 0 (by omega)
 obtain ⟨y1,e1⟩:=go 1 (by omega)
 obtain ⟨y2,e2⟩:=go 2 (by omega)
 have g0:=(hx 0 f0 rfl).trans e0
 have g1:=(hx 1 f1 rfl).trans e1
 have g2:=(hx 2 f2 rfl).trans e2
 rw [t0,o0,s3] at g0
 rw [t1,o1,s3] at g1
 rw [t2,o2,s4] at g2
 obtain ⟨n0,q0,_,w0⟩:=DataW.trod_int h3 g0
 obtain ⟨n1,q1,_,w1⟩:=DataW.trod_int h3 g1
 obtain ⟨n2,q2,_⟩:=DataW.trod_bool h4 g2
 obtain rfl:=List.head_eq_of_cons_eq (show [c0]=[Value.int .i64 n0] from q0)
 obtain rfl:=List.head_eq_of_cons_eq (show [c1]=[Value.int .i64 n1] from q1)
 obtain rfl:=List.head_eq_of_cons_eq (show [c2]=[Value.bool n2] from q2)
 exact ⟨⟨n0,n1,n2⟩,rfl⟩
end
end Go.Proofs
namespace Go.Proofs
open Go.Lo
open Go.Conc (G)
set_option maxRecDepth 100000
set_option synthInstance.maxSize 100000
set_option synthInstance.maxHeartbeats 1000000
set_option maxHeartbeats 4000000
variable {B:Array Obj}
theorem f80_c (m:Md Tryz.prog B) (h:Hp) (a b c d:Int):FnC m 80 #[.agg [.int .i64 a,.int .i64 b].toArray,.agg [.int .i64 c,.int .i64 d].toArray] h fun v h'=>h'=h∧v= .agg [.int .i64 (max a c),.int .i64 (min b d)].toArray:=by
 refine fn_enter Tryz.func80 rfl rfl (l:=(.agg [.int .i64 a,.int .i64 b].toArray)::(.agg [.int .i64 c,.int .i64 d].toArray)::uu14) rfl ?_
 intro cf cs K hK
 refine rs3 ?_;refine k_box rfl zq (fun q2=>k_hp (k_put ?_));refine k_box rfl zq (fun q3=>k_hp (k_put ?_));refine k_new rfl zq (fun q4=>k_hp (k_put ?_));refine k_nil ?_;refine rs12 ?_;refine d2 ?_;refine d2 ?_;refine k_max rfl zq ?_;refine d2 ?_;refine d2 ?_;refine k_min rfl zq ?_;refine k_bld rfl zq ?_;refine d91 ?_;refine run_res (h) rfl Tryz.func80 rfl weakSub ?_;refine hK _ _ ?_;exact ⟨rfl,rfl⟩
theorem getD_drop (xs:List Int) (k:Nat) (h:k<xs.length):xs.drop k=xs.getD k 0::xs.drop (k+1):=by
 rw [List.drop_eq_getElem_cons h,List.getD_eq_getElem?_getD,List.getElem?_eq_getElem h];rfl
theorem f142_c (m:Md Tryz.prog B) (h:Hp) {p p2:Option Addr} {n c n2 c2:Nat} {xs ys:List Int} (rd:RdS B h 1 (.slice p n c) n (ints xs)) (hn:n≤1000000) (rd2:RdS B h 1 (.slice p2 n2 c2) n2 (ints ys)):FnC m 142 #[.slice p n c,.slice p2 n2 c2] h fun v h'=>h'=h∧IsB (before xs ys=true) v:=by
 have hl:=rd.ilen
 have hl2:=rd2.ilen
 refine fn_enter Tryz.func142 rfl rfl (l:=[.slice p n c,.slice p2 n2 c2,undef,undef,undef,undef,undef,undef,undef,undef,undef,undef,undef,undef,undef,undef,undef,undef,undef,undef,undef,undef,undef,undef,undef,undef,undef,undef,undef,undef,undef,undef,undef,undef,undef,undef,undef,undef,undef,undef,undef]) rfl ?_
 intro cf cs K hK
 refine d93 ?_;refine d142 ?_
 refine run_loop (fun nn l h'=> ∃(k:Nat),nn=n-k∧(k≤n)∧(k≤n2)∧(before xs ys=before (xs.drop k) (ys.drop k))∧(∃U:Nat→Value,l=((.slice p n c)::(.slice p2 n2 c2)::(U 2)::(U 3)::(U 4)::(.int .i64 (k:Int))::(U 6)::vw34 U 7 []))∧h=h') _ ⟨0,rfl,by omega,by omega,rfl,exU rfl,rfl⟩ ?_;rintro nn l h' ⟨k,rfl,hk,hk2,he,⟨U,rfl⟩,rfl⟩ hnext;refine run_seq ?_;refine rs10 ?_;refine d3 ?_;refine k_len rfl zq ?_;refine k_lssS rfl zq (fun hc=>?_) (fun hc=>?_)
 ·refine d23 ?_;refine k_mv rfl rfl ?_;refine k_len rfl rfl ?_
  refine k_lssS rfl rfl (fun hc=>?_) (fun hc=>?_)
  ·refine k_pickT rfl zq ?_;refine d98 ?_;refine run_seq ?_;refine run_draw [(0,.pure),(1,.pure),(2,.pure),(4,.pure),(5,.pure),(6,.pure),(3,.read),(7,.read),(8,.pure)] (by kernel_rfl) (by kernel_rfl) (List.Sublist.refl _) ?_;refine d3 ?_
   obtain ⟨rd_b,rd_o,rfl⟩:=rd.ptr (by omega)
   refine k_ixs rfl zq (by first|rfl|assumption) (by omega) (by omega) ?_;refine d3 ?_;obtain ⟨rd2_b,rd2_o,rfl⟩:=rd2.ptr (by omega)
   refine k_ixs rfl zq (by first|rfl|assumption) (by omega) (by omega) ?_;refine k_ld rfl zq (rd.iat k (by omega) (by omega)) ?_;refine k_ld rfl zq (rd2.iat k (by omega) (by omega)) ?_;refine k_neqS rfl zq (fun hc=>?_) (fun hc=>?_)
   ·refine d7 ?_;refine run_seq ?_
    refine run_draw [(0,.pure),(1,.pure),(2,.pure),(4,.pure),(5,.pure),(6,.pure),(3,.read),(7,.read),(8,.pure),(9,.pure)] (by kernel_rfl) (by kernel_rfl) (List.Sublist.refl _) ?_;refine d11 ?_;refine d11 ?_
    refine k_ld rfl zq (rd.iat k (by omega) (by omega)) ?_;refine k_ld rfl zq (rd2.iat k (by omega) (by omega)) ?_;refine k_lssS rfl zq (fun hc=>?_) (fun hc=>?_)
    ·refine d0 ?_
     refine run_res (h) rfl Tryz.func142 rfl weakSub ?_;refine hK _ _ ?_;exact ⟨rfl,IsB.yes (by rw [he,getD_drop xs k (by omega),getD_drop ys k (by omega),before,if_neg (by assumption)];exact decide_eq_true (by assumption))⟩
    ·refine d0 ?_
     refine run_res (h) rfl Tryz.func142 rfl weakSub ?_;refine hK _ _ ?_;exact ⟨rfl,IsB.no (by rw [he,getD_drop xs k (by omega),getD_drop ys k (by omega),before,if_neg (by assumption)];rw [decide_eq_true_iff];omega)⟩
   ·refine d13 ?_;refine d109 ?_
    exact m.weak weakSub (hnext _ _ _ (by omega) ⟨k+1,rfl,by omega,by omega,by
     rw [he,getD_drop xs k (by omega),getD_drop ys k (by omega),before,if_pos (by assumption)],exU rfl,rfl⟩)
  ·refine d73 ?_;refine d22 ?_;refine rs6 ?_;refine mq rfl ?_;refine d67 ?_;refine k_len rfl zq ?_
   refine k_lssS rfl zq (fun hc=>?_) (fun hc=>?_)
   ·refine d0 ?_
    refine run_res (h) rfl Tryz.func142 rfl weakSub ?_;refine hK _ _ ?_;first|exact ⟨rfl,IsB.yes (by rw [he,List.drop_eq_nil_of_le (by omega),getD_drop ys k (by omega)];rfl)⟩|exact ⟨rfl,IsB.no (by rw [he,show ys.drop k=[] from List.drop_eq_nil_of_le (by omega)];cases xs.drop k<;>simp [before])⟩
   ·refine d0 ?_
    refine run_res (h) rfl Tryz.func142 rfl weakSub ?_;refine hK _ _ ?_;first|exact ⟨rfl,IsB.yes (by rw [he,List.drop_eq_nil_of_le (by omega),getD_drop ys k (by omega)];rfl)⟩|exact ⟨rfl,IsB.no (by rw [he,show ys.drop k=[] from List.drop_eq_nil_of_le (by omega)];cases xs.drop k<;>simp [before])⟩
 ·refine d66 ?_;refine k_pickF rfl zq ?_;refine d75 ?_;refine rs6 ?_;refine mq rfl ?_;refine d67 ?_;refine k_len rfl zq ?_
  refine k_lssS rfl zq (fun hc=>?_) (fun hc=>?_)
  ·refine d0 ?_
   refine run_res (h) rfl Tryz.func142 rfl weakSub ?_;refine hK _ _ ?_;first|exact ⟨rfl,IsB.yes (by rw [he,List.drop_eq_nil_of_le (by omega),getD_drop ys k (by omega)];rfl)⟩|exact ⟨rfl,IsB.no (by rw [he,show ys.drop k=[] from List.drop_eq_nil_of_le (by omega)];cases xs.drop k<;>simp [before])⟩
  ·refine d0 ?_
   refine run_res (h) rfl Tryz.func142 rfl weakSub ?_;refine hK _ _ ?_;first|exact ⟨rfl,IsB.yes (by rw [he,List.drop_eq_nil_of_le (by omega),getD_drop ys k (by omega)];rfl)⟩|exact ⟨rfl,IsB.no (by rw [he,show ys.drop k=[] from List.drop_eq_nil_of_le (by omega)];cases xs.drop k<;>simp [before])⟩
theorem f67_c (m:Md Tryz.prog B) (h:Hp) {p p2:Option Addr} {n c n2 c2:Nat} {xs ys:List Int} (rd:RdS B h 1 (.slice p n c) n (ints xs)) (hn:n≤1000000) (rd2:RdS B h 1 (.slice p2 n2 c2) n2 (ints ys)):FnC m 67 #[.slice p n c,.slice p2 n2 c2] h fun v h'=>h'=h∧IsB (fewer xs ys) v:=by
 have hl:=rd.ilen
 have hl2:=rd2.ilen
 refine fn_enter Tryz.func67 rfl rfl (l:=(.slice p n c)::(.slice p2 n2 c2)::uu20) rfl ?_
 intro cf cs K hK
 refine d93 ?_
 refine run_region [(0,.free),(1,.free),(2,.free),(3,.free),(4,.free),(5,.free),(6,.free),(7,.free),(8,.free),(9,.free),(10,.free),(11,.free),(12,.free),(13,.free),(14,.free),(15,.free),(16,.free),(17,.free)] (by kernel_rfl) (by kernel_rfl) ?_;refine mq rfl ?_;refine d67 ?_;refine k_len rfl zq ?_
 refine k_lssS rfl zq (fun hc=>?_) (fun hc=>?_)
 ·refine d115 ?_;refine d5 ?_;refine d92 ?_
  refine run_res (h) rfl Tryz.func67 rfl weakSub ?_;refine hK _ _ ?_;unfold fewer
  rw [hl,hl2];first|exact ⟨rfl,IsB.yes (.inl (by omega))⟩|exact ⟨rfl,IsB.yes (.inr ⟨by omega,by assumption⟩)⟩|exact ⟨rfl,IsB.no (by rintro (h1|⟨h1,h2⟩)<;>first|omega|contradiction)⟩
 ·refine d23 ?_;refine k_len rfl rfl ?_;refine k_mv rfl rfl ?_;refine k_len rfl rfl ?_
  refine k_eqlS rfl rfl (fun hc=>?_) (fun hc=>?_)
  ·refine k_mv rfl rfl ?_;refine k_mv rfl rfl ?_;refine k_mv rfl rfl ?_;refine k_calP (Post:=fun v=>IsB _ v) rfl rfl (by kernel_rfl) (fun H' hH=>f142_c m H' (rd.keeps hH) hn (rd2.keeps hH)) ?_;rintro v (⟨hc,rfl⟩|⟨hc,rfl⟩)
   ·refine k_put ?_;refine k_pickT rfl rfl ?_;refine d108 ?_;refine run_res (h) rfl Tryz.func67 rfl weakSub ?_;refine hK _ _ ?_;unfold fewer
    rw [hl,hl2];first|exact ⟨rfl,IsB.yes (.inl (by omega))⟩|exact ⟨rfl,IsB.yes (.inr ⟨by omega,by assumption⟩)⟩|exact ⟨rfl,IsB.no (by rintro (h1|⟨h1,h2⟩)<;>first|omega|contradiction)⟩
   ·refine k_put ?_;refine k_pickT rfl rfl ?_;refine d108 ?_;refine run_res (h) rfl Tryz.func67 rfl weakSub ?_;refine hK _ _ ?_;unfold fewer
    rw [hl,hl2];first|exact ⟨rfl,IsB.yes (.inl (by omega))⟩|exact ⟨rfl,IsB.yes (.inr ⟨by omega,by assumption⟩)⟩|exact ⟨rfl,IsB.no (by rintro (h1|⟨h1,h2⟩)<;>first|omega|contradiction)⟩
  ·refine k_mv rfl rfl ?_;refine d5 ?_;refine k_off rfl rfl ?_;refine k_pickF rfl rfl ?_;refine d108 ?_;refine run_res (h) rfl Tryz.func67 rfl weakSub ?_;refine hK _ _ ?_;unfold fewer
   rw [hl,hl2];first|exact ⟨rfl,IsB.yes (.inl (by omega))⟩|exact ⟨rfl,IsB.yes (.inr ⟨by omega,by assumption⟩)⟩|exact ⟨rfl,IsB.no (by rintro (h1|⟨h1,h2⟩)<;>first|omega|contradiction)⟩
theorem f188_c (m:Md Tryz.prog B) (h:Hp) (z:Nat) (hz:z≤1000):FnC m 188 #[.int .i64 (z:Int)] h fun v h'=> ∃new,h'=h++new∧OwnS 3 1 v z (ints (firsts z)) new:=by
 refine fn_enter Tryz.func188 rfl rfl (l:=(.int .i64 (z:Int))::uu14) rfl ?_
 intro cf cs K hK
 refine d82 ?_;refine d93 ?_;refine d142 ?_
 refine run_loop (fun nn l h'=> ∃(k:Nat) (w:Value) (new:Hp),nn=z-k∧(k≤z)∧(OwnS 3 1 w k (ints (firsts k)) new)∧(∃U:Nat→Value,l=((.int .i64 (z:Int))::(U 1)::(U 2)::w::(.int .i64 (k:Int))::vw10 U 5 []))∧h++new=h') _ ⟨0,_,[],rfl,by omega,OwnS.nil,exU rfl,(by simp)⟩ ?_;rintro nn l h' ⟨k,w,new,rfl,hk,ho,⟨U,rfl⟩,rfl⟩ hnext;refine run_seq ?_;refine rs3 ?_;refine d3 ?_;refine k_lssS rfl zq (fun hc=>?_) (fun hc=>?_)
 ·refine d98 ?_;refine rr5 ?_;refine d3 ?_
  refine k_bs kdq rfl zq (by decide) (by decide) rfl (fun q12=>k_hp (k_put ?_));refine k_app1 (F:=h) rfl zq rfl ho kdq (by omega) (by omega) (fun w2 new2 ho2=>k_put ?_);rw [show ints (firsts k)++[Value.int .i64 (k:Int)]=ints (firsts (k+1)) by rw [firsts_succ,ints_append];rfl] at ho2
  refine d45 ?_;refine rr3 ?_;refine d61 ?_
  exact m.weak weakSub (hnext _ _ _ (by omega) ⟨k+1,_,_,rfl,by omega,ho2,exU rfl,rfl⟩)
 ·refine d75 ?_;refine d99 ?_
  refine run_res (h++new) rfl Tryz.func188 rfl weakSub ?_;refine hK _ _ ?_;obtain rfl:k=z:=by omega
  exact ⟨_,rfl,ho⟩
def RdLL (B:Array Obj) (h:Hp) (v:Value) (ll:List (List Int)):Prop:= ∃p c vs,v= .slice p ll.length c∧RdS B h 1 (.slice p ll.length c) ll.length vs∧RdE B h vs ll
section
variable {P:Program} {B:Array Obj} {m:Md P B} {ops:Array Oper} {l l':List Value} {S h h' H:Hp} {C:List Value→Hp→Prop} {i:Nat} {kd:Kd} {r:List (Nat×Kd)}
 {d:Option Tmp} {ty:TypeId} {pos:String} {af:Array Edge} {g:Option (Nat×Bool)}
end
section
variable {P:Program} {B:Array Obj} {m:Md P B} {ops:Array Oper} {l l':List Value} {S h h' H:Hp} {C:List Value→Hp→Prop} {i:Nat} {kd:Kd} {r:List (Nat×Kd)}
 {d:Option Tmp} {ty:TypeId} {pos:String} {af:Array Edge} {g:Option (Nat×Bool)}
end
def subsL:Nat→List (List Int)
 |0=>[[]]
 |i+1=>subsL i++(subsL i).map (· ++[(i:Int)])
def subP (i k:Nat):List (List Int):=subsL i++((subsL i).take k).map (· ++[(i:Int)])
theorem subsL_length: ∀n,(subsL n).length=2^n
 |0=>rfl
 |n+1=>by
  rw [subsL,List.length_append,List.length_map,subsL_length n];omega
theorem subP_zero (i:Nat):subP i 0=subsL i:=by unfold subP;rw [List.take_zero,List.map_nil,List.append_nil]
theorem subP_all (i:Nat):subP i (subsL i).length=subsL (i+1):=by unfold subP;rw [List.take_length];rfl
theorem subP_succ {i k:Nat} (h:k<(subsL i).length):subP i (k+1)=subP i k++[(subsL i).getD k []++[(i:Int)]]:=by
 unfold subP
 rw [take_snocL _ _ h,List.map_append,←List.append_assoc];rfl
theorem subP_length {i k:Nat} (h:k≤(subsL i).length):(subP i k).length=(subsL i).length+k:=by
 unfold subP
 rw [List.length_append,List.length_map,List.length_take];omega
theorem subP_at {i k j:Nat} (h:j<(subsL i).length):(subP i k).getD j []=(subsL i).getD j []:=by
 unfold subP
 rw [List.getD_eq_getElem?_getD,List.getElem?_append_left h,←List.getD_eq_getElem?_getD]
theorem asc_snoc {xs:List Int} {n:Int} (h:Asc xs) (hx: ∀x∈xs,x<n):Asc (xs++[n]):=
 List.pairwise_append.2 ⟨h,List.pairwise_singleton _ _,fun a ha b hb=>by rw [List.mem_singleton.1 hb];exact hx a ha⟩
theorem subs_asc: ∀n:Nat,∀xs∈subsL n,Asc xs∧(∀x∈xs,0≤x∧x<n)∧xs.length≤n
 |0,xs,h=>by
  rw [subsL,List.mem_singleton] at h
  subst h
  exact ⟨List.Pairwise.nil,fun x hx=>by simp at hx,Nat.le_refl _⟩
 |n+1,xs,h=>by
  rw [subsL,List.mem_append] at h
  rcases h with h|h
  ·obtain ⟨h1,h2,h3⟩:=subs_asc n xs h
   exact ⟨h1,fun x hx=>by have:=h2 x hx;omega,by omega⟩
  ·obtain ⟨ys,hy,rfl⟩:=List.mem_map.1 h
   obtain ⟨h1,h2,h3⟩:=subs_asc n ys hy
   refine ⟨asc_snoc h1 fun x hx=>(h2 x hx).2,fun x hx=>?_,by rw [List.length_append];simp only [List.length_cons,List.length_nil];omega⟩
   rcases List.mem_append.1 hx with hx|hx
   ·have:=h2 x hx;omega
   ·rw [List.mem_singleton.1 hx];omega
theorem subs_len {i k:Nat} (h:k<(subsL i).length):((subsL i).getD k []).length≤i:=(subs_asc i _ (mem_getDR.2 ⟨k,h,rfl⟩)).2.2
theorem firsts_at {n i:Nat} (h:i<n):(firsts n).getD i 0=(i:Int):=by
 unfold firsts
 rw [List.getD_eq_getElem?_getD,List.getElem?_map,List.getElem?_range h];rfl
theorem root_step {n k s:Nat} (h1:k*k≤n) (h2:n<(k+2*s)*(k+2*s)):(((k+s)*(k+s)≤n)→(k+s)*(k+s)≤n∧n<(k+s+s)*(k+s+s))∧(¬(k+s)*(k+s)≤n→k*k≤n∧n<(k+s)*(k+s)):=
 ⟨fun h=>⟨h,by rw [show k+s+s=k+2*s by omega];exact h2⟩,fun h=>⟨h1,by omega⟩⟩
theorem sum_cast (k s:Nat):((k:Int)+(s:Int))*((k:Int)+(s:Int))=(((k+s)*(k+s):Nat):Int):=by rw [Int.natCast_mul];rfl
theorem half_pow {s e:Nat} (hs:s=2^(e-1)) (h1:1≤e) (h2:e≤21):(s/2=0∧s=1∧e-1=0)∨(s=2*(s/2)∧s/2=2^(e-1-1)∧1≤e-1∧e-1≤21):=by
 by_cases he:e=1
 ·subst he
  subst hs
  exact .inl (by decide)
 ·obtain ⟨d,rfl⟩: ∃d,e=d+2:=⟨e-2,by omega⟩
  have:2^(d+2-1)=2*2^d:=by rw [show d+2-1=d+1 by omega,Nat.pow_succ,Nat.mul_comm]
  rw [hs,this];exact .inr ⟨by omega,by rw [show d+2-1-1=d by omega];omega,by omega,by omega⟩
theorem f85_c (m:Md Tryz.prog B) (h:Hp) (n:Nat) (hn:n≤4000000):FnC m 85 #[.int .i64 (n:Int)] h fun v h'=>h'=h∧v= .int .i64 (rootI n):=by
 refine fn_enter Tryz.func85 rfl rfl (l:=(.int .i64 (n:Int))::uu21) rfl ?_
 intro cf cs K hK
 refine d82 ?_;refine d93 ?_;refine d142 ?_
 refine run_loop (fun nn l h'=> ∃(k s w:Nat) (e:Nat),nn=e*1∧(k*k≤n)∧(n<(k+w)*(k+w))∧(k≤2000)∧((s=0∧w=1∧e=0)∨(w=2*s∧s=2^(e-1)∧1≤e∧e≤21))∧(∃U:Nat→Value,l=((.int .i64 (n:Int))::(U 1)::(U 2)::(.int .i64 (k:Int))::(.int .i64 (s:Int))::vw17 U 5 []))∧h=h') _ ⟨0,1048576,2097152,21,rfl,by omega,by omega,by omega,.inr (by decide),exU rfl,rfl⟩ ?_;rintro nn l h' ⟨k,s,w,e,rfl,hk,hkw,hk2,hse,⟨U,rfl⟩,rfl⟩ hnext;have hs20:s≤1048576:=by
  rcases hse with ⟨rfl,_⟩|⟨_,rfl,_,he⟩
  ·omega
  ·exact Nat.pow_le_pow_right (n:=2) (by omega) (show e-1≤20 by omega)
 have hsq:(k+s)*(k+s)≤1100000*1100000:=sq_le (by omega)
 have hkc:=sum_cast k s
 refine run_seq ?_;refine d18 ?_;refine k_gtrS rfl zq (fun hc=>?_) (fun hc=>?_)
 ·refine d98 ?_;refine rs9 ?_;refine d3 ?_;refine k_add rfl zq (by unfold In64;omega) ?_;refine d3 ?_;refine k_add rfl zq (by unfold In64;omega) ?_;refine k_mul rfl zq (by unfold In64;omega) ?_;refine mq rfl ?_
  refine k_leqS rfl zq (fun hc=>?_) (fun hc=>?_)
  ·refine d7 ?_;refine rr4 ?_;refine d3 ?_;refine k_add rfl zq (by unfold In64;omega) ?_;refine d45 ?_;refine rr3 ?_;refine mq rfl ?_
   refine k_quo s 2 rfl zq rfl rfl (by omega) (by omega) ?_;refine aq rfl ?_
   obtain ⟨rfl,hs,he1,he2⟩:=hse.resolve_left (by omega)
   have hrs:=(root_step hk hkw).1 (by omega)
   have hk2000:k+s≤2000:=by
    rcases Nat.lt_or_ge 2000 (k+s) with h3|h3
    ·have:=sq_le (show 2001≤k+s by omega);omega
    ·exact h3
   exact m.weak weakSub (hnext _ _ _ (by rcases hse with ⟨_,_,_⟩|⟨_,_,_,_⟩<;>omega) ⟨k+s,s/2,s,e-1,rfl,hrs.1,hrs.2,hk2000,half_pow hs he1 he2,exU rfl,rfl⟩)
  ·refine d13 ?_;refine d62 ?_;refine mq rfl ?_
   refine k_quo s 2 rfl zq rfl rfl (by omega) (by omega) ?_;refine aq rfl ?_
   obtain ⟨rfl,hs,he1,he2⟩:=hse.resolve_left (by omega)
   have hrs:=(root_step hk hkw).2 (by omega)
   exact m.weak weakSub (hnext _ _ _ (by rcases hse with ⟨_,_,_⟩|⟨_,_,_,_⟩<;>omega) ⟨k,s/2,s,e-1,rfl,hrs.1,hrs.2,hk2,half_pow hs he1 he2,exU rfl,rfl⟩)
 ·refine d75 ?_;refine d99 ?_
  refine run_res (h) rfl Tryz.func85 rfl weakSub ?_;refine hK _ _ ?_;obtain rfl:s=0:=by omega
  obtain ⟨_,rfl,_⟩:=hse.resolve_right (by rintro ⟨h1,h2,h3,_⟩;have:=Nat.pow_pos (n:=e-1) (show 0<2 by omega);omega)
  refine ⟨rfl,?_⟩
  rw [show rootI (n:Int)=(k:Int) by rw [rootI,Int.toNat_natCast,rootN_eq hk hkw]]
end Go.Proofs
namespace Go.Proofs
open Go.Lo
open Go.Conc (G)
set_option maxRecDepth 100000
set_option synthInstance.maxSize 100000
set_option synthInstance.maxHeartbeats 1000000
set_option maxHeartbeats 4000000
variable {b:Fb} {pp:Option Addr} {np cp:Nat} {pt:Option Addr} {nt ct:Nat} {pk:Option Addr} {nk ck:Nat}
variable {B:Array Obj}
section
variable {P:Program} {B:Array Obj} {m:Md P B} {ops:Array Oper} {l l':List Value} {S h h' H:Hp} {C:List Value→Hp→Prop} {i:Nat} {kd:Kd} {r:List (Nat×Kd)}
 {d:Option Tmp} {ty:TypeId} {pos:String} {af:Array Edge} {g:Option (Nat×Bool)}
end
theorem f155_c (m:Md Tryz.prog B) (h:Hp) (x y:Int) (hx: -10000000≤x∧x≤10000000) (hy:0<y∧y≤1000):FnC m 155 #[.int .i64 x,.int .i64 y] h fun v h'=>h'=h∧v= .int .i64 (downI x y):=by
 refine fn_enter Tryz.func155 rfl rfl (l:=(.int .i64 x)::(.int .i64 y)::uu15) rfl ?_
 intro cf cs K hK
 refine d82 ?_;refine d64 ?_
 have hds:=divs (x:=x) hy.1
 have hdb:=div_small (x:=x) hy.1 hx
 have hq: -10000001≤x.tdiv y∧x.tdiv y≤10000001:=by omega
 refine k_quoZ rfl zq (by omega) (by unfold In64;omega) ?_;refine d12 ?_;refine rs5 ?_;refine d3 ?_
 have hmb:=mulB hq (show-1000≤y∧y≤1000 by omega)
 have hme:(x.tdiv y)*y=x-x.tmod y:=by have:=Int.mul_tdiv_add_tmod x y;rw [Int.mul_comm] at this;omega
 refine k_mul rfl zq (by unfold In64;omega) ?_;refine mq rfl ?_;refine k_gtrS rfl zq (fun hc=>?_) (fun hc=>?_)
 ·refine d7 ?_;refine rr3 ?_;refine d36 ?_;refine aq rfl ?_;refine d99 ?_
  refine run_res (h) rfl Tryz.func155 rfl weakSub ?_;refine hK _ _ ?_;refine ⟨rfl,?_⟩
  unfold downI
  congr 2
  omega
 ·refine d13 ?_;refine d99 ?_
  refine run_res (h) rfl Tryz.func155 rfl weakSub ?_;refine hK _ _ ?_;refine ⟨rfl,?_⟩
  unfold downI
  congr 2
  omega
theorem f94_c (m:Md Tryz.prog B) (h:Hp) (rdp:Rp B h b pp np cp) (hp:np≤1000) {p:Option Addr} {n c:Nat} {xs:List Int} (rd:RdS B h 1 (.slice p n c) n (ints xs)) (hn:n≤1000) (hln:np≤n) (hpo:PtsOk b.pts) (hs:SmL xs) (x:Int) (hx:(b.pts.getD 0 default).h≤x∧x≤(b.pts.getD (np-1) default).h):FnC m 94 #[fbV b pp np cp pt nt ct pk nk ck,.slice p n c,.int .i64 x] h fun v h'=>h'=h∧v= .int .i64 (atI b.pts xs x):=by
 have hml:=rdp.elen (by decide)
 have hll:=rd.ilen
 have hnp2:=hpo.two
 have hnp5:=hpo.five
 refine fn_enter Tryz.func94 rfl rfl (l:=(fbV b pp np cp pt nt ct pk nk ck)::(.slice p n c)::(.int .i64 x)::uu54) rfl ?_
 intro cf cs K hK
 refine rs2 ?_;refine k_box rfl zq (fun q3=>k_hp (k_put ?_));refine aq rfl ?_;refine d93 ?_;refine run_block ?_
 refine run_loop (fun nn l h'=> ∃(i:Nat),nn=np-i∧(i+1<np)∧(∀k,k<i→(b.pts.getD (k+1) default).h<x)∧(∃U:Nat→Value,l=((fbV b pp np cp pt nt ct pk nk ck)::(.slice p n c)::(.int .i64 x)::(.pointer (some ⟨q3,0,none⟩))::(U 4)::(U 5)::(U 6)::(.int .i64 (i:Int))::(U 8)::vw48 U 9 []))∧h++[⟨true,q3,.cells (fbL b pp np cp pt nt ct pk nk ck).toArray 26 (0,0)⟩]=h') _ ⟨0,rfl,by omega,fun k hk=>by omega,exU rfl,rfl⟩ ?_;rintro nn l h' ⟨i,rfl,hi,hlow,⟨U,rfl⟩,rfl⟩ hnext;refine run_seq ?_;refine rs9 ?_;refine d2 ?_;refine d4 ?_;obtain ⟨rdp_b,rdp_o,rfl⟩:=rdp.ptr (by omega)
 refine d20 ?_
 refine k_ld rfl zq (rdp.fat (v:= .int .i64 (b.pts.getD (i+1) default).h) (i+1) 0 (by omega) (by omega) rfl) ?_;refine mq rfl ?_
 refine k_lssS rfl zq (fun hc=>?_) (fun hc=>?_)
 ·refine d7 ?_;refine d103 ?_;refine rr3 ?_;refine d4 ?_;refine d45 ?_
  exact m.weak weakSub (hnext _ _ _ (by omega) ⟨i+1,rfl,by
   rcases Nat.lt_or_ge (i+1+1) np with h3|h3
   ·exact h3
   ·have:np-1=i+1:=by omega
    rw [this] at hx
    omega,fun k hk=>by
   rcases Nat.lt_or_ge k i with h3|h3
   ·exact hlow k h3
   ·obtain rfl:k=i:=by omega
    assumption,exU rfl,rfl⟩)
 ·refine d75 ?_;refine run_seq ?_
  have hseg:segN b.pts x=i:=segN_eq (by omega) hlow (by omega)
  have ha:=hpo.at (show i<b.pts.length by omega)
  have hb:=hpo.at (show i+1<b.pts.length by omega)
  have hup:=hpo.up i (by omega)
  have hl0:=hs i
  have hl1:=hs (i+1)
  have hxi:(b.pts.getD i default).h≤x:=by
   rcases Nat.eq_zero_or_pos i with h3|h3
   ·rw [h3];exact hx.1
   ·have:=hlow (i-1) (by omega);rw [show i-1+1=i by omega] at this;omega
  have hmul:=mulB (x:=xs.getD (i+1) 0-xs.getD i 0) (y:=x-(b.pts.getD i default).h) (a:=959) (b:=959) (by omega) (by omega)
  refine run_draw [(0,.pure),(2,.pure),(6,.pure),(8,.pure),(9,.pure),(1,.read),(3,.pure),(4,.pure),(5,.read),(13,.pure),(7,.read),(10,.pure),(11,.pure),(12,.read),(14,.pure)] (by kernel_rfl) (by kernel_rfl) (List.Sublist.refl _) ?_;(first|refine k_fa0 rfl zq ?_|refine k_fa rfl zq ?_);refine mq rfl ?_;(first|refine k_fa0 rfl zq ?_|refine k_fa rfl zq ?_);refine d4 ?_;refine k_ldh rfl zq ?_;refine d20 ?_
  refine k_ld rfl zq (rdp.fat (v:= .int .i64 (b.pts.getD i default).h) i 0 (by omega) (by omega) rfl) ?_;refine k_as rfl zq ?_;refine k_ldh rfl zq ?_;refine d20 ?_;refine k_ld rfl zq (rdp.fat (v:= .int .i64 (b.pts.getD (i+1) default).h) (i+1) 0 (by omega) (by omega) rfl) ?_;refine d12 ?_
  refine run_draw [(0,.pure),(1,.pure),(2,.pure),(4,.pure),(5,.pure),(6,.pure),(7,.pure),(9,.pure),(10,.pure),(11,.pure),(14,.pure),(15,.pure),(16,.pure),(18,.pure),(19,.pure),(20,.pure),(3,.read),(8,.read),(12,.read),(13,.pure),(17,.pure),(21,.keep),(22,.pure),(23,.pure)] (by kernel_rfl) (by kernel_rfl) (List.Sublist.refl _) ?_;refine d3 ?_
  obtain ⟨rd_b,rd_o,rfl⟩:=rd.ptr (by omega)
  refine k_ixs rfl zq (by first|rfl|assumption) (by omega) (by omega) ?_;refine d3 ?_;refine k_add rfl zq (by unfold In64;omega) ?_;refine k_ixs rfl zq (by first|rfl|assumption) (by omega) (by omega) ?_;refine d11 ?_;refine d26 ?_;refine d26 ?_;refine k_ld rfl zq (rd.iat i (by omega) (by omega)) ?_;refine k_ld rfl zq (rd.iat (i+1) (by omega) (by omega)) ?_;refine k_ld rfl zq (rd.iat i (by omega) (by omega)) ?_;refine k_sub rfl zq (by unfold In64;omega) ?_;refine k_mul rfl zq (by unfold In64;omega) ?_;refine k_calP (Post:=fun v=>v=_) rfl zq (by kernel_rfl) (fun H' hH=>f155_c m H' _ _ (by omega) (by omega)) ?_;rintro v rfl;refine k_put ?_;have hdn:=div_small (x:=(xs.getD (i+1) 0-xs.getD i 0)*(x-(b.pts.getD i default).h)) (y:=(b.pts.getD (i+1) default).h-(b.pts.getD i default).h) (by omega) (b:=959*959) hmul
  unfold downI
  refine d121 ?_
  refine run_res (h) rfl Tryz.func94 rfl weakSub ?_;refine hK _ _ ?_;refine ⟨rfl,?_⟩
  unfold atI
  rw [hseg];rfl
theorem f98_c (m:Md Tryz.prog B) (h:Hp) (rdp:Rp B h b pp np cp) (hp:np≤1000) {p:Option Addr} {n c:Nat} {xs:List Int} (rd:RdS B h 1 (.slice p n c) n (ints xs)) (hn:n≤1000) (hln:np≤n) (hpo:PtsOk b.pts) (hs:SmL xs) (f t:Nat) (hft:f≤t) (ht:t<np):FnC m 98 #[fbV b pp np cp pt nt ct pk nk ck,.slice p n c,.int .i64 (f:Int),.int .i64 (t:Int)] h fun v h'=>h'=h∧v= .int .i64 (girthI b.pts xs f t):=by
 have hml:=rdp.elen (by decide)
 have hll:=rd.ilen
 have hnp2:=hpo.two
 have hnp5:=hpo.five
 refine fn_enter Tryz.func98 rfl rfl (l:=[fbV b pp np cp pt nt ct pk nk ck,.slice p n c,.int .i64 (f:Int),.int .i64 (t:Int),undef,undef,undef,undef,undef,undef,undef,undef,undef,undef,undef,undef,undef,undef,undef,undef,undef,undef,undef,undef,undef,undef,undef,undef,undef,undef,undef,undef,undef,undef,undef,undef,undef,undef,undef,undef,undef,undef,undef,undef,undef,undef,undef,undef,undef,undef,undef,undef,undef,undef]) rfl ?_
 intro cf cs K hK
 refine rs2 ?_;refine k_box rfl zq (fun q4=>k_hp (k_put ?_));refine aq rfl ?_;refine rs1 ?_;refine d68 ?_;refine d54 ?_
 refine run_loop (fun nn l h'=> ∃(k:Nat) (s:Int),nn=t-(f+k)∧(f+k≤t)∧(s=girthF b.pts xs f k)∧(0≤s)∧(s≤k*1400)∧(∃U:Nat→Value,l=((fbV b pp np cp pt nt ct pk nk ck)::(.slice p n c)::(.int .i64 (f:Int))::(.int .i64 (t:Int))::(.pointer (some ⟨q4,0,none⟩))::vw4 U 5 ((.int .i64 s)::(.int .i64 ((f+k:Nat):Int))::(U 11)::vw42 U 12 [])))∧h++[⟨true,q4,.cells (fbL b pp np cp pt nt ct pk nk ck).toArray 26 (0,0)⟩]=h') _ ⟨0,0,rfl,by omega,rfl,by omega,by omega,exU rfl,rfl⟩ ?_;rintro nn l h' ⟨k,s,rfl,hk,hsum,hs0,hs1,⟨U,rfl⟩,rfl⟩ hnext;refine run_seq ?_;refine rs3 ?_;refine d3 ?_;refine k_lssS rfl zq (fun hc=>?_) (fun hc=>?_)
 ·refine d98 ?_;refine run_seq ?_
  have ha:=hpo.at (show f+k<b.pts.length by omega)
  have hb:=hpo.at (show f+k+1<b.pts.length by omega)
  have hup:=hpo.up (f+k) (by omega)
  have hl0:=hs (f+k)
  have hl1:=hs (f+k+1)
  obtain ⟨N,hN,hN2⟩:=side_nat (x:=(b.pts.getD (f+k+1) default).h-(b.pts.getD (f+k) default).h) (y:=xs.getD (f+k+1) 0-xs.getD (f+k) 0) (by omega) (by omega)
  have hrs:=root_small hN2
  have hro:sideI b.pts xs (f+k)=(rootN N:Int):=by rw [sideI,hN];rfl
  have hrI:rootI (N:Int)=(rootN N:Int):=rfl
  refine run_draw [(0,.pure),(2,.pure),(3,.pure),(7,.pure),(9,.pure),(14,.pure),(15,.pure),(16,.pure),(17,.pure),(19,.pure),(20,.pure),(21,.pure),(1,.read),(4,.pure),(5,.pure),(6,.read),(8,.read),(10,.pure),(11,.pure),(12,.read),(13,.pure),(24,.pure),(18,.read),(22,.read),(23,.pure),(25,.pure)] (by kernel_rfl) (by kernel_rfl) (List.Sublist.refl _) ?_;(first|refine k_fa0 rfl zq ?_|refine k_fa rfl zq ?_);refine d4 ?_;(first|refine k_fa0 rfl zq ?_|refine k_fa rfl zq ?_);refine d3 ?_;refine d4 ?_
  obtain ⟨rd_b,rd_o,rfl⟩:=rd.ptr (by omega)
  refine k_ixs rfl zq (by first|rfl|assumption) (by omega) (by omega) ?_;refine d11 ?_;refine k_ldh rfl zq ?_;obtain ⟨rdp_b,rdp_o,rfl⟩:=rdp.ptr (by omega)
  refine d20 ?_
  refine k_ld rfl zq (rdp.fat (v:= .int .i64 (b.pts.getD ((f+k)+1) default).h) ((f+k)+1) 0 (by omega) (by omega) rfl) ?_;refine k_ldh rfl zq ?_;refine d20 ?_;refine k_ld rfl zq (rdp.fat (v:= .int .i64 (b.pts.getD (f+k) default).h) (f+k) 0 (by omega) (by omega) rfl) ?_;refine k_sub rfl zq (by unfold In64;omega) ?_;refine k_as rfl zq ?_;refine k_ld rfl zq (rd.iat ((f+k)+1) (by omega) (by omega)) ?_;refine k_ld rfl zq (rd.iat (f+k) (by omega) (by omega)) ?_;refine k_sub rfl zq (by unfold In64;omega) ?_;refine aq rfl ?_;refine rr11 ?_;have hq1:=mulB (x:=(b.pts.getD (f+k+1) default).h-(b.pts.getD (f+k) default).h) (y:=(b.pts.getD (f+k+1) default).h-(b.pts.getD (f+k) default).h) (a:=959) (b:=959) (by omega) (by omega)
  have hq2:=mulB (x:=xs.getD (f+k+1) 0-xs.getD (f+k) 0) (y:=xs.getD (f+k+1) 0-xs.getD (f+k) 0) (a:=959) (b:=959) (by omega) (by omega)
  refine d3 ?_;refine mq rfl ?_;refine k_mul rfl zq (by unfold In64;omega) ?_;refine d3 ?_;refine d53 ?_
  rw [hN];refine k_calP (Post:=fun v=>v=_) rfl zq (by kernel_rfl) (fun H' hH=>f85_c m H' N (by omega)) ?_;rintro v rfl;refine k_put ?_;rw [hrI];refine k_add rfl zq (by unfold In64;omega) ?_;refine d45 ?_;refine rr3 ?_;refine d61 ?_;exact m.weak weakSub (hnext _ _ _ (by omega) ⟨k+1,_,rfl,by omega,by rw [girthF,←hsum,hro],by omega,by push_cast;omega,exU rfl,rfl⟩)
 ·refine d75 ?_;refine d99 ?_
  refine run_res (h) rfl Tryz.func98 rfl weakSub ?_;refine hK _ _ ?_;obtain rfl:k=t-f:=by omega
  exact ⟨rfl,by rw [hsum,girthI,Int.toNat_natCast,show ((t:Int)-(f:Int)).toNat=t-f by omega]⟩
end Go.Proofs
namespace Go.Proofs
open Go.Lo
open Go.Conc (G)
set_option maxRecDepth 100000
set_option synthInstance.maxSize 100000
set_option synthInstance.maxHeartbeats 1000000
set_option maxHeartbeats 4000000
variable {B:Array Obj}
section
variable {P:Program} {B:Array Obj} {m:Md P B} {ops:Array Oper} {l l':List Value} {S h h' H:Hp} {C:List Value→Hp→Prop} {i:Nat} {kd:Kd} {r:List (Nat×Kd)}
 {d:Option Tmp} {ty:TypeId} {pos:String} {af:Array Edge} {g:Option (Nat×Bool)}
theorem k_eqBV {t u:TypeId} {x y:Operand} {a c:Bool} (ho:ops[i]?=some ⟨d,.binOp .eql t x y u,ty,pos,af,g⟩) (hw:Wt ops l g) (hb:P.underlying t=some .bool) [KHeap kd S h H] [ex:OpV l x (.bool a)] [ey:OpV l y (.bool c)] [PutV l d (.bool (a==c)) l'] (q:RegK m S ops r l' h C):RegK m S ops ((i,kd)::r) l h C:=
 RegK.rd (v:= .bool (a==c)) ho hw (by
  simp only [execOp,ex.eq,ey.eq]
  refine Reads.value (Reads.bind (a:=()) (Reads.pure _) ?_)
  show Reads P B (Op.equal t (.bool a) (.bool c)>>=fun b=>pure (Value.bool b)) H _
  exact Reads.bind (reads_eqBool hb a c) (Reads.pure _)) q
end
end Go.Proofs
namespace Go.Proofs
open Go.Lo
open Go.Conc (G)
set_option maxRecDepth 100000
set_option synthInstance.maxSize 100000
set_option synthInstance.maxHeartbeats 1000000
set_option maxHeartbeats 4000000
variable {b:Fb} {pp:Option Addr} {np cp:Nat} {pt:Option Addr} {nt ct:Nat} {pk:Option Addr} {nk ck:Nat}
variable {B:Array Obj}
theorem f159_c (m:Md Tryz.prog B) (h:Hp) (rdp:Rp B h b pp np cp) (hp:np≤1000) {p:Option Addr} {n c:Nat} {xs:List Int} (rd:RdS B h 1 (.slice p n c) n (ints xs)) (hn:n≤1000) (hln:n=np) (hpo:PtsOk b.pts) (hs:SmL xs) (t:Tp) (f e:Nat) (hf:t.f=f) (he:t.t=e) (hfe:f≤e) (hen:e<np):FnC m 159 #[fbV b pp np cp pt nt ct pk nk ck,.slice p n c,tpV t] h fun v h'=>h'=h∧IsB (tapeOk b xs t) v:=by
 have hml:=rdp.elen (by decide)
 refine fn_enter Tryz.func159 rfl rfl (l:=(fbV b pp np cp pt nt ct pk nk ck)::(.slice p n c)::(tpV t)::uu18) rfl ?_
 intro cf cs K hK
 refine rs3 ?_;refine k_box rfl zq (fun q3=>k_hp (k_put ?_));refine k_box rfl zq (fun q5=>k_hp (k_put ?_));refine d12 ?_
 refine run_draw [(1,.pure),(2,.pure),(4,.pure),(7,.pure),(8,.pure),(10,.pure),(11,.pure),(0,.read),(3,.read),(5,.read),(9,.read),(12,.read),(6,.keep),(13,.keep),(14,.pure)] (by kernel_rfl) (by kernel_rfl) (List.Sublist.refl _) ?_;refine mq rfl ?_;refine d8 ?_;refine d8 ?_;refine d8 ?_;refine d63 ?_;refine d81 ?_;refine k_ldh rfl zq ?_
 rw [hf,he];refine k_calP (Post:=fun v=>v=_) rfl zq (by kernel_rfl) (fun H' hH=>f98_c m H' (rdp.keeps (sq hH)) hp (rd.keeps (sq hH)) hn (by omega) hpo hs f e hfe hen) ?_;rintro v rfl;refine k_put ?_;refine k_calP (Post:=fun v=>IsB _ v) rfl zq (by kernel_rfl) (fun H' hH=>f55_c m H' _ _ _) ?_;rintro v hv;refine d110 ?_
 refine run_res (h) rfl Tryz.func159 rfl weakSub ?_;refine hK _ _ ?_;exact ⟨rfl,hv.iff (by unfold tapeOk;rw [hf,he])⟩
theorem f160_c (m:Md Tryz.prog B) (h:Hp) (rdp:Rp B h b pp np cp) (hp:np≤1000) {p:Option Addr} {n c:Nat} {xs:List Int} (rd:RdS B h 1 (.slice p n c) n (ints xs)) (hn:n≤1000) (hln:n=np) (hpo:PtsOk b.pts) (hs:SmL xs) (k:Sk) (hk:(b.pts.getD 0 default).h≤k.h∧k.h≤(b.pts.getD (np-1) default).h):FnC m 160 #[fbV b pp np cp pt nt ct pk nk ck,.slice p n c,skV k] h fun v h'=>h'=h∧IsB (stickOk b xs k) v:=by
 have hml:=rdp.elen (by decide)
 refine fn_enter Tryz.func160 rfl rfl (l:=(fbV b pp np cp pt nt ct pk nk ck)::(.slice p n c)::(skV k)::uu15) rfl ?_
 intro cf cs K hK
 refine rs3 ?_;refine k_box rfl zq (fun q3=>k_hp (k_put ?_));refine k_box rfl zq (fun q5=>k_hp (k_put ?_));refine d12 ?_
 refine run_draw [(1,.pure),(2,.pure),(5,.pure),(8,.pure),(0,.read),(3,.read),(6,.read),(9,.read),(4,.keep),(7,.pure),(10,.pure),(11,.pure)] (by kernel_rfl) (by kernel_rfl) (List.Sublist.refl _) ?_;refine mq rfl ?_;refine d8 ?_;refine d59 ?_;refine d81 ?_;refine k_ldh rfl zq ?_
 refine k_calP (Post:=fun v=>v=_) rfl zq (by kernel_rfl) (fun H' hH=>f94_c m H' (rdp.keeps (sq hH)) hp (rd.keeps (sq hH)) hn (by omega) hpo hs k.h hk) ?_;rintro v rfl;refine k_put ?_;refine k_geq rfl zq ?_;refine k_eqBV rfl zq bool3 ?_;refine d0 ?_
 refine run_res (h) rfl Tryz.func160 rfl weakSub ?_;refine hK _ _ ?_;refine ⟨rfl,?_⟩
 unfold stickOk
 by_cases he:decide (k.long≤atI b.pts xs k.h)=k.fits
 ·exact .inl ⟨he,by rw [←he];simp⟩
 ·exact .inr ⟨he,by simpa using he⟩
theorem f104_c (m:Md Tryz.prog B) (h:Hp) (rdp:Rp B h b pp np cp) (hp:np≤1000) (rdt:Rt B h b pt nt ct) (ht:nt≤1000) (rdk:Rk B h b pk nk ck) (hk:nk≤1000) {p:Option Addr} {n c:Nat} {xs:List Int} (rd:RdS B h 1 (.slice p n c) n (ints xs)) (hn:n≤1000) (hln:n=np) (hv:FOk b) (hs:SmL xs):FnC m 104 #[fbV b pp np cp pt nt ct pk nk ck,.slice p n c] h fun v h'=>h'=h∧IsB (rightF b xs) v:=by
 have hml:=rdp.elen (by decide)
 have htl:=rdt.elen (by decide)
 have hkl:=rdk.elen (by decide)
 have hll:=rd.ilen
 refine fn_enter Tryz.func104 rfl rfl (l:=[fbV b pp np cp pt nt ct pk nk ck,.slice p n c,undef,undef,undef,undef,undef,undef,undef,undef,undef,undef,undef,undef,undef,undef,undef,undef,undef,undef,undef,undef,undef,undef,undef,undef,undef,undef,undef,undef,undef,undef,undef,undef,undef,undef,undef,undef,undef]) rfl ?_
 intro cf cs K hK
 refine rs2 ?_;refine k_box rfl zq (fun q2=>k_hp (k_put ?_));refine d12 ?_;refine d142 ?_
 refine run_loop (fun nn l h'=> ∃(j:Nat),nn=nt-j∧(j≤nt)∧(∀i,i<j→tapeOk b xs (b.tapes.getD i default))∧(∃U:Nat→Value,l=((fbV b pp np cp pt nt ct pk nk ck)::(.slice p n c)::(.pointer (some ⟨q2,0,none⟩))::(U 3)::(U 4)::(.int .i64 (j:Int))::(U 6)::vw32 U 7 []))∧h++[⟨true,q2,.cells (fbL b pp np cp pt nt ct pk nk ck).toArray 26 (0,0)⟩]=h') _ ⟨0,rfl,by omega,fun i hi=>by omega,exU rfl,rfl⟩ ?_;rintro nn l h' ⟨j,rfl,hj,hall1,⟨U,rfl⟩,rfl⟩ hnext1;refine run_seq ?_;refine rs5 ?_;refine mq rfl ?_;refine d114 ?_;refine k_lssS rfl zq (fun hc=>?_) (fun hc=>?_)
 ·refine d98 ?_;refine run_seq ?_
  obtain ⟨f,e,hf,he,hfe,hen⟩:=hv.tape (mem_getDR.2 ⟨j,by omega,rfl⟩:b.tapes.getD j default∈b.tapes)
  refine run_draw [(1,.pure),(2,.pure),(4,.pure),(0,.read),(3,.read),(5,.pure),(6,.read),(7,.keep),(8,.pure)] (by kernel_rfl) (by kernel_rfl) (List.Sublist.refl _) ?_;refine mq rfl ?_;(first|refine k_fa0 rfl zq ?_|refine k_fa rfl zq ?_);refine mq rfl ?_;refine d63 ?_
  obtain ⟨rdt_b,rdt_o,rfl⟩:=rdt.ptr (by omega)
  refine k_ixs rfl zq (by first|rfl|assumption) (by omega) (by omega) ?_;refine k_ldN (vs:=[.int .i64 (b.tapes.getD j default).f,.int .i64 (b.tapes.getD j default).t,.int .i64 (b.tapes.getD j default).lo,.int .i64 (b.tapes.getD j default).hi]) rfl zq rfl (rdt.eat j (by omega) (by omega)) ?_;refine k_calP (Post:=fun v=>IsB _ v) rfl zq (by kernel_rfl) (fun H' hH=>f159_c m H' (rdp.keeps (sq hH)) hp (rd.keeps (sq hH)) hn hln hv.pts hs (b.tapes.getD j default) f e hf he hfe (by omega)) ?_;rintro v (⟨hc,rfl⟩|⟨hc,rfl⟩)
  ·refine d43 ?_;refine d13 ?_;refine d109 ?_
   exact m.weak weakSub (hnext1 _ _ _ (by omega) ⟨j+1,rfl,by omega,all_snoc hall1 (by assumption),exU rfl,rfl⟩)
  ·refine d44 ?_;refine d58 ?_
   refine run_res (h) rfl Tryz.func104 rfl weakSub ?_;refine hK _ _ ?_;exact ⟨rfl,IsB.no fun e=>hc (e.1 _ (mem_getDR.2 ⟨j,by omega,rfl⟩))⟩
 ·refine d75 ?_;refine run_seq ?_;refine d142 ?_
  refine run_loop (fun nn l h'=> ∃(j:Nat),nn=nk-j∧(j≤nk)∧(∀i,i<j→stickOk b xs (b.sticks.getD i default))∧(∃U:Nat→Value,l=((fbV b pp np cp pt nt ct pk nk ck)::(.slice p n c)::(.pointer (some ⟨q2,0,none⟩))::(U 3)::(U 4)::(U 5)::(.int .i64 (j:Int))::vw32 U 7 []))∧h++[⟨true,q2,.cells (fbL b pp np cp pt nt ct pk nk ck).toArray 26 (0,0)⟩]=h') _ ⟨0,rfl,by omega,fun i hi=>by omega,exU rfl,rfl⟩ ?_;rintro nn l h' ⟨j,rfl,hj2,hall2,⟨U,rfl⟩,rfl⟩ hnext2;refine run_seq ?_;refine rs5 ?_;refine mq rfl ?_;refine d114 ?_;refine k_lssS rfl zq (fun hc=>?_) (fun hc=>?_)
  ·refine d98 ?_;refine run_seq ?_
   have hsk:=hv.sticks (b.sticks.getD j default) (mem_getDR.2 ⟨j,by omega,rfl⟩)
   rw [okSk,hml] at hsk
   refine run_draw [(1,.pure),(2,.pure),(4,.pure),(0,.read),(3,.read),(5,.pure),(6,.read),(7,.keep),(8,.pure)] (by kernel_rfl) (by kernel_rfl) (List.Sublist.refl _) ?_;refine mq rfl ?_;(first|refine k_fa0 rfl zq ?_|refine k_fa rfl zq ?_);refine mq rfl ?_;refine d63 ?_
   obtain ⟨rdk_b,rdk_o,rfl⟩:=rdk.ptr (by omega)
   refine k_ixs rfl zq (by first|rfl|assumption) (by omega) (by omega) ?_;refine k_ldN (vs:=[.int .i64 (b.sticks.getD j default).h,.int .i64 (b.sticks.getD j default).long,.bool (b.sticks.getD j default).fits]) rfl zq rfl (rdk.eat j (by omega) (by omega)) ?_;refine k_calP (Post:=fun v=>IsB _ v) rfl zq (by kernel_rfl) (fun H' hH=>f160_c m H' (rdp.keeps (sq hH)) hp (rd.keeps (sq hH)) hn hln hv.pts hs (b.sticks.getD j default) hsk.1) ?_;rintro v (⟨hc,rfl⟩|⟨hc,rfl⟩)
   ·refine d43 ?_;refine d13 ?_;refine d109 ?_
    exact m.weak weakSub (hnext2 _ _ _ (by omega) ⟨j+1,rfl,by omega,all_snoc hall2 (by assumption),exU rfl,rfl⟩)
   ·refine d44 ?_;refine d58 ?_
    refine run_res (h) rfl Tryz.func104 rfl weakSub ?_;refine hK _ _ ?_;exact ⟨rfl,IsB.no fun e=>hc (e.2 _ (mem_getDR.2 ⟨j,by omega,rfl⟩))⟩
  ·refine d75 ?_;refine d38 ?_
   refine run_res (h) rfl Tryz.func104 rfl weakSub ?_;refine hK _ _ ?_;refine ⟨rfl,IsB.yes ⟨fun t ht=>?_,fun k hk=>?_⟩⟩
   ·obtain ⟨i,hi,rfl⟩:=mem_getDR.1 ht
    exact hall1 i (by omega)
   ·obtain ⟨i,hi,rfl⟩:=mem_getDR.1 hk
    exact hall2 i (by omega)
theorem extL_take (all:List (List Int)) (x:Sp) (k:Nat) (h:k<all.length):extL (all.take (k+1)) x=extL (all.take k) x++ext1 (all.getD k []) (spanL x):=by
 rw [take_snocL all k h,extL,List.flatMap_append];simp [extL]
theorem ext1_take (l:List Int) (x:Sp) (j:Nat) (h:j<(x.hi-x.lo+1).toNat):ext1 l ((spanL x).take (j+1))=ext1 l ((spanL x).take j)++[l++[x.lo+j]]:=by
 rw [take_snoc' _ j (by rw [spanL_length];exact h),spanL_getD x j h,ext1,List.map_append];rfl
def partL (ll:List (List Int)) (x:Sp) (k j:Nat):List (List Int):=extL (ll.take k) x++ext1 (ll.getD k []) ((spanL x).take j)
theorem partL_zero (ll:List (List Int)) (x:Sp) (k:Nat):partL ll x k 0=extL (ll.take k) x:=by simp [partL,ext1]
theorem partL_succ (ll:List (List Int)) (x:Sp) (k j:Nat) (h:j<(x.hi-x.lo+1).toNat):partL ll x k (j+1)=partL ll x k j++[ll.getD k []++[x.lo+j]]:=by
 rw [partL,ext1_take _ _ _ h,←List.append_assoc];rfl
theorem partL_full (ll:List (List Int)) (x:Sp) (k j:Nat) (hk:k<ll.length) (hj:(x.hi-x.lo+1).toNat≤j):partL ll x k j=extL (ll.take (k+1)) x:=by
 rw [partL,show (spanL x).take j=spanL x from List.take_of_length_le (by rw [spanL_length];exact hj),extL_take ll x k hk]
theorem partL_le (ll:List (List Int)) (x:Sp) (k j:Nat) (hk:k<ll.length) (hx:x.hi-x.lo<3):(partL ll x k j).length≤3*ll.length+3:=by
 rw [partL,List.length_append,extL_length,ext1,List.length_map,List.length_take,List.length_take,spanL_length];have:min k ll.length*(x.hi-x.lo+1).toNat≤ll.length*3:=Nat.mul_le_mul (by omega) (by omega)
 omega
theorem linesK_succ (b:Fb) {i:Nat} (h:i<b.pts.length):linesK b (i+1)=extL (linesK b i) (spI b i):=by
 rw [linesK,linesOf_take _ _ (by rw [spsOf_length];exact h),spsOf_getD b h];rfl
def boatsF (b:Fb) (ll:List (List Int)) (e:Nat):List (List Int):=(ll.take e).filter fun l=>decide (rightF b l)
theorem boatsF_yes (b:Fb) (ll:List (List Int)) (e:Nat) (h:e<ll.length) (hb:rightF b (ll.getD e [])):boatsF b ll (e+1)=boatsF b ll e++[ll.getD e []]:=by
 rw [boatsF,take_snocL ll e h,List.filter_append,List.filter_cons,if_pos (decide_eq_true hb)];rfl
theorem boatsF_no (b:Fb) (ll:List (List Int)) (e:Nat) (h:e<ll.length) (hb: ¬rightF b (ll.getD e [])):boatsF b ll (e+1)=boatsF b ll e:=by
 rw [boatsF,take_snocL ll e h,List.filter_append,List.filter_cons,if_neg (by simpa using hb)];simp [boatsF]
theorem boatsF_le (b:Fb) (ll:List (List Int)) (e:Nat):(boatsF b ll e).length≤ll.length:=by
 have:=List.length_filter_le (fun l=>decide (rightF b l)) (ll.take e)
 rw [List.length_take] at this
 unfold boatsF
 omega
theorem f106_c (m:Md Tryz.prog B) (h:Hp) (rdp:Rp B h b pp np cp) (hp:np≤1000) (rdt:Rt B h b pt nt ct) (ht:nt≤1000) (rdk:Rk B h b pk nk ck) (hk:nk≤1000) (hv:FOk b):FnC m 106 #[fbV b pp np cp pt nt ct pk nk ck] h fun v h'=> ∃new,h'=h++new∧ ∃vs,RdS B new 1 v (boatsOf b).length vs∧RdE B new vs (boatsOf b):=by
 have hml:=rdp.elen (by decide)
 have hpo:=hv.pts
 have hv1:=hpo.five
 refine fn_enter Tryz.func106 rfl rfl (l:=[fbV b pp np cp pt nt ct pk nk ck,undef,undef,undef,undef,undef,undef,undef,undef,undef,undef,undef,undef,undef,undef,undef,undef,undef,undef,undef,undef,undef,undef,undef,undef,undef,undef,undef,undef,undef,undef,undef,undef,undef,undef,undef,undef,undef,undef,undef,undef,undef,undef,undef,undef,undef,undef,undef,undef,undef,undef,undef,undef,undef,undef,undef,undef,undef,undef,undef,undef,undef,undef,undef,undef,undef,undef,undef,undef,undef,undef,undef,undef,undef,undef]) rfl ?_
 intro cf cs K hK
 refine rs2 ?_;refine k_box rfl zq (fun q1=>k_hp (k_put ?_));refine aq rfl ?_;refine rs2 ?_
 refine k_bs kdq rfl zq (by decide) (by decide) rfl (fun q10=>k_hp (k_put ?_));refine d12 ?_;refine d142 ?_
 refine run_loop (fun nn l h'=> ∃(i:Nat) (L:Hp) (pa:Option Addr) (na ca:Nat) (vs:List Value),nn=np-i∧(i≤np)∧(na=(linesK b i).length)∧(RdS B L 1 (.slice pa na ca) na vs)∧(RdE B L vs (linesK b i))∧(∃U:Nat→Value,l=((fbV b pp np cp pt nt ct pk nk ck)::(.pointer (some ⟨q1,0,none⟩))::(U 2)::(.slice pa na ca)::(.int .i64 (i:Int))::(U 5)::(U 6)::vw68 U 7 []))∧(h++[⟨true,q1,.cells (fbL b pp np cp pt nt ct pk nk ck).toArray 26 (0,0)⟩])++L=h') _ ⟨0,[⟨true,q10,.cells [.slice none 0 0].toArray 27 (0,0)⟩],some ⟨q10,0,none⟩,1,1,[.slice none 0 0],rfl,by omega,rfl,rdS_has (by rfl),RdE.nil.snoc (xs:=[]) rfl ⟨none,0,rfl,rfl,.inl ⟨rfl,rfl⟩⟩ (Nat.le_refl _),exU rfl,(by simp)⟩ ?_;rintro nn l h' ⟨i,L,pa,na,ca,vs,rfl,hi,hna,hra,hea,⟨U,rfl⟩,rfl⟩ hnext1;have hle:=linesK_le hpo i (by omega)
 refine run_seq ?_;refine rs5 ?_;refine mq rfl ?_;refine d114 ?_;refine k_lssS rfl zq (fun hc=>?_) (fun hc=>?_)
 ·refine d98 ?_;refine d93 ?_;refine d142 ?_
  refine run_loop (fun nn l h'=> ∃(k:Nat) (M W:Hp) (w:Value) (ws:List Value),nn=na-k∧(k≤na)∧(OwnS 27 1 w (extL ((linesK b i).take k) (spI b i)).length ws W)∧(RdE B M ws (extL ((linesK b i).take k) (spI b i)))∧(∃U:Nat→Value,l=((fbV b pp np cp pt nt ct pk nk ck)::(.pointer (some ⟨q1,0,none⟩))::(U 2)::(.slice pa na ca)::(.int .i64 (i:Int))::w::(.int .i64 (k:Int))::vw68 U 7 []))∧(h++[⟨true,q1,.cells (fbL b pp np cp pt nt ct pk nk ck).toArray 26 (0,0)⟩])++L++M++W=h') _ ⟨0,[],[],_,[],rfl,by omega,OwnS.nil,RdE.nil,exU rfl,(by simp)⟩ ?_;rintro nn l h' ⟨k,M,W,w,ws,rfl,hk,how,hew,⟨U,rfl⟩,rfl⟩ hnext2;refine run_seq ?_;refine d120 ?_;refine k_lssS rfl zq (fun hc=>?_) (fun hc=>?_)
  ·refine d98 ?_;refine rs8 ?_
   have hok:okPt (b.pts.getD i default):=hpo.ok _ (mem_getDR.2 ⟨i,by omega,rfl⟩)
   unfold okPt at hok
   refine d2 ?_;refine mq rfl ?_
   obtain ⟨rdp_b,rdp_o,rfl⟩:=rdp.ptr (by omega)
   refine k_ixs rfl zq (by first|rfl|assumption) (by omega) (by omega) ?_;refine d8 ?_;refine k_ld rfl zq (rdp.fat (v:= .int .i64 (b.pts.getD i default).lo) i 1 (by omega) (by omega) rfl) ?_;refine d54 ?_
   refine run_loop (fun nn l h'=> ∃(j:Nat) (n7:Int) (M3 W3:Hp) (w3:Value) (ws3:List Value),nn=((b.pts.getD i default).hi-(b.pts.getD i default).lo+1).toNat-j∧(n7=(b.pts.getD i default).lo+(j:Int))∧(j≤((b.pts.getD i default).hi-(b.pts.getD i default).lo+1).toNat)∧(OwnS 27 1 w3 (partL (linesK b i) (spI b i) k j).length ws3 W3)∧(RdE B M3 ws3 (partL (linesK b i) (spI b i) k j))∧(∃U:Nat→Value,l=((fbV b (some ⟨rdp_b,rdp_o,none⟩) np cp pt nt ct pk nk ck)::(.pointer (some ⟨q1,0,none⟩))::(U 2)::(.slice pa na ca)::(.int .i64 (i:Int))::w3::(.int .i64 (k:Int))::(.int .i64 n7)::vw67 U 8 []))∧(h++[⟨true,q1,.cells (fbL b (some ⟨rdp_b,rdp_o,none⟩) np cp pt nt ct pk nk ck).toArray 26 (0,0)⟩])++L++M3++W3=h') _ ⟨0,_,M,W,w,ws,rfl,by exact (Int.add_zero _).symm,by omega,by rw [partL_zero];exact how,by rw [partL_zero];exact hew,exU rfl,rfl⟩ ?_;rintro nn l h' ⟨j,n7,M3,W3,w3,ws3,rfl,rfl,hj,how3,hew3,⟨U,rfl⟩,rfl⟩ hnext3;refine run_seq ?_;refine rs9 ?_;refine mq rfl ?_;refine d2 ?_;refine d39 ?_;refine d8 ?_;refine k_ld rfl zq (rdp.fat (v:= .int .i64 (b.pts.getD i default).hi) i 2 (by omega) (by omega) rfl) ?_;refine k_leqS rfl zq (fun hc=>?_) (fun hc=>?_)
   ·refine d98 ?_
    refine run_region [(0,.free),(1,.free),(2,.free),(3,.free),(4,.free),(5,.free),(6,.free),(7,.free),(8,.free),(9,.free),(10,.free),(11,.free),(12,.free)] (by kernel_rfl) (by kernel_rfl) ?_;obtain ⟨ep,ec,ee,er⟩:=hea.2 k (by omega)
    have hlen:((linesK b i).getD k []).length=i:=((mem_linesK (by omega)).1 (mem_getDR.2 ⟨k,by omega,rfl⟩)).1
    have hpl:=partL_le (linesK b i) (spI b i) k j (by omega) (by show (b.pts.getD i default).hi-(b.pts.getD i default).lo<3;omega)
    refine mq rfl ?_
    refine k_bs0 kdq rfl zq (fun q43=>k_hp (k_put ?_));refine d3 ?_
    obtain ⟨hra_b,hra_o,rfl⟩:=hra.ptr (by omega)
    refine k_ixs rfl zq (by first|rfl|assumption) (by omega) (by omega) ?_;refine k_ld (v:= .slice ep ((linesK b i).getD k []).length ec) rfl zq (by rw [←ee];exact hra.vat k (by omega) (by omega)) ?_;refine k_app (F:=(h++[⟨true,q1,.cells (fbL b (some ⟨rdp_b,rdp_o,none⟩) np cp pt nt ct pk nk ck).toArray 26 (0,0)⟩])++L++M3++W3) rfl zq weakSub OwnS.zero er.up (ints_one _) (.inl rfl) (by omega) (by omega) (fun w6 n6 o6=>k_put ?_);refine mq rfl ?_
    refine k_bs kdq rfl zq (by decide) (by decide) rfl (fun q50=>k_hp (k_put ?_));refine k_app1 (F:=(h++[⟨true,q1,.cells (fbL b (some ⟨rdp_b,rdp_o,none⟩) np cp pt nt ct pk nk ck).toArray 26 (0,0)⟩])++L++M3++W3) rfl zq rfl o6 kdq (by omega) (by omega) (fun w9 n9 o9=>k_put ?_);obtain ⟨p9,c9,rfl,_⟩:=o9.len
    have r9:RdS B n9 1 (.slice p9 _ c9) _ _:=(o9.rd')
    refine k_bs kdq rfl zq (by decide) (by decide) rfl (fun q52=>k_hp (k_put ?_));refine k_appW (F:=(h++[⟨true,q1,.cells (fbL b (some ⟨rdp_b,rdp_o,none⟩) np cp pt nt ct pk nk ck).toArray 26 (0,0)⟩])++L++M3++n9) rfl zq rfl how3 (Weak.trans weakSub (Weak.mid ((h++[⟨true,q1,.cells (fbL b (some ⟨rdp_b,rdp_o,none⟩) np cp pt nt ct pk nk ck).toArray 26 (0,0)⟩])++L++M3) W3 n9)) (.inl rfl) (by omega) (by omega) (fun w11 n11 o11=>k_put ?_);refine d45 ?_;refine rr3 ?_;refine d61 ?_
    have hps:=partL_succ (linesK b i) (spI b i) k j (by show j<((b.pts.getD i default).hi-(b.pts.getD i default).lo+1).toNat;omega)
    exact hnext3 _ _ _ (by omega) ⟨j+1,_,M3++n9,n11,w11,ws3++[.slice p9 (0+((linesK b i).getD k []).length+1) c9],rfl,by omega,by omega,by rw [hps,List.length_append];exact o11,by rw [hps];exact hew3.up.snoc (by simp) (by rw [ints_append];exact r9.up) o9.cap,exU rfl,by simp⟩
   ·refine d75 ?_;refine d109 ?_
    rw [partL_full _ _ _ _ (by omega) (by show ((b.pts.getD i default).hi-(b.pts.getD i default).lo+1).toNat≤j;omega)] at how3 hew3
    exact m.weak weakSub (hnext2 _ _ _ (by omega) ⟨k+1,M3,W3,w3,ws3,rfl,by omega,how3,hew3,exU rfl,rfl⟩)
  ·refine d75 ?_;refine rr2 ?_;refine mq rfl ?_;refine d45 ?_;refine rr3 ?_;refine d61 ?_
   obtain rfl:k=na:=by omega
   rw [List.take_of_length_le (by omega),←linesK_succ b (by omega)] at how hew
   obtain ⟨wp,wc,rfl,_⟩:=how.len
   refine m.weak (h':=(h++[⟨true,q1,.cells (fbL b pp np cp pt nt ct pk nk ck).toArray 26 (0,0)⟩])++M++W) weakSub ?_
   exact hnext1 _ _ _ (by omega) ⟨i+1,M++W,wp,_,wc,ws,rfl,by omega,rfl,how.rd',hew.up,exU rfl,by simp⟩
 ·refine d75 ?_;refine rs1 ?_
  obtain rfl:np=i:=by omega
  refine d12 ?_;refine d142 ?_
  refine run_loop (fun nn l h'=> ∃(e:Nat) (W4:Hp) (w4:Value) (ws4:List Value),nn=na-e∧(e≤na)∧(OwnS 27 1 w4 (boatsF b (linesK b np) e).length ws4 W4)∧(RdE B L ws4 (boatsF b (linesK b np) e))∧(∃U:Nat→Value,l=((fbV b pp np cp pt nt ct pk nk ck)::(.pointer (some ⟨q1,0,none⟩))::(U 2)::(.slice pa na ca)::vw4 U 4 (w4::(.int .i64 (e:Int))::(U 10)::(U 11)::(U 12)::(U 13)::vw61 U 14 [])))∧(h++[⟨true,q1,.cells (fbL b pp np cp pt nt ct pk nk ck).toArray 26 (0,0)⟩])++L++W4=h') _ ⟨0,[],_,[],rfl,by omega,OwnS.nil,RdE.nil,exU rfl,(by simp)⟩ ?_;rintro nn l h' ⟨e,W4,w4,ws4,rfl,he,how4,hew4,⟨U,rfl⟩,rfl⟩ hnext4;have hbl:=boatsF_le b (linesK b np) e
  refine run_seq ?_;refine d120 ?_;refine k_lssS rfl zq (fun hc=>?_) (fun hc=>?_)
  ·refine d98 ?_;refine run_seq ?_
   refine run_draw [(1,.pure),(2,.pure),(3,.pure),(0,.read),(4,.read),(5,.keep)] (by kernel_rfl) (by kernel_rfl) (List.Sublist.refl _) ?_;refine d3 ?_
   obtain ⟨hra_b,hra_o,rfl⟩:=hra.ptr (by omega)
   refine k_ixs rfl zq (by first|rfl|assumption) (by omega) (by omega) ?_;obtain ⟨ep,ec,ee,er⟩:=hea.2 e (by omega)
   have hmem:(linesK b np).getD e []∈(linesK b np):=mem_getDR.2 ⟨e,by omega,rfl⟩
   have hlen:=((mem_linesK (by omega)).1 hmem).1
   refine k_ldA rfl zq ?_;refine k_ld (v:= .slice ep ((linesK b np).getD e []).length ec) rfl zq (by rw [←ee];exact hra.vat e (by omega) (by omega)) ?_;refine k_calP (Post:=fun v=>IsB _ v) rfl zq (by kernel_rfl) (fun H' hH=>f104_c m H' (rdp.keeps (sq hH)) hp (rdt.keeps (sq hH)) ht (rdk.keeps (sq hH)) hk (er.keeps (sq hH)) (by omega) (by omega) hv (line_sml hpo (by rw [hml];exact hmem))) ?_;rintro v (⟨hc,rfl⟩|⟨hc,rfl⟩)
   ·refine k_put ?_;refine d7 ?_;refine rr8 ?_;refine d3 ?_;refine d39 ?_;refine k_ld (v:= .slice ep ((linesK b np).getD e []).length ec) rfl zq (by rw [←ee];exact hra.vat e (by omega) (by omega)) ?_;refine k_bs kdq rfl zq (by decide) (by decide) rfl (fun q72=>k_hp (k_put ?_));refine k_app1 (F:=(h++[⟨true,q1,.cells (fbL b pp np cp pt nt ct pk nk ck).toArray 26 (0,0)⟩])++L) rfl zq rfl how4 kdq (by omega) (by omega) (fun w19 n19 o19=>k_put ?_);refine d45 ?_;refine rr3 ?_;refine d61 ?_
    have hps:=boatsF_yes b (linesK b np) e (by omega) (by assumption)
    exact m.weak weakSub (hnext4 _ _ _ (by omega) ⟨e+1,n19,w19,ws4++[.slice ep ((linesK b np).getD e []).length ec],rfl,by omega,by rw [hps,List.length_append];exact o19,by rw [hps];exact hew4.snoc rfl er (hea.cap (by omega) ee),exU rfl,rfl⟩)
   ·refine k_put ?_;refine d13 ?_;refine d109 ?_;have hps:=boatsF_no b (linesK b np) e (by omega) (by assumption)
    exact m.weak weakSub (hnext4 _ _ _ (by omega) ⟨e+1,W4,w4,ws4,rfl,by omega,by rw [hps];exact how4,by rw [hps];exact hew4,exU rfl,rfl⟩)
  ·refine d75 ?_;refine d99 ?_
   refine run_res ((h++L)++W4) rfl Tryz.func106 rfl weakSub ?_;refine hK _ _ ?_;obtain rfl:e=na:=by omega
   have e1:boatsF b (linesK b np) (linesK b np).length=boatsOf b:=by rw [boatsF,List.take_length,boatsOf,hml]
   rw [hna,e1] at how4 hew4
   exact ⟨L++W4,by simp,ws4,how4.rd',hew4.up⟩
end Go.Proofs
namespace Go.Proofs
open Go.Lo
open Go.Conc (G)
set_option maxRecDepth 100000
set_option synthInstance.maxSize 100000
set_option synthInstance.maxHeartbeats 1000000
set_option maxHeartbeats 4000000
variable {b:Fb} {pp:Option Addr} {np cp:Nat} {pt:Option Addr} {nt ct:Nat} {pk:Option Addr} {nk ck:Nat}
variable {B:Array Obj}
variable [LaidF B]
theorem f113_c (m:Md Tryz.prog B) (h:Hp) (rdp:Rp B h b pp np cp) (hp:np≤1000) (rdt:Rt B h b pt nt ct) (ht:nt≤1000) (rdk:Rk B h b pk nk ck) (hk:nk≤1000) (hz0:fbS b=0) (own:Int):FnC m 113 #[fbV b pp np cp pt nt ct pk nk ck,.int .i64 own] h fun v h'=> ∃new,h'=h++new∧ ∃w,v= .tuple [w,.int .i64 (openS b own)].toArray∧RdLL B new w (openL b (openS b own)):=by
 have hml:=rdp.elen (by decide)
 refine fn_enter Tryz.func113 rfl rfl (l:=(fbV b pp np cp pt nt ct pk nk ck)::(.int .i64 own)::uu14) rfl ?_
 intro cf cs K hK
 refine rs3 ?_;refine k_box rfl zq (fun q2=>k_hp (k_put ?_));refine k_as rfl zq ?_;refine d68 ?_;refine k_neqS rfl zq (fun hc=>?_) (fun hc=>?_)
 ·refine d132 ?_
  refine run_res (h) rfl Tryz.func113 rfl weakSub ?_;refine hK _ _ ?_;exact ⟨[],by simp,_,by rw [openS_o hz0 (by assumption)],by rw [openL,openS_o hz0 (by assumption),if_pos (by assumption)];exact ⟨none,0,[],rfl,⟨none,0,rfl,rfl,.inl ⟨rfl,rfl⟩⟩,RdE.nil⟩⟩
 ·refine d13 ?_;refine d94 ?_
  have hv:=fbS_zero hz0
  have hbl:=boatsOf_le hv.pts
  refine k_calC rfl zq (by kernel_rfl) (Post:=fun v new=> ∃vs,RdS B new 1 v (boatsOf b).length vs∧RdE B new vs (boatsOf b)) (fun H' hH=>f106_c m H' (rdp.keeps (sq hH)) hp (rdt.keeps (sq hH)) ht (rdk.keeps (sq hH)) hk hv) ?_;rintro v nw ⟨vs,rdv,rde⟩;obtain ⟨bp,bc,rfl,_⟩:=id rdv
  refine k_hpA (k_put ?_);refine d12 ?_;refine d42 ?_;refine k_len rfl zq ?_
  refine k_eqlS rfl zq (fun hc=>?_) (fun hc=>?_)
  ·refine d7 ?_;refine d144 ?_
   refine run_res (h) rfl Tryz.func113 rfl weakSub ?_;refine hK _ _ ?_;have e:=openS_9 hz0 (own:=own) (by omega) (List.length_eq_zero_iff.1 (by omega))
   exact ⟨[],by simp,_,by rw [e],by rw [openL,e,if_pos (by decide)];exact ⟨none,0,[],rfl,⟨none,0,rfl,rfl,.inl ⟨rfl,rfl⟩⟩,RdE.nil⟩⟩
  ·refine d13 ?_;refine d86 ?_
   refine run_res (h++nw) rfl Tryz.func113 rfl weakSub ?_;refine hK _ _ ?_;have e:=openS_0 hz0 (own:=own) (by omega) (fun e=>hc (by rw [e];rfl))
   exact ⟨nw,rfl,_,by rw [e],by rw [openL,e,if_neg (by decide)];exact ⟨_,_,vs,rfl,rdv,rde⟩⟩
end Go.Proofs
namespace Go.Proofs
open Go.Lo
open Go.Conc (G)
set_option maxRecDepth 100000
set_option synthInstance.maxSize 100000
set_option synthInstance.maxHeartbeats 1000000
set_option maxHeartbeats 4000000
variable {B:Array Obj}
variable [LaidF B]
theorem openL_le {b:Fb} (own:Int):(openL b (openS b own)).length≤243:=by
 by_cases e:openS b own=0
 ·rw [openL_yes e];exact boatsOf_le (fbS_zero (openS_zero e).1).pts
 ·rw [openL_no e];simp
end Go.Proofs
namespace Go.Proofs
open Go.Lo
open Go.Conc (G)
set_option maxRecDepth 100000
set_option synthInstance.maxSize 100000
set_option synthInstance.maxHeartbeats 1000000
set_option maxHeartbeats 4000000
variable {b:Fb} {pp:Option Addr} {np cp:Nat} {pt:Option Addr} {nt ct:Nat} {pk:Option Addr} {nk ck:Nat}
variable {B:Array Obj}
variable [LaidF B]
theorem mostL_take (l:List Int) (k:Nat) (h:k<l.length):mostL (l.take (k+1))=max (mostL (l.take k)) (l.getD k 0):=by
 rw [take_snoc' l k h,mostL,List.foldl_append];rfl
theorem lefts_getD (ll:List (List Int)) (s k:Nat) (h:k<ll.length):(lefts ll s).getD k 0=(countAt ll s ((ll.getD k []).getD s 0):Int):=by
 have e:ll.getD k []=ll[k]:=by rw [List.getD_eq_getElem?_getD,List.getElem?_eq_getElem h];rfl
 rw [e,lefts,List.getD_eq_getElem?_getD,List.getElem?_map,List.getElem?_eq_getElem h];rfl
theorem lefts_length (ll:List (List Int)) (s:Nat):(lefts ll s).length=ll.length:=by simp [lefts]
theorem f146_c (m:Md Tryz.prog B) (h:Hp) {ll:List (List Int)} {lp:Option Addr} {lc:Nat} {vs:List Value} {s:Nat} (rdv:RdS B h 1 (.slice lp ll.length lc) ll.length vs) (rde:RdE B h vs ll) (hle:ll.length≤2187) (hls: ∀i,i<ll.length→s<(ll.getD i []).length):FnC m 146 #[.slice lp ll.length lc,.int .i64 (s:Int)] h fun v h'=>h'=h∧v= .int .i64 (leftOf ll s):=by
 refine fn_enter Tryz.func146 rfl rfl (l:=[.slice lp ll.length lc,.int .i64 (s:Int),undef,undef,undef,undef,undef,undef,undef,undef,undef,undef,undef,undef,undef,undef,undef,undef,undef,undef,undef,undef,undef,undef,undef,undef,undef,undef,undef,undef,undef,undef,undef,undef,undef,undef,undef,undef,undef,undef,undef,undef]) rfl ?_
 intro cf cs K hK
 refine d82 ?_;refine d93 ?_;refine d142 ?_
 refine run_loop (fun nn l h'=> ∃(i:Nat) (mo:Int),nn=ll.length-i∧(i≤ll.length)∧(mo=mostL ((lefts ll s).take i))∧(∃U:Nat→Value,l=((.slice lp ll.length lc)::(.int .i64 (s:Int))::(U 2)::(U 3)::(U 4)::(.int .i64 mo)::(.int .i64 (i:Int))::(U 7)::vw34 U 8 []))∧h=h') _ ⟨0,0,rfl,by omega,rfl,exU rfl,rfl⟩ ?_;rintro nn l h' ⟨i,mo,rfl,hi,hmo,⟨U,rfl⟩,rfl⟩ hnext1;refine run_seq ?_;refine d120 ?_;refine k_lssS rfl zq (fun hc=>?_) (fun hc=>?_)
 ·refine d98 ?_;refine d93 ?_;refine d142 ?_
  refine run_loop (fun nn l h'=> ∃(k:Nat) (cnt:Nat),nn=ll.length-k∧(k≤ll.length)∧(cnt=countAt (ll.take k) s ((ll.getD i []).getD s 0))∧(cnt≤k)∧(∃U:Nat→Value,l=((.slice lp ll.length lc)::(.int .i64 (s:Int))::(U 2)::(U 3)::(U 4)::(.int .i64 mo)::(.int .i64 (i:Int))::(.int .i64 (cnt:Int))::(.int .i64 (k:Int))::(U 9)::vw32 U 10 []))∧h=h') _ ⟨0,0,rfl,by omega,rfl,by omega,exU rfl,rfl⟩ ?_;rintro nn l h' ⟨k,cnt,rfl,hk,hcnt,hck,⟨U,rfl⟩,rfl⟩ hnext2;refine run_seq ?_;refine d120 ?_;refine k_lssS rfl zq (fun hc=>?_) (fun hc=>?_)
  ·refine d98 ?_;refine run_seq ?_
   refine run_draw [(0,.pure),(1,.pure),(2,.pure),(4,.pure),(7,.pure),(8,.pure),(9,.pure),(11,.pure),(3,.read),(5,.pure),(6,.read),(10,.read),(12,.pure),(13,.read),(14,.pure)] (by kernel_rfl) (by kernel_rfl) (List.Sublist.refl _) ?_;obtain ⟨ap,ac,ae,ar⟩:=rde.2 k (by omega)
   obtain ⟨ab,ao,rfl⟩:=ar.ptr (by have:=hls k (by omega);omega)
   have al:=hls k (by omega)
   obtain ⟨bp,bc,be,br⟩:=rde.2 i (by omega)
   obtain ⟨bb,bo,rfl⟩:=br.ptr (by have:=hls i (by omega);omega)
   have bl:=hls i (by omega)
   refine d3 ?_
   obtain ⟨rdv_b,rdv_o,rfl⟩:=rdv.ptr (by omega)
   refine k_ixs rfl zq (by first|rfl|assumption) (by omega) (by omega) ?_;refine d3 ?_;refine d39 ?_;refine mq rfl ?_;refine k_ld (v:= .slice (some ⟨ab,ao,none⟩) (ll.getD k []).length ac) rfl zq (by rw [←ae];exact rdv.vat k (by omega) (by omega)) ?_;refine k_ixs rfl zq (by first|rfl|assumption) (by omega) (by omega) ?_;refine k_ld rfl zq (ar.iat s (by omega) (by omega)) ?_;refine k_ld (v:= .slice (some ⟨bb,bo,none⟩) (ll.getD i []).length bc) rfl zq (by rw [←be];exact rdv.vat i (by omega) (by omega)) ?_;refine k_ixs rfl zq (by first|rfl|assumption) (by omega) (by omega) ?_;refine k_ld rfl zq (br.iat s (by omega) (by omega)) ?_;refine k_eqlS rfl zq (fun hc=>?_) (fun hc=>?_)
   ·refine d7 ?_;refine rr3 ?_;refine d4 ?_;refine d45 ?_;refine rr3 ?_;refine d61 ?_
    exact m.weak weakSub (hnext2 _ _ _ (by omega) ⟨k+1,cnt+1,rfl,by omega,by rw [countAt_yes _ _ _ _ (by omega) (by assumption),←hcnt],by omega,exU rfl,rfl⟩)
   ·refine d13 ?_;refine d109 ?_
    exact m.weak weakSub (hnext2 _ _ _ (by omega) ⟨k+1,cnt,rfl,by omega,by rw [countAt_no _ _ _ _ (by omega) (by assumption),←hcnt],by omega,exU rfl,rfl⟩)
  ·refine d75 ?_;refine rr4 ?_;refine d3 ?_;refine k_max rfl zq ?_;refine d45 ?_;refine rr3 ?_;refine d61 ?_
   obtain rfl:k=ll.length:=by omega
   rw [List.take_length] at hcnt
   exact m.weak weakSub (hnext1 _ _ _ (by omega) ⟨i+1,_,rfl,by omega,by rw [mostL_take _ _ (by rw [lefts_length];omega),←hmo,lefts_getD _ _ _ (by omega),←hcnt],exU rfl,rfl⟩)
 ·refine d75 ?_;refine d99 ?_
  refine run_res (h) rfl Tryz.func146 rfl weakSub ?_;refine hK _ _ ?_;obtain rfl:i=ll.length:=by omega
  rw [List.take_of_length_le (by rw [lefts_length];omega)] at hmo
  exact ⟨rfl,by rw [hmo];rfl⟩
theorem f73_c (m:Md Tryz.prog B) (h:Hp) (rdp:Rp B h b pp np cp) (hp:np≤1000) (rdt:Rt B h b pt nt ct) (ht:nt≤1000) (rdk:Rk B h b pk nk ck) (hk:nk≤1000):FnC m 73 #[fbV b pp np cp pt nt ct pk nk ck] h fun v h'=>h'=h∧v= .tuple [.int .i64 (askAt b),.int .i64 (askLeft b),.int .i64 (openS b 0)].toArray:=by
 have hml:=rdp.elen (by decide)
 refine fn_enter Tryz.func73 rfl rfl (l:=[fbV b pp np cp pt nt ct pk nk ck,undef,undef,undef,undef,undef,undef,undef,undef,undef,undef,undef,undef,undef,undef,undef,undef,undef,undef,undef,undef,undef,undef,undef,undef,undef,undef,undef,undef,undef,undef,undef,undef,undef,undef,undef,undef,undef,undef,undef,undef,undef,undef,undef]) rfl ?_
 intro cf cs K hK
 refine rs4 ?_;refine k_box rfl zq (fun q1=>k_hp (k_put ?_));refine k_as rfl zq ?_;refine d97 ?_;refine d94 ?_;refine k_calP (Post:=fun v=>v=_) rfl zq (by kernel_rfl) (fun H' hH=>f22_c m H' (rdp.keeps (sq hH)) hp (rdt.keeps (sq hH)) ht (rdk.keeps (sq hH)) hk) ?_;rintro v rfl;refine d135 ?_
 refine k_neqS rfl zq (fun hc=>?_) (fun hc=>?_)
 ·refine d7 ?_;refine d118 ?_;refine k_as rfl zq ?_;refine d27 ?_
  refine run_res (h) rfl Tryz.func73 rfl weakSub ?_;refine hK _ _ ?_;exact ⟨rfl,by rw [askAt,if_pos (by rw [openS_b (by assumption)];assumption),askLeft,if_pos (by rw [openS_b (by assumption)];assumption),openS_b (by assumption)]⟩
 ·refine d13 ?_;refine rs7 ?_
  have hzb:fbS b=0:=by omega
  refine k_ldA rfl zq ?_;refine k_calC rfl zq (by kernel_rfl) (fun H' hH=>f113_c m H' (rdp.keeps (sq hH)) hp (rdt.keeps (sq hH)) ht (rdk.keeps (sq hH)) hk hzb _) ?_;rintro v nw ⟨w,rfl,bp,bc,vs,rfl,rdv,rde⟩;refine k_hpA (k_put ?_);have hle:=openL_le (b:=b) 0
  generalize hll:openL b (openS b 0)=ll at rdv rde hle⊢
  refine d40 ?_;refine k_as rfl zq ?_;refine d68 ?_
  refine k_neqS rfl zq (fun hc=>?_) (fun hc=>?_)
  ·refine d7 ?_;refine d118 ?_;refine k_as rfl zq ?_;refine d27 ?_
   refine run_res (h) rfl Tryz.func73 rfl weakSub ?_;refine hK _ _ ?_;exact ⟨rfl,by rw [askAt,if_pos (by assumption),askLeft,if_pos (by assumption)]⟩
  ·refine d37 ?_
   have ho:openS b 0=0:=by omega
   have hlb:ll=boatsOf b:=by subst hll;rw [openL_yes ho]
   subst hlb
   have hpo:=(fbS_zero hzb).pts
   have hp5:=hpo.five
   refine rr4 ?_;refine mq rfl ?_;refine k_len rfl zq ?_;refine d97 ?_;refine d142 ?_;refine run_loop (fun nn l h'=> ∃(j:Nat) (a c:Int),nn=np-j∧(j≤np)∧((a,c)=askP (boatsOf b) j)∧(∃U:Nat→Value,l=((fbV b pp np cp pt nt ct pk nk ck)::(.pointer (some ⟨q1,0,none⟩))::vw4 U 2 ((.slice bp (boatsOf b).length bc)::(U 7)::(.int .i64 a)::(.int .i64 c)::(.int .i64 (j:Int))::(U 11)::vw32 U 12 [])))∧h++[⟨true,q1,.cells (fbL b pp np cp pt nt ct pk nk ck).toArray 26 (0,0)⟩]++nw=h') _ ⟨0,-1,((boatsOf b).length:Int),rfl,by omega,rfl,exU rfl,rfl⟩ ?_;rintro nn l h' ⟨j,a,c,rfl,hj,hac,⟨U,rfl⟩,rfl⟩ hnext1;refine run_seq ?_;refine rs5 ?_;refine mq rfl ?_;refine d114 ?_;refine k_lssS rfl zq (fun hc=>?_) (fun hc=>?_)
   ·refine d98 ?_;refine d64 ?_
    refine k_calP (Post:=fun v=>v=_) rfl zq (by kernel_rfl) (fun H' hH=>f146_c m H' (s:=j) (rdv.keeps (sq hH)) (rde.keeps (sq hH)) (by omega) (fun i hi=>by have:=(mem_boats.1 (mem_getDR.2 ⟨i,hi,rfl⟩)).1;show j<((boatsOf b).getD i default).length;omega)) ?_;rintro v rfl;refine d65 ?_;refine rs3 ?_;refine d3 ?_
    refine k_lssS rfl zq (fun hc=>?_) (fun hc=>?_)
    ·refine d7 ?_;refine rr4 ?_;refine d3 ?_;refine k_as rfl zq ?_;refine d45 ?_;refine rr3 ?_;refine d61 ?_
     exact m.weak weakSub (hnext1 _ _ _ (by omega) ⟨j+1,_,_,rfl,by omega,by rw [askP,←hac,if_pos (by assumption)],exU rfl,rfl⟩)
    ·refine d13 ?_;refine d109 ?_
     exact m.weak weakSub (hnext1 _ _ _ (by omega) ⟨j+1,_,_,rfl,by omega,by rw [askP,←hac,if_neg (by show¬leftOf (boatsOf b) j<c;omega)],exU rfl,rfl⟩)
   ·refine d75 ?_;refine rs5 ?_;refine d3 ?_;refine k_as rfl zq ?_;refine d27 ?_
    refine run_res (h) rfl Tryz.func73 rfl weakSub ?_;refine hK _ _ ?_;obtain rfl:np=j:=by omega
    exact ⟨rfl,by rw [askAt,if_neg (fun e=>e ho),askLeft,if_neg (fun e=>e ho),hml,←hac,ho]⟩
end Go.Proofs
namespace Go.Proofs
open Go.Lo
set_option maxRecDepth 100000
set_option maxHeartbeats 4000000
theorem gT_asc {b:Fb} {g:List Int} (h:Asc g):Asc (gT b g):=asc_filter h _
theorem gK_asc {b:Fb} {g:List Int} (h:Asc g):Asc (gK b g):=asc_shift (asc_filter h _) _
theorem gT_in {b:Fb} {g:List Int} (h:InB b g): ∀x∈gT b g,0≤x∧x<b.tapes.length:=fun x hx=>by
 obtain ⟨h1,h2⟩:=List.mem_filter.1 hx
 exact ⟨(h x h1).1,of_decide_eq_true h2⟩
theorem gK_in {b:Fb} {g:List Int} (h:InB b g): ∀x∈gK b g,0≤x∧x<b.sticks.length:=fun x hx=>by
 obtain ⟨y,h1,rfl⟩:=List.mem_map.1 hx
 obtain ⟨h1,h2⟩:=List.mem_filter.1 h1
 have h2: ¬y<b.tapes.length:=of_decide_eq_false (by simpa [isT] using h2)
 have:=h y h1
 unfold allN at this
 omega
end Go.Proofs
namespace Go.Proofs
open Go.Lo
open Go.Conc (G)
set_option maxRecDepth 100000
set_option synthInstance.maxSize 100000
set_option synthInstance.maxHeartbeats 1000000
set_option maxHeartbeats 4000000
variable {b:Fb} {pp:Option Addr} {np cp:Nat} {pt:Option Addr} {nt ct:Nat} {pk:Option Addr} {nk ck:Nat}
variable {B:Array Obj}
theorem pow6': ∀i:Nat,i≤6→2^i≤64:=by decide
theorem kept_subs (mm:Nat): ∀n,keptI mm n∈subsL n
 |0=>by rw [subsL];exact List.mem_singleton.2 rfl
 |n+1=>by
  rw [subsL,List.mem_append];by_cases h:bitN mm n=1
  ·exact .inr (List.mem_map.2 ⟨_,kept_subs mm n,(keptI_yes h).symm⟩)
  ·rw [keptI_no h];exact .inl (kept_subs mm n)
theorem f189_c (m:Md Tryz.prog B) (h:Hp) {p:Option Addr} {n c:Nat} (rd:RdS B h 1 (.slice p n c) n (ints (firsts n))) (hn:n≤6):FnC m 189 #[.slice p n c,.int .i64 (n:Int)] h fun v h'=> ∃new,h'=h++new∧RdLL B new v (subsL n):=by
 refine fn_enter Tryz.func189 rfl rfl (l:=[.slice p n c,.int .i64 (n:Int),undef,undef,undef,undef,undef,undef,undef,undef,undef,undef,undef,undef,undef,undef,undef,undef,undef,undef,undef,undef,undef,undef,undef,undef,undef,undef,undef,undef,undef,undef,undef,undef,undef,undef,undef,undef,undef,undef,undef,undef,undef,undef,undef,undef]) rfl ?_
 intro cf cs K hK
 refine d82 ?_;refine rs2 ?_
 refine k_bs kdq rfl zq (by decide) (by decide) rfl (fun q9=>k_hp (k_put ?_));refine d12 ?_;refine run_seq ?_
 rcases Nat.eq_zero_or_pos n with h3|h3
 ·subst h3
  refine rr1 ?_;refine d54 ?_;refine run_loop (fun nn l h'=> ∃(i:Nat),nn=i∧(i=0)∧(∃U:Nat→Value,l=((.slice p 0 c)::(.int .i64 0)::(U 2)::(U 3)::(U 4)::(.slice (some ⟨q9,0,none⟩) 1 1)::(.int .i64 (i:Int))::(U 7)::vw38 U 8 []))∧h++[⟨true,q9,.cells ([.slice none 0 0]:List Value).toArray 27 (0,0)⟩]=h') _ ⟨0,rfl,rfl,exU rfl,rfl⟩ ?_;rintro nn l h' ⟨i,rfl,hi,⟨U,rfl⟩,rfl⟩ hnext1;refine run_seq ?_;refine d120 ?_;refine k_lssS rfl zq (fun hc=>?_) (fun hc=>?_)
  ·exfalso
   omega
  ·refine d75 ?_;refine d99 ?_
   refine run_res (h++[⟨true,q9,.cells ([.slice none 0 0]:List Value).toArray 27 (0,0)⟩]) rfl Tryz.func189 rfl weakSub ?_;refine hK _ _ ?_;exact ⟨_,rfl,_,_,_,rfl,rdS_has rfl,RdE.nil.snoc (xs:=[]) rfl ⟨none,0,rfl,rfl,.inl ⟨rfl,rfl⟩⟩ (Nat.le_refl _)⟩
 ·obtain ⟨pb,po,rfl⟩:=rd.ptr (by omega)
  refine rr1 ?_;refine d54 ?_;refine run_loop (fun nn l h'=> ∃(i:Nat) (op:Option Addr) (on oc:Nat) (ws:List Value) (M W:Hp),nn=n-i∧(i≤n)∧(on=(subsL i).length)∧(OwnS 27 1 (.slice op on oc) on ws W)∧(RdE B M ws (subsL i))∧(∃U:Nat→Value,l=((.slice (some ⟨pb,po,none⟩) n c)::(.int .i64 (n:Int))::(U 2)::(U 3)::(U 4)::(.slice op on oc)::(.int .i64 (i:Int))::(U 7)::vw38 U 8 []))∧h++M++W=h') _ ⟨0,some ⟨q9,0,none⟩,1,1,[.slice none 0 0],[],[⟨true,q9,.cells ([.slice none 0 0]:List Value).toArray 27 (0,0)⟩],rfl,by omega,rfl,OwnS.blk (t:=27) (k:=1) (n:=1) (cap:=1) (b:=q9) (cs:=[.slice none 0 0]) (junk:=[]) rfl rfl (Nat.le_refl _),RdE.nil.snoc (xs:=[]) rfl ⟨none,0,rfl,rfl,.inl ⟨rfl,rfl⟩⟩ (Nat.le_refl _),exU rfl,(by simp)⟩ ?_;rintro nn l h' ⟨i,op,on,oc,ws,M,W,rfl,hi,hon,how,hew,⟨U,rfl⟩,rfl⟩ hnext1;refine run_seq ?_;refine d120 ?_;refine k_lssS rfl zq (fun hc=>?_) (fun hc=>?_)
  ·refine d98 ?_;refine run_seq ?_
   have hsl:=subsL_length i
   have hp4:=pow6' i (by omega)
   refine rr3 ?_;refine mq rfl ?_;refine k_len rfl zq ?_;refine aq rfl ?_;refine d142 ?_;obtain ⟨sz,hsz⟩: ∃sz,sz=(subsL i).length:=⟨_,rfl⟩
   rw [hon,←hsz];refine run_loop (fun nn l h'=> ∃(k:Nat) (op:Option Addr) (on oc:Nat) (ws:List Value) (M W:Hp),nn=sz-k∧(k≤sz)∧(on=sz+k)∧(OwnS 27 1 (.slice op on oc) on ws W)∧(RdE B M ws (subP i k))∧(∃U:Nat→Value,l=((.slice (some ⟨pb,po,none⟩) n c)::(.int .i64 (n:Int))::(U 2)::(U 3)::(U 4)::(.slice op on oc)::(.int .i64 (i:Int))::(.int .i64 (sz:Int))::(.int .i64 (k:Int))::(U 9)::(U 10)::(U 11)::vw34 U 12 []))∧h++M++W=h') _ ⟨0,op,sz,oc,ws,M,W,rfl,by omega,by omega,by rw [hsz,←hon];exact how,by rw [subP_zero];exact hew,exU rfl,rfl⟩ ?_;rintro nn l h' ⟨k,op,on,oc,ws,M,W,rfl,hk,hon2,how2,hew2,⟨U,rfl⟩,rfl⟩ hnext2;refine run_seq ?_;refine rs3 ?_;refine d3 ?_;refine k_lssS rfl zq (fun hc=>?_) (fun hc=>?_)
   ·refine d98 ?_;refine rs7 ?_
    obtain ⟨ob,oo,rfl⟩:=(how2.rd (List.Sublist.refl _):RdS B W 1 _ _ _).ptr (by omega)
    have rdo:RdS B W 1 (.slice (some ⟨ob,oo,none⟩) on oc) on ws:=how2.rd (List.Sublist.refl _)
    obtain ⟨ep,ec,ee,er⟩:=hew2.2 k (by rw [subP_length (by omega)];omega)
    rw [subP_at (by omega)] at ee er
    have hlk:=subs_len (i:=i) (k:=k) (by omega)
    refine d11 ?_
    refine k_ld (v:= .slice ep ((subsL i).getD k []).length ec) rfl zq (by rw [←ee];exact rdo.vat k (by omega) (by omega)) ?_;refine d67 ?_
    refine k_lssS rfl zq (fun hc=>?_) (fun hc=>?_)
    ·refine d7 ?_
     refine run_drawC (fun l' h'=> ∃(op2:Option Addr) (oc2:Nat) (ws2:List Value) (M2 W2:Hp),(∃U:Nat→Value,l'=((.slice (some ⟨pb,po,none⟩) n c)::(.int .i64 (n:Int))::(U 2)::(U 3)::(U 4)::(.slice op2 (on+1) oc2)::(.int .i64 (i:Int))::(.int .i64 (sz:Int))::(.int .i64 (k:Int))::(U 9)::(U 10)::(U 11)::vw34 U 12 []))∧OwnS 27 1 (.slice op2 (on+1) oc2) (on+1) ws2 W2∧RdE B M2 ws2 (subP i (k+1))∧Weak B h' (h++M2++W2)) [0,1,2,3,4,5,6,7,8,9,10,11,12,13,14,15] (by kernel_rfl) (by kernel_rfl) (List.Sublist.refl _) ?_ ?_
     ·refine DrawT.split 1 11 (by decide) ?_ ?_
      ·refine DrawT.split 6 11 (by decide) ?_ ?_
       ·refine DrawT.leaf [(0,.pure),(2,.pure),(3,.pure),(4,.pure),(7,.pure),(8,.pure),(9,.pure),(5,.read),(10,.read),(1,.keep),(6,.keep),(11,.keep),(12,.keep),(13,.keep),(14,.free),(15,.pure)] (by kernel_rfl) ?_
        refine d3 ?_;refine d39 ?_;refine d11 ?_
        refine k_ld (v:= .slice ep ((subsL i).getD k []).length ec) rfl zq (by rw [←ee];exact rdo.vat k (by omega) (by omega)) ?_;refine k_ld rfl zq (rd.iat i (by omega) (by omega)) ?_;refine k_bs0 kdq rfl zq (fun q31=>k_hp (k_put ?_));refine k_appO rfl zq (OwnS.zero (q:=q31)) er.up (ints_one _) kdq (by omega) (by omega) (fun w26 n26 o26=>k_put ?_);replace o26:OwnS 3 1 w26 ((subsL i).getD k []).length (ints ((subsL i).getD k [])) n26:=by simpa using o26
        refine k_bs kdq rfl zq (by decide) (by decide) rfl (fun q41=>k_hp (k_put ?_));refine k_app1O rfl zq rfl o26 kdq (by omega) (by omega) (fun w42 n42 o42=>k_put ?_);obtain ⟨p42,c42,rfl,_⟩:=o42.len
        have hcap42:=o42.cap
        have r42:RdS B n42 1 (.slice p42 (((subsL i).getD k []).length+1) c42) _ _:=o42.rd (List.Sublist.refl _)
        refine k_bs kdq rfl zq (by decide) (by decide) rfl (fun q43=>k_hp (k_put ?_));refine k_app1O rfl zq rfl how2 kdq (by omega) (by omega) (fun w44 n44 o44=>k_put ?_);obtain ⟨p44,c44,rfl,_⟩:=o44.len
        refine aq rfl ?_
        exact ⟨_,_,_,M++n42,_,exU rfl,o44,by rw [subP_succ (by omega)];exact (hew2.keeps (List.sublist_append_left _ _)).snoc (by rw [List.length_append];rfl) (by rw [ints_append];have:=r42.keeps (List.sublist_append_right M n42);rw [firsts_at (by omega)] at this;exact this) hcap42,by rw [←List.append_assoc];exact weakOff2⟩
       ·refine DrawT.leaf [(0,.pure),(2,.pure),(3,.pure),(4,.pure),(7,.pure),(8,.pure),(9,.pure),(5,.read),(10,.read),(1,.keep),(11,.keep),(6,.keep),(12,.keep),(13,.keep),(14,.free),(15,.pure)] (by kernel_rfl) ?_
        refine d3 ?_;refine d39 ?_;refine d11 ?_
        refine k_ld (v:= .slice ep ((subsL i).getD k []).length ec) rfl zq (by rw [←ee];exact rdo.vat k (by omega) (by omega)) ?_;refine k_ld rfl zq (rd.iat i (by omega) (by omega)) ?_;refine k_bs0 kdq rfl zq (fun q31=>k_hp (k_put ?_));refine k_bs kdq rfl zq (by decide) (by decide) rfl (fun q41=>k_hp (k_put ?_));refine k_appO rfl zq (OwnS.zero (q:=q31)) er.up (ints_one _) kdq (by omega) (by omega) (fun w26 n26 o26=>k_put ?_);replace o26:OwnS 3 1 w26 ((subsL i).getD k []).length (ints ((subsL i).getD k [])) n26:=by simpa using o26
        refine k_app1O rfl zq rfl o26 kdq (by omega) (by omega) (fun w42 n42 o42=>k_put ?_);obtain ⟨p42,c42,rfl,_⟩:=o42.len
        have hcap42:=o42.cap
        have r42:RdS B n42 1 (.slice p42 (((subsL i).getD k []).length+1) c42) _ _:=o42.rd (List.Sublist.refl _)
        refine k_bs kdq rfl zq (by decide) (by decide) rfl (fun q43=>k_hp (k_put ?_));refine k_app1O rfl zq rfl how2 kdq (by omega) (by omega) (fun w44 n44 o44=>k_put ?_);obtain ⟨p44,c44,rfl,_⟩:=o44.len
        refine aq rfl ?_
        exact ⟨_,_,_,M++n42,_,exU rfl,o44,by rw [subP_succ (by omega)];exact (hew2.keeps (List.sublist_append_left _ _)).snoc (by rw [List.length_append];rfl) (by rw [ints_append];have:=r42.keeps (List.sublist_append_right M n42);rw [firsts_at (by omega)] at this;exact this) hcap42,by rw [←List.append_assoc];exact weakOff2⟩
      ·refine DrawT.leaf [(0,.pure),(2,.pure),(3,.pure),(4,.pure),(7,.pure),(8,.pure),(9,.pure),(5,.read),(10,.read),(11,.keep),(1,.keep),(6,.keep),(12,.keep),(13,.keep),(14,.free),(15,.pure)] (by kernel_rfl) ?_
       refine d3 ?_;refine d39 ?_;refine d11 ?_
       refine k_ld (v:= .slice ep ((subsL i).getD k []).length ec) rfl zq (by rw [←ee];exact rdo.vat k (by omega) (by omega)) ?_;refine k_ld rfl zq (rd.iat i (by omega) (by omega)) ?_;refine k_bs kdq rfl zq (by decide) (by decide) rfl (fun q41=>k_hp (k_put ?_));refine k_bs0 kdq rfl zq (fun q31=>k_hp (k_put ?_));refine k_appO rfl zq (OwnS.zero (q:=q31)) er.up (ints_one _) kdq (by omega) (by omega) (fun w26 n26 o26=>k_put ?_);replace o26:OwnS 3 1 w26 ((subsL i).getD k []).length (ints ((subsL i).getD k [])) n26:=by simpa using o26
       refine k_app1O rfl zq rfl o26 kdq (by omega) (by omega) (fun w42 n42 o42=>k_put ?_);obtain ⟨p42,c42,rfl,_⟩:=o42.len
       have hcap42:=o42.cap
       have r42:RdS B n42 1 (.slice p42 (((subsL i).getD k []).length+1) c42) _ _:=o42.rd (List.Sublist.refl _)
       refine k_bs kdq rfl zq (by decide) (by decide) rfl (fun q43=>k_hp (k_put ?_));refine k_app1O rfl zq rfl how2 kdq (by omega) (by omega) (fun w44 n44 o44=>k_put ?_);obtain ⟨p44,c44,rfl,_⟩:=o44.len
       refine aq rfl ?_
       exact ⟨_,_,_,M++n42,_,exU rfl,o44,by rw [subP_succ (by omega)];exact (hew2.keeps (List.sublist_append_left _ _)).snoc (by rw [List.length_append];rfl) (by rw [ints_append];have:=r42.keeps (List.sublist_append_right M n42);rw [firsts_at (by omega)] at this;exact this) hcap42,by rw [←List.append_assoc];exact weakOff2⟩
     ·rintro l' h' ⟨op2,oc2,ws2,M2,W2,⟨U,rfl⟩,how3,hew3,hwk⟩;refine m.weak hwk ?_
      refine d109 ?_
      exact m.weak weakSub (hnext2 _ _ _ (by omega) ⟨k+1,op2,_,oc2,ws2,M2,W2,rfl,by omega,by omega,how3,hew3,exU rfl,rfl⟩)
    ·exfalso
     have:=subs_len (i:=i) (k:=k) (by omega);omega
   ·refine d75 ?_;refine d109 ?_
    have hkn:k=(subsL i).length:=by omega
    rw [hkn,subP_all] at hew2
    exact m.weak weakSub (hnext1 _ _ _ (by omega) ⟨i+1,op,_,oc,ws,M,W,rfl,by omega,by rw [←subP_all,subP_length (Nat.le_refl _)];omega,how2,hew2,exU rfl,rfl⟩)
  ·refine d75 ?_;refine d99 ?_
   refine run_res (h++M++W) rfl Tryz.func189 rfl weakSub ?_;refine hK _ _ ?_;obtain rfl:i=n:=by omega
   subst hon
   exact ⟨M++W,by rw [←List.append_assoc],_,_,_,rfl,how.rd (List.sublist_append_right _ _),hew.keeps (List.sublist_append_left _ _)⟩
theorem f65_c (m:Md Tryz.prog B) (h:Hp) (rdt:Rt B h b pt nt ct) (ht:nt≤1000) (rdk:Rk B h b pk nk ck) (hk:nk≤1000) {p:Option Addr} {n c:Nat} {xs:List Int} (rd:RdS B h 1 (.slice p n c) n (ints xs)) (hn:n≤1000) (hx:InB b xs):FnC m 65 #[fbV b pp np cp pt nt ct pk nk ck,.slice p n c] h fun v h'=> ∃new,h'=h++new∧ ∃tp tc kp kc,v=fbV (onlyI b xs) pp np cp tp (onlyT b xs).length tc kp (onlyK b xs).length kc∧RdS B new 4 (.slice tp (onlyT b xs).length tc) (onlyT b xs).length (encs (onlyT b xs))∧RdS B new 3 (.slice kp (onlyK b xs).length kc) (onlyK b xs).length (encs (onlyK b xs))∧(onlyT b xs).length≤tc∧(onlyK b xs).length≤kc:=by
 have htl0:=rdt.elen (by decide)
 have hkl0:=rdk.elen (by decide)
 have hxl:=rd.ilen
 unfold InB allN at hx
 refine fn_enter Tryz.func65 rfl rfl (l:=(fbV b pp np cp pt nt ct pk nk ck)::(.slice p n c)::uu53) rfl ?_
 intro cf cs K hK
 refine rs2 ?_;refine k_box rfl zq (fun q2=>k_hp (k_put ?_));refine k_new rfl zq (fun q4=>k_hp (k_put ?_));refine k_nil ?_;refine d94 ?_;refine k_new rfl zq (fun q5=>k_hp (k_put ?_));refine d48 ?_;refine rs4 ?_;refine d50 ?_;refine d50 ?_;refine d24 ?_;refine d142 ?_
 refine run_loop (fun nn l h'=> ∃(k:Nat) (tp:Option Addr) (tc:Nat) (nT:Hp) (kp:Option Addr) (kc:Nat) (nK:Hp),nn=n-k∧(k≤n)∧(OwnS 99 4 (.slice tp (onlyT b (xs.take k)).length tc) (onlyT b (xs.take k)).length (encs (onlyT b (xs.take k))) nT)∧(OwnS 73 3 (.slice kp (onlyK b (xs.take k)).length kc) (onlyK b (xs.take k)).length (encs (onlyK b (xs.take k))) nK)∧(∃U:Nat→Value,l=((fbV b pp np cp pt nt ct pk nk ck)::(.slice p n c)::(.pointer (some ⟨q2,0,none⟩))::(U 3)::(.pointer (some ⟨q4,0,none⟩))::(.pointer (some ⟨q5,0,none⟩))::(.int .i64 (k:Int))::vw48 U 7 []))∧h++[⟨true,q2,.cells (fbL b pp np cp pt nt ct pk nk ck).toArray 26 (0,0)⟩,⟨true,q4,.cells ([.int .i64 0,.slice none 0 0,.slice none 0 0,.slice none 0 0]:List Value).toArray 26 (0,0)⟩,⟨true,q5,.cells ([.int .i64 b.plank,.slice pp np cp,.slice tp (onlyT b (xs.take k)).length tc,.slice kp (onlyK b (xs.take k)).length kc]:List Value).toArray 26 (0,0)⟩]++nT++nK=h') _ ⟨0,none,0,[],none,0,[],rfl,by omega,OwnS.nil,OwnS.nil,exU rfl,(by simp [onlyT,onlyK])⟩ ?_;rintro nn l h' ⟨k,tp,tc,nT,kp,kc,nK,rfl,hk1,hot,hok,⟨U,rfl⟩,rfl⟩ hnext;have htl:=Nat.le_trans (onlyT_len b (xs.take k)) (List.length_take_le _ _)
 have hkl:=Nat.le_trans (onlyK_len b (xs.take k)) (List.length_take_le _ _)
 refine run_seq ?_;refine d120 ?_;refine k_lssS rfl zq (fun hc=>?_) (fun hc=>?_)
 ·refine d98 ?_;refine run_seq ?_
  refine run_draw [(0,.pure),(1,.pure),(2,.pure),(4,.pure),(3,.read),(5,.read),(6,.pure),(7,.pure)] (by kernel_rfl) (by kernel_rfl) (List.Sublist.refl _) ?_;obtain ⟨hx0,hxn⟩:=hx _ (mem_getD.2 ⟨k,by omega,rfl⟩)
  obtain ⟨xn,hxe⟩:=Int.eq_ofNat_of_zero_le hx0
  refine d3 ?_
  obtain ⟨rd_b,rd_o,rfl⟩:=rd.ptr (by omega)
  refine d20 ?_
  refine k_ld rfl zq (rd.iat k (by omega) (by omega)) ?_;refine k_ldh rfl zq ?_;refine k_len rfl zq ?_;refine k_lssS rfl zq (fun hc=>?_) (fun hc=>?_)
  ·have hlt:xs.getD k 0<b.tapes.length:=by omega
   refine d7 ?_
   obtain ⟨tb,to,rfl⟩:=rdt.ptr (by omega)
   have hok1:=hok
   rw [←onlyK_no (b:=b) hlt,←gT_take (by omega)] at hok1
   refine run_draw [(0,.pure),(2,.pure),(4,.pure),(5,.pure),(6,.pure),(1,.read),(3,.read),(7,.read),(8,.pure),(9,.read),(10,.keep),(11,.free),(12,.pure),(13,.free)] (by kernel_rfl) (by kernel_rfl) (List.Sublist.refl _) ?_;refine d8 ?_;refine d11 ?_;refine d81 ?_
   refine k_ld rfl zq (rd.iat k (by omega) (by omega)) ?_;refine k_ixs rfl zq (by first|rfl|assumption) (by omega) (by omega) ?_;refine k_ldN (vs:=tpL (b.tapes.getD xn default)) rfl zq rfl (rdt.eat xn (by omega) (by omega)) ?_;refine k_bs kdq rfl zq (by decide) (by decide) rfl (fun q34=>k_hp (k_put ?_));refine k_app1O rfl zq rfl hot kdq (by omega) (by omega) (fun w35 n35 o35=>k_put ?_);replace o35:OwnS 99 4 w35 (onlyT b (xs.take (k+1))).length (encs (onlyT b (xs.take (k+1)))) n35:=by
    rw [gT_take (by omega),onlyT_yes hlt,show (xs.getD k 0).toNat=xn by omega,encs_append,encs_tp,List.length_append];exact o35
   obtain ⟨p35,c35,rfl,_⟩:=o35.len
   refine d141 ?_;refine d109 ?_
   rw [←show onlyK b (xs.take (k+1))=onlyK b (xs.take k) by rw [gT_take (by omega),onlyK_no hlt]];refine m.weak (h':=h++[⟨true,q2,.cells (fbL b pp np cp (some ⟨tb,to,none⟩) nt ct pk nk ck).toArray 26 (0,0)⟩,⟨true,q4,.cells ([.int .i64 0,.slice none 0 0,.slice none 0 0,.slice none 0 0]:List Value).toArray 26 (0,0)⟩,⟨true,q5,.cells ([.int .i64 b.plank,.slice pp np cp,.slice p35 (onlyT b (xs.take (k+1))).length c35,.slice kp (onlyK b (xs.take (k+1))).length kc]:List Value).toArray 26 (0,0)⟩]++n35++nK) weakOff2 ?_
   exact hnext _ _ _ (by omega) ⟨k+1,_,_,n35,_,_,nK,rfl,by omega,o35,hok1,exU rfl,rfl⟩
  ·have hge: ¬xs.getD k 0<b.tapes.length:=by omega
   refine k_nil ?_;refine run_no ?_;obtain ⟨kb,ko,rfl⟩:=rdk.ptr (by omega)
   have hot1:=hot
   rw [←onlyT_no (b:=b) hge,←gT_take (by omega)] at hot1
   refine run_draw [(0,.pure),(2,.pure),(4,.pure),(5,.pure),(6,.pure),(8,.pure),(1,.read),(3,.read),(7,.read),(9,.read),(10,.pure),(11,.pure),(12,.pure),(13,.read),(14,.keep),(15,.free),(16,.pure),(17,.free)] (by kernel_rfl) (by kernel_rfl) (List.Sublist.refl _) ?_;refine d8 ?_;refine d11 ?_;refine d2 ?_;refine k_ldh rfl zq ?_
   refine k_ld rfl zq (rd.iat k (by omega) (by omega)) ?_;refine k_ldh rfl zq ?_;refine d71 ?_;refine k_ixs rfl zq (by first|rfl|assumption) (by omega) (by omega) ?_;refine k_ldN (vs:=skL (b.sticks.getD (xn-nt) default)) rfl zq rfl (rdk.eat (xn-nt) (by omega) (by omega)) ?_;refine k_bs kdq rfl zq (by decide) (by decide) rfl (fun q51=>k_hp (k_put ?_));refine k_app1O rfl zq rfl hok kdq (by omega) (by omega) (fun w52 n52 o52=>k_put ?_);replace o52:OwnS 73 3 w52 (onlyK b (xs.take (k+1))).length (encs (onlyK b (xs.take (k+1)))) n52:=by
    rw [gT_take (by omega),onlyK_yes hge,show (xs.getD k 0-(b.tapes.length:Int)).toNat=xn-nt by omega,encs_append,encs_sk,List.length_append];exact o52
   obtain ⟨p52,c52,rfl,_⟩:=o52.len
   refine d141 ?_;refine d109 ?_
   rw [←show onlyT b (xs.take (k+1))=onlyT b (xs.take k) by rw [gT_take (by omega),onlyT_no hge]];refine m.weak (h':=h++[⟨true,q2,.cells (fbL b pp np cp pt nt ct (some ⟨kb,ko,none⟩) nk ck).toArray 26 (0,0)⟩,⟨true,q4,.cells ([.int .i64 0,.slice none 0 0,.slice none 0 0,.slice none 0 0]:List Value).toArray 26 (0,0)⟩,⟨true,q5,.cells ([.int .i64 b.plank,.slice pp np cp,.slice tp (onlyT b (xs.take (k+1))).length tc,.slice p52 (onlyK b (xs.take (k+1))).length c52]:List Value).toArray 26 (0,0)⟩]++nT++n52) weakOff2 ?_
   exact hnext _ _ _ (by omega) ⟨k+1,_,_,nT,_,_,n52,rfl,by omega,hot1,o52,exU rfl,rfl⟩
 ·refine d75 ?_;refine d113 ?_;refine d91 ?_
  refine run_res (h++nT++nK) rfl Tryz.func65 rfl weakSub ?_;refine hK _ _ ?_;obtain rfl:k=n:=by omega
  rw [List.take_of_length_le (by omega)] at hot hok
  rw [List.take_of_length_le (show xs.length≤k by omega)];exact ⟨nT++nK,by rw [List.append_assoc],tp,tc,kp,kc,rfl,(hot.rd (List.Sublist.refl _)).keeps (List.sublist_append_left _ _),(hok.rd (List.Sublist.refl _)).keeps (List.sublist_append_right _ _),hot.cap,hok.cap⟩
end Go.Proofs
namespace Go.Proofs
open Go.Lo
open Go.Conc (G)
set_option maxRecDepth 100000
set_option synthInstance.maxSize 100000
set_option synthInstance.maxHeartbeats 1000000
set_option maxHeartbeats 4000000
variable {b:Fb} {pp:Option Addr} {np cp:Nat} {pt:Option Addr} {nt ct:Nat} {pk:Option Addr} {nk ck:Nat}
variable {B:Array Obj}
variable [LaidF B]
theorem f145_c (m:Md Tryz.prog B) (h:Hp) (rdp:Rp B h b pp np cp) (hp:np≤1000) (rdt:Rt B h b pt nt ct) (ht:nt≤1000) (rdk:Rk B h b pk nk ck) (hk:nk≤1000) (hv:FOk b) (hz0:fbS b=0):FnC m 145 #[fbV b pp np cp pt nt ct pk nk ck] h fun v h'=> ∃nw,h'=h++nw∧ ∃gg,RdI B nw v gg∧ClashOk b gg:=by
 have hml:=rdp.elen (by decide)
 have htl:=rdt.elen (by decide)
 have hkl:=rdk.elen (by decide)
 have hv1:=hv.few
 have hv2:=hv.few'
 have hall:allN b=nt+nk:=by unfold allN;omega
 refine fn_enter Tryz.func145 rfl rfl (l:=(fbV b pp np cp pt nt ct pk nk ck)::uu49) rfl ?_
 intro cf cs K hK
 refine rs2 ?_;refine k_box rfl zq (fun q1=>k_hp (k_put ?_));refine d12 ?_;refine rs4 ?_;refine k_ldA rfl zq ?_
 refine k_calC rfl zq (by kernel_rfl) (Post:=fun v nw=> ∃vs,RdS B nw 1 v (boatsOf b).length vs∧RdE B nw vs (boatsOf b)) (fun H' hH=>f106_c m H' (b:=b) (rdp.keeps (sq hH)) hp (rdt.keeps (sq hH)) ht (rdk.keeps (sq hH)) hk hv) ?_;rintro v nw ⟨vs,rdv,rde⟩;obtain ⟨bp,bc,rfl,_⟩:=id rdv
 refine k_hpA (k_put ?_);refine k_len rfl zq ?_;refine k_gtrS rfl zq (fun hc=>?_) (fun hc=>?_)
 ·have hbne:boatsOf b≠[]:=fun e=>by rw [e] at hc;exact absurd hc (by decide)
  refine d58 ?_
  refine run_res (h) rfl Tryz.func145 rfl weakSub ?_;refine hK _ _ ?_;exact ⟨[],by simp,[],RdI.nil,by rw [ClashOk,if_pos (.inr hbne)]⟩
 ·have hbe:boatsOf b=[]:=List.length_eq_zero_iff.1 (by omega)
  refine d13 ?_;refine rs9 ?_;refine d114 ?_;refine d114 ?_;refine k_add rfl zq (by unfold In64;omega) ?_
  refine k_calC rfl zq (by kernel_rfl) (Post:=fun v new=>OwnS 3 1 v (nt+nk) (ints (firsts (nt+nk))) new) (fun H' hH=>by have:=f188_c m H' (nt+nk) (by omega);rw [show ((nt+nk:Nat):Int)=(nt:Int)+(nk:Int) by omega] at this;exact this) ?_;rintro v n188 o188;refine k_hpA (k_put ?_);refine aq rfl ?_;refine rs5 ?_
  obtain ⟨p188,c188,rfl,_,r188⟩:=own_rdA (B:=B) o188
  have hfl:=firsts_length (nt+nk)
  refine d3 ?_;refine k_len rfl zq ?_
  refine k_calC rfl zq (by kernel_rfl) (Post:=fun v new=>RdLL B new v (subsL (nt+nk))) (fun H' hH=>f189_c m H' (r188.keeps (sq hH)) (by omega)) ?_;rintro v n189 ⟨ap,ac,as_,rfl,rdv,rde⟩;have hsl:=subsL_length (nt+nk)
  have hp6:=pow6' (nt+nk) (by omega)
  refine k_hpA (k_put ?_);refine d12 ?_;refine d142 ?_
  refine m.weak (h':=h++[⟨true,q1,.cells (fbL b pp np cp pt nt ct pk nk ck).toArray 26 (0,0)⟩]++n188++n189) weakSub ?_
  refine run_loop (fun nn l h'=> ∃(k:Nat) (gp:Option Addr) (gn gc:Nat) (gg:List Int),nn=(subsL (nt+nk)).length-k∧(k≤(subsL (nt+nk)).length)∧(RdS B (n188++n189) 1 (.slice gp gn gc) gn (ints gg))∧(Asc gg∧InB b gg∧gn≤nt+nk∧boatsOf (onlyI b gg)=[])∧(∀j:Nat,j<k→boatsOf (onlyI b ((subsL (nt+nk)).getD j []))=[]→ ¬fewer ((subsL (nt+nk)).getD j []) gg)∧(∃U:Nat→Value,l=((fbV b pp np cp pt nt ct pk nk ck)::(.pointer (some ⟨q1,0,none⟩))::(U 2)::(.slice gp gn gc)::(.slice ap (subsL (nt+nk)).length ac)::(.int .i64 (k:Int))::(U 6)::(U 7)::vw42 U 8 []))∧h++[⟨true,q1,.cells (fbL b pp np cp pt nt ct pk nk ck).toArray 26 (0,0)⟩]++n188++n189=h') _ ⟨0,p188,(nt+nk),c188,firsts (nt+nk),rfl,by omega,r188.keeps (List.sublist_append_left _ _),⟨asc_firsts _,by rw [←hall];exact inB_firsts b,Nat.le_refl _,by rw [←hall,onlyI_all];exact hbe⟩,fun j hj=>by omega,exU rfl,rfl⟩ ?_;rintro nn l h' ⟨k,gp,gn,gc,gg,rfl,hk9,hgr,hgf,hgm,⟨U,rfl⟩,rfl⟩ hnext1;refine run_seq ?_;refine d120 ?_;refine k_lssS rfl zq (fun hc=>?_) (fun hc=>?_)
  ·refine d98 ?_;refine run_seq ?_
   obtain ⟨ep,ec,ee,er⟩:=rde.2 k (by omega)
   have hx2:Asc ((subsL (nt+nk)).getD k [])∧InB b ((subsL (nt+nk)).getD k [])∧((subsL (nt+nk)).getD k []).length≤nt+nk:=by
    have:=subs_asc (nt+nk) _ (mem_getDR.2 ⟨k,by omega,rfl⟩:(subsL (nt+nk)).getD k []∈subsL (nt+nk))
    exact ⟨this.1,fun x hx=>by have:=this.2.1 x hx;omega,this.2.2⟩
   have hvo:=onlyI_ok hv hx2.1 hx2.2.1
   have hto:=hvo.few
   have hko:=hvo.few'
   have hto':=Nat.le_trans (onlyT_le hx2.1 hx2.2.1) (show b.tapes.length≤1000 by omega)
   have hko':=Nat.le_trans (onlyK_le hx2.1 hx2.2.1) (show b.sticks.length≤1000 by omega)
   refine run_draw [(0,.pure),(1,.pure),(2,.pure),(4,.pure),(3,.read),(5,.keep),(6,.pure),(8,.pure),(9,.pure),(10,.pure),(7,.read),(11,.read),(12,.keep),(13,.keep),(14,.pure),(15,.pure),(16,.pure)] (by kernel_rfl) (by kernel_rfl) (List.Sublist.refl _) ?_;refine d3 ?_
   obtain ⟨rdv_b,rdv_o,rfl⟩:=rdv.ptr (by omega)
   refine k_ixs rfl zq (by first|rfl|assumption) (by omega) (by omega) ?_;refine mq rfl ?_;refine k_ld (v:= .slice ep ((subsL (nt+nk)).getD k []).length ec) rfl zq (by rw [←ee];exact rdv.vat k (by omega) (by omega)) ?_;refine k_calP (Post:=fun v=>IsB _ v) rfl zq (by kernel_rfl) (fun H' hH=>f67_c _ H' (er.keeps (sq hH)) (by omega) (hgr.keeps (sq hH))) ?_;rintro v (⟨hc,rfl⟩|⟨hc,rfl⟩)
   ·refine k_put ?_;have hfk:=hc
    refine d23 ?_;refine d21 ?_;refine k_ldA rfl rfl ?_
    refine k_ld (v:= .slice ep ((subsL (nt+nk)).getD k []).length ec) rfl rfl (by rw [←ee];exact rdv.vat k (by omega) (by omega)) ?_;refine k_calC rfl rfl (by kernel_rfl) (Post:=fun v new=> ∃tp tc kp kc,v=fbV (onlyI b ((subsL (nt+nk)).getD k [])) pp np cp tp (onlyT b ((subsL (nt+nk)).getD k [])).length tc kp (onlyK b ((subsL (nt+nk)).getD k [])).length kc∧RdS B new 4 (.slice tp (onlyT b ((subsL (nt+nk)).getD k [])).length tc) (onlyT b ((subsL (nt+nk)).getD k [])).length (encs (onlyT b ((subsL (nt+nk)).getD k [])))∧RdS B new 3 (.slice kp (onlyK b ((subsL (nt+nk)).getD k [])).length kc) (onlyK b ((subsL (nt+nk)).getD k [])).length (encs (onlyK b ((subsL (nt+nk)).getD k [])))∧(onlyT b ((subsL (nt+nk)).getD k [])).length≤tc∧(onlyK b ((subsL (nt+nk)).getD k [])).length≤kc) (fun H' hH=>f65_c m H' (b:=b) (pp:=pp) (np:=np) (cp:=cp) (rdt.keeps (sq hH)) ht (rdk.keeps (sq hH)) hk (er.keeps (sq hH)) (by omega) hx2.2.1) ?_;rintro v n65 ⟨tp,tc,kp,kc,rfl,rT,rK,_,_⟩;refine k_hpA (k_put ?_);refine k_calC rfl rfl (by kernel_rfl) (Post:=fun v nw=> ∃vs,RdS B nw 1 v (boatsOf (onlyI b ((subsL (nt+nk)).getD k []))).length vs∧RdE B nw vs (boatsOf (onlyI b ((subsL (nt+nk)).getD k [])))) (fun H' hH=>f106_c m H' (b:=(onlyI b ((subsL (nt+nk)).getD k []))) (rdp.keeps (sq hH)) hp (rT.keeps (sq hH)) hto' (rK.keeps (sq hH)) hko' hvo) ?_;rintro v nw2 ⟨vs2,rdv2,rde2⟩;obtain ⟨bp2,bc2,rfl,_⟩:=id rdv2
    refine k_hpA (k_put ?_);refine k_len rfl rfl ?_;refine k_eqlS rfl rfl (fun hc=>?_) (fun hc=>?_)
    ·have hfo:boatsOf (onlyI b ((subsL (nt+nk)).getD k []))=[]:=List.length_eq_zero_iff.1 (by omega)
     refine k_pickT rfl zq ?_;refine d7 ?_;refine rr5 ?_;refine d11 ?_;refine k_ld (v:= .slice ep ((subsL (nt+nk)).getD k []).length ec) rfl zq (by rw [←ee];exact rdv.vat k (by omega) (by omega)) ?_;refine d45 ?_;refine rr3 ?_;refine d61 ?_
     exact m.weak weakSub (hnext1 _ _ _ (by omega) ⟨k+1,ep,_,ec,((subsL (nt+nk)).getD k []),rfl,by omega,er.keeps (List.sublist_append_right _ _),⟨hx2.1,hx2.2.1,hx2.2.2,hfo⟩,fun j hj hf hfw=>by
      rcases Nat.lt_or_ge j k with h1|h1
      ·exact hgm j h1 hf (fewer_trans hfw hfk)
      ·obtain rfl:j=k:=by omega
       exact fewer_irrefl _ hfw,exU rfl,rfl⟩)
    ·have hnf: ¬boatsOf (onlyI b ((subsL (nt+nk)).getD k []))=[]:=fun e=>by rw [e] at hc;exact hc rfl
     refine k_pickT rfl zq ?_;refine d13 ?_;refine d109 ?_;exact m.weak weakSub (hnext1 _ _ _ (by omega) ⟨k+1,gp,gn,gc,gg,rfl,by omega,hgr,hgf,fun j hj hf hfw=>by
      rcases Nat.lt_or_ge j k with h1|h1
      ·exact hgm j h1 hf hfw
      ·obtain rfl:j=k:=by omega
       exact hnf hf,exU rfl,rfl⟩)
   ·refine k_put ?_;refine d115 ?_;refine d72 ?_;refine d13 ?_;refine d109 ?_;exact m.weak weakSub (hnext1 _ _ _ (by omega) ⟨k+1,gp,gn,gc,gg,rfl,by omega,hgr,hgf,fun j hj hf hfw=>by
     rcases Nat.lt_or_ge j k with h1|h1
     ·exact hgm j h1 hf hfw
     ·obtain rfl:j=k:=by omega
      exact absurd hfw (by assumption),exU rfl,rfl⟩)
  ·refine d75 ?_;refine d99 ?_
   refine run_res (h++n188++n189) rfl Tryz.func145 rfl weakSub ?_;refine hK _ _ ?_;obtain rfl:k=(subsL (nt+nk)).length:=by omega
   obtain ⟨g1,g2,g3,g4⟩:=hgf
   have hgl:=hgr.ilen
   subst hgl
   refine ⟨n188++n189,by rw [←List.append_assoc],gg,⟨_,_,rfl,hgr⟩,?_⟩
   rw [ClashOk,if_neg (by rintro (e|e);exact e hz0;exact e hbe)];refine ⟨g1,g2,g4,fun xs ha hxs he=>?_⟩
   obtain ⟨nn,n1,rfl⟩:=kept_of ha hxs
   obtain ⟨j,hj,ej⟩:=mem_getDR.1 (kept_subs nn (allN b))
   rw [hall] at hj ej he⊢
   have:=hgm j hj
   rw [show (subsL (nt+nk)).getD j []=keptI nn (nt+nk) from ej] at this
   exact this he
theorem f72_c (m:Md Tryz.prog B) (h:Hp) (rdp:Rp B h b pp np cp) (hp:np≤1000) (rdt:Rt B h b pt nt ct) (ht:nt≤1000) (rdk:Rk B h b pk nk ck) (hk:nk≤1000):FnC m 72 #[fbV b pp np cp pt nt ct pk nk ck] h fun v h'=> ∃nw,h'=h++nw∧ ∃wT wK gg,v= .tuple [wT,wK,.int .i64 (fbS b)].toArray∧RdI B nw wT (gT b gg)∧RdI B nw wK (gK b gg)∧ClashOk b gg:=by
 have hml:=rdp.elen (by decide)
 have htl:=rdt.elen (by decide)
 have hkl:=rdk.elen (by decide)
 refine fn_enter Tryz.func72 rfl rfl (l:=[fbV b pp np cp pt nt ct pk nk ck,undef,undef,undef,undef,undef,undef,undef,undef,undef,undef,undef,undef,undef,undef,undef,undef,undef,undef,undef,undef,undef,undef,undef,undef,undef,undef,undef,undef,undef,undef,undef,undef,undef,undef,undef,undef,undef,undef,undef,undef,undef,undef,undef,undef,undef,undef,undef,undef,undef,undef]) rfl ?_
 intro cf cs K hK
 refine rs4 ?_;refine k_box rfl zq (fun q1=>k_hp (k_put ?_));refine k_as rfl zq ?_;refine d97 ?_;refine d94 ?_;refine k_calP (Post:=fun v=>v=_) rfl zq (by kernel_rfl) (fun H' hH=>f22_c m H' (rdp.keeps (sq hH)) hp (rdt.keeps (sq hH)) ht (rdk.keeps (sq hH)) hk) ?_;rintro v rfl;refine d135 ?_
 refine k_neqS rfl zq (fun hc=>?_) (fun hc=>?_)
 ·refine d7 ?_;refine d118 ?_;refine k_as rfl zq ?_;refine d27 ?_
  refine run_res (h) rfl Tryz.func72 rfl weakSub ?_;refine hK _ _ ?_;exact ⟨[],by simp,_,_,[],rfl,RdI.nil,RdI.nil,by rw [ClashOk,if_pos (.inl (by assumption))]⟩
 ·refine d37 ?_
  have hz0:fbS b=0:=by omega
  have hv:=fbS_zero hz0
  have hv1:=hv.few
  have hv2:=hv.few'
  have hall:allN b=nt+nk:=by unfold allN;omega
  refine rr2 ?_;refine d46 ?_;refine d94 ?_;refine k_calC rfl zq (by kernel_rfl) (Post:=fun v nw=> ∃gg,RdI B nw v gg∧ClashOk b gg) (fun H' hH=>f145_c m H' (b:=b) (rdp.keeps (sq hH)) hp (rdt.keeps (sq hH)) ht (rdk.keeps (sq hH)) hk hv hz0) ?_;rintro v nC ⟨gg,⟨gp,gc,rfl,rg⟩,hok⟩;refine k_hpA (k_put ?_);obtain ⟨ga,gi,gl⟩:=clash_le hok
  refine d12 ?_;refine d142 ?_
  refine run_loop (fun nn l h'=> ∃(k:Nat) (wT wK:Value) (nT nK:Hp),nn=gg.length-k∧(k≤gg.length)∧(OwnS 3 1 wT (gT b (gg.take k)).length (ints (gT b (gg.take k))) nT)∧(OwnS 3 1 wK (gK b (gg.take k)).length (ints (gK b (gg.take k))) nK)∧(∃U:Nat→Value,l=((fbV b pp np cp pt nt ct pk nk ck)::(.pointer (some ⟨q1,0,none⟩))::vw4 U 2 (wT::wK::(.slice gp gg.length gc)::(.int .i64 (k:Int))::vw41 U 10 [])))∧h++[⟨true,q1,.cells (fbL b pp np cp pt nt ct pk nk ck).toArray 26 (0,0)⟩]++nC++nT++nK=h') _ ⟨0,.slice none 0 0,.slice none 0 0,[],[],rfl,by omega,OwnS.nil,OwnS.nil,exU rfl,(by simp)⟩ ?_;rintro nn l h' ⟨k,wT,wK,nT,nK,rfl,hk9,hoT,hoK,⟨U,rfl⟩,rfl⟩ hnext2;have hgtl:=Nat.le_trans (gT_le b (gg.take k)) (List.length_take_le _ _)
  have hgkl:=Nat.le_trans (gK_le b (gg.take k)) (List.length_take_le _ _)
  refine run_seq ?_;refine d120 ?_;refine k_lssS rfl zq (fun hc=>?_) (fun hc=>?_)
  ·refine d98 ?_;refine run_seq ?_
   have hgk:=gi _ (mem_getD.2 ⟨k,by omega,rfl⟩)
   refine run_draw [(0,.pure),(1,.pure),(2,.pure),(4,.pure),(3,.read),(5,.read),(6,.pure),(7,.pure)] (by kernel_rfl) (by kernel_rfl) (List.Sublist.refl _) ?_;refine d3 ?_
   obtain ⟨rg_b,rg_o,rfl⟩:=rg.ptr (by omega)
   refine d20 ?_
   refine k_ld rfl zq (rg.iat k (by omega) (by omega)) ?_;refine k_ldh rfl zq ?_;refine k_len rfl zq ?_;refine k_lssS rfl zq (fun hc=>?_) (fun hc=>?_)
   ·refine d7 ?_;refine rr8 ?_;refine d3 ?_;refine d39 ?_
    refine k_ld rfl zq (rg.iat k (by omega) (by omega)) ?_;refine k_bs kdq rfl zq (by decide) (by decide) rfl (fun q36=>k_hp (k_put ?_));refine k_app1O rfl zq rfl hoT kdq (by omega) (by omega) (fun w54 n54 o54=>k_put ?_);replace o54:OwnS 3 1 w54 (gT b (gg.take (k+1))).length (ints (gT b (gg.take (k+1)))) n54:=by
     rw [gT_take (by omega),gT_yes (b:=b) (x:=gg.getD k 0) (by omega),ints_append,List.length_append];exact o54
    have hoK1:=hoK
    rw [←gK_no (b:=b) (x:=gg.getD k 0) (by omega),←gT_take (by omega)] at hoK1
    refine d45 ?_;refine rr3 ?_;refine d61 ?_
    refine m.weak (h':=h++[⟨true,q1,.cells (fbL b pp np cp pt nt ct pk nk ck).toArray 26 (0,0)⟩]++nC++n54++nK) weakOff2 ?_
    exact hnext2 _ _ _ (by omega) ⟨k+1,_,_,n54,nK,rfl,by omega,o54,hoK1,exU rfl,rfl⟩
   ·refine k_nil ?_;refine run_no ?_;refine run_draw [(0,.pure),(1,.pure),(2,.pure),(3,.pure),(5,.pure),(4,.read),(6,.read),(7,.pure),(8,.pure),(9,.keep),(10,.free),(11,.pure)] (by kernel_rfl) (by kernel_rfl) (List.Sublist.refl _) ?_;refine d3 ?_;refine mq rfl ?_;refine d20 ?_
    refine k_ld rfl zq (rg.iat k (by omega) (by omega)) ?_;refine k_ldh rfl zq ?_;refine d71 ?_;refine k_bs kdq rfl zq (by decide) (by decide) rfl (fun q47=>k_hp (k_put ?_));refine k_app1O rfl zq rfl hoK kdq (by omega) (by omega) (fun w62 n62 o62=>k_put ?_);replace o62:OwnS 3 1 w62 (gK b (gg.take (k+1))).length (ints (gK b (gg.take (k+1)))) n62:=by
     rw [gT_take (by omega),gK_yes (b:=b) (x:=gg.getD k 0) (by omega),ints_append,List.length_append,htl];exact o62
    have hoT1:=hoT
    rw [←gT_no (b:=b) (x:=gg.getD k 0) (by omega),←gT_take (by omega)] at hoT1
    refine d45 ?_;refine rr3 ?_;refine d61 ?_
    refine m.weak (h':=h++[⟨true,q1,.cells (fbL b pp np cp pt nt ct pk nk ck).toArray 26 (0,0)⟩]++nC++nT++n62) weakOff2 ?_
    exact hnext2 _ _ _ (by omega) ⟨k+1,_,_,nT,n62,rfl,by omega,hoT1,o62,exU rfl,rfl⟩
  ·refine d75 ?_;refine rs5 ?_;refine d3 ?_;refine k_as rfl zq ?_;refine d27 ?_
   refine run_res (h++nT++nK) rfl Tryz.func72 rfl weakSub ?_;refine hK _ _ ?_;obtain rfl:k=gg.length:=by omega
   rw [List.take_length] at hoT hoK
   exact ⟨nT++nK,by rw [List.append_assoc],_,_,gg,by rw [hz0],rdI_keeps (OwnS.rdI hoT) (List.sublist_append_left _ _),rdI_keeps (OwnS.rdI hoK) (List.sublist_append_right _ _),hok⟩
def setP (b:Fb) (i:Nat) (lo hi:Int):Fb:={b with pts:=b.pts.set i ⟨(b.pts.getD i default).h,lo,hi⟩}
def tapeS (b:Fb) (t:Tp):Int:=if fbS b≠0 then fbS b else openS (addT b t) 0
def tapeF (b:Fb) (t:Tp):Fb:=if fbS b≠0 then noF else agreeF (addT b t)
theorem f74_c (m:Md Tryz.prog B) (h:Hp) (rdp:Rp B h b pp np cp) (hp:np≤1000) (rdt:Rt B h b pt nt ct) (ht:nt≤1000) (rdk:Rk B h b pk nk ck) (hk:nk≤1000) (x:Tp):FnC m 74 #[fbV b pp np cp pt nt ct pk nk ck,tpV x] h fun v h'=> ∃nw,h'=h++nw∧ ∃w,v= .tuple [w,.int .i64 (tapeS b x)].toArray∧BkF B (tapeF b x) nw w:=by
 have hml:=rdp.elen (by decide)
 have htl:=rdt.elen (by decide)
 have hkl:=rdk.elen (by decide)
 refine fn_enter Tryz.func74 rfl rfl (l:=(fbV b pp np cp pt nt ct pk nk ck)::(tpV x)::uu22) rfl ?_
 intro cf cs K hK
 refine rs4 ?_;refine k_box rfl zq (fun q2=>k_hp (k_put ?_));refine k_box rfl zq (fun q3=>k_hp (k_put ?_));refine k_new rfl zq (fun q4=>k_hp (k_put ?_));refine d12 ?_;refine d94 ?_
 refine k_calP (Post:=fun v=>v=_) rfl zq (by kernel_rfl) (fun H' hH=>f21_c m H' (rdp.keeps (sq hH)) hp (rdt.keeps (sq hH)) ht (rdk.keeps (sq hH)) hk) ?_;rintro v rfl;refine d135 ?_
 refine k_neqS rfl zq (fun hc=>?_) (fun hc=>?_)
 ·refine d7 ?_;refine rs4 ?_;refine d112 ?_;refine d70 ?_
  refine run_res (h) rfl Tryz.func74 rfl weakSub ?_;refine hK _ _ ?_;exact ⟨[],by simp,_,by rw [tapeS,if_pos (by assumption)],by rw [tapeF,if_pos (by assumption)];exact BkF.zero⟩
 ·have hv:=fbS_zero hc
  have hv1:=hv.few
  have hv2:=hv.few'
  refine d37 ?_
  refine run_drawT [0,1,2,3,4,5,6,7] (by kernel_rfl) (by kernel_rfl) (List.Sublist.refl _) ?_;refine DrawT.split 2 4 (by decide) ?_ ?_
  ·refine DrawT.leaf [(0,.pure),(1,.read),(3,.read),(2,.keep),(4,.keep),(5,.free),(6,.pure),(7,.free)] (by kernel_rfl) ?_
   refine d136 ?_
   refine k_calC rfl zq (by kernel_rfl) (fun H' hH=>f147_c m H' (rdt.keeps (sq hH)) (by omega)) ?_;rintro v n2 o2;refine k_hpA (k_put ?_);obtain ⟨p2,c2,rfl,hc2,r2⟩:=own_rdA (B:=B) o2
   refine k_bs kdq rfl zq (by decide) (by decide) rfl (fun q17=>k_hp (k_put ?_));refine k_app1O rfl zq rfl o2 kdq (by omega) (by omega) (fun w9 n9 o9=>k_put ?_);replace o9:OwnS 99 4 w9 (nt+1) (encs (addT b x).tapes) n9:=by rw [show encs (addT b x).tapes=encs b.tapes++tpL x by rw [addT,encs_append,encs_tp]];exact o9
   obtain ⟨p9,c9,rfl,hc9,r9⟩:=own_rdA (B:=B) o9
   refine d141 ?_;refine rs6 ?_;refine k_ldA rfl zq ?_
   refine k_calC rfl zq (by kernel_rfl) (fun H' hH=>f141_c m H' (b:=addT b x) (rdp.keeps (sq hH)) hp (r9.keeps (sq hH)) (by omega) (rdk.keeps (sq hH)) hk) ?_;rintro v n5 ⟨w5,rfl,hb5⟩;obtain ⟨pp5,np5,cp5,pt5,nt5,ct5,pk5,nk5,ck5,rfl,hr5⟩:=hb5
   refine k_hpA (k_put ?_);refine d17 ?_;refine d70 ?_
   refine run_res (h++n5) rfl Tryz.func74 rfl weakSub ?_;refine hK _ _ ?_;exact ⟨n5,rfl,_,by rw [tapeS,if_neg (fun e=>e hc)],by rw [tapeF,if_neg (fun e=>e hc)];exact ⟨_,_,_,_,_,_,_,_,_,rfl,hr5⟩⟩
  ·refine DrawT.leaf [(0,.pure),(1,.read),(3,.read),(4,.keep),(2,.keep),(5,.free),(6,.pure),(7,.free)] (by kernel_rfl) ?_
   refine d136 ?_
   refine k_bs kdq rfl zq (by decide) (by decide) rfl (fun q17=>k_hp (k_put ?_));refine k_calC rfl zq (by kernel_rfl) (fun H' hH=>f147_c m H' (rdt.keeps (sq hH)) (by omega)) ?_;rintro v n2 o2;refine k_hpA (k_put ?_);obtain ⟨p2,c2,rfl,hc2,r2⟩:=own_rdA (B:=B) o2
   refine k_app1O rfl zq rfl o2 kdq (by omega) (by omega) (fun w9 n9 o9=>k_put ?_);replace o9:OwnS 99 4 w9 (nt+1) (encs (addT b x).tapes) n9:=by rw [show encs (addT b x).tapes=encs b.tapes++tpL x by rw [addT,encs_append,encs_tp]];exact o9
   obtain ⟨p9,c9,rfl,hc9,r9⟩:=own_rdA (B:=B) o9
   refine d141 ?_;refine rs6 ?_;refine k_ldA rfl zq ?_
   refine k_calC rfl zq (by kernel_rfl) (fun H' hH=>f141_c m H' (b:=addT b x) (rdp.keeps (sq hH)) hp (r9.keeps (sq hH)) (by omega) (rdk.keeps (sq hH)) hk) ?_;rintro v n5 ⟨w5,rfl,hb5⟩;obtain ⟨pp5,np5,cp5,pt5,nt5,ct5,pk5,nk5,ck5,rfl,hr5⟩:=hb5
   refine k_hpA (k_put ?_);refine d17 ?_;refine d70 ?_
   refine run_res (h++n5) rfl Tryz.func74 rfl weakSub ?_;refine hK _ _ ?_;exact ⟨n5,rfl,_,by rw [tapeS,if_neg (fun e=>e hc)],by rw [tapeF,if_neg (fun e=>e hc)];exact ⟨_,_,_,_,_,_,_,_,_,rfl,hr5⟩⟩
theorem agree_w {B:Array Obj} {b:Fb} {h:Hp} {v w:Value} (hw:w=if openS b 0=0 then v else zeroF) (hv:BkF B b h v):BkF B (agreeF b) h w:=by
 subst hw
 unfold agreeF
 by_cases e:openS b 0=0
 ·rw [if_pos e,if_pos e];exact hv
 ·rw [if_neg e,if_neg e];exact BkF.zero
theorem ite_fb {p:Prop} [Decidable p] {w:Value} (h:w=if p then fbV b pp np cp pt nt ct pk nk ck else zeroF): ∃b' pp' np' cp' pt' nt' ct' pk' nk' ck',w=fbV b' pp' np' cp' pt' nt' ct' pk' nk' ck':=by
 subst h
 split
 ·exact ⟨_,_,_,_,_,_,_,_,_,_,rfl⟩
 ·exact ⟨noF,none,0,0,none,0,0,none,0,0,rfl⟩
theorem f148_c (m:Md Tryz.prog B) (h:Hp) (rdp:Rp B h b pp np cp) (hp:np≤1000) (rdt:Rt B h b pt nt ct) (ht:nt≤1000) (rdk:Rk B h b pk nk ck) (hk:nk≤1000):FnC m 148 #[fbV b pp np cp pt nt ct pk nk ck] h fun v h'=>h'=h∧ ∃w,v= .tuple [w,.int .i64 (openS b 0)].toArray∧w=if openS b 0=0 then fbV b pp np cp pt nt ct pk nk ck else zeroF:=by
 refine fn_enter Tryz.func148 rfl rfl (l:=(fbV b pp np cp pt nt ct pk nk ck)::uu16) rfl ?_
 intro cf cs K hK
 refine rs3 ?_;refine k_box rfl zq (fun q1=>k_hp (k_put ?_));refine k_new rfl zq (fun q2=>k_hp (k_put ?_));refine d12 ?_;refine d94 ?_
 refine k_calP (Post:=fun v=>v=_) rfl zq (by kernel_rfl) (fun H' hH=>f22_c m H' (rdp.keeps (sq hH)) hp (rdt.keeps (sq hH)) ht (rdk.keeps (sq hH)) hk) ?_;rintro v rfl;refine d135 ?_
 refine k_neqS rfl zq (fun hc=>?_) (fun hc=>?_)
 ·refine d7 ?_;refine rs4 ?_;refine d112 ?_;refine d70 ?_
  refine run_res (h) rfl Tryz.func148 rfl weakSub ?_;refine hK _ _ ?_;exact ⟨rfl,_,by rw [openS_b (by assumption)],by rw [openS_b (by assumption),if_neg (by assumption)]⟩
 ·refine d37 ?_;refine run_seq ?_
  have hz0:fbS b=0:=by omega
  refine rr4 ?_;refine k_ldA rfl zq ?_;refine k_calC rfl zq (by kernel_rfl) (Post:=fun v nw=> ∃vs,RdS B nw 1 v (boatsOf b).length vs∧RdE B nw vs (boatsOf b)) (fun H' hH=>f106_c m H' (b:=b) (rdp.keeps (sq hH)) hp (rdt.keeps (sq hH)) ht (rdk.keeps (sq hH)) hk (fbS_zero hz0)) ?_;rintro v nw ⟨vs,rdv,rde⟩;obtain ⟨bp,bc,rfl,_⟩:=id rdv
  refine k_hpA (k_put ?_);refine k_len rfl zq ?_;refine k_eqlS rfl zq (fun hc=>?_) (fun hc=>?_)
  ·refine d7 ?_;refine rs3 ?_;refine k_bld rfl zq ?_;refine d70 ?_
   refine run_res (h) rfl Tryz.func148 rfl weakSub ?_;refine hK _ _ ?_;have he:boatsOf b=[]:=List.length_eq_zero_iff.1 (by omega)
   exact ⟨rfl,_,by rw [openS_9 hz0 rfl he],by rw [openS_9 hz0 rfl he,if_neg (by decide)]⟩
  ·refine d13 ?_;refine d94 ?_;refine d70 ?_
   refine run_res (h) rfl Tryz.func148 rfl weakSub ?_;refine hK _ _ ?_;have he:boatsOf b≠[]:=fun e=>by rw [e] at hc;exact hc rfl
   exact ⟨rfl,_,by rw [openS_0 hz0 rfl he],by rw [openS_0 hz0 rfl he,if_pos rfl]⟩
theorem f76_c (m:Md Tryz.prog B) (h:Hp) (rdp:Rp B h b pp np cp) (hp:np≤1000) (rdt:Rt B h b pt nt ct) (ht:nt≤1000) (rdk:Rk B h b pk nk ck) (hk:nk≤1000) (x:Sk):FnC m 76 #[fbV b pp np cp pt nt ct pk nk ck,skV x] h fun v h'=> ∃nw,h'=h++nw∧ ∃w,v= .tuple [w,.int .i64 (stickS b x)].toArray∧ ∀S,RdS B S 3 (.slice pp np cp) np (encs b.pts)→RdS B S 4 (.slice pt nt ct) nt (encs b.tapes)→RdS B S 3 (.slice pk nk ck) nk (encs b.sticks)→BkF B (stickF b x) (S++nw) w:=by
 have hml:=rdp.elen (by decide)
 have htl:=rdt.elen (by decide)
 have hkl:=rdk.elen (by decide)
 refine fn_enter Tryz.func76 rfl rfl (l:=(fbV b pp np cp pt nt ct pk nk ck)::(skV x)::uu17) rfl ?_
 intro cf cs K hK
 refine rs4 ?_;refine k_box rfl zq (fun q2=>k_hp (k_put ?_));refine k_box rfl zq (fun q3=>k_hp (k_put ?_));refine k_new rfl zq (fun q4=>k_hp (k_put ?_));refine d12 ?_;refine d94 ?_
 refine k_calP (Post:=fun v=>v=_) rfl zq (by kernel_rfl) (fun H' hH=>f22_c m H' (rdp.keeps (sq hH)) hp (rdt.keeps (sq hH)) ht (rdk.keeps (sq hH)) hk) ?_;rintro v rfl;refine d135 ?_
 refine k_neqS rfl zq (fun hc=>?_) (fun hc=>?_)
 ·refine d7 ?_;refine rs4 ?_;refine d112 ?_;refine d70 ?_
  refine run_res (h) rfl Tryz.func76 rfl weakSub ?_;refine hK _ _ ?_;exact ⟨[],by simp,_,by rw [stickS,if_pos (by assumption)],fun S _ _ _=>by rw [stickF,if_pos (by assumption)];exact BkF.zero⟩
 ·refine d37 ?_
  have hz:fbS b=0:=by omega
  have hv:=fbS_zero hz
  have hv1:=hv.few
  have hv2:=hv.few'
  refine rr8 ?_;refine k_ldA rfl zq ?_;refine k_ldA rfl zq ?_;refine k_calC rfl zq (by kernel_rfl) (Post:=fun v new=> ∃rp rc,v=fbV (addK b x) pp np cp pt nt ct rp (nk+1) rc∧RdS B new 3 (.slice rp (nk+1) rc) (nk+1) (encs (addK b x).sticks)) (fun H' hH=>f59_c m H' (b:=b) (rdk.keeps (sq hH)) hk x) ?_;rintro v nR ⟨rp,rc,rfl,rr⟩;refine k_hpA (k_put ?_);refine k_calP (Post:=fun v=> ∃w,v= .tuple [w,.int .i64 (openS (addK b x) 0)].toArray∧w=if openS (addK b x) 0=0 then (fbV (addK b x) pp np cp pt nt ct rp (nk+1) rc) else zeroF) rfl zq (by kernel_rfl) (fun H' hH=>f148_c m H' (b:=(addK b x)) (rdp.keeps (sq hH)) hp (rdt.keeps (sq hH)) ht (rr.keeps (sq hH)) (by omega)) ?_;rintro v ⟨w148,rfl,hw148⟩;obtain ⟨b1,pp1,np1,cp1,pt1,nt1,ct1,pk1,nk1,ck1,rfl⟩:=ite_fb hw148
  refine k_put ?_;refine d17 ?_;refine d70 ?_;refine run_res (h++nR) rfl Tryz.func76 rfl weakSub ?_;refine hK _ _ ?_;exact ⟨nR,rfl,_,by rw [stickS,if_neg (fun e=>e hz)],fun S s1 s2 s3=>by rw [stickF,if_neg (fun e=>e hz)];exact agree_w hw148 ⟨_,_,_,_,_,_,_,_,_,rfl,s1.keeps (List.sublist_append_left _ _),s2.keeps (List.sublist_append_left _ _),rr.keeps (List.sublist_append_right _ _)⟩⟩
theorem f75_c (m:Md Tryz.prog B) (h:Hp) (rdp:Rp B h b pp np cp) (hp:np≤1000) (rdt:Rt B h b pt nt ct) (ht:nt≤1000) (rdk:Rk B h b pk nk ck) (hk:nk≤1000) (x:Tp):FnC m 75 #[fbV b pp np cp pt nt ct pk nk ck,tpV x] h fun v h'=> ∃nw,h'=h++nw∧ ∃w,v= .tuple [w,.int .i64 (tapeS b x)].toArray∧ ∀S,RdS B S 3 (.slice pp np cp) np (encs b.pts)→RdS B S 4 (.slice pt nt ct) nt (encs b.tapes)→RdS B S 3 (.slice pk nk ck) nk (encs b.sticks)→BkF B (tapeF b x) (S++nw) w:=by
 have hml:=rdp.elen (by decide)
 have htl:=rdt.elen (by decide)
 have hkl:=rdk.elen (by decide)
 refine fn_enter Tryz.func75 rfl rfl (l:=(fbV b pp np cp pt nt ct pk nk ck)::(tpV x)::uu17) rfl ?_
 intro cf cs K hK
 refine rs4 ?_;refine k_box rfl zq (fun q2=>k_hp (k_put ?_));refine k_box rfl zq (fun q3=>k_hp (k_put ?_));refine k_new rfl zq (fun q4=>k_hp (k_put ?_));refine d12 ?_;refine d94 ?_
 refine k_calP (Post:=fun v=>v=_) rfl zq (by kernel_rfl) (fun H' hH=>f22_c m H' (rdp.keeps (sq hH)) hp (rdt.keeps (sq hH)) ht (rdk.keeps (sq hH)) hk) ?_;rintro v rfl;refine d135 ?_
 refine k_neqS rfl zq (fun hc=>?_) (fun hc=>?_)
 ·refine d7 ?_;refine rs4 ?_;refine d112 ?_;refine d70 ?_
  refine run_res (h) rfl Tryz.func75 rfl weakSub ?_;refine hK _ _ ?_;exact ⟨[],by simp,_,by rw [tapeS,if_pos (by assumption)],fun S _ _ _=>by rw [tapeF,if_pos (by assumption)];exact BkF.zero⟩
 ·refine d37 ?_
  have hz:fbS b=0:=by omega
  have hv:=fbS_zero hz
  have hv1:=hv.few
  have hv2:=hv.few'
  refine rr8 ?_;refine k_ldA rfl zq ?_;refine k_ldA rfl zq ?_;refine k_calC rfl zq (by kernel_rfl) (Post:=fun v new=> ∃rp rc,v=fbV (addT b x) pp np cp rp (nt+1) rc pk nk ck∧RdS B new 4 (.slice rp (nt+1) rc) (nt+1) (encs (addT b x).tapes)) (fun H' hH=>f78_c m H' (b:=b) (rdt.keeps (sq hH)) ht x) ?_;rintro v nR ⟨rp,rc,rfl,rr⟩;refine k_hpA (k_put ?_);refine k_calP (Post:=fun v=> ∃w,v= .tuple [w,.int .i64 (openS (addT b x) 0)].toArray∧w=if openS (addT b x) 0=0 then (fbV (addT b x) pp np cp rp (nt+1) rc pk nk ck) else zeroF) rfl zq (by kernel_rfl) (fun H' hH=>f148_c m H' (b:=(addT b x)) (rdp.keeps (sq hH)) hp (rr.keeps (sq hH)) (by omega) (rdk.keeps (sq hH)) hk) ?_;rintro v ⟨w148,rfl,hw148⟩;obtain ⟨b1,pp1,np1,cp1,pt1,nt1,ct1,pk1,nk1,ck1,rfl⟩:=ite_fb hw148
  refine k_put ?_;refine d17 ?_;refine d70 ?_;refine run_res (h++nR) rfl Tryz.func75 rfl weakSub ?_;refine hK _ _ ?_;exact ⟨nR,rfl,_,by rw [tapeS,if_neg (fun e=>e hz)],fun S s1 s2 s3=>by rw [tapeF,if_neg (fun e=>e hz)];exact agree_w hw148 ⟨_,_,_,_,_,_,_,_,_,rfl,s1.keeps (List.sublist_append_left _ _),rr.keeps (List.sublist_append_right _ _),s3.keeps (List.sublist_append_left _ _)⟩⟩
theorem same_take {α:Type} [Inhabited α] {xs ys:List α} {k:Nat} (h1:k<xs.length) (h2:k<ys.length) (h:xs.take k=ys.take k) (e:xs.getD k default=ys.getD k default):xs.take (k+1)=ys.take (k+1):=by
 rw [List.take_succ,List.take_succ,h,List.getElem?_eq_getElem h1,List.getElem?_eq_getElem h2];rw [List.getD_eq_getElem?_getD,List.getD_eq_getElem?_getD,List.getElem?_eq_getElem h1,List.getElem?_eq_getElem h2] at e
 simp only [Option.getD_some] at e
 rw [e]
instance:Key3T Tryz.prog 80:=⟨by kernel_rfl⟩
instance:Key4T Tryz.prog 99:=⟨by kernel_rfl⟩
instance:KeyST Tryz.prog 73:=⟨by kernel_rfl⟩
theorem pt_ext {x y:Pt} (h:x.h=y.h∧x.lo=y.lo∧x.hi=y.hi):x=y:=by cases x;cases y;simp_all
theorem tp_ext {x y:Tp} (h:x.f=y.f∧x.t=y.t∧x.lo=y.lo∧x.hi=y.hi):x=y:=by cases x;cases y;simp_all
theorem sk_ext {x y:Sk} (h:x.h=y.h∧x.long=y.long∧x.fits=y.fits):x=y:=by cases x;cases y;simp_all
theorem fb_ext {x y:Fb} (h1:x.plank=y.plank) (h2:x.pts=y.pts) (h3:x.tapes=y.tapes) (h4:x.sticks=y.sticks):x=y:=by cases x;cases y;simp_all
theorem f58_c (m:Md Tryz.prog B) (h:Hp) (rdp:Rp B h b pp np cp) (hp:np≤1000) (rdt:Rt B h b pt nt ct) (ht:nt≤1000) (rdk:Rk B h b pk nk ck) (hk:nk≤1000) {b2:Fb} {pp2:Option Addr} {np2 cp2:Nat} {pt2:Option Addr} {nt2 ct2:Nat} {pk2:Option Addr} {nk2 ck2:Nat} (rdp2:RdS B h 3 (.slice pp2 np2 cp2) np2 (encs b2.pts)) (hp2:np2≤1000) (rdt2:RdS B h 4 (.slice pt2 nt2 ct2) nt2 (encs b2.tapes)) (ht2:nt2≤1000) (rdk2:RdS B h 3 (.slice pk2 nk2 ck2) nk2 (encs b2.sticks)) (hk2:nk2≤1000):FnC m 58 #[fbV b pp np cp pt nt ct pk nk ck,fbV b2 pp2 np2 cp2 pt2 nt2 ct2 pk2 nk2 ck2] h fun v h'=>h'=h∧IsB (b=b2) v:=by
 have hml:=rdp.elen (by decide)
 have htl:=rdt.elen (by decide)
 have hkl:=rdk.elen (by decide)
 have hml2:=rdp2.elen (by decide)
 have htl2:=rdt2.elen (by decide)
 have hkl2:=rdk2.elen (by decide)
 refine fn_enter Tryz.func58 rfl rfl (l:=[fbV b pp np cp pt nt ct pk nk ck,fbV b2 pp2 np2 cp2 pt2 nt2 ct2 pk2 nk2 ck2,undef,undef,undef,undef,undef,undef,undef,undef,undef,undef,undef,undef,undef,undef,undef,undef,undef,undef,undef,undef,undef,undef,undef,undef,undef,undef,undef,undef,undef,undef,undef,undef,undef,undef,undef,undef,undef,undef,undef,undef,undef,undef,undef,undef,undef,undef,undef,undef,undef,undef,undef,undef,undef,undef,undef,undef,undef,undef,undef,undef,undef,undef,undef,undef,undef,undef,undef,undef,undef,undef,undef,undef,undef,undef,undef,undef,undef,undef,undef,undef,undef,undef,undef,undef,undef,undef,undef,undef,undef,undef,undef,undef]) rfl ?_
 intro cf cs K hK
 refine rs3 ?_;refine k_box rfl zq (fun q2=>k_hp (k_put ?_));refine k_box rfl zq (fun q3=>k_hp (k_put ?_));refine d12 ?_;refine run_seq ?_
 refine run_region [(0,.free),(1,.free),(2,.free),(3,.free),(4,.free),(5,.free),(6,.free),(7,.free),(8,.free),(9,.free),(10,.free),(11,.free),(12,.free),(13,.free),(14,.free),(15,.free),(16,.free),(17,.free),(18,.free),(19,.free),(20,.free),(21,.free),(22,.free),(23,.free),(24,.free),(25,.free),(26,.free),(27,.free),(28,.free),(29,.free),(30,.free),(31,.free)] (by kernel_rfl) (by kernel_rfl) ?_;refine d2 ?_;refine d2 ?_
 refine k_neqS rfl zq (fun hc=>?_) (fun hc=>?_)
 ·refine d111 ?_;refine k_off rfl rfl ?_;refine k_pickT rfl zq ?_;refine d111 ?_;refine k_off rfl rfl ?_;refine k_pickT rfl zq ?_;refine d111 ?_;refine k_off rfl rfl ?_;refine d138 ?_
  refine run_res (h) rfl Tryz.func58 rfl weakSub ?_;refine hK _ _ ?_;first
   |(have hmk:b.sticks=b2.sticks:=by
      rw [List.take_of_length_le (by omega),List.take_of_length_le (by omega)] at hew
      exact hew
     exact ⟨rfl,IsB.yes (fb_ext (by omega) hmp hmt hmk)⟩)
   |exact ⟨rfl,IsB.no (fun e=>by
   have e1:=congrArg Fb.plank e
   have e2:=congrArg (fun x:Fb=>x.pts.length) e
   have e3:=congrArg (fun x:Fb=>x.tapes.length) e
   have e4:=congrArg (fun x:Fb=>x.sticks.length) e
   first|omega|(rw [e] at hx;exact hx ⟨rfl,rfl,rfl⟩)|(rw [e] at hx;exact hx ⟨rfl,rfl,rfl,rfl⟩))⟩
 ·refine mq rfl ?_;refine d25 ?_;refine k_len rfl rfl ?_;refine d25 ?_;refine k_len rfl rfl ?_
  refine k_neqS rfl rfl (fun hc=>?_) (fun hc=>?_)
  ·refine k_pickF rfl zq ?_;refine d111 ?_;refine k_off rfl rfl ?_;refine k_pickT rfl zq ?_;refine d111 ?_;refine k_off rfl rfl ?_;refine d138 ?_;refine run_res (h) rfl Tryz.func58 rfl weakSub ?_;refine hK _ _ ?_;first
    |(have hmk:b.sticks=b2.sticks:=by
       rw [List.take_of_length_le (by omega),List.take_of_length_le (by omega)] at hew
       exact hew
      exact ⟨rfl,IsB.yes (fb_ext (by omega) hmp hmt hmk)⟩)
    |exact ⟨rfl,IsB.no (fun e=>by
    have e1:=congrArg Fb.plank e
    have e2:=congrArg (fun x:Fb=>x.pts.length) e
    have e3:=congrArg (fun x:Fb=>x.tapes.length) e
    have e4:=congrArg (fun x:Fb=>x.sticks.length) e
    first|omega|(rw [e] at hx;exact hx ⟨rfl,rfl,rfl⟩)|(rw [e] at hx;exact hx ⟨rfl,rfl,rfl,rfl⟩))⟩
  ·refine k_pickF rfl zq ?_;refine mq rfl ?_;refine d25 ?_;refine k_len rfl rfl ?_;refine d25 ?_;refine k_len rfl rfl ?_;refine k_neqS rfl rfl (fun hc=>?_) (fun hc=>?_)
   ·refine k_pickF rfl zq ?_;refine d111 ?_;refine k_off rfl rfl ?_;refine d138 ?_;refine run_res (h) rfl Tryz.func58 rfl weakSub ?_;refine hK _ _ ?_;first
     |(have hmk:b.sticks=b2.sticks:=by
        rw [List.take_of_length_le (by omega),List.take_of_length_le (by omega)] at hew
        exact hew
       exact ⟨rfl,IsB.yes (fb_ext (by omega) hmp hmt hmk)⟩)
     |exact ⟨rfl,IsB.no (fun e=>by
     have e1:=congrArg Fb.plank e
     have e2:=congrArg (fun x:Fb=>x.pts.length) e
     have e3:=congrArg (fun x:Fb=>x.tapes.length) e
     have e4:=congrArg (fun x:Fb=>x.sticks.length) e
     first|omega|(rw [e] at hx;exact hx ⟨rfl,rfl,rfl⟩)|(rw [e] at hx;exact hx ⟨rfl,rfl,rfl,rfl⟩))⟩
   ·refine k_pickF rfl zq ?_;refine mq rfl ?_;refine d25 ?_;refine k_len rfl rfl ?_;refine d25 ?_;refine k_len rfl rfl ?_;refine k_neqS rfl rfl (fun hc=>?_) (fun hc=>?_)
    ·refine k_pickF rfl zq ?_;refine d58 ?_;refine run_res (h) rfl Tryz.func58 rfl weakSub ?_;refine hK _ _ ?_;first
      |(have hmk:b.sticks=b2.sticks:=by
         rw [List.take_of_length_le (by omega),List.take_of_length_le (by omega)] at hew
         exact hew
        exact ⟨rfl,IsB.yes (fb_ext (by omega) hmp hmt hmk)⟩)
      |exact ⟨rfl,IsB.no (fun e=>by
      have e1:=congrArg Fb.plank e
      have e2:=congrArg (fun x:Fb=>x.pts.length) e
      have e3:=congrArg (fun x:Fb=>x.tapes.length) e
      have e4:=congrArg (fun x:Fb=>x.sticks.length) e
      first|omega|(rw [e] at hx;exact hx ⟨rfl,rfl,rfl⟩)|(rw [e] at hx;exact hx ⟨rfl,rfl,rfl,rfl⟩))⟩
    ·refine k_pickF rfl zq ?_;refine d37 ?_;refine d142 ?_;refine run_loop (fun nn l h'=> ∃(u:Nat),nn=np-u∧(u≤np)∧(b.pts.take u=b2.pts.take u)∧(∃U:Nat→Value,l=((U 0)::(U 1)::(.pointer (some ⟨q2,0,none⟩))::(.pointer (some ⟨q3,0,none⟩))::(U 4)::(.int .i64 (u:Int))::(U 6)::(U 7)::(U 8)::(U 9)::(U 10)::vw83 U 11 []))∧h++[⟨true,q2,.cells (fbL b pp np cp pt nt ct pk nk ck).toArray 26 (0,0)⟩,⟨true,q3,.cells (fbL b2 pp2 np2 cp2 pt2 nt2 ct2 pk2 nk2 ck2).toArray 26 (0,0)⟩]=h') _ ⟨0,rfl,by omega,rfl,exU rfl,rfl⟩ ?_;rintro nn l h' ⟨u,rfl,hu,heu,⟨U,rfl⟩,rfl⟩ hnext1;refine run_seq ?_;refine rs5 ?_;refine mq rfl ?_;refine d114 ?_;refine k_lssS rfl zq (fun hc=>?_) (fun hc=>?_)
     ·refine d98 ?_;refine run_seq ?_
      refine run_draw [(0,.pure),(2,.pure),(5,.pure),(7,.pure),(1,.read),(3,.pure),(4,.read),(6,.read),(8,.pure),(9,.read),(10,.pure)] (by kernel_rfl) (by kernel_rfl) (List.Sublist.refl _) ?_;(first|refine k_fa0 rfl zq ?_|refine k_fa rfl zq ?_);refine mq rfl ?_;(first|refine k_fa0 rfl zq ?_|refine k_fa rfl zq ?_);refine mq rfl ?_;refine k_ldh rfl zq ?_
      obtain ⟨m1,o1,rfl⟩:=rdp.ptr (by omega)
      refine k_ixs rfl zq (by first|rfl|assumption) (by omega) (by omega) ?_;refine k_ldN (vs:=ptL (b.pts.getD u default)) rfl zq rfl (rdp.eat u (by omega) (by omega)) ?_;refine k_ldh rfl zq ?_;obtain ⟨n1,u1,rfl⟩:=rdp2.ptr (by omega)
      refine k_ixs rfl zq (by first|rfl|assumption) (by omega) (by omega) ?_;refine k_ldN (vs:=ptL (b2.pts.getD u default)) rfl zq rfl (rdp2.eat u (by omega) (by omega)) ?_;refine k_neq3 (hg:=by kernel_rfl) rfl zq (fun hc=>?_) (fun hc=>?_)
      ·have hx:=hc
       refine d58 ?_
       refine run_res (h) rfl Tryz.func58 rfl weakSub ?_;refine hK _ _ ?_;first
        |(have hmk:b.sticks=b2.sticks:=by
           rw [List.take_of_length_le (by omega),List.take_of_length_le (by omega)] at hew
           exact hew
          exact ⟨rfl,IsB.yes (fb_ext (by omega) hmp hmt hmk)⟩)
        |exact ⟨rfl,IsB.no (fun e=>by
        have e1:=congrArg Fb.plank e
        have e2:=congrArg (fun x:Fb=>x.pts.length) e
        have e3:=congrArg (fun x:Fb=>x.tapes.length) e
        have e4:=congrArg (fun x:Fb=>x.sticks.length) e
        first|omega|(rw [e] at hx;exact hx ⟨rfl,rfl,rfl⟩)|(rw [e] at hx;exact hx ⟨rfl,rfl,rfl,rfl⟩))⟩
      ·have hx:=hc
       refine d13 ?_;refine d109 ?_
       exact m.weak weakSub (hnext1 _ _ _ (by omega) ⟨u+1,rfl,by omega,same_take (by omega) (by omega) heu (pt_ext hx),exU rfl,rfl⟩)
     ·refine d75 ?_;refine run_seq ?_;refine rs1 ?_
      have hmp:b.pts=b2.pts:=by
       rw [List.take_of_length_le (by omega),List.take_of_length_le (by omega)] at heu
       exact heu
      refine d54 ?_
      refine run_loop (fun nn l h'=> ∃(v:Nat),nn=nt-v∧(v≤nt)∧(b.tapes.take v=b2.tapes.take v)∧(∃U:Nat→Value,l=((U 0)::(U 1)::(.pointer (some ⟨q2,0,none⟩))::(.pointer (some ⟨q3,0,none⟩))::(U 4)::(U 5)::(.int .i64 (v:Int))::(U 7)::(U 8)::(U 9)::(U 10)::vw83 U 11 []))∧h++[⟨true,q2,.cells (fbL b pp np cp pt nt ct pk nk ck).toArray 26 (0,0)⟩,⟨true,q3,.cells (fbL b2 pp2 np2 cp2 pt2 nt2 ct2 pk2 nk2 ck2).toArray 26 (0,0)⟩]=h') _ ⟨0,rfl,by omega,rfl,exU rfl,rfl⟩ ?_;rintro nn l h' ⟨v,rfl,hv,hev,⟨U,rfl⟩,rfl⟩ hnext2;refine run_seq ?_;refine rs5 ?_;refine mq rfl ?_;refine d114 ?_;refine k_lssS rfl zq (fun hc=>?_) (fun hc=>?_)
      ·refine d98 ?_;refine run_seq ?_
       refine run_draw [(0,.pure),(2,.pure),(5,.pure),(7,.pure),(1,.read),(3,.pure),(4,.read),(6,.read),(8,.pure),(9,.read),(10,.pure)] (by kernel_rfl) (by kernel_rfl) (List.Sublist.refl _) ?_;(first|refine k_fa0 rfl zq ?_|refine k_fa rfl zq ?_);refine mq rfl ?_;(first|refine k_fa0 rfl zq ?_|refine k_fa rfl zq ?_);refine mq rfl ?_;refine k_ldh rfl zq ?_
       obtain ⟨m2,o2,rfl⟩:=rdt.ptr (by omega)
       refine k_ixs rfl zq (by first|rfl|assumption) (by omega) (by omega) ?_;refine k_ldN (vs:=tpL (b.tapes.getD v default)) rfl zq rfl (rdt.eat v (by omega) (by omega)) ?_;refine k_ldh rfl zq ?_;obtain ⟨n2,u2,rfl⟩:=rdt2.ptr (by omega)
       refine k_ixs rfl zq (by first|rfl|assumption) (by omega) (by omega) ?_;refine k_ldN (vs:=tpL (b2.tapes.getD v default)) rfl zq rfl (rdt2.eat v (by omega) (by omega)) ?_;refine k_neq4 (hg:=by kernel_rfl) rfl zq (fun hc=>?_) (fun hc=>?_)
       ·have hx:=hc
        refine d58 ?_
        refine run_res (h) rfl Tryz.func58 rfl weakSub ?_;refine hK _ _ ?_;first
         |(have hmk:b.sticks=b2.sticks:=by
            rw [List.take_of_length_le (by omega),List.take_of_length_le (by omega)] at hew
            exact hew
           exact ⟨rfl,IsB.yes (fb_ext (by omega) hmp hmt hmk)⟩)
         |exact ⟨rfl,IsB.no (fun e=>by
         have e1:=congrArg Fb.plank e
         have e2:=congrArg (fun x:Fb=>x.pts.length) e
         have e3:=congrArg (fun x:Fb=>x.tapes.length) e
         have e4:=congrArg (fun x:Fb=>x.sticks.length) e
         first|omega|(rw [e] at hx;exact hx ⟨rfl,rfl,rfl⟩)|(rw [e] at hx;exact hx ⟨rfl,rfl,rfl,rfl⟩))⟩
       ·have hx:=hc
        refine d13 ?_;refine d109 ?_
        exact m.weak weakSub (hnext2 _ _ _ (by omega) ⟨v+1,rfl,by omega,same_take (by omega) (by omega) hev (tp_ext hx),exU rfl,rfl⟩)
      ·refine d75 ?_;refine run_seq ?_;refine rs1 ?_
       have hmt:b.tapes=b2.tapes:=by
        rw [List.take_of_length_le (by omega),List.take_of_length_le (by omega)] at hev
        exact hev
       refine d54 ?_
       refine run_loop (fun nn l h'=> ∃(w:Nat),nn=nk-w∧(w≤nk)∧(b.sticks.take w=b2.sticks.take w)∧(∃U:Nat→Value,l=((U 0)::(U 1)::(.pointer (some ⟨q2,0,none⟩))::(.pointer (some ⟨q3,0,none⟩))::(U 4)::(U 5)::(U 6)::(.int .i64 (w:Int))::(U 8)::(U 9)::(U 10)::vw83 U 11 []))∧h++[⟨true,q2,.cells (fbL b pp np cp pt nt ct pk nk ck).toArray 26 (0,0)⟩,⟨true,q3,.cells (fbL b2 pp2 np2 cp2 pt2 nt2 ct2 pk2 nk2 ck2).toArray 26 (0,0)⟩]=h') _ ⟨0,rfl,by omega,rfl,exU rfl,rfl⟩ ?_;rintro nn l h' ⟨w,rfl,hw,hew,⟨U,rfl⟩,rfl⟩ hnext3;refine run_seq ?_;refine rs5 ?_;refine mq rfl ?_;refine d114 ?_;refine k_lssS rfl zq (fun hc=>?_) (fun hc=>?_)
       ·refine d98 ?_;refine run_seq ?_
        refine run_draw [(0,.pure),(2,.pure),(5,.pure),(7,.pure),(1,.read),(3,.pure),(4,.read),(6,.read),(8,.pure),(9,.read),(10,.pure)] (by kernel_rfl) (by kernel_rfl) (List.Sublist.refl _) ?_;(first|refine k_fa0 rfl zq ?_|refine k_fa rfl zq ?_);refine mq rfl ?_;(first|refine k_fa0 rfl zq ?_|refine k_fa rfl zq ?_);refine mq rfl ?_;refine k_ldh rfl zq ?_
        obtain ⟨m3,o3,rfl⟩:=rdk.ptr (by omega)
        refine k_ixs rfl zq (by first|rfl|assumption) (by omega) (by omega) ?_;refine k_ldN (vs:=skL (b.sticks.getD w default)) rfl zq rfl (rdk.eat w (by omega) (by omega)) ?_;refine k_ldh rfl zq ?_;obtain ⟨n3,u3,rfl⟩:=rdk2.ptr (by omega)
        refine k_ixs rfl zq (by first|rfl|assumption) (by omega) (by omega) ?_;refine k_ldN (vs:=skL (b2.sticks.getD w default)) rfl zq rfl (rdk2.eat w (by omega) (by omega)) ?_;refine k_neqSk (hg:=by kernel_rfl) rfl zq (fun hc=>?_) (fun hc=>?_)
        ·have hx:=hc
         refine d58 ?_
         refine run_res (h) rfl Tryz.func58 rfl weakSub ?_;refine hK _ _ ?_;first
          |(have hmk:b.sticks=b2.sticks:=by
             rw [List.take_of_length_le (by omega),List.take_of_length_le (by omega)] at hew
             exact hew
            exact ⟨rfl,IsB.yes (fb_ext (by omega) hmp hmt hmk)⟩)
          |exact ⟨rfl,IsB.no (fun e=>by
          have e1:=congrArg Fb.plank e
          have e2:=congrArg (fun x:Fb=>x.pts.length) e
          have e3:=congrArg (fun x:Fb=>x.tapes.length) e
          have e4:=congrArg (fun x:Fb=>x.sticks.length) e
          first|omega|(rw [e] at hx;exact hx ⟨rfl,rfl,rfl⟩)|(rw [e] at hx;exact hx ⟨rfl,rfl,rfl,rfl⟩))⟩
        ·have hx:=hc
         refine d13 ?_;refine d109 ?_
         exact m.weak weakSub (hnext3 _ _ _ (by omega) ⟨w+1,rfl,by omega,same_take (by omega) (by omega) hew (sk_ext hx),exU rfl,rfl⟩)
       ·refine d75 ?_;refine d38 ?_
        refine run_res (h) rfl Tryz.func58 rfl weakSub ?_;refine hK _ _ ?_;first
         |(have hmk:b.sticks=b2.sticks:=by
            rw [List.take_of_length_le (by omega),List.take_of_length_le (by omega)] at hew
            exact hew
           exact ⟨rfl,IsB.yes (fb_ext (by omega) hmp hmt hmk)⟩)
         |exact ⟨rfl,IsB.no (fun e=>by
         have e1:=congrArg Fb.plank e
         have e2:=congrArg (fun x:Fb=>x.pts.length) e
         have e3:=congrArg (fun x:Fb=>x.tapes.length) e
         have e4:=congrArg (fun x:Fb=>x.sticks.length) e
         first|omega|(rw [e] at hx;exact hx ⟨rfl,rfl,rfl⟩)|(rw [e] at hx;exact hx ⟨rfl,rfl,rfl,rfl⟩))⟩
end Go.Proofs
