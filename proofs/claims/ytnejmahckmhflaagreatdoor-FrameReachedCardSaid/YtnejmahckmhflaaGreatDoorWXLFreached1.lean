/- A part of the proof of a law: my own separation logic over the machine, and walks of the program. Condition of each theorem: as its statement says. -/
import Derived.Test.YtnejmahckmhflaaGreatDoorWB9
set_option linter.all false
namespace Go.Lo
open Go.Conc (G)
section
variable {α:Type} {k:Nat} [Enc α k]
theorem encs_cut: ∀(xs:List α) (i:Nat),(encs xs).take (i*k)=encs (xs.take i)∧(encs xs).drop (i*k)=encs (xs.drop i)
 |[],i=>by simp [encs]
 |a::r,0=>by simp [encs]
 |a::r,i+1=>by
  obtain ⟨h1,h2⟩:=encs_cut r i
  have hl:(Enc.enc a).length=k:=Enc.len a
  have e:(i+1)*k=(Enc.enc a).length+i*k:=by rw [hl,Nat.add_mul];omega
  refine ⟨?_,?_⟩
  ·show (Enc.enc a++encs r).take ((i+1)*k)=Enc.enc a++encs (r.take i)
   rw [e,List.take_length_add_append,h1]
  ·show (Enc.enc a++encs r).drop ((i+1)*k)=encs (r.drop i)
   rw [e,List.drop_length_add_append,h2]
theorem encs_take (xs:List α) (i:Nat):encs (xs.take i)=(encs xs).take (i*k):=(encs_cut xs i).1.symm
theorem encs_drop (xs:List α) (i:Nat):encs (xs.drop i)=(encs xs).drop (i*k):=(encs_cut xs i).2.symm
end
section
variable {B:Array Obj} {h H:Hp}
end
end Go.Lo
namespace Go.Lo
open Go.Conc (G)
section
variable {P:Program} {B:Array Obj} {h:Hp}
theorem reads_partA {e n:Nat} {cs:Array Value} {o:Nat} [AggT P e n]:Reads P B (part e cs o) h (.agg (cs.extract o (o+n))):=by
 unfold part
 refine Reads.bind und_agg ?_
 exact Reads.bind (size_agg (P:=P) (n:=n)) (Reads.pure _)
def key4B (P:Program) (t:TypeId):Bool:=match P.underlying t with
 |some (.struct fs)=>(match fs.toList with
  |[f,g,s]=>f.offset==0&&g.offset==1&&s.offset==2&&f.name != "_" &&g.name != "_" &&s.name != "_" &&scalB P f.type&&scalB P g.type&&aggB P s.type 2&&keyB P s.type&&(match P.underlying f.type with|some (.int .i64)=>true|_=>false)&&(match P.underlying g.type with|some (.int .i64)=>true|_=>false)
  |_=>false)&&!P.stoodInHeld t
 |_=>false
class Key4T (P:Program) (t:TypeId):Prop where
 eq:key4B P t=true
theorem Key4T.spec {t:TypeId} [k:Key4T P t]: ∃f g s:Field,P.underlying t=some (.struct #[f,g,s])∧f.offset=0∧g.offset=1∧s.offset=2∧f.name≠ "_" ∧g.name≠ "_" ∧s.name≠ "_" ∧Scal P f.type∧Scal P g.type∧AggT P s.type 2∧KeyT P s.type∧P.underlying f.type=some (.int .i64)∧P.underlying g.type=some (.int .i64)∧P.stoodInHeld t=false:=by
 have:=k.eq
 unfold key4B at this
 split at this
 ·rename_i fs hu
  rw [Bool.and_eq_true] at this
  obtain ⟨h1,h2⟩:=this
  split at h1
  ·rename_i f g s hfs
   simp only [Bool.and_eq_true,beq_iff_eq,bne_iff_ne,ne_eq] at h1
   obtain ⟨⟨⟨⟨⟨⟨⟨⟨⟨⟨⟨a1,a2⟩,a3⟩,b1⟩,b2⟩,b3⟩,c1⟩,c2⟩,c3⟩,c4⟩,a7⟩,a8⟩:=h1
   refine ⟨f,g,s,?_,a1,a2,a3,b1,b2,b3,⟨c1⟩,⟨c2⟩,⟨c3⟩,⟨c4⟩,?_,?_,by simpa using h2⟩
   ·rw [hu];congr 2
    exact Array.ext' (by rw [hfs])
   ·split at a7
    ·assumption
    ·cases a7
   ·split at a8
    ·assumption
    ·cases a8
  ·cases h1
 ·cases this
theorem reads_eq4 (dd:Nat) {t:TypeId} [Key4T P t] (a b c d a' b' c' d':Int):Reads P B (Op.equalIn (dd+3) t (.agg [.int .i64 a,.int .i64 b,.int .i64 c,.int .i64 d].toArray) (.agg [.int .i64 a',.int .i64 b',.int .i64 c',.int .i64 d'].toArray)) h (a==a'&&(b==b'&&(c==c'&&d==d'))):=by
 obtain ⟨f,g,s,hu,o1,o2,o3,n1,n2,n3,s1,s2,s3,s4,u1,u2,hs⟩:=Key4T.spec (P:=P) (t:=t)
 unfold Op.equalIn
 refine Reads.bind (still_und hu).reads ?_
 refine Reads.bind Reads.program' ?_
 simp only [hs,Bool.false_eq_true,if_false,pure_bind]
 rw [←Array.forIn_toList];simp only [List.forIn_cons,List.forIn_nil,n1,n2,n3,ne_eq,not_false_eq_true,if_true,o1,o2,o3,bind_assoc]
 refine Reads.bind (reads_partS (v:= .int .i64 a) rfl) (Reads.bind (reads_partS (v:= .int .i64 a') rfl) (Reads.bind (reads_eqi (dd+1) u1 a a') ?_))
 cases h1:(a==a')
 ·simp only [Bool.not_false,if_true,pure_bind,Bool.false_and]
  exact Reads.pure _
 ·simp only [Bool.not_true,Bool.false_eq_true,if_false,pure_bind,Bool.true_and,bind_assoc]
  refine Reads.bind (reads_partS (v:= .int .i64 b) rfl) (Reads.bind (reads_partS (v:= .int .i64 b') rfl) (Reads.bind (reads_eqi (dd+1) u2 b b') ?_))
  cases h2:(b==b')
  ·simp only [Bool.not_false,if_true,pure_bind,Bool.false_and]
   exact Reads.pure _
  ·simp only [Bool.not_true,Bool.false_eq_true,if_false,pure_bind,Bool.true_and,bind_assoc]
   refine Reads.bind (reads_partA (n:=2)) (Reads.bind (reads_partA (n:=2)) (Reads.bind (reads_eqK dd (t:=s.type) c d c' d') ?_))
   cases h3:(c==c'&&d==d')
   ·simp only [Bool.not_false,if_true,pure_bind]
    exact Reads.pure _
   ·simp only [Bool.not_true,Bool.false_eq_true,if_false,pure_bind]
    exact Reads.pure _
end
section
variable {P:Program} {B:Array Obj} {m:Md P B} {ops:Array Oper} {l l' l'':List Value} {S h h' H:Hp} {C:List Value→Hp→Prop} {i:Nat} {kd:Kd} {r:List (Nat×Kd)}
 {d:Option Tmp} {ty:TypeId} {pos:String} {af:Array Edge} {g:Option (Nat×Bool)}
theorem k_neq4 {t u:TypeId} {x y:Operand} {a b c e a' b' c' e':Int} (ho:ops[i]?=some ⟨d,.binOp .neq t x y u,ty,pos,af,g⟩) (hw:Wt ops l g) [kh:KHeap kd S h H] [ex:OpV l x (.agg [.int .i64 a,.int .i64 b,.int .i64 c,.int .i64 e].toArray)] [ey:OpV l y (.agg [.int .i64 a',.int .i64 b',.int .i64 c',.int .i64 e'].toArray)] [Key4T P t]
  (hg:P.eqGuardType P.depth t=false) [pt:PutV l d (.bool true) l'] [pf:PutV l d (.bool false) l''] (yes: ¬(a=a'∧b=b'∧c=c'∧e=e')→RegK m S ops r l' h C) (no:a=a'∧b=b'∧c=c'∧e=e'→RegK m S ops r l'' h C):RegK m S ops ((i,kd)::r) l h C:=by
 have he:=reads_eq4 (P:=P) (B:=B) (h:=H) 9997 (t:=t) a b c e a' b' c' e'
 by_cases hx:a=a'∧b=b'∧c=c'∧e=e'
 ·have e2:(a==a'&&(b==b'&&(c==c'&&e==e')))=true:=by simp [hx]
  rw [e2] at he
  haveI:PutV l d (.bool !true) l'':=pf
  exact k_neqG ho hw hg he (no hx)
 ·have e2:(a==a'&&(b==b'&&(c==c'&&e==e')))=false:=by simpa using hx
  rw [e2] at he
  haveI:PutV l d (.bool !false) l':=pt
  exact k_neqG ho hw hg he (yes hx)
end
end Go.Lo
namespace Go.Lo
open Go.Conc (G)
section
variable {P:Program} {B:Array Obj} {h:Hp}
def key3B (P:Program) (t:TypeId):Bool:=match P.underlying t with
 |some (.struct fs)=>(match fs.toList with
  |[f,s]=>f.offset==0&&s.offset==1&&f.name != "_" &&s.name != "_" &&scalB P f.type&&aggB P s.type 2&&keyB P s.type&&(match P.underlying f.type with|some (.int .i64)=>true|_=>false)
  |_=>false)&&!P.stoodInHeld t
 |_=>false
class Key3T (P:Program) (t:TypeId):Prop where
 eq:key3B P t=true
theorem Key3T.spec {t:TypeId} [k:Key3T P t]: ∃f s:Field,P.underlying t=some (.struct #[f,s])∧f.offset=0∧s.offset=1∧f.name≠ "_" ∧s.name≠ "_" ∧Scal P f.type∧AggT P s.type 2∧KeyT P s.type∧P.underlying f.type=some (.int .i64)∧P.stoodInHeld t=false:=by
 have:=k.eq
 unfold key3B at this
 split at this
 ·rename_i fs hu
  rw [Bool.and_eq_true] at this
  obtain ⟨h1,h2⟩:=this
  split at h1
  ·rename_i f s hfs
   simp only [Bool.and_eq_true,beq_iff_eq,bne_iff_ne,ne_eq] at h1
   obtain ⟨⟨⟨⟨⟨⟨⟨a1,a2⟩,b1⟩,b2⟩,c1⟩,c3⟩,c4⟩,a7⟩:=h1
   refine ⟨f,s,?_,a1,a2,b1,b2,⟨c1⟩,⟨c3⟩,⟨c4⟩,?_,by simpa using h2⟩
   ·rw [hu];congr 2
    exact Array.ext' (by rw [hfs])
   ·split at a7
    ·assumption
    ·cases a7
  ·cases h1
 ·cases this
theorem reads_eq3 (dd:Nat) {t:TypeId} [Key3T P t] (a c d a' c' d':Int):Reads P B (Op.equalIn (dd+3) t (.agg [.int .i64 a,.int .i64 c,.int .i64 d].toArray) (.agg [.int .i64 a',.int .i64 c',.int .i64 d'].toArray)) h (a==a'&&(c==c'&&d==d')):=by
 obtain ⟨f,s,hu,o1,o3,n1,n3,s1,s3,s4,u1,hs⟩:=Key3T.spec (P:=P) (t:=t)
 unfold Op.equalIn
 refine Reads.bind (still_und hu).reads ?_
 refine Reads.bind Reads.program' ?_
 simp only [hs,Bool.false_eq_true,if_false,pure_bind]
 rw [←Array.forIn_toList];simp only [List.forIn_cons,List.forIn_nil,n1,n3,ne_eq,not_false_eq_true,if_true,o1,o3,bind_assoc]
 refine Reads.bind (reads_partS (v:= .int .i64 a) rfl) (Reads.bind (reads_partS (v:= .int .i64 a') rfl) (Reads.bind (reads_eqi (dd+1) u1 a a') ?_))
 cases h1:(a==a')
 ·simp only [Bool.not_false,if_true,pure_bind,Bool.false_and]
  exact Reads.pure _
 ·simp only [Bool.not_true,Bool.false_eq_true,if_false,pure_bind,Bool.true_and,bind_assoc]
  refine Reads.bind (reads_partA (n:=2)) (Reads.bind (reads_partA (n:=2)) (Reads.bind (reads_eqK dd (t:=s.type) c d c' d') ?_))
  cases h3:(c==c'&&d==d')
  ·simp only [Bool.not_false,if_true,pure_bind]
   exact Reads.pure _
  ·simp only [Bool.not_true,Bool.false_eq_true,if_false,pure_bind]
   exact Reads.pure _
def keySB (P:Program) (t:TypeId):Bool:=match P.underlying t with
 |some (.struct fs)=>(match fs.toList with
  |[f,g,s]=>f.offset==0&&g.offset==1&&s.offset==2&&f.name != "_" &&g.name != "_" &&s.name != "_" &&scalB P f.type&&scalB P g.type&&scalB P s.type&&(match P.underlying s.type with|some .bool=>true|_=>false)&&(match P.underlying f.type with|some (.int .i64)=>true|_=>false)&&(match P.underlying g.type with|some (.int .i64)=>true|_=>false)
  |_=>false)&&!P.stoodInHeld t
 |_=>false
class KeyST (P:Program) (t:TypeId):Prop where
 eq:keySB P t=true
theorem KeyST.spec {t:TypeId} [k:KeyST P t]: ∃f g s:Field,P.underlying t=some (.struct #[f,g,s])∧f.offset=0∧g.offset=1∧s.offset=2∧f.name≠ "_" ∧g.name≠ "_" ∧s.name≠ "_" ∧Scal P f.type∧Scal P g.type∧Scal P s.type∧P.underlying s.type=some .bool∧P.underlying f.type=some (.int .i64)∧P.underlying g.type=some (.int .i64)∧P.stoodInHeld t=false:=by
 have:=k.eq
 unfold keySB at this
 split at this
 ·rename_i fs hu
  rw [Bool.and_eq_true] at this
  obtain ⟨h1,h2⟩:=this
  split at h1
  ·rename_i f g s hfs
   simp only [Bool.and_eq_true,beq_iff_eq,bne_iff_ne,ne_eq] at h1
   obtain ⟨⟨⟨⟨⟨⟨⟨⟨⟨⟨⟨a1,a2⟩,a3⟩,b1⟩,b2⟩,b3⟩,c1⟩,c2⟩,c3⟩,a6⟩,a7⟩,a8⟩:=h1
   refine ⟨f,g,s,?_,a1,a2,a3,b1,b2,b3,⟨c1⟩,⟨c2⟩,⟨c3⟩,?_,?_,?_,by simpa using h2⟩
   ·rw [hu];congr 2
    exact Array.ext' (by rw [hfs])
   ·split at a6
    ·assumption
    ·cases a6
   ·split at a7
    ·assumption
    ·cases a7
   ·split at a8
    ·assumption
    ·cases a8
  ·cases h1
 ·cases this
theorem reads_eqb (dd:Nat) {t:TypeId} (hb:P.underlying t=some .bool) (a c:Bool):Reads P B (Op.equalIn (dd+1) t (.bool a) (.bool c)) h (a==c):=by
 unfold Op.equalIn
 refine Reads.bind (still_und hb).reads ?_
 exact Reads.pure _
theorem reads_eqS (dd:Nat) {t:TypeId} [KeyST P t] (a b a' b':Int) (c c':Bool):Reads P B (Op.equalIn (dd+3) t (.agg [.int .i64 a,.int .i64 b,.bool c].toArray) (.agg [.int .i64 a',.int .i64 b',.bool c'].toArray)) h (a==a'&&(b==b'&&c==c')):=by
 obtain ⟨f,g,s,hu,o1,o2,o3,n1,n2,n3,s1,s2,s3,u3,u1,u2,hs⟩:=KeyST.spec (P:=P) (t:=t)
 unfold Op.equalIn
 refine Reads.bind (still_und hu).reads ?_
 refine Reads.bind Reads.program' ?_
 simp only [hs,Bool.false_eq_true,if_false,pure_bind]
 rw [←Array.forIn_toList];simp only [List.forIn_cons,List.forIn_nil,n1,n2,n3,ne_eq,not_false_eq_true,if_true,o1,o2,o3,bind_assoc]
 refine Reads.bind (reads_partS (v:= .int .i64 a) rfl) (Reads.bind (reads_partS (v:= .int .i64 a') rfl) (Reads.bind (reads_eqi (dd+1) u1 a a') ?_))
 cases h1:(a==a')
 ·simp only [Bool.not_false,if_true,pure_bind,Bool.false_and]
  exact Reads.pure _
 ·simp only [Bool.not_true,Bool.false_eq_true,if_false,pure_bind,Bool.true_and,bind_assoc]
  refine Reads.bind (reads_partS (v:= .int .i64 b) rfl) (Reads.bind (reads_partS (v:= .int .i64 b') rfl) (Reads.bind (reads_eqi (dd+1) u2 b b') ?_))
  cases h2:(b==b')
  ·simp only [Bool.not_false,if_true,pure_bind,Bool.false_and]
   exact Reads.pure _
  ·simp only [Bool.not_true,Bool.false_eq_true,if_false,pure_bind,Bool.true_and,bind_assoc]
   refine Reads.bind (reads_partS (v:= .bool c) rfl) (Reads.bind (reads_partS (v:= .bool c') rfl) (Reads.bind (reads_eqb (dd+1) u3 c c') ?_))
   cases h3:(c==c')
   ·simp only [Bool.not_false,if_true,pure_bind]
    exact Reads.pure _
   ·simp only [Bool.not_true,Bool.false_eq_true,if_false,pure_bind]
    exact Reads.pure _
end
section
variable {P:Program} {B:Array Obj} {m:Md P B} {ops:Array Oper} {l l' l'':List Value} {S h h' H:Hp} {C:List Value→Hp→Prop} {i:Nat} {kd:Kd} {r:List (Nat×Kd)}
 {d:Option Tmp} {ty:TypeId} {pos:String} {af:Array Edge} {g:Option (Nat×Bool)}
theorem k_neq3 {t u:TypeId} {x y:Operand} {a c e a' c' e':Int} (ho:ops[i]?=some ⟨d,.binOp .neq t x y u,ty,pos,af,g⟩) (hw:Wt ops l g) [kh:KHeap kd S h H] [ex:OpV l x (.agg [.int .i64 a,.int .i64 c,.int .i64 e].toArray)] [ey:OpV l y (.agg [.int .i64 a',.int .i64 c',.int .i64 e'].toArray)] [Key3T P t]
  (hg:P.eqGuardType P.depth t=false) [pt:PutV l d (.bool true) l'] [pf:PutV l d (.bool false) l''] (yes: ¬(a=a'∧c=c'∧e=e')→RegK m S ops r l' h C) (no:a=a'∧c=c'∧e=e'→RegK m S ops r l'' h C):RegK m S ops ((i,kd)::r) l h C:=by
 have he:=reads_eq3 (P:=P) (B:=B) (h:=H) 9997 (t:=t) a c e a' c' e'
 by_cases hx:a=a'∧c=c'∧e=e'
 ·have e2:(a==a'&&(c==c'&&e==e'))=true:=by simp [hx]
  rw [e2] at he
  haveI:PutV l d (.bool !true) l'':=pf
  exact k_neqG ho hw hg he (no hx)
 ·have e2:(a==a'&&(c==c'&&e==e'))=false:=by simpa using hx
  rw [e2] at he
  haveI:PutV l d (.bool !false) l':=pt
  exact k_neqG ho hw hg he (yes hx)
theorem k_neqSk {t u:TypeId} {x y:Operand} {a c a' c':Int} {e e':Bool} (ho:ops[i]?=some ⟨d,.binOp .neq t x y u,ty,pos,af,g⟩) (hw:Wt ops l g) [kh:KHeap kd S h H] [ex:OpV l x (.agg [.int .i64 a,.int .i64 c,.bool e].toArray)] [ey:OpV l y (.agg [.int .i64 a',.int .i64 c',.bool e'].toArray)] [KeyST P t]
  (hg:P.eqGuardType P.depth t=false) [pt:PutV l d (.bool true) l'] [pf:PutV l d (.bool false) l''] (yes: ¬(a=a'∧c=c'∧e=e')→RegK m S ops r l' h C) (no:a=a'∧c=c'∧e=e'→RegK m S ops r l'' h C):RegK m S ops ((i,kd)::r) l h C:=by
 have he:=reads_eqS (P:=P) (B:=B) (h:=H) 9997 (t:=t) a c a' c' e e'
 by_cases hx:a=a'∧c=c'∧e=e'
 ·have e2:(a==a'&&(c==c'&&e==e'))=true:=by simp [hx]
  rw [e2] at he
  haveI:PutV l d (.bool !true) l'':=pf
  exact k_neqG ho hw hg he (no hx)
 ·have e2:(a==a'&&(c==c'&&e==e'))=false:=by simpa using hx
  rw [e2] at he
  haveI:PutV l d (.bool !false) l':=pt
  exact k_neqG ho hw hg he (yes hx)
end
end Go.Lo
namespace Go.Proofs
open Go.Lo
open Go.Conc (G)
set_option maxRecDepth 100000
set_option synthInstance.maxHeartbeats 1000000
section
variable {P:Program} {B:Array Obj} {m:Md P B} {ops:Array Oper} {l l':List Value} {S h h' H:Hp} {C:List Value→Hp→Prop} {i:Nat} {kd:Kd} {r:List (Nat×Kd)}
 {d:Option Tmp} {ty:TypeId} {pos:String} {af:Array Edge} {g:Option (Nat×Bool)}
theorem k_eqlF {t u:TypeId} {x y:Operand} {a b:Int} {k:IntKind} (ho:ops[i]?=some ⟨d,.binOp .eql t x y u,ty,pos,af,g⟩) (hw:Wt ops l g) [kh:KHeap kd S h H] [ex:OpV l x (.int k a)] [ey:OpV l y (.int k b)] (e:a≠b) [pt:PutV l d (.bool false) l'] (q:RegK m S ops r l' h C):RegK m S ops ((i,kd)::r) l h C:=by
 have pq:=pt;rw [←decide_eq_false e] at pq;exact k_eql (l':=l') ho hw q
theorem k_neqT {t u:TypeId} {x y:Operand} {a b:Int} {k:IntKind} (ho:ops[i]?=some ⟨d,.binOp .neq t x y u,ty,pos,af,g⟩) (hw:Wt ops l g) [kh:KHeap kd S h H] [ex:OpV l x (.int k a)] [ey:OpV l y (.int k b)] (e:a≠b) [pt:PutV l d (.bool true) l'] (q:RegK m S ops r l' h C):RegK m S ops ((i,kd)::r) l h C:=by
 have pq:=pt;rw [←decide_eq_true e] at pq;exact k_neq (l':=l') ho hw q
theorem k_gtrF {t u:TypeId} {x y:Operand} {a b:Int} {k:IntKind} (ho:ops[i]?=some ⟨d,.binOp .gtr t x y u,ty,pos,af,g⟩) (hw:Wt ops l g) [kh:KHeap kd S h H] [ex:OpV l x (.int k a)] [ey:OpV l y (.int k b)] (e: ¬b<a) [pt:PutV l d (.bool false) l'] (q:RegK m S ops r l' h C):RegK m S ops ((i,kd)::r) l h C:=by
 have pq:=pt;rw [←decide_eq_false e] at pq;exact k_gtr (l':=l') ho hw q
theorem k_lssF {t u:TypeId} {x y:Operand} {a b:Int} {k:IntKind} (ho:ops[i]?=some ⟨d,.binOp .lss t x y u,ty,pos,af,g⟩) (hw:Wt ops l g) [kh:KHeap kd S h H] [ex:OpV l x (.int k a)] [ey:OpV l y (.int k b)] (e: ¬a<b) [pt:PutV l d (.bool false) l'] (q:RegK m S ops r l' h C):RegK m S ops ((i,kd)::r) l h C:=by
 have pq:=pt;rw [←decide_eq_false e] at pq;exact k_lss (l':=l') ho hw q
theorem k_leqT {t u:TypeId} {x y:Operand} {a b:Int} {k:IntKind} (ho:ops[i]?=some ⟨d,.binOp .leq t x y u,ty,pos,af,g⟩) (hw:Wt ops l g) [kh:KHeap kd S h H] [ex:OpV l x (.int k a)] [ey:OpV l y (.int k b)] (e:a≤b) [pt:PutV l d (.bool true) l'] (q:RegK m S ops r l' h C):RegK m S ops ((i,kd)::r) l h C:=by
 have pq:=pt;rw [←decide_eq_true e] at pq;exact k_leq (l':=l') ho hw q
theorem k_gtrT {t u:TypeId} {x y:Operand} {a b:Int} {k:IntKind} (ho:ops[i]?=some ⟨d,.binOp .gtr t x y u,ty,pos,af,g⟩) (hw:Wt ops l g) [kh:KHeap kd S h H] [ex:OpV l x (.int k a)] [ey:OpV l y (.int k b)] (e:b<a) [pt:PutV l d (.bool true) l'] (q:RegK m S ops r l' h C):RegK m S ops ((i,kd)::r) l h C:=by
 have pq:=pt;rw [←decide_eq_true e] at pq;exact k_gtr (l':=l') ho hw q
theorem reads_eqBoolK {t:TypeId} (hb:P.underlying t=some .bool) (a c:Bool):Reads P B (Op.equal t (.bool a) (.bool c)) H (a==c):=by
 show Reads P B (Op.equalIn 10000 t (.bool a) (.bool c)) H (a==c)
 unfold Op.equalIn
 exact Reads.bind (still_und hb).reads (Reads.pure _)
theorem k_neqBF {t u:TypeId} {x y:Operand} {a c:Bool} (ho:ops[i]?=some ⟨d,.binOp .neq t x y u,ty,pos,af,g⟩) (hw:Wt ops l g) (hb:P.underlying t=some .bool) [KHeap kd S h H] [ex:OpV l x (.bool a)] [ey:OpV l y (.bool c)] (e:a=c) [PutV l d (.bool false) l'] (q:RegK m S ops r l' h C):RegK m S ops ((i,kd)::r) l h C:=
 RegK.rd (v:= .bool false) ho hw (by
  subst e
  simp only [execOp,ex.eq,ey.eq]
  refine Reads.value (Reads.bind (a:=()) (Reads.pure _) ?_)
  show Reads P B (Op.equal t (.bool a) (.bool a)>>=fun b=>pure (Value.bool !b)) H _
  have:=reads_eqBoolK (P:=P) (B:=B) (H:=H) hb a a
  rw [beq_self_eq_true] at this
  exact Reads.bind this (Reads.pure _)) q
end
end Go.Proofs
namespace Go.Proofs
open Go.Lo
open Go.Conc (G)
set_option maxRecDepth 100000
set_option synthInstance.maxSize 100000
set_option synthInstance.maxHeartbeats 1000000
set_option maxHeartbeats 4000000
variable {B:Array Obj}
theorem f54_c (m:Md Tryz.prog B) (h:Hp) {p:Option Addr} {n c:Nat} {xs:List Int} (x:Int) (rd:RdS B h 1 (.slice p n c) n (ints xs)) (hn:n≤1000000):FnC m 54 #[.slice p n c,.int .i64 x] h fun v h'=>h'=h∧IsB (x∈xs) v:=by
 have hl:=rd.ilen
 refine fn_enter Tryz.func54 rfl rfl (l:=(.slice p n c)::(.int .i64 x)::uu16) rfl ?_
 intro cf cs K hK
 refine d93 ?_;refine d142 ?_
 refine run_loop (fun nn l h'=> ∃(k:Nat),nn=n-k∧(k≤n)∧(∀i,i<k→xs.getD i 0≠x)∧(∃U:Nat→Value,l=((.slice p n c)::(.int .i64 x)::(U 2)::(U 3)::(U 4)::(.int .i64 (k:Int))::(U 6)::vw11 U 7 []))∧h=h') _ ⟨0,rfl,by omega,by omega,exU rfl,rfl⟩ ?_;rintro nn l h' ⟨k,rfl,hk,he,⟨U,rfl⟩,rfl⟩ hnext;refine run_seq ?_;refine d120 ?_;refine k_lssS rfl zq (fun hc=>?_) (fun hc=>?_)
 ·refine d98 ?_;refine rs6 ?_;refine d3 ?_
  obtain ⟨rd_b,rd_o,rfl⟩:=rd.ptr (by omega)
  refine k_ixs rfl zq (by first|rfl|assumption) (by omega) (by omega) ?_;refine k_ld rfl zq (rd.iat k (by omega) (by omega)) ?_;refine mq rfl ?_
  refine k_eqlS rfl zq (fun hc=>?_) (fun hc=>?_)
  ·refine d58 ?_
   refine run_res (h) rfl Tryz.func54 rfl weakSub ?_;refine hK _ _ ?_;exact ⟨rfl,IsB.yes (mem_getD.2 ⟨k,by omega,by assumption⟩)⟩
  ·refine d13 ?_;refine d109 ?_
   exact m.weak weakSub (hnext _ _ _ (by omega) ⟨k+1,rfl,by omega,fun i hi=>by
    rcases Nat.lt_or_ge i k with h1|h1
    ·exact he i h1
    ·obtain rfl:i=k:=by omega
     assumption,exU rfl,rfl⟩)
 ·refine d75 ?_;refine d38 ?_
  refine run_res (h) rfl Tryz.func54 rfl weakSub ?_;refine hK _ _ ?_;exact ⟨rfl,IsB.no fun e=>by
   obtain ⟨i,h1,h2⟩:=mem_getD.1 e
   exact he i (by omega) h2⟩
theorem linesK_zero (b:Fb):linesK b 0=[[]]:=rfl
theorem linesK_succ (b:Fb) {i:Nat} (h:i<b.pts.length):linesK b (i+1)=extL (linesK b i) (spI b i):=by
 rw [linesK,linesOf_take _ _ (by rw [spsOf_length];exact h),spsOf_getD b h];rfl
end Go.Proofs
namespace Go.Proofs
open Go.Lo
open Go.Conc (G)
set_option maxRecDepth 100000
set_option synthInstance.maxSize 100000
set_option synthInstance.maxHeartbeats 1000000
set_option maxHeartbeats 4000000
variable {B:Array Obj}
variable [LaidF B]
def setP (b:Fb) (i:Nat) (lo hi:Int):Fb:={b with pts:=b.pts.set i ⟨(b.pts.getD i default).h,lo,hi⟩}
end Go.Proofs
namespace Go.Proofs
open Go.Lo
open Go.Conc (G)
set_option maxRecDepth 100000
set_option synthInstance.maxSize 100000
set_option synthInstance.maxHeartbeats 1000000
set_option maxHeartbeats 4000000
variable {b:Fb} {pp:Option Addr} {np cp:Nat} {pt:Option Addr} {nt ct:Nat} {pk:Option Addr} {nk ck:Nat}
variable {B:Array Obj}
variable [LaidF B]
theorem same_take {α:Type} [Inhabited α] {xs ys:List α} {k:Nat} (h1:k<xs.length) (h2:k<ys.length) (h:xs.take k=ys.take k) (e:xs.getD k default=ys.getD k default):xs.take (k+1)=ys.take (k+1):=by
 rw [List.take_succ,List.take_succ,h,List.getElem?_eq_getElem h1,List.getElem?_eq_getElem h2];rw [List.getD_eq_getElem?_getD,List.getD_eq_getElem?_getD,List.getElem?_eq_getElem h1,List.getElem?_eq_getElem h2] at e
 simp only [Option.getD_some] at e
 rw [e]
instance:Key3T Tryz.prog 80:=⟨by kernel_rfl⟩
instance:Key4T Tryz.prog 99:=⟨by kernel_rfl⟩
instance:KeyST Tryz.prog 73:=⟨by kernel_rfl⟩
theorem pt_ext {x y:Pt} (h:x.h=y.h∧x.lo=y.lo∧x.hi=y.hi):x=y:=by cases x;cases y;simp_all
theorem tp_ext {x y:Tp} (h:x.f=y.f∧x.t=y.t∧x.lo=y.lo∧x.hi=y.hi):x=y:=by cases x;cases y;simp_all
theorem sk_ext {x y:Sk} (h:x.h=y.h∧x.long=y.long∧x.fits=y.fits):x=y:=by cases x;cases y;simp_all
theorem fb_ext {x y:Fb} (h1:x.plank=y.plank) (h2:x.pts=y.pts) (h3:x.tapes=y.tapes) (h4:x.sticks=y.sticks):x=y:=by cases x;cases y;simp_all
theorem f58_c (m:Md Tryz.prog B) (h:Hp) (rdp:Rp B h b pp np cp) (hp:np≤1000) (rdt:Rt B h b pt nt ct) (ht:nt≤1000) (rdk:Rk B h b pk nk ck) (hk:nk≤1000) {b2:Fb} {pp2:Option Addr} {np2 cp2:Nat} {pt2:Option Addr} {nt2 ct2:Nat} {pk2:Option Addr} {nk2 ck2:Nat} (rdp2:RdS B h 3 (.slice pp2 np2 cp2) np2 (encs b2.pts)) (hp2:np2≤1000) (rdt2:RdS B h 4 (.slice pt2 nt2 ct2) nt2 (encs b2.tapes)) (ht2:nt2≤1000) (rdk2:RdS B h 3 (.slice pk2 nk2 ck2) nk2 (encs b2.sticks)) (hk2:nk2≤1000):FnC m 58 #[fbV b pp np cp pt nt ct pk nk ck,fbV b2 pp2 np2 cp2 pt2 nt2 ct2 pk2 nk2 ck2] h fun v h'=>h'=h∧IsB (b=b2) v:=by
 have hml:=rdp.elen (by decide)
 have htl:=rdt.elen (by decide)
 have hkl:=rdk.elen (by decide)
 have hml2:=rdp2.elen (by decide)
 have htl2:=rdt2.elen (by decide)
 have hkl2:=rdk2.elen (by decide)
 refine fn_enter Tryz.func58 rfl rfl (l:=[fbV b pp np cp pt nt ct pk nk ck,fbV b2 pp2 np2 cp2 pt2 nt2 ct2 pk2 nk2 ck2,undef,undef,undef,undef,undef,undef,undef,undef,undef,undef,undef,undef,undef,undef,undef,undef,undef,undef,undef,undef,undef,undef,undef,undef,undef,undef,undef,undef,undef,undef,undef,undef,undef,undef,undef,undef,undef,undef,undef,undef,undef,undef,undef,undef,undef,undef,undef,undef,undef,undef,undef,undef,undef,undef,undef,undef,undef,undef,undef,undef,undef,undef,undef,undef,undef,undef,undef,undef,undef,undef,undef,undef,undef,undef,undef,undef,undef,undef,undef,undef,undef,undef,undef,undef,undef,undef,undef,undef,undef,undef,undef,undef]) rfl ?_
 intro cf cs K hK
 refine rs3 ?_;refine k_box rfl zq (fun q2=>k_hp (k_put ?_));refine k_box rfl zq (fun q3=>k_hp (k_put ?_));refine d12 ?_;refine run_seq ?_
 refine run_region [(0,.free),(1,.free),(2,.free),(3,.free),(4,.free),(5,.free),(6,.free),(7,.free),(8,.free),(9,.free),(10,.free),(11,.free),(12,.free),(13,.free),(14,.free),(15,.free),(16,.free),(17,.free),(18,.free),(19,.free),(20,.free),(21,.free),(22,.free),(23,.free),(24,.free),(25,.free),(26,.free),(27,.free),(28,.free),(29,.free),(30,.free),(31,.free)] (by kernel_rfl) (by kernel_rfl) ?_;refine d2 ?_;refine d2 ?_
 refine k_neqS rfl zq (fun hc=>?_) (fun hc=>?_)
 ·refine d111 ?_;refine k_off rfl rfl ?_;refine k_pickT rfl zq ?_;refine d111 ?_;refine k_off rfl rfl ?_;refine k_pickT rfl zq ?_;refine d111 ?_;refine k_off rfl rfl ?_;refine d138 ?_
  refine run_res (h) rfl Tryz.func58 rfl weakSub ?_;refine hK _ _ ?_;first
   |(have hmk:b.sticks=b2.sticks:=by
      rw [List.take_of_length_le (by omega),List.take_of_length_le (by omega)] at hew
      exact hew
     exact ⟨rfl,IsB.yes (fb_ext (by omega) hmp hmt hmk)⟩)
   |exact ⟨rfl,IsB.no (fun e=>by
   have e1:=congrArg Fb.plank e
   have e2:=congrArg (fun x:Fb=>x.pts.length) e
   have e3:=congrArg (fun x:Fb=>x.tapes.length) e
   have e4:=congrArg (fun x:Fb=>x.sticks.length) e
   first|omega|(rw [e] at hx;exact hx ⟨rfl,rfl,rfl⟩)|(rw [e] at hx;exact hx ⟨rfl,rfl,rfl,rfl⟩))⟩
 ·refine mq rfl ?_;refine d25 ?_;refine k_len rfl rfl ?_;refine d25 ?_;refine k_len rfl rfl ?_
  refine k_neqS rfl rfl (fun hc=>?_) (fun hc=>?_)
  ·refine k_pickF rfl zq ?_;refine d111 ?_;refine k_off rfl rfl ?_;refine k_pickT rfl zq ?_;refine d111 ?_;refine k_off rfl rfl ?_;refine d138 ?_;refine run_res (h) rfl Tryz.func58 rfl weakSub ?_;refine hK _ _ ?_;first
    |(have hmk:b.sticks=b2.sticks:=by
       rw [List.take_of_length_le (by omega),List.take_of_length_le (by omega)] at hew
       exact hew
      exact ⟨rfl,IsB.yes (fb_ext (by omega) hmp hmt hmk)⟩)
    |exact ⟨rfl,IsB.no (fun e=>by
    have e1:=congrArg Fb.plank e
    have e2:=congrArg (fun x:Fb=>x.pts.length) e
    have e3:=congrArg (fun x:Fb=>x.tapes.length) e
    have e4:=congrArg (fun x:Fb=>x.sticks.length) e
    first|omega|(rw [e] at hx;exact hx ⟨rfl,rfl,rfl⟩)|(rw [e] at hx;exact hx ⟨rfl,rfl,rfl,rfl⟩))⟩
  ·refine k_pickF rfl zq ?_;refine mq rfl ?_;refine d25 ?_;refine k_len rfl rfl ?_;refine d25 ?_;refine k_len rfl rfl ?_;refine k_neqS rfl rfl (fun hc=>?_) (fun hc=>?_)
   ·refine k_pickF rfl zq ?_;refine d111 ?_;refine k_off rfl rfl ?_;refine d138 ?_;refine run_res (h) rfl Tryz.func58 rfl weakSub ?_;refine hK _ _ ?_;first
     |(have hmk:b.sticks=b2.sticks:=by
        rw [List.take_of_length_le (by omega),List.take_of_length_le (by omega)] at hew
        exact hew
       exact ⟨rfl,IsB.yes (fb_ext (by omega) hmp hmt hmk)⟩)
     |exact ⟨rfl,IsB.no (fun e=>by
     have e1:=congrArg Fb.plank e
     have e2:=congrArg (fun x:Fb=>x.pts.length) e
     have e3:=congrArg (fun x:Fb=>x.tapes.length) e
     have e4:=congrArg (fun x:Fb=>x.sticks.length) e
     first|omega|(rw [e] at hx;exact hx ⟨rfl,rfl,rfl⟩)|(rw [e] at hx;exact hx ⟨rfl,rfl,rfl,rfl⟩))⟩
   ·refine k_pickF rfl zq ?_;refine mq rfl ?_;refine d25 ?_;refine k_len rfl rfl ?_;refine d25 ?_;refine k_len rfl rfl ?_;refine k_neqS rfl rfl (fun hc=>?_) (fun hc=>?_)
    ·refine k_pickF rfl zq ?_;refine d58 ?_;refine run_res (h) rfl Tryz.func58 rfl weakSub ?_;refine hK _ _ ?_;first
      |(have hmk:b.sticks=b2.sticks:=by
         rw [List.take_of_length_le (by omega),List.take_of_length_le (by omega)] at hew
         exact hew
        exact ⟨rfl,IsB.yes (fb_ext (by omega) hmp hmt hmk)⟩)
      |exact ⟨rfl,IsB.no (fun e=>by
      have e1:=congrArg Fb.plank e
      have e2:=congrArg (fun x:Fb=>x.pts.length) e
      have e3:=congrArg (fun x:Fb=>x.tapes.length) e
      have e4:=congrArg (fun x:Fb=>x.sticks.length) e
      first|omega|(rw [e] at hx;exact hx ⟨rfl,rfl,rfl⟩)|(rw [e] at hx;exact hx ⟨rfl,rfl,rfl,rfl⟩))⟩
    ·refine k_pickF rfl zq ?_;refine d37 ?_;refine d142 ?_;refine run_loop (fun nn l h'=> ∃(u:Nat),nn=np-u∧(u≤np)∧(b.pts.take u=b2.pts.take u)∧(∃U:Nat→Value,l=((U 0)::(U 1)::(.pointer (some ⟨q2,0,none⟩))::(.pointer (some ⟨q3,0,none⟩))::(U 4)::(.int .i64 (u:Int))::(U 6)::(U 7)::(U 8)::(U 9)::(U 10)::vw83 U 11 []))∧h++[⟨true,q2,.cells (fbL b pp np cp pt nt ct pk nk ck).toArray 26 (0,0)⟩,⟨true,q3,.cells (fbL b2 pp2 np2 cp2 pt2 nt2 ct2 pk2 nk2 ck2).toArray 26 (0,0)⟩]=h') _ ⟨0,rfl,by omega,rfl,exU rfl,rfl⟩ ?_;rintro nn l h' ⟨u,rfl,hu,heu,⟨U,rfl⟩,rfl⟩ hnext1;refine run_seq ?_;refine rs5 ?_;refine mq rfl ?_;refine d114 ?_;refine k_lssS rfl zq (fun hc=>?_) (fun hc=>?_)
     ·refine d98 ?_;refine run_seq ?_
      refine run_draw [(0,.pure),(2,.pure),(5,.pure),(7,.pure),(1,.read),(3,.pure),(4,.read),(6,.read),(8,.pure),(9,.read),(10,.pure)] (by kernel_rfl) (by kernel_rfl) (List.Sublist.refl _) ?_;(first|refine k_fa0 rfl zq ?_|refine k_fa rfl zq ?_);refine mq rfl ?_;(first|refine k_fa0 rfl zq ?_|refine k_fa rfl zq ?_);refine mq rfl ?_;refine k_ldh rfl zq ?_
      obtain ⟨m1,o1,rfl⟩:=rdp.ptr (by omega)
      refine k_ixs rfl zq (by first|rfl|assumption) (by omega) (by omega) ?_;refine k_ldN (vs:=ptL (b.pts.getD u default)) rfl zq rfl (rdp.eat u (by omega) (by omega)) ?_;refine k_ldh rfl zq ?_;obtain ⟨n1,u1,rfl⟩:=rdp2.ptr (by omega)
      refine k_ixs rfl zq (by first|rfl|assumption) (by omega) (by omega) ?_;refine k_ldN (vs:=ptL (b2.pts.getD u default)) rfl zq rfl (rdp2.eat u (by omega) (by omega)) ?_;refine k_neq3 (hg:=by kernel_rfl) rfl zq (fun hc=>?_) (fun hc=>?_)
      ·have hx:=hc
       refine d58 ?_
       refine run_res (h) rfl Tryz.func58 rfl weakSub ?_;refine hK _ _ ?_;first
        |(have hmk:b.sticks=b2.sticks:=by
           rw [List.take_of_length_le (by omega),List.take_of_length_le (by omega)] at hew
           exact hew
          exact ⟨rfl,IsB.yes (fb_ext (by omega) hmp hmt hmk)⟩)
        |exact ⟨rfl,IsB.no (fun e=>by
        have e1:=congrArg Fb.plank e
        have e2:=congrArg (fun x:Fb=>x.pts.length) e
        have e3:=congrArg (fun x:Fb=>x.tapes.length) e
        have e4:=congrArg (fun x:Fb=>x.sticks.length) e
        first|omega|(rw [e] at hx;exact hx ⟨rfl,rfl,rfl⟩)|(rw [e] at hx;exact hx ⟨rfl,rfl,rfl,rfl⟩))⟩
      ·have hx:=hc
       refine d13 ?_;refine d109 ?_
       exact m.weak weakSub (hnext1 _ _ _ (by omega) ⟨u+1,rfl,by omega,same_take (by omega) (by omega) heu (pt_ext hx),exU rfl,rfl⟩)
     ·refine d75 ?_;refine run_seq ?_;refine rs1 ?_
      have hmp:b.pts=b2.pts:=by
       rw [List.take_of_length_le (by omega),List.take_of_length_le (by omega)] at heu
       exact heu
      refine d54 ?_
      refine run_loop (fun nn l h'=> ∃(v:Nat),nn=nt-v∧(v≤nt)∧(b.tapes.take v=b2.tapes.take v)∧(∃U:Nat→Value,l=((U 0)::(U 1)::(.pointer (some ⟨q2,0,none⟩))::(.pointer (some ⟨q3,0,none⟩))::(U 4)::(U 5)::(.int .i64 (v:Int))::(U 7)::(U 8)::(U 9)::(U 10)::vw83 U 11 []))∧h++[⟨true,q2,.cells (fbL b pp np cp pt nt ct pk nk ck).toArray 26 (0,0)⟩,⟨true,q3,.cells (fbL b2 pp2 np2 cp2 pt2 nt2 ct2 pk2 nk2 ck2).toArray 26 (0,0)⟩]=h') _ ⟨0,rfl,by omega,rfl,exU rfl,rfl⟩ ?_;rintro nn l h' ⟨v,rfl,hv,hev,⟨U,rfl⟩,rfl⟩ hnext2;refine run_seq ?_;refine rs5 ?_;refine mq rfl ?_;refine d114 ?_;refine k_lssS rfl zq (fun hc=>?_) (fun hc=>?_)
      ·refine d98 ?_;refine run_seq ?_
       refine run_draw [(0,.pure),(2,.pure),(5,.pure),(7,.pure),(1,.read),(3,.pure),(4,.read),(6,.read),(8,.pure),(9,.read),(10,.pure)] (by kernel_rfl) (by kernel_rfl) (List.Sublist.refl _) ?_;(first|refine k_fa0 rfl zq ?_|refine k_fa rfl zq ?_);refine mq rfl ?_;(first|refine k_fa0 rfl zq ?_|refine k_fa rfl zq ?_);refine mq rfl ?_;refine k_ldh rfl zq ?_
       obtain ⟨m2,o2,rfl⟩:=rdt.ptr (by omega)
       refine k_ixs rfl zq (by first|rfl|assumption) (by omega) (by omega) ?_;refine k_ldN (vs:=tpL (b.tapes.getD v default)) rfl zq rfl (rdt.eat v (by omega) (by omega)) ?_;refine k_ldh rfl zq ?_;obtain ⟨n2,u2,rfl⟩:=rdt2.ptr (by omega)
       refine k_ixs rfl zq (by first|rfl|assumption) (by omega) (by omega) ?_;refine k_ldN (vs:=tpL (b2.tapes.getD v default)) rfl zq rfl (rdt2.eat v (by omega) (by omega)) ?_;refine k_neq4 (hg:=by kernel_rfl) rfl zq (fun hc=>?_) (fun hc=>?_)
       ·have hx:=hc
        refine d58 ?_
        refine run_res (h) rfl Tryz.func58 rfl weakSub ?_;refine hK _ _ ?_;first
         |(have hmk:b.sticks=b2.sticks:=by
            rw [List.take_of_length_le (by omega),List.take_of_length_le (by omega)] at hew
            exact hew
           exact ⟨rfl,IsB.yes (fb_ext (by omega) hmp hmt hmk)⟩)
         |exact ⟨rfl,IsB.no (fun e=>by
         have e1:=congrArg Fb.plank e
         have e2:=congrArg (fun x:Fb=>x.pts.length) e
         have e3:=congrArg (fun x:Fb=>x.tapes.length) e
         have e4:=congrArg (fun x:Fb=>x.sticks.length) e
         first|omega|(rw [e] at hx;exact hx ⟨rfl,rfl,rfl⟩)|(rw [e] at hx;exact hx ⟨rfl,rfl,rfl,rfl⟩))⟩
       ·have hx:=hc
        refine d13 ?_;refine d109 ?_
        exact m.weak weakSub (hnext2 _ _ _ (by omega) ⟨v+1,rfl,by omega,same_take (by omega) (by omega) hev (tp_ext hx),exU rfl,rfl⟩)
      ·refine d75 ?_;refine run_seq ?_;refine rs1 ?_
       have hmt:b.tapes=b2.tapes:=by
        rw [List.take_of_length_le (by omega),List.take_of_length_le (by omega)] at hev
        exact hev
       refine d54 ?_
       refine run_loop (fun nn l h'=> ∃(w:Nat),nn=nk-w∧(w≤nk)∧(b.sticks.take w=b2.sticks.take w)∧(∃U:Nat→Value,l=((U 0)::(U 1)::(.pointer (some ⟨q2,0,none⟩))::(.pointer (some ⟨q3,0,none⟩))::(U 4)::(U 5)::(U 6)::(.int .i64 (w:Int))::(U 8)::(U 9)::(U 10)::vw83 U 11 []))∧h++[⟨true,q2,.cells (fbL b pp np cp pt nt ct pk nk ck).toArray 26 (0,0)⟩,⟨true,q3,.cells (fbL b2 pp2 np2 cp2 pt2 nt2 ct2 pk2 nk2 ck2).toArray 26 (0,0)⟩]=h') _ ⟨0,rfl,by omega,rfl,exU rfl,rfl⟩ ?_;rintro nn l h' ⟨w,rfl,hw,hew,⟨U,rfl⟩,rfl⟩ hnext3;refine run_seq ?_;refine rs5 ?_;refine mq rfl ?_;refine d114 ?_;refine k_lssS rfl zq (fun hc=>?_) (fun hc=>?_)
       ·refine d98 ?_;refine run_seq ?_
        refine run_draw [(0,.pure),(2,.pure),(5,.pure),(7,.pure),(1,.read),(3,.pure),(4,.read),(6,.read),(8,.pure),(9,.read),(10,.pure)] (by kernel_rfl) (by kernel_rfl) (List.Sublist.refl _) ?_;(first|refine k_fa0 rfl zq ?_|refine k_fa rfl zq ?_);refine mq rfl ?_;(first|refine k_fa0 rfl zq ?_|refine k_fa rfl zq ?_);refine mq rfl ?_;refine k_ldh rfl zq ?_
        obtain ⟨m3,o3,rfl⟩:=rdk.ptr (by omega)
        refine k_ixs rfl zq (by first|rfl|assumption) (by omega) (by omega) ?_;refine k_ldN (vs:=skL (b.sticks.getD w default)) rfl zq rfl (rdk.eat w (by omega) (by omega)) ?_;refine k_ldh rfl zq ?_;obtain ⟨n3,u3,rfl⟩:=rdk2.ptr (by omega)
        refine k_ixs rfl zq (by first|rfl|assumption) (by omega) (by omega) ?_;refine k_ldN (vs:=skL (b2.sticks.getD w default)) rfl zq rfl (rdk2.eat w (by omega) (by omega)) ?_;refine k_neqSk (hg:=by kernel_rfl) rfl zq (fun hc=>?_) (fun hc=>?_)
        ·have hx:=hc
         refine d58 ?_
         refine run_res (h) rfl Tryz.func58 rfl weakSub ?_;refine hK _ _ ?_;first
          |(have hmk:b.sticks=b2.sticks:=by
             rw [List.take_of_length_le (by omega),List.take_of_length_le (by omega)] at hew
             exact hew
            exact ⟨rfl,IsB.yes (fb_ext (by omega) hmp hmt hmk)⟩)
          |exact ⟨rfl,IsB.no (fun e=>by
          have e1:=congrArg Fb.plank e
          have e2:=congrArg (fun x:Fb=>x.pts.length) e
          have e3:=congrArg (fun x:Fb=>x.tapes.length) e
          have e4:=congrArg (fun x:Fb=>x.sticks.length) e
          first|omega|(rw [e] at hx;exact hx ⟨rfl,rfl,rfl⟩)|(rw [e] at hx;exact hx ⟨rfl,rfl,rfl,rfl⟩))⟩
        ·have hx:=hc
         refine d13 ?_;refine d109 ?_
         exact m.weak weakSub (hnext3 _ _ _ (by omega) ⟨w+1,rfl,by omega,same_take (by omega) (by omega) hew (sk_ext hx),exU rfl,rfl⟩)
       ·refine d75 ?_;refine d38 ?_
        refine run_res (h) rfl Tryz.func58 rfl weakSub ?_;refine hK _ _ ?_;first
         |(have hmk:b.sticks=b2.sticks:=by
            rw [List.take_of_length_le (by omega),List.take_of_length_le (by omega)] at hew
            exact hew
           exact ⟨rfl,IsB.yes (fb_ext (by omega) hmp hmt hmk)⟩)
         |exact ⟨rfl,IsB.no (fun e=>by
         have e1:=congrArg Fb.plank e
         have e2:=congrArg (fun x:Fb=>x.pts.length) e
         have e3:=congrArg (fun x:Fb=>x.tapes.length) e
         have e4:=congrArg (fun x:Fb=>x.sticks.length) e
         first|omega|(rw [e] at hx;exact hx ⟨rfl,rfl,rfl⟩)|(rw [e] at hx;exact hx ⟨rfl,rfl,rfl,rfl⟩))⟩
theorem setSeg_encs {α:Type} {k:Nat} [Enc α k] {xs:List α} {junk:List Value} {j:Int} {i:Nat} (a:α) (hj:j=i) (hi:i<xs.length):SetSeg (encs xs++junk) (0+j.toNat*k) (Enc.enc a) (encs (xs.set i a)++junk):=by
 subst hj
 have hl:(Enc.enc a).length=k:=Enc.len a
 have hle:i*k+k≤(encs xs).length:=by
  rw [encs_length];have:(i+1)*k≤xs.length*k:=Nat.mul_le_mul_right k hi
  rw [Nat.add_mul] at this
  omega
 refine ⟨?_,by rw [Int.toNat_natCast,hl,List.length_append];omega⟩
 rw [Int.toNat_natCast,Nat.zero_add,hl,List.take_append_of_le_length (by omega),List.drop_append_of_le_length (by omega),←encs_take,show i*k+k=(i+1)*k by rw [Nat.add_mul];omega,←encs_drop,List.set_eq_take_append_cons_drop,if_pos hi,encs_append];simp [encs]
theorem own_blk_of {t k n:Nat} {v:Value} {cs:List Value} {new:Hp} (o:OwnS t k v n cs new) (h0:0<n): ∃q cap junk,v= .slice (some ⟨q,0,none⟩) n cap∧new=[⟨true,q,.cells (cs++junk).toArray t (0,0)⟩]∧n≤cap∧cs.length+junk.length=cap*k:=by
 cases o with
 |nil=>omega
 |blk hl hc hn=>exact ⟨_,_,_,rfl,rfl,hn,hc⟩
def measS0 (b:Fb) (st lo hi:Int):Int:=if fbS b≠0 then fbS b else if¬(0≤st∧st≤(b.pts.length:Int)-1) then 6 else if¬(0≤lo∧lo≤hi∧hi≤959) then 1
 else if max (b.pts.getD st.toNat default).lo lo>min (b.pts.getD st.toNat default).hi hi then 9 else 0
def measB0 (b:Fb) (st lo hi:Int):Fb:=setP b st.toNat (max (b.pts.getD st.toNat default).lo lo) (min (b.pts.getD st.toNat default).hi hi)
def measS (b:Fb) (st lo hi:Int):Int:=if measS0 b st lo hi≠0 then measS0 b st lo hi else openS (measB0 b st lo hi) 0
def measF (b:Fb) (st lo hi:Int):Fb:=if measS0 b st lo hi≠0 then noF else agreeF (measB0 b st lo hi)
theorem setSeg_part {xs:List Pt} {junk:List Value} {j:Int} {i:Nat} {lo hi:Int} (hj:j=i) (h:i<xs.length):SetSeg (encs xs++junk) (0+j.toNat*3+1) [.int .i64 lo,.int .i64 hi] (encs (xs.set i ⟨(xs.getD i default).h,lo,hi⟩)++junk):=by
 obtain ⟨s1,s2⟩:=(setSeg_encs (junk:=junk) (⟨(xs.getD i default).h,lo,hi⟩:Pt) hj h).eq
 subst hj
 have hd:xs.drop i=xs.getD i default::xs.drop (i+1):=by
  rw [List.drop_eq_getElem_cons h,List.getD_eq_getElem?_getD,List.getElem?_eq_getElem h];rfl
 have hl:i*3≤(encs xs).length:=by rw [encs_length];omega
 have hg:(encs xs++junk)[i*3]?=some (.int .i64 (xs.getD i default).h):=by
  have e:(encs xs++junk).drop (i*3)=encs (xs.drop i)++junk:=by rw [List.drop_append_of_le_length hl,encs_drop]
  have e2:((encs xs++junk).drop (i*3))[0]?=some (.int .i64 (xs.getD i default).h):=by rw [e,hd];rfl
  rw [List.getElem?_drop] at e2
  simpa using e2
 have hlen:(Enc.enc (⟨(xs.getD i default).h,lo,hi⟩:Pt):List Value).length=3:=rfl
 rw [Int.toNat_natCast,Nat.zero_add] at s1 s2⊢
 rw [hlen] at s1 s2
 refine ⟨?_,by show i*3+1+2≤_;omega⟩
 rw [s1,List.take_add_one,hg];show List.take (i*3) (encs xs++junk)++[Value.int .i64 (xs.getD i default).h,.int .i64 lo,.int .i64 hi]++List.drop (i*3+3) (encs xs++junk)=List.take (i*3) (encs xs++junk)++[Value.int .i64 (xs.getD i default).h]++[.int .i64 lo,.int .i64 hi]++List.drop (i*3+1+2) (encs xs++junk)
 simp only [List.append_assoc,List.cons_append,List.nil_append]
theorem f71_c (m:Md Tryz.prog B) (h:Hp) (rdp:Rp B h b pp np cp) (hp:np≤1000) {i:Nat} (hi':i<np) (lo hi:Int):FnC m 71 #[fbV b pp np cp pt nt ct pk nk ck,.int .i64 (i:Int),.agg [.int .i64 lo,.int .i64 hi].toArray] h fun v h'=> ∃new,h'=h++new∧ ∃pp2 cp2,v=fbV (setP b i lo hi) pp2 np cp2 pt nt ct pk nk ck∧np≤cp2∧RdS B new 3 (.slice pp2 np cp2) np (encs (setP b i lo hi).pts):=by
 have hml:=rdp.elen (by decide)
 refine fn_enter Tryz.func71 rfl rfl (l:=(fbV b pp np cp pt nt ct pk nk ck)::(.int .i64 (i:Int))::(.agg [.int .i64 lo,.int .i64 hi].toArray)::uu18) rfl ?_
 intro cf cs K hK
 refine rs3 ?_;refine k_box rfl zq (fun q3=>k_hp (k_put ?_));refine k_box rfl zq (fun q5=>k_hp (k_put ?_));refine k_new rfl zq (fun q6=>k_hp (k_put ?_));refine k_nil ?_;refine d94 ?_;refine k_new rfl zq (fun q7=>k_hp (k_put ?_));refine d48 ?_;refine rs6 ?_
 refine k_bs0 kdq rfl zq (fun q9=>k_hp (k_put ?_));refine d2 ?_
 refine k_appO rfl zq (OwnS.zero (q:=q9)) rdp.up (encs_one _) kdq (by omega) (by omega) (fun w12 n12 o12=>k_put ?_);replace o12:OwnS 80 3 w12 np (encs b.pts) n12:=by simpa using o12
 obtain ⟨qm,cp2,junk,rfl,rfl,hcp,hcc⟩:=own_blk_of o12 (by omega)
 refine d141 ?_;refine rs7 ?_;refine d2 ?_;refine mq rfl ?_;refine k_ldA rfl zq ?_;refine d20 ?_
 haveI hsg:SetSeg (encs b.pts++junk) (0+(i:Int).toNat*3+1) [.int .i64 lo,.int .i64 hi] (encs (b.pts.set i ⟨(b.pts.getD i default).h,lo,hi⟩)++junk):=setSeg_part rfl (by omega)
 refine d48 ?_;refine d113 ?_;refine d91 ?_
 refine run_res (h++[⟨true,qm,.cells (encs (b.pts.set i ⟨(b.pts.getD i default).h,lo,hi⟩)++junk).toArray 80 (0,0)⟩]) rfl Tryz.func71 rfl weakSub ?_;refine hK _ _ ?_;exact ⟨_,rfl,_,_,rfl,hcp,(OwnS.blk (t:=80) (k:=3) (n:=np) (cap:=cp2) (b:=qm) (cs:=encs (b.pts.set i ⟨(b.pts.getD i default).h,lo,hi⟩)) (junk:=junk) (by rw [encs_length,List.length_set,hml]) (by rw [encs_length,List.length_set];rw [encs_length] at hcc;exact hcc) hcp).rd (List.Sublist.refl _)⟩
theorem f70_c (m:Md Tryz.prog B) (h:Hp) (rdp:Rp B h b pp np cp) (hp:np≤1000) (rdt:Rt B h b pt nt ct) (ht:nt≤1000) (rdk:Rk B h b pk nk ck) (hk:nk≤1000) (st lo hi:Int):FnC m 70 #[fbV b pp np cp pt nt ct pk nk ck,.int .i64 st,.agg [.int .i64 lo,.int .i64 hi].toArray] h fun v h'=> ∃nw,h'=h++nw∧ ∃w,v= .tuple [w,.int .i64 (measS b st lo hi)].toArray∧BkF B (measF b st lo hi) nw w:=by
 have hml:=rdp.elen (by decide)
 have htl:=rdt.elen (by decide)
 have hkl:=rdk.elen (by decide)
 refine fn_enter Tryz.func70 rfl rfl (l:=(fbV b pp np cp pt nt ct pk nk ck)::(.int .i64 st)::(.agg [.int .i64 lo,.int .i64 hi].toArray)::uu65) rfl ?_
 intro cf cs K hK
 refine rs4 ?_;refine k_box rfl zq (fun q3=>k_hp (k_put ?_));refine k_box rfl zq (fun q5=>k_hp (k_put ?_));refine k_new rfl zq (fun q6=>k_hp (k_put ?_));refine d12 ?_;refine d94 ?_
 refine k_calP (Post:=fun v=>v=_) rfl zq (by kernel_rfl) (fun H' hH=>f21_c m H' (rdp.keeps (sq hH)) hp (rdt.keeps (sq hH)) ht (rdk.keeps (sq hH)) hk) ?_;rintro v rfl;refine d135 ?_
 refine k_neqS rfl zq (fun hc=>?_) (fun hc=>?_)
 ·refine d7 ?_;refine rs4 ?_
  have hS:measS0 b st lo hi=fbS b:=by rw [measS0,if_pos hc]
  refine d112 ?_;refine d70 ?_
  refine run_res (h) rfl Tryz.func70 rfl weakSub ?_;refine hK _ _ ?_;exact ⟨[],by simp,_,by rw [measS,if_pos (by rw [hS];first|decide|assumption),hS],by rw [measF,if_pos (by rw [hS];first|decide|assumption)];exact BkF.zero⟩
 ·refine d37 ?_;refine run_seq ?_
  have hz:fbS b=0:=by omega
  have hv:=fbS_zero hz
  have hv1:=hv.pts.five
  have hS0:measS0 b st lo hi=measS0 b st lo hi:=rfl
  conv at hS0=>rhs;rw [measS0,if_neg (fun e=>e hz)]
  refine run_drawT [0,1,2,3,4,5] (by kernel_rfl) (by kernel_rfl) (List.Sublist.refl _) ?_;refine DrawT.leaf [(0,.pure),(2,.read),(3,.pure),(1,.keep),(4,.keep),(5,.pure)] (by kernel_rfl) ?_
  refine mq rfl ?_;refine d131 ?_
  refine k_calC rfl zq (by kernel_rfl) (Post:=fun v nw=> ∃q,nw=[⟨true,q,.cells [.int .i64 st].toArray 3 (0,0)⟩]∧v= .func (.func 162) #[] [.pointer (some ⟨q,0,none⟩)].toArray) (fun H' hH=>f108_c m H' st) ?_;rintro v nw ⟨qs,rfl,rfl⟩;refine k_hpA (k_put ?_);refine k_valP (Post:=fun v=>v=_) rfl zq callB162 (fun H' hH=>by simpa using f162_c m H' hp ((rd_has (q:=qs)).keeps hH)) ?_;rintro v rfl;refine d135 ?_
  refine k_neqS rfl zq (fun hc=>?_) (fun hc=>?_)
  ·refine d7 ?_;refine rs4 ?_
   have hS:measS0 b st lo hi=6:=by rw [hS0,if_pos (by rw [hml];intro e;rw [if_pos e] at hc;exact absurd rfl hc)]
   refine d112 ?_;refine d70 ?_
   refine run_res (h) rfl Tryz.func70 rfl weakSub ?_;refine hK _ _ ?_;have hn: ¬(0≤st∧st≤(np:Int)-1):=fun e=>hc (if_pos e)
   rw [if_neg hn];exact ⟨[],by simp,_,by rw [measS,if_pos (by rw [hS];decide),hS],by rw [measF,if_pos (by rw [hS];decide)];exact BkF.zero⟩
  ·refine d37 ?_;refine run_seq ?_
   have hst:0≤st∧st≤(np:Int)-1:=Classical.byContradiction fun e=>by rw [if_neg e] at hc;exact absurd hc (by decide)
   refine rr3 ?_;refine k_ldA rfl zq ?_;refine k_calP (Post:=fun v=>IsB _ v) rfl zq (by kernel_rfl) (fun H' hH=>f143_c m H' _ _ _ _) ?_;rintro v (⟨hc,rfl⟩|⟨hc,rfl⟩)
   ·refine d43 ?_;refine d37 ?_
    obtain ⟨i,rfl⟩:=Int.eq_ofNat_of_zero_le (show 0≤st by omega)
    obtain ⟨mb,mo,rfl⟩:=rdp.ptr (by omega)
    refine rr8 ?_;refine d2 ?_;refine mq rfl ?_;refine d20 ?_;refine k_ldN (vs:=[.int .i64 (b.pts.getD i default).lo,.int .i64 (b.pts.getD i default).hi]) rfl zq rfl (rdp.eatF i 1 (by omega) (by omega) rfl) ?_;refine k_new rfl zq (fun q10=>k_hp (k_put ?_));refine d129 ?_
    refine run_region [(0,.free),(1,.free),(2,.free),(3,.free),(4,.free),(5,.free),(6,.free),(7,.free),(8,.free),(9,.free),(10,.free),(11,.free),(12,.free)] (by kernel_rfl) (by kernel_rfl) ?_;refine d2 ?_;refine d2 ?_;refine k_max rfl zq ?_;refine d2 ?_;refine d2 ?_;refine k_min rfl zq ?_;refine k_bld rfl zq ?_
    refine k_new rfl zq (fun q11=>k_hp (k_put ?_));refine d129 ?_;refine rs5 ?_;refine d2 ?_;refine d2 ?_
    refine k_gtrS rfl zq (fun hc=>?_) (fun hc=>?_)
    ·refine d7 ?_;refine rs3 ?_
     have hS:measS0 b (i:Int) lo hi=9:=by rw [hS0,if_neg (fun e=>e (by omega)),if_neg (fun e=>e (by omega)),if_pos (by rw [Int.toNat_natCast];show (max (b.pts.getD i default).lo lo)>(min (b.pts.getD i default).hi hi);omega)]
     refine k_bld rfl zq ?_;refine d70 ?_;refine run_res (h) rfl Tryz.func70 rfl weakSub ?_;refine hK _ _ ?_;exact ⟨[],by simp,_,by rw [measS,if_pos (by rw [hS];first|decide|assumption),hS],by rw [measF,if_pos (by rw [hS];first|decide|assumption)];exact BkF.zero⟩
    ·refine d37 ?_
     have hS:measS0 b (i:Int) lo hi=0:=by rw [hS0,if_neg (fun e=>e (by omega)),if_neg (fun e=>e (by omega)),if_neg (by rw [Int.toNat_natCast];show¬(max (b.pts.getD i default).lo lo)>(min (b.pts.getD i default).hi hi);omega)]
     refine rr5 ?_;refine d2 ?_;refine k_calC rfl zq (by kernel_rfl) (fun H' hH=>f144_c m H' (rdp.keeps (sq hH)) hp) ?_;rintro v n1 o1;obtain ⟨qm,cp2,junk,rfl,rfl,hcp,hcc⟩:=own_blk_of o1 (by omega)
     refine k_hpA (k_put ?_);refine d141 ?_;refine rs7 ?_;refine d2 ?_;refine mq rfl ?_;refine k_ldA rfl zq ?_;refine d20 ?_
     haveI hsg:SetSeg (encs b.pts++junk) (0+(i:Int).toNat*3+1) [.int .i64 (max (b.pts.getD i default).lo lo),.int .i64 (min (b.pts.getD i default).hi hi)] (encs (b.pts.set i ⟨(b.pts.getD i default).h,(max (b.pts.getD i default).lo lo),(min (b.pts.getD i default).hi hi)⟩)++junk):=setSeg_part rfl (by omega)
     refine d129 ?_
     have rM:RdS B [⟨true,qm,.cells (encs (b.pts.set i ⟨(b.pts.getD i default).h,(max (b.pts.getD i default).lo lo),(min (b.pts.getD i default).hi hi)⟩)++junk).toArray 80 (0,0)⟩] 3 (.slice (some ⟨qm,0,none⟩) np cp2) np (encs (setP b i (max (b.pts.getD i default).lo lo) (min (b.pts.getD i default).hi hi)).pts):=(OwnS.blk (t:=80) (k:=3) (n:=np) (cap:=cp2) (b:=qm) (cs:=encs (b.pts.set i ⟨(b.pts.getD i default).h,(max (b.pts.getD i default).lo lo),(min (b.pts.getD i default).hi hi)⟩)) (junk:=junk) (by rw [encs_length,List.length_set,hml]) (by rw [encs_length,List.length_set];rw [encs_length] at hcc;exact hcc) hcp).rd (List.Sublist.refl _)
     refine rr6 ?_;refine k_ldA rfl zq ?_;refine k_calC rfl zq (by kernel_rfl) (fun H' hH=>f141_c m H' (b:=(setP b i (max (b.pts.getD i default).lo lo) (min (b.pts.getD i default).hi hi))) (rM.keeps (sq hH)) hp (rdt.keeps (sq hH)) ht (rdk.keeps (sq hH)) hk) ?_;rintro v n5 ⟨w5,rfl,hb5⟩;obtain ⟨pp5,np5,cp5,pt5,nt5,ct5,pk5,nk5,ck5,rfl,hr5⟩:=hb5
     refine k_hpA (k_put ?_);refine d17 ?_;refine d70 ?_
     refine run_res (h++n5) rfl Tryz.func70 rfl weakSub ?_;refine hK _ _ ?_;have eB0:measB0 b (i:Int) lo hi=(setP b i (max (b.pts.getD i default).lo lo) (min (b.pts.getD i default).hi hi)):=by rw [measB0,Int.toNat_natCast]
     exact ⟨n5,rfl,_,by rw [measS,if_neg (fun e=>e hS),eB0],by rw [measF,if_neg (fun e=>e hS),eB0];exact ⟨_,_,_,_,_,_,_,_,_,rfl,hr5⟩⟩
   ·refine d44 ?_;refine d7 ?_;refine rs3 ?_
    have hS:measS0 b st lo hi=1:=by rw [hS0,if_neg (fun e=>e (by omega)),if_pos (by omega)]
    refine k_bld rfl zq ?_;refine d70 ?_;refine run_res (h) rfl Tryz.func70 rfl weakSub ?_;refine hK _ _ ?_;exact ⟨[],by simp,_,by rw [measS,if_pos (by rw [hS];first|decide|assumption),hS],by rw [measF,if_pos (by rw [hS];first|decide|assumption)];exact BkF.zero⟩
end Go.Proofs
namespace Go.Proofs
open Go.Lo
open Go.Conc (G)
set_option maxRecDepth 100000
set_option synthInstance.maxSize 100000
set_option synthInstance.maxHeartbeats 1000000
set_option maxHeartbeats 4000000
variable {B:Array Obj}
variable [LaidF B]
theorem breadths_le {b:Fb} {s:Int} {k:Nat} {ys:List Int} (h: ∀z,z∈ys↔z∈breadthsAt (openL b (openS b s)) k) (ha:Asc ys):ys.length≤1000000:=by
 have h1:=List.Nodup.length_le_of_subset (l₂:=breadthsAt (openL b (openS b s)) k) (asc_nodup ha) fun z hz=>(h z).1 hz
 have h2:(openL b (openS b s)).length≤243:=by
  unfold openL
  split
  ·simp
  ·rename_i h
   exact boatsOf_le (fbS_zero (openS_zero (Classical.not_not.1 h)).1).pts
 rw [breadthsAt,List.length_map] at h1
 omega
end Go.Proofs
namespace Go.Proofs
open Go.Lo
open Go.Conc (G)
set_option maxRecDepth 100000
set_option synthInstance.maxSize 100000
set_option synthInstance.maxHeartbeats 1000000
set_option maxHeartbeats 4000000
variable {b:Fb} {pp:Option Addr} {np cp:Nat} {pt:Option Addr} {nt ct:Nat} {pk:Option Addr} {nk ck:Nat}
variable {B:Array Obj}
variable [LaidF B]
theorem _root_.Go.Lo.PtsOk.span {pts:List Pt} (k:PtsOk pts) {i:Nat} (hi:i<pts.length):0≤(pts.getD i default).lo∧(pts.getD i default).lo≤(pts.getD i default).hi∧(pts.getD i default).hi≤959:=(k.ok _ (mem_getDR.2 ⟨i,hi,rfl⟩)).2.1
theorem f48_c (m:Md Tryz.prog B) (h:Hp) (rdp:Rp B h b pp np cp) (rdt:Rt B h b pt nt ct) (rdk:Rk B h b pk nk ck):FnC m 48 #[fbV b pp np cp pt nt ct pk nk ck] h fun v h'=>h'=h∧IsB (np≤20∧nt≤20∧nk≤20∧fbS b=0) v:=by
 refine fn_enter Tryz.func48 rfl rfl (l:=(fbV b pp np cp pt nt ct pk nk ck)::uu10) rfl ?_
 intro cf cs K hK
 refine rs2 ?_;refine k_box rfl zq (fun q1=>k_hp (k_put ?_));refine aq rfl ?_;refine rs9 ?_;refine k_ldA rfl zq ?_
 refine k_calP (Post:=fun v=>IsB _ v) rfl zq (by kernel_rfl) (fun H' hH=>f17_c m H') ?_;rintro v (⟨hc,rfl⟩|⟨hc,rfl⟩)
 ·refine d43 ?_;refine d52 ?_;refine d72 ?_;refine d0 ?_
  refine run_res (h) rfl Tryz.func48 rfl weakSub ?_;refine hK _ _ ?_;first|exact ⟨rfl,IsB.yes ⟨by omega,by omega,by omega,by omega⟩⟩|exact ⟨rfl,IsB.no (by omega)⟩
 ·refine d44 ?_;refine mq rfl ?_;refine k_ldA rfl rfl ?_
  refine k_calP (Post:=fun v=>v=_) rfl rfl (by kernel_rfl) (fun H' hH=>f22_c m H' (rdp.keeps (sq hH)) (by omega) (rdt.keeps (sq hH)) (by omega) (rdk.keeps (sq hH)) (by omega)) ?_;rintro v rfl;refine k_put ?_;refine k_eqlS rfl rfl (fun hc=>?_) (fun hc=>?_)
  ·refine d92 ?_
   refine run_res (h) rfl Tryz.func48 rfl weakSub ?_;refine hK _ _ ?_;first|exact ⟨rfl,IsB.yes ⟨by omega,by omega,by omega,by omega⟩⟩|exact ⟨rfl,IsB.no (by omega)⟩
  ·refine d92 ?_
   refine run_res (h) rfl Tryz.func48 rfl weakSub ?_;refine hK _ _ ?_;first|exact ⟨rfl,IsB.yes ⟨by omega,by omega,by omega,by omega⟩⟩|exact ⟨rfl,IsB.no (by omega)⟩
end Go.Proofs
namespace Go.Proofs
open Go.Lo
open Go.Conc (G)
set_option maxRecDepth 100000
set_option synthInstance.maxSize 100000
set_option synthInstance.maxHeartbeats 1000000
set_option maxHeartbeats 4000000
variable {B:Array Obj}
variable [LaidF B]
theorem ptsS_of {pts:List Pt} (k:PtsOk pts):ptsS pts=0:=by
 have h2:=k.two
 have h5:=k.five
 unfold ptsS
 rw [if_neg (by omega)];refine scanS_all fun i hi=>?_
 obtain ⟨o1,o2,o3⟩:=k.ok (pts.getD i default) (mem_getDR.2 ⟨i,hi,rfl⟩)
 unfold ptS
 rw [if_neg (by omega),if_neg,if_neg (by omega)];rintro ⟨h0,h1⟩;have:=k.up (i-1) (by omega)
 rw [show i-1+1=i by omega] at this
 omega
theorem fbS_of {b:Fb} (v:FOk b):fbS b=0:=by
 have hp:=v.plank
 have hf:=v.few
 have hf':=v.few'
 have e1:plankS b=0:=by rw [plankS,if_neg (by omega),ptsS_of v.pts]
 have e2:tapesS b=0:=by
  unfold tapesS
  rw [if_neg (by omega)];refine scanS_all fun i hi=>?_
  have h:=v.tapes (b.tapes.getD i default) (mem_getDR.2 ⟨i,hi,rfl⟩)
  generalize b.tapes.getD i default=q at h
  unfold okTp at h
  show tpS b.pts.length q=0
  unfold tpS
  have e:ordS b.pts.length q.f q.t=0:=by rw [ordS,if_neg (by omega),if_neg (by omega)]
  rw [e,if_neg (fun x=>x rfl),if_neg (by omega)]
 have e3:sticksS b=0:=by
  unfold sticksS
  rw [if_neg (by omega)];refine scanS_all fun i hi=>?_
  have h:=v.sticks (b.sticks.getD i default) (mem_getDR.2 ⟨i,hi,rfl⟩)
  generalize b.sticks.getD i default=q at h
  unfold okSk at h
  show skS b.pts q=0
  unfold skS
  rw [if_neg (by omega)]
 rw [fbS,e1,if_neg (fun x=>x rfl),e2,if_neg (fun x=>x rfl),e3]
theorem setP_len (b:Fb) (s:Nat) (lo hi:Int):(setP b s lo hi).pts.length=b.pts.length:=by simp [setP]
theorem setP_at {b:Fb} {s:Nat} (lo hi:Int) (hs:s<b.pts.length) (i:Nat):(setP b s lo hi).pts.getD i default=if i=s then ⟨(b.pts.getD s default).h,lo,hi⟩ else b.pts.getD i default:=by
 show (b.pts.set s ⟨(b.pts.getD s default).h,lo,hi⟩).getD i default=_
 rw [List.getD_eq_getElem?_getD,List.getElem?_set];by_cases e:s=i
 ·subst e
  rw [if_pos rfl,if_pos hs,if_pos rfl];rfl
 ·rw [if_neg e,if_neg (fun x=>e x.symm),List.getD_eq_getElem?_getD]
theorem setP_h {b:Fb} {s:Nat} (lo hi:Int) (hs:s<b.pts.length) (i:Nat):((setP b s lo hi).pts.getD i default).h=(b.pts.getD i default).h:=by
 rw [setP_at lo hi hs];split
 ·rename_i e
  rw [e]
 ·rfl
theorem setP_ok {b:Fb} (v:FOk b) {s:Nat} {lo hi:Int} (hs:s<b.pts.length) (h1:(b.pts.getD s default).lo≤lo) (h2:lo≤hi) (h3:hi≤(b.pts.getD s default).hi):FOk (setP b s lo hi):=by
 have hl:=setP_len b s lo hi
 refine ⟨v.plank,⟨by rw [hl];exact v.pts.two,by rw [hl];exact v.pts.five,fun x hx=>?_,fun i hi'=>?_⟩,v.few,fun t ht=>?_,v.few',fun k hk=>?_⟩
 ·obtain ⟨i,hi',rfl⟩:=mem_getDR.1 hx
  rw [hl] at hi'
  obtain ⟨o1,o2,o3⟩:=v.pts.ok (b.pts.getD i default) (mem_getDR.2 ⟨i,hi',rfl⟩)
  rw [setP_at lo hi hs];split
  ·rename_i e
   subst e
   exact ⟨o1,⟨by show 0≤lo;omega,h2,by show hi≤959;omega⟩,by show hi-lo<3;omega⟩
  ·exact ⟨o1,o2,o3⟩
 ·rw [hl] at hi'
  rw [setP_h lo hi hs,setP_h lo hi hs];exact v.pts.up i hi'
 ·have:=v.tapes t ht
  unfold okTp at this⊢
  rw [hl];exact this
 ·have:=v.sticks k hk
  unfold okSk at this⊢
  rw [hl,setP_h lo hi hs,setP_h lo hi hs];exact this
theorem atI_h {p q:List Pt} (h: ∀i,(p.getD i default).h=(q.getD i default).h) (hl:p.length=q.length) (l:List Int) (x:Int):atI p l x=atI q l x:=by
 have e:segN p x=segN q x:=by
  unfold segN
  have hm:(p.drop 1).map (·.h)=(q.drop 1).map (·.h):=by
   refine List.ext_getElem? fun i=>?_
   rw [List.getElem?_map,List.getElem?_map,List.getElem?_drop,List.getElem?_drop];have:=h (1+i)
   rw [List.getD_eq_getElem?_getD,List.getD_eq_getElem?_getD] at this
   rcases Nat.lt_or_ge (1+i) p.length with h1|h1
   ·rw [List.getElem?_eq_getElem h1,List.getElem?_eq_getElem (hl▸h1)] at this⊢
    simpa using this
   ·rw [List.getElem?_eq_none h1,List.getElem?_eq_none (by omega)]
  have ht: ∀(a:List Pt),((a.takeWhile fun p=>decide (p.h<x)).length)=((a.map (·.h)).takeWhile fun z=>decide (z<x)).length:=fun a=>by
   induction a with
   |nil=>rfl
   |cons c r ih=>
    rw [List.map_cons,List.takeWhile_cons,List.takeWhile_cons];by_cases hc:c.h<x
    ·simp [hc,ih]
    ·simp [hc]
  rw [ht,ht,hm]
 unfold atI
 simp only [e,h]
theorem girthF_h {p q:List Pt} (h: ∀i,(p.getD i default).h=(q.getD i default).h) (l:List Int) (f:Nat): ∀k,girthF p l f k=girthF q l f k
 |0=>rfl
 |k+1=>by simp only [girthF,girthF_h h l f k,sideI,h]
theorem right_h {b:Fb} {s:Nat} (lo hi:Int) (hs:s<b.pts.length) (l:List Int):rightF (setP b s lo hi) l↔rightF b l:=by
 have e1: ∀x,atI (setP b s lo hi).pts l x=atI b.pts l x:=fun x=>atI_h (setP_h lo hi hs) (setP_len b s lo hi) l x
 have e2: ∀f t,girthI (setP b s lo hi).pts l f t=girthI b.pts l f t:=fun f t=>girthF_h (setP_h lo hi hs) l _ _
 unfold rightF tapeOk stickOk
 simp only [e1,e2]
 exact Iff.rfl
theorem mem_setP {b:Fb} {s:Nat} {lo hi:Int} (hs:s<b.pts.length) (h1:(b.pts.getD s default).lo≤lo) (h3:hi≤(b.pts.getD s default).hi) {l:List Int}:l∈boatsOf (setP b s lo hi)↔l∈boatsOf b∧lo≤l.getD s 0∧l.getD s 0≤hi:=by
 rw [mem_boats,mem_boats,setP_len,right_h lo hi hs];unfold spansF
 constructor
 ·rintro ⟨a,c,d⟩;have hcs:=c s (by omega)
  rw [setP_at lo hi hs,if_pos rfl] at hcs
  refine ⟨⟨a,fun i hi'=>?_,d⟩,hcs.1,hcs.2⟩
  have:=c i hi'
  rw [setP_at lo hi hs] at this
  split at this
  ·rename_i e
   subst e
   have t1:lo≤l.getD i 0:=this.1
   have t2:l.getD i 0≤hi:=this.2
   omega
  ·exact this
 ·rintro ⟨⟨a,c,d⟩,e1,e2⟩;refine ⟨a,fun i hi'=>?_,d⟩
  rw [setP_at lo hi hs];split
  ·rename_i e
   subst e
   exact ⟨e1,e2⟩
  ·exact c i hi'
theorem nodup_ext {ll:List (List Int)} {x:Sp} (h:ll.Nodup):(extL ll x).Nodup:=by
 unfold extL List.Nodup
 rw [List.pairwise_flatMap];constructor
 ·intro l _
  unfold ext1
  rw [List.pairwise_map];have hsp:(spanL x).Pairwise (· ≠ ·):=by
   unfold spanL
   rw [List.pairwise_map];exact List.Pairwise.imp (fun {a c} hac e=>by omega) List.pairwise_lt_range
  exact List.Pairwise.imp (fun {a c} hac e=>hac (by
   have:=(List.append_inj' e rfl).2
   simpa using this)) hsp
 ·refine List.Pairwise.imp (fun {l k} hlk x hx y hy e=>hlk ?_) h
  unfold ext1 at hx hy
  obtain ⟨a,_,rfl⟩:=List.mem_map.1 hx
  obtain ⟨c,_,rfl⟩:=List.mem_map.1 hy
  exact (List.append_inj' e rfl).1
theorem nodup_lines (b:Fb): ∀k,k≤b.pts.length→(linesK b k).Nodup
 |0,_=>by rw [linesK_zero];simp
 |k+1,h=>by rw [linesK_succ b (by omega)];exact nodup_ext (nodup_lines b k (by omega))
theorem nodup_boats (b:Fb):(boatsOf b).Nodup:=List.Pairwise.sublist List.filter_sublist (nodup_lines b _ (Nat.le_refl _))
theorem count_setP {b:Fb} {s:Nat} {v:Int} (hs:s<b.pts.length) (h1:(b.pts.getD s default).lo≤v) (h3:v≤(b.pts.getD s default).hi):(boatsOf (setP b s v v)).length=countAt (boatsOf b) s v:=by
 have e:countAt (boatsOf b) s v=((boatsOf b).filter fun l=>decide (l.getD s 0=v)).length:=rfl
 rw [e];have hm: ∀l,l∈boatsOf (setP b s v v)↔l∈(boatsOf b).filter fun l=>decide (l.getD s 0=v):=fun l=>by
  rw [mem_setP hs h1 h3,List.mem_filter,decide_eq_true_iff];constructor
  ·rintro ⟨a,c,d⟩;exact ⟨a,by omega⟩
  ·rintro ⟨a,c⟩;exact ⟨a,by omega,by omega⟩
 have h4:=List.Nodup.length_le_of_subset (nodup_boats (setP b s v v)) fun l hl=>(hm l).1 hl
 have h5:=List.Nodup.length_le_of_subset (List.Pairwise.sublist List.filter_sublist (nodup_boats b):((boatsOf b).filter fun l=>decide (l.getD s 0=v)).Nodup) fun l hl=>(hm l).2 hl
 omega
def cntLt (ll:List (List Int)) (s:Nat) (lo:Int) (d:Nat):Nat:=(ll.filter fun l=>decide (lo≤l.getD s 0∧l.getD s 0<lo+(d:Int))).length
theorem cntLt_zero (ll:List (List Int)) (s:Nat) (lo:Int):cntLt ll s lo 0=0:=by
 unfold cntLt
 rw [List.length_eq_zero_iff,List.filter_eq_nil_iff];intro l _
 rw [decide_eq_true_iff];omega
theorem cntLt_succ (ll:List (List Int)) (s:Nat) (lo:Int) (d:Nat):cntLt ll s lo (d+1)=cntLt ll s lo d+countAt ll s (lo+(d:Int)):=by
 unfold cntLt countAt
 induction ll with
 |nil=>rfl
 |cons l r ih=>
  rw [List.filter_cons,List.filter_cons,List.filter_cons];rcases Int.lt_trichotomy (l.getD s 0) (lo+(d:Int)) with h|h|h
  ·by_cases h2:lo≤l.getD s 0
   ·rw [if_pos (decide_eq_true ⟨h2,by omega⟩),if_pos (decide_eq_true ⟨h2,h⟩),if_neg (by rw [decide_eq_true_iff];omega),List.length_cons,List.length_cons,ih];omega
   ·rw [if_neg (by rw [decide_eq_true_iff];omega),if_neg (by rw [decide_eq_true_iff];omega),if_neg (by rw [decide_eq_true_iff];omega),ih]
  ·rw [if_pos (decide_eq_true ⟨by omega,by omega⟩),if_neg (by rw [decide_eq_true_iff];omega),if_pos (decide_eq_true h),List.length_cons,List.length_cons,ih];omega
  ·rw [if_neg (by rw [decide_eq_true_iff];omega),if_neg (by rw [decide_eq_true_iff];omega),if_neg (by rw [decide_eq_true_iff];omega),ih]
theorem cntLt_all {b:Fb} {s:Nat} {d:Nat} (hs:s<b.pts.length) (hd:(b.pts.getD s default).hi<(b.pts.getD s default).lo+(d:Int)):cntLt (boatsOf b) s (b.pts.getD s default).lo d=(boatsOf b).length:=by
 unfold cntLt
 rw [List.length_filter_eq_length_iff];intro l hl
 obtain ⟨a,c,_⟩:=mem_boats.1 hl
 have:=c s (by omega)
 rw [decide_eq_true_iff];omega
theorem count_pos {ll:List (List Int)} {s:Nat} {v:Int}:0<countAt ll s v↔v∈breadthsAt ll s:=by
 unfold countAt breadthsAt
 rw [List.length_pos_iff];constructor
 ·intro h
  obtain ⟨l,hl⟩:=List.exists_mem_of_ne_nil _ h
  obtain ⟨h1,h2⟩:=List.mem_filter.1 hl
  exact List.mem_map.2 ⟨l,h1,of_decide_eq_true h2⟩
 ·intro h e
  obtain ⟨l,h1,h2⟩:=List.mem_map.1 h
  rw [List.filter_eq_nil_iff] at e
  exact e l h1 (decide_eq_true h2)
theorem meas_one {b:Fb} (h0:fbS b=0) {s:Nat} {v:Int} (hs:s<b.pts.length) (h1:(b.pts.getD s default).lo≤v) (h2:v≤(b.pts.getD s default).hi):
  (countAt (boatsOf b) s v=0→measS b (s:Int) v v=9∧measF b (s:Int) v v=noF)∧(0<countAt (boatsOf b) s v→measS b (s:Int) v v=0∧measF b (s:Int) v v=setP b s v v):=by
 have hv:=fbS_zero h0
 have hsp:=hv.pts.span hs
 have hok:=setP_ok hv hs h1 (Int.le_refl v) h2
 have hz:=fbS_of hok
 have hc:=count_setP (b:=b) hs h1 h2
 have e0:measS0 b (s:Int) v v=0:=by
  rw [measS0,if_neg (fun e=>e h0),if_neg (by omega),if_neg (by omega),Int.toNat_natCast,if_neg (by omega)]
 have eB:measB0 b (s:Int) v v=setP b s v v:=by
  rw [measB0,Int.toNat_natCast,show max (b.pts.getD s default).lo v=v by omega,show min (b.pts.getD s default).hi v=v by omega]
 constructor
 ·intro h
  have he:boatsOf (setP b s v v)=[]:=List.length_eq_zero_iff.1 (by omega)
  have ho:=openS_9 (own:=0) hz rfl he
  exact ⟨by rw [measS,if_neg (fun e=>e e0),eB,ho],by rw [measF,if_neg (fun e=>e e0),eB,agreeF,if_neg (by rw [ho];decide)]⟩
 ·intro h
  have he:boatsOf (setP b s v v)≠[]:=List.length_pos_iff.1 (by omega)
  have ho:=openS_0 (own:=0) hz rfl he
  exact ⟨by rw [measS,if_neg (fun e=>e e0),eB,ho],by rw [measF,if_neg (fun e=>e e0),eB,agreeF,if_pos ho]⟩
theorem asc_three {ys:List Int} {lo hi:Int} (ha:Asc ys) (h: ∀z∈ys,lo≤z∧z≤hi) (hd:hi-lo<3):ys.length≤3:=by
 have:=List.Nodup.length_le_of_subset (l₂:=[lo,lo+1,lo+2]) (asc_nodup ha) fun z hz=>by
  have:=h z hz
  simp only [List.mem_cons,List.not_mem_nil,or_false]
  omega
 simpa using this
end Go.Proofs
namespace Go.Proofs
open Go.Lo
open Go.Conc (G)
set_option maxRecDepth 100000
set_option synthInstance.maxSize 100000
set_option synthInstance.maxHeartbeats 1000000
set_option maxHeartbeats 4000000
variable {b:Fb} {pp:Option Addr} {np cp:Nat} {pt:Option Addr} {nt ct:Nat} {pk:Option Addr} {nk ck:Nat}
variable {B:Array Obj}
variable [LaidF B]
theorem f14_t (h:Hp) (rdp:Rp B h b pp np cp) (rdt:Rt B h b pt nt ct) (rdk:Rk B h b pk nk ck) (z:Nat) (hzz:z≤255):(Md.starS Tryz.prog B).R (AtEnd Tryz.prog B fun v _=>v= .bool true) (G (Frame.enter Tryz.prog 14 #[fbV b pp np cp pt nt ct pk nk ck,.int .u8 (z:Int)] .normal) []) h:=by
 refine top_enter Tryz.func14 rfl rfl (l:=[fbV b pp np cp pt nt ct pk nk ck,.int .u8 (z:Int),undef,undef,undef,undef,undef,undef,undef,undef,undef,undef,undef,undef,undef,undef,undef,undef,undef,undef,undef,undef,undef,undef,undef,undef,undef,undef,undef,undef,undef,undef,undef,undef,undef,undef,undef,undef,undef,undef,undef,undef,undef,undef,undef,undef,undef,undef,undef,undef,undef,undef,undef,undef,undef,undef,undef,undef,undef,undef,undef,undef,undef,undef,undef,undef,undef,undef,undef,undef,undef,undef,undef,undef,undef,undef,undef,undef,undef,undef,undef,undef,undef,undef,undef,undef,undef,undef,undef,undef,undef,undef,undef,undef,undef,undef,undef,undef,undef,undef,undef,undef,undef,undef,undef,undef,undef,undef,undef,undef,undef,undef,undef,undef,undef,undef,undef,undef,undef,undef,undef,undef,undef,undef,undef,undef,undef,undef,undef,undef,undef,undef,undef,undef,undef,undef,undef,undef,undef,undef,undef,undef]) rfl ?_
 refine rs2 ?_;refine k_box rfl zq (fun q2=>k_hp (k_put ?_));refine d12 ?_;refine d94 ?_
 refine k_calP (Post:=fun v=>IsB _ v) rfl zq (by kernel_rfl) (fun H' hH=>f48_c _ H' (rdp.keeps (sq hH)) (rdt.keeps (sq hH)) (rdk.keeps (sq hH))) ?_;rintro v (⟨hc,rfl⟩|⟨hc,rfl⟩)
 ·refine d43 ?_;refine d37 ?_
  have hp:np≤1000:=by omega
  have ht:nt≤1000:=by omega
  have hk:nk≤1000:=by omega
  have h0:fbS b=0:=by omega
  have hv:=fbS_zero h0
  have hv1:=hv.pts.five
  have hv2:=hv.pts.two
  have hml:=rdp.elen (by decide)
  have hbn:=boatsOf_le hv.pts
  refine rr7 ?_;refine mq rfl ?_;refine k_conv rfl zq (by kernel_rfl) (n':=(z:Int)) (by unfold IntKind.wrap;simp [IntKind.bits,IntKind.signed];omega) ?_;refine d114 ?_;refine k_remT rfl zq (by omega) ?_
  rw [show (z:Int).tmod (np:Int)=((z%np:Nat):Int) from (Int.ofNat_tmod z np).symm];have hsn0:=Nat.mod_lt z (show 0<np by omega)
  generalize z%np=s at hsn0⊢
  refine aq rfl ?_;refine rs8 ?_;refine d69 ?_
  refine k_calC rfl zq (by kernel_rfl) (Post:=fun v new=> ∃w ys,v= .tuple [w,.int .i64 (openS b (if 0≤(s:Int)∧(s:Int)≤(np:Int)-1 then 0 else 6))].toArray∧OwnS 3 1 w ys.length (ints ys) new∧Asc ys∧ ∀z,z∈ys↔z∈breadthsAt (openL b (openS b (if 0≤(s:Int)∧(s:Int)≤(np:Int)-1 then 0 else 6))) (s:Int).toNat) (fun H' hH=>f36_c _ H' (b:=b) (rdp.keeps (sq hH)) hp (rdt.keeps (sq hH)) ht (rdk.keeps (sq hH)) hk (s:Int)) ?_;rintro v n36 ⟨w36,ys,rfl,o36,ha36,hm36⟩;refine k_hpA (k_put ?_);obtain ⟨p36,c36,rfl,_,r36⟩:=own_rdA (B:=B) o36
  have hyl:=breadths_le hm36 ha36
  rw [if_pos (by omega),Int.toNat_natCast] at hm36
  rw [if_pos (by omega)];refine d40 ?_;refine d46 ?_;refine rs7 ?_;refine k_ldA rfl zq ?_
  refine k_calP (Post:=fun v=>v= .tuple [.int .i64 (((boatsOf b).length:Nat):Int),.int .i64 0].toArray) rfl zq (by kernel_rfl) (fun H' hH=>by have:=f34_c (Md.starS Tryz.prog B) H' (b:=b) (rdp.keeps (sq hH)) hp (rdt.keeps (sq hH)) ht (rdk.keeps (sq hH)) hk;rw [orNo_yes h0] at this;exact this) ?_;rintro v rfl;refine d78 ?_;refine d97 ?_;refine run_seq ?_
  have hs1:s<b.pts.length:=by omega
  by_cases hne:boatsOf b=[]
  ·have eo:=openS_9 (own:=0) h0 rfl hne
   have en:(boatsOf b).length=0:=by rw [hne];rfl
   rw [eo,openL,if_pos (by decide)] at hm36
   have hm: ∀z,z∈ys↔z∈breadthsAt (boatsOf b) s:=by rw [hne];exact hm36
   have hy0:ys.length=0:=List.length_eq_zero_iff.2 (List.eq_nil_iff_forall_not_mem.2 fun z hz=>by have:=(hm36 z).1 hz;simp [breadthsAt] at this)
   rw [eo];refine run_region [(0,.free),(1,.free),(2,.free),(3,.free),(4,.free),(5,.free),(6,.free),(7,.free),(8,.free),(9,.free),(10,.free),(11,.free),(12,.free),(13,.free),(14,.free),(15,.free),(16,.free),(17,.free),(18,.free),(19,.free),(20,.free),(21,.free)] (by kernel_rfl) (by kernel_rfl) ?_;refine mq rfl ?_;refine k_neqF rfl zq rfl ?_;refine d23 ?_
   refine k_eqlF rfl rfl (by decide) ?_;refine k_mv rfl rfl ?_;refine k_gtrF rfl rfl (by omega) ?_;refine k_neqBF rfl rfl (by kernel_rfl) rfl ?_;refine k_pickF rfl zq ?_;refine d23 ?_;refine k_neqT rfl rfl (by decide) ?_;refine k_mv rfl rfl ?_;refine k_mv rfl rfl ?_;refine k_neqF rfl rfl rfl ?_;refine k_mv rfl rfl ?_;refine k_mv rfl rfl ?_;refine k_len rfl rfl ?_;refine k_gtrF rfl rfl (by omega) ?_;refine k_pickF rfl rfl ?_;refine k_pickT rfl rfl ?_;refine d126 ?_;refine d93 ?_;refine run_seq ?_;have hsp:=hv.pts.span hs1
   refine rr8 ?_;refine d2 ?_;refine mq rfl ?_;obtain ⟨rdp_b,rdp_o,rfl⟩:=rdp.ptr (by omega)
   refine k_ixs rfl zq (by first|rfl|assumption) (by omega) (by omega) ?_;refine d8 ?_;refine k_ld rfl zq (rdp.fat (v:= .int .i64 (b.pts.getD s default).lo) s 1 (by omega) (by omega) rfl) ?_;refine d54 ?_
   refine run_loop (fun nn l h'=> ∃(d:Nat) (w x:Int),nn=1000-d∧(w=(b.pts.getD s default).lo+(d:Int))∧(w≤(b.pts.getD s default).hi+1)∧(x=(cntLt (boatsOf b) s (b.pts.getD s default).lo d:Int))∧(∃U:Nat→Value,l=((fbV b (some ⟨rdp_b,rdp_o,none⟩) np cp pt nt ct pk nk ck)::(.int .u8 (z:Int))::(.pointer (some ⟨q2,0,none⟩))::(U 3)::(U 4)::(.int .i64 (s:Int))::(.slice p36 ys.length c36)::(U 7)::(.int .i64 (((boatsOf b).length:Nat):Int))::(U 9)::(.int .i64 x)::(.int .i64 w)::(U 12)::vw129 U 13 []))∧h++[⟨true,q2,.cells ((fbL b (some ⟨rdp_b,rdp_o,none⟩) np cp pt nt ct pk nk ck).toArray) 26 (0,0)⟩]++n36=h') _ ⟨0,(b.pts.getD s default).lo,0,rfl,by simp,by omega,by rw [cntLt_zero];rfl,exU rfl,(by simp)⟩ ?_;rintro nn l h' ⟨d,w,x,rfl,hw,hwl,hx,⟨U,rfl⟩,rfl⟩ hnext;refine run_seq ?_;refine rs9 ?_;refine mq rfl ?_;refine d2 ?_;refine d39 ?_;refine d8 ?_;refine k_ld rfl zq (rdp.fat (v:= .int .i64 (b.pts.getD s default).hi) s 2 (by omega) (by omega) rfl) ?_;refine k_leqS rfl zq (fun hc=>?_) (fun hc=>?_)
   ·refine d98 ?_;refine run_seq ?_
    have hw1:(b.pts.getD s default).lo≤w:=by omega
    have hw2:w≤(b.pts.getD s default).hi:=by omega
    have hok:=setP_ok hv hs1 hw1 (Int.le_refl w) hw2
    rcases Nat.eq_zero_or_pos (countAt (boatsOf b) s w) with hcz|hcz
    ·obtain ⟨ms,mf⟩:=(meas_one h0 hs1 hw1 hw2).1 hcz
     refine run_draw [(1,.pure),(2,.pure),(0,.read),(3,.call),(4,.call),(5,.pure),(6,.pure),(7,.pure),(8,.alloc),(9,.free),(10,.pure)] (by kernel_rfl) (by kernel_rfl) (List.Sublist.refl _) ?_;refine d3 ?_;refine k_ldA rfl zq ?_
     refine k_calP (Post:=fun v=>v=_) rfl zq (by kernel_rfl) (fun H' hH=>f62_c _ H' _) ?_;rintro v rfl;refine k_put ?_;refine k_calC rfl zq (by kernel_rfl) (Post:=fun v nw=> ∃w',v= .tuple [w',.int .i64 (measS b (s:Int) w w)].toArray∧BkF B (measF b (s:Int) w w) nw w') (fun H' hH=>f70_c _ H' (b:=b) (rdp.keeps (sq hH)) hp (rdt.keeps (sq hH)) ht (rdk.keeps (sq hH)) hk (s:Int) w w) ?_;rintro v n70 ⟨w7,rfl,pp7,np7,cp7,pt7,nt7,ct7,pk7,nk7,ck7,rfl,rp7,rt7,rk7⟩;refine k_hpA (k_put ?_);rw [ms];rw [mf] at rp7 rt7 rk7⊢
     have hp7:np7≤1000:=by have h:=rp7.elen (by decide);have h2:noF.pts.length=0:=rfl;omega
     have ht7:nt7≤1000:=by have h:=rt7.elen (by decide);have h2:noF.tapes.length=0:=rfl;have:=hv.few;omega
     have hk7:nk7≤1000:=by have h:=rk7.elen (by decide);have h2:noF.sticks.length=0:=rfl;have:=hv.few';omega
     refine d40 ?_
     refine k_new rfl zq (fun q12=>k_hp (k_put ?_));refine k_stA rfl zq rfl ?_;refine d12 ?_;refine run_seq ?_;refine run_region [(0,.free),(1,.free),(2,.free),(3,.free),(4,.free),(5,.free),(6,.free),(7,.free),(8,.free),(9,.free),(10,.free),(11,.free),(12,.free),(13,.free),(14,.free),(15,.free),(16,.free),(17,.free),(18,.free),(19,.free)] (by kernel_rfl) (by kernel_rfl) ?_;refine mq rfl ?_
     refine k_eqlF rfl zq (by decide) ?_;refine d3 ?_
     refine k_calP (Post:=fun v=>IsB _ v) rfl zq (by kernel_rfl) (fun H' hH=>f54_c _ H' _ (r36.keeps (sq hH)) hyl) ?_;rintro v (⟨hc,rfl⟩|⟨hc,rfl⟩)
     ·refine k_put ?_;exact absurd (count_pos.2 ((hm _).1 hc)) (by omega)
     ·refine k_put ?_;refine k_neqBF rfl zq (by kernel_rfl) rfl ?_;refine d23 ?_
      refine k_neqT rfl rfl (by decide) ?_;refine k_mv rfl rfl ?_;refine k_mv rfl rfl ?_;refine k_neqF rfl rfl rfl ?_;refine k_mv rfl rfl ?_;refine k_ldA rfl rfl ?_;refine k_bld rfl rfl ?_;refine k_calP (Post:=fun v=>IsB _ v) rfl rfl (by kernel_rfl) (fun H' hH=>f58_c _ H' (b:=noF) (rp7.keeps (sq hH)) hp7 (rt7.keeps (sq hH)) ht7 (rk7.keeps (sq hH)) hk7 (b2:=noF) rd_none (by omega) rd_none (by omega) rd_none (by omega)) ?_;rintro v (⟨hc,rfl⟩|⟨hc,rfl⟩)
      ·refine d84 ?_;refine k_pickF rfl rfl ?_;refine k_pickT rfl rfl ?_;refine k_pickF rfl zq ?_;refine d37 ?_;refine d18 ?_
       refine k_neqT rfl zq (by decide) ?_;refine d7 ?_;refine run_exit rfl ?_;refine rr3 ?_;refine d61 ?_
       have hcs:=cntLt_succ (boatsOf b) s (b.pts.getD s default).lo d
       rw [←hw,hcz,Nat.add_zero] at hcs
       exact (Md.starS Tryz.prog B).weak weakSub (hnext _ _ _ (by omega) ⟨d+1,_,_,rfl,by omega,by omega,by omega,exU rfl,rfl⟩)
      ·refine k_put ?_;exact absurd rfl hc
    ·obtain ⟨ms,mf⟩:=(meas_one h0 hs1 hw1 hw2).2 hcz
     refine run_draw [(1,.pure),(2,.pure),(0,.read),(3,.call),(4,.call),(5,.pure),(6,.pure),(7,.pure),(8,.alloc),(9,.free),(10,.pure)] (by kernel_rfl) (by kernel_rfl) (List.Sublist.refl _) ?_;refine d3 ?_;refine k_ldA rfl zq ?_
     refine k_calP (Post:=fun v=>v=_) rfl zq (by kernel_rfl) (fun H' hH=>f62_c _ H' _) ?_;rintro v rfl;refine k_put ?_;refine k_calC rfl zq (by kernel_rfl) (Post:=fun v nw=> ∃w',v= .tuple [w',.int .i64 (measS b (s:Int) w w)].toArray∧BkF B (measF b (s:Int) w w) nw w') (fun H' hH=>f70_c _ H' (b:=b) (rdp.keeps (sq hH)) hp (rdt.keeps (sq hH)) ht (rdk.keeps (sq hH)) hk (s:Int) w w) ?_;rintro v n70 ⟨w7,rfl,pp7,np7,cp7,pt7,nt7,ct7,pk7,nk7,ck7,rfl,rp7,rt7,rk7⟩;refine k_hpA (k_put ?_);rw [ms];rw [mf] at rp7 rt7 rk7⊢
     have hp7:np7≤1000:=by have h:=rp7.elen (by decide);have h2:(setP b s w w).pts.length=b.pts.length:=setP_len b s w w;omega
     have ht7:nt7≤1000:=by have h:=rt7.elen (by decide);have h2:(setP b s w w).tapes.length=b.tapes.length:=rfl;have:=hv.few;omega
     have hk7:nk7≤1000:=by have h:=rk7.elen (by decide);have h2:(setP b s w w).sticks.length=b.sticks.length:=rfl;have:=hv.few';omega
     refine d40 ?_
     refine k_new rfl zq (fun q12=>k_hp (k_put ?_));refine k_stA rfl zq rfl ?_;refine d12 ?_;refine run_seq ?_;refine run_region [(0,.free),(1,.free),(2,.free),(3,.free),(4,.free),(5,.free),(6,.free),(7,.free),(8,.free),(9,.free),(10,.free),(11,.free),(12,.free),(13,.free),(14,.free),(15,.free),(16,.free),(17,.free),(18,.free),(19,.free)] (by kernel_rfl) (by kernel_rfl) ?_;refine mq rfl ?_;refine k_eqlT rfl zq rfl ?_;refine d3 ?_
     refine k_calP (Post:=fun v=>IsB _ v) rfl zq (by kernel_rfl) (fun H' hH=>f54_c _ H' _ (r36.keeps (sq hH)) hyl) ?_;rintro v (⟨hc,rfl⟩|⟨hc,rfl⟩)
     ·refine k_put ?_;refine k_neqBF rfl zq (by kernel_rfl) rfl ?_;refine d23 ?_;refine k_neqF rfl rfl rfl ?_;refine k_mv rfl rfl ?_;refine d5 ?_;refine d5 ?_;refine d5 ?_;refine d5 ?_;refine k_pickF rfl rfl ?_;refine k_pickF rfl zq ?_;refine d37 ?_;refine d18 ?_;refine k_neqF rfl zq rfl ?_;refine d13 ?_;refine rs7 ?_;refine k_ldA rfl zq ?_
      refine k_calP (Post:=fun v=>v= .tuple [.int .i64 (countAt (boatsOf b) s w:Int),.int .i64 0].toArray) rfl zq (by kernel_rfl) (fun H' hH=>by have:=f34_c (Md.starS Tryz.prog B) H' (b:=setP b s w w) (rp7.keeps (sq hH)) hp7 (rt7.keeps (sq hH)) ht7 (rk7.keeps (sq hH)) hk7;rw [orNo_yes (fbS_of hok),count_setP hs1 hw1 hw2] at this;exact this) ?_;rintro v rfl;refine d78 ?_;refine d97 ?_;refine run_seq ?_
      refine run_draw [(0,.pure),(1,.pure),(2,.pure),(3,.pure),(4,.pure),(5,.pure),(6,.pure),(9,.pure),(10,.pure),(7,.read),(8,.read),(11,.keep),(12,.keep),(13,.keep),(14,.pure),(15,.pure)] (by kernel_rfl) (by kernel_rfl) (List.Sublist.refl _) ?_;refine mq rfl ?_;refine k_neqF rfl zq rfl ?_;refine d23 ?_
      refine k_lssF rfl rfl (by omega) ?_;refine k_pickF rfl zq ?_;refine d23 ?_;refine k_mv rfl rfl ?_;refine k_ldA rfl rfl ?_;refine k_ldA rfl rfl ?_;refine k_calP (Post:=fun v=>v=_) rfl rfl (by kernel_rfl) (fun H' hH=>f62_c _ H' _) ?_;rintro v rfl;refine k_put ?_;refine k_calC rfl rfl (by kernel_rfl) (Post:=fun v new=> ∃pp2 cp2,v=fbV (setP b s w w) pp2 np cp2 pt nt ct pk nk ck∧np≤cp2∧RdS B new 3 (.slice pp2 np cp2) np (encs (setP b s w w).pts)) (fun H' hH=>f71_c _ H' (b:=b) (rdp.keeps (sq hH)) hp (by omega) w w) ?_;rintro v n71 ⟨pp2,cp2,rfl,hcm2,rp71⟩;refine k_hpA (k_put ?_);refine k_calP (Post:=fun v=>IsB _ v) rfl rfl (by kernel_rfl) (fun H' hH=>f58_c _ H' (b:=(setP b s w w)) (rp7.keeps (sq hH)) hp7 (rt7.keeps (sq hH)) ht7 (rk7.keeps (sq hH)) hk7 (b2:=(setP b s w w)) (rp71.keeps (sq hH)) hp (rdt.keeps (sq hH)) ht (rdk.keeps (sq hH)) hk) ?_;rintro v (⟨hc,rfl⟩|⟨hc,rfl⟩)
      ·refine d84 ?_;refine d126 ?_
       have hxx:=hx
       have hle:cntLt (boatsOf b) s (b.pts.getD s default).lo d≤(boatsOf b).length:=List.length_filter_le _ _
       have hcl:=countAt_le (boatsOf b) s w
       refine rr4 ?_;refine d3 ?_;refine k_add rfl zq (by unfold In64;omega) ?_;refine d45 ?_;refine rr3 ?_;refine d61 ?_;have hcs:=cntLt_succ (boatsOf b) s (b.pts.getD s default).lo d
       rw [←hw] at hcs
       exact (Md.starS Tryz.prog B).weak weakSub (hnext _ _ _ (by omega) ⟨d+1,_,_,rfl,by omega,by omega,by omega,exU rfl,rfl⟩)
      ·refine k_put ?_;exact absurd rfl hc
     ·refine k_put ?_;exact absurd ((hm _).2 (count_pos.1 hcz)) hc
   ·refine d75 ?_;refine run_seq ?_
    have hall:=cntLt_all hs1 (show (b.pts.getD s default).hi<(b.pts.getD s default).lo+(d:Int) by omega)
    have hspn:=(hv.pts.ok (b.pts.getD s default) (mem_getDR.2 ⟨s,hs1,rfl⟩)).2.2
    have h3:=asc_three ha36 (fun z hz=>by
     obtain ⟨l,hl,e⟩:=List.mem_map.1 ((hm z).1 hz)
     have:=(mem_boats.1 hl).2.1 s (by have:=(mem_boats.1 hl).1;omega)
     rw [←e];exact this) (show (b.pts.getD s default).hi-(b.pts.getD s default).lo<3 from hspn)
    refine rr12 ?_;refine d3 ?_;refine k_eqlT rfl zq (by rw [hx,hall]) ?_;refine d23 ?_;refine k_len rfl rfl ?_
    refine k_leqT rfl rfl (by omega) ?_;refine k_pickT rfl zq ?_;refine mq rfl ?_;refine k_cal rfl rfl (by kernel_rfl) (f18_c _) ?_;rintro v h' ⟨nF,rfl,rfl⟩;refine k_put ?_;refine d92 ?_;refine run_top rfl Tryz.func14 (by kernel_rfl) rfl ?_;rfl
  ·have eo:=openS_0 (own:=0) h0 rfl hne
   have en:=List.length_pos_iff.2 hne
   rw [eo,openL,if_neg (fun e=>e rfl)] at hm36
   have hm: ∀z,z∈ys↔z∈breadthsAt (boatsOf b) s:=hm36
   rw [eo];refine run_region [(0,.free),(1,.free),(2,.free),(3,.free),(4,.free),(5,.free),(6,.free),(7,.free),(8,.free),(9,.free),(10,.free),(11,.free),(12,.free),(13,.free),(14,.free),(15,.free),(16,.free),(17,.free),(18,.free),(19,.free),(20,.free),(21,.free)] (by kernel_rfl) (by kernel_rfl) ?_;refine mq rfl ?_;refine k_neqF rfl zq rfl ?_;refine d23 ?_;refine k_eqlT rfl rfl rfl ?_;refine k_mv rfl rfl ?_
   refine k_gtrT rfl rfl (by omega) ?_;refine k_neqBF rfl rfl (by kernel_rfl) rfl ?_;refine k_pickF rfl zq ?_;refine d23 ?_;refine k_neqF rfl rfl rfl ?_;refine k_mv rfl rfl ?_;refine d5 ?_;refine d5 ?_;refine d5 ?_;refine k_off rfl rfl ?_;refine k_pickF rfl rfl ?_;refine d126 ?_;refine d93 ?_;refine run_seq ?_;have hsp:=hv.pts.span hs1
   refine rr8 ?_;refine d2 ?_;refine mq rfl ?_;obtain ⟨rdp_b,rdp_o,rfl⟩:=rdp.ptr (by omega)
   refine k_ixs rfl zq (by first|rfl|assumption) (by omega) (by omega) ?_;refine d8 ?_;refine k_ld rfl zq (rdp.fat (v:= .int .i64 (b.pts.getD s default).lo) s 1 (by omega) (by omega) rfl) ?_;refine d54 ?_
   refine run_loop (fun nn l h'=> ∃(d:Nat) (w x:Int),nn=1000-d∧(w=(b.pts.getD s default).lo+(d:Int))∧(w≤(b.pts.getD s default).hi+1)∧(x=(cntLt (boatsOf b) s (b.pts.getD s default).lo d:Int))∧(∃U:Nat→Value,l=((fbV b (some ⟨rdp_b,rdp_o,none⟩) np cp pt nt ct pk nk ck)::(.int .u8 (z:Int))::(.pointer (some ⟨q2,0,none⟩))::(U 3)::(U 4)::(.int .i64 (s:Int))::(.slice p36 ys.length c36)::(U 7)::(.int .i64 (((boatsOf b).length:Nat):Int))::(U 9)::(.int .i64 x)::(.int .i64 w)::(U 12)::vw129 U 13 []))∧h++[⟨true,q2,.cells ((fbL b (some ⟨rdp_b,rdp_o,none⟩) np cp pt nt ct pk nk ck).toArray) 26 (0,0)⟩]++n36=h') _ ⟨0,(b.pts.getD s default).lo,0,rfl,by simp,by omega,by rw [cntLt_zero];rfl,exU rfl,(by simp)⟩ ?_;rintro nn l h' ⟨d,w,x,rfl,hw,hwl,hx,⟨U,rfl⟩,rfl⟩ hnext;refine run_seq ?_;refine rs9 ?_;refine mq rfl ?_;refine d2 ?_;refine d39 ?_;refine d8 ?_;refine k_ld rfl zq (rdp.fat (v:= .int .i64 (b.pts.getD s default).hi) s 2 (by omega) (by omega) rfl) ?_;refine k_leqS rfl zq (fun hc=>?_) (fun hc=>?_)
   ·refine d98 ?_;refine run_seq ?_
    have hw1:(b.pts.getD s default).lo≤w:=by omega
    have hw2:w≤(b.pts.getD s default).hi:=by omega
    have hok:=setP_ok hv hs1 hw1 (Int.le_refl w) hw2
    rcases Nat.eq_zero_or_pos (countAt (boatsOf b) s w) with hcz|hcz
    ·obtain ⟨ms,mf⟩:=(meas_one h0 hs1 hw1 hw2).1 hcz
     refine run_draw [(1,.pure),(2,.pure),(0,.read),(3,.call),(4,.call),(5,.pure),(6,.pure),(7,.pure),(8,.alloc),(9,.free),(10,.pure)] (by kernel_rfl) (by kernel_rfl) (List.Sublist.refl _) ?_;refine d3 ?_;refine k_ldA rfl zq ?_
     refine k_calP (Post:=fun v=>v=_) rfl zq (by kernel_rfl) (fun H' hH=>f62_c _ H' _) ?_;rintro v rfl;refine k_put ?_;refine k_calC rfl zq (by kernel_rfl) (Post:=fun v nw=> ∃w',v= .tuple [w',.int .i64 (measS b (s:Int) w w)].toArray∧BkF B (measF b (s:Int) w w) nw w') (fun H' hH=>f70_c _ H' (b:=b) (rdp.keeps (sq hH)) hp (rdt.keeps (sq hH)) ht (rdk.keeps (sq hH)) hk (s:Int) w w) ?_;rintro v n70 ⟨w7,rfl,pp7,np7,cp7,pt7,nt7,ct7,pk7,nk7,ck7,rfl,rp7,rt7,rk7⟩;refine k_hpA (k_put ?_);rw [ms];rw [mf] at rp7 rt7 rk7⊢
     have hp7:np7≤1000:=by have h:=rp7.elen (by decide);have h2:noF.pts.length=0:=rfl;omega
     have ht7:nt7≤1000:=by have h:=rt7.elen (by decide);have h2:noF.tapes.length=0:=rfl;have:=hv.few;omega
     have hk7:nk7≤1000:=by have h:=rk7.elen (by decide);have h2:noF.sticks.length=0:=rfl;have:=hv.few';omega
     refine d40 ?_
     refine k_new rfl zq (fun q12=>k_hp (k_put ?_));refine k_stA rfl zq rfl ?_;refine d12 ?_;refine run_seq ?_;refine run_region [(0,.free),(1,.free),(2,.free),(3,.free),(4,.free),(5,.free),(6,.free),(7,.free),(8,.free),(9,.free),(10,.free),(11,.free),(12,.free),(13,.free),(14,.free),(15,.free),(16,.free),(17,.free),(18,.free),(19,.free)] (by kernel_rfl) (by kernel_rfl) ?_;refine mq rfl ?_
     refine k_eqlF rfl zq (by decide) ?_;refine d3 ?_
     refine k_calP (Post:=fun v=>IsB _ v) rfl zq (by kernel_rfl) (fun H' hH=>f54_c _ H' _ (r36.keeps (sq hH)) hyl) ?_;rintro v (⟨hc,rfl⟩|⟨hc,rfl⟩)
     ·refine k_put ?_;exact absurd (count_pos.2 ((hm _).1 hc)) (by omega)
     ·refine k_put ?_;refine k_neqBF rfl zq (by kernel_rfl) rfl ?_;refine d23 ?_
      refine k_neqT rfl rfl (by decide) ?_;refine k_mv rfl rfl ?_;refine k_mv rfl rfl ?_;refine k_neqF rfl rfl rfl ?_;refine k_mv rfl rfl ?_;refine k_ldA rfl rfl ?_;refine k_bld rfl rfl ?_;refine k_calP (Post:=fun v=>IsB _ v) rfl rfl (by kernel_rfl) (fun H' hH=>f58_c _ H' (b:=noF) (rp7.keeps (sq hH)) hp7 (rt7.keeps (sq hH)) ht7 (rk7.keeps (sq hH)) hk7 (b2:=noF) rd_none (by omega) rd_none (by omega) rd_none (by omega)) ?_;rintro v (⟨hc,rfl⟩|⟨hc,rfl⟩)
      ·refine d84 ?_;refine k_pickF rfl rfl ?_;refine k_pickT rfl rfl ?_;refine k_pickF rfl zq ?_;refine d37 ?_;refine d18 ?_
       refine k_neqT rfl zq (by decide) ?_;refine d7 ?_;refine run_exit rfl ?_;refine rr3 ?_;refine d61 ?_
       have hcs:=cntLt_succ (boatsOf b) s (b.pts.getD s default).lo d
       rw [←hw,hcz,Nat.add_zero] at hcs
       exact (Md.starS Tryz.prog B).weak weakSub (hnext _ _ _ (by omega) ⟨d+1,_,_,rfl,by omega,by omega,by omega,exU rfl,rfl⟩)
      ·refine k_put ?_;exact absurd rfl hc
    ·obtain ⟨ms,mf⟩:=(meas_one h0 hs1 hw1 hw2).2 hcz
     refine run_draw [(1,.pure),(2,.pure),(0,.read),(3,.call),(4,.call),(5,.pure),(6,.pure),(7,.pure),(8,.alloc),(9,.free),(10,.pure)] (by kernel_rfl) (by kernel_rfl) (List.Sublist.refl _) ?_;refine d3 ?_;refine k_ldA rfl zq ?_
     refine k_calP (Post:=fun v=>v=_) rfl zq (by kernel_rfl) (fun H' hH=>f62_c _ H' _) ?_;rintro v rfl;refine k_put ?_;refine k_calC rfl zq (by kernel_rfl) (Post:=fun v nw=> ∃w',v= .tuple [w',.int .i64 (measS b (s:Int) w w)].toArray∧BkF B (measF b (s:Int) w w) nw w') (fun H' hH=>f70_c _ H' (b:=b) (rdp.keeps (sq hH)) hp (rdt.keeps (sq hH)) ht (rdk.keeps (sq hH)) hk (s:Int) w w) ?_;rintro v n70 ⟨w7,rfl,pp7,np7,cp7,pt7,nt7,ct7,pk7,nk7,ck7,rfl,rp7,rt7,rk7⟩;refine k_hpA (k_put ?_);rw [ms];rw [mf] at rp7 rt7 rk7⊢
     have hp7:np7≤1000:=by have h:=rp7.elen (by decide);have h2:(setP b s w w).pts.length=b.pts.length:=setP_len b s w w;omega
     have ht7:nt7≤1000:=by have h:=rt7.elen (by decide);have h2:(setP b s w w).tapes.length=b.tapes.length:=rfl;have:=hv.few;omega
     have hk7:nk7≤1000:=by have h:=rk7.elen (by decide);have h2:(setP b s w w).sticks.length=b.sticks.length:=rfl;have:=hv.few';omega
     refine d40 ?_
     refine k_new rfl zq (fun q12=>k_hp (k_put ?_));refine k_stA rfl zq rfl ?_;refine d12 ?_;refine run_seq ?_;refine run_region [(0,.free),(1,.free),(2,.free),(3,.free),(4,.free),(5,.free),(6,.free),(7,.free),(8,.free),(9,.free),(10,.free),(11,.free),(12,.free),(13,.free),(14,.free),(15,.free),(16,.free),(17,.free),(18,.free),(19,.free)] (by kernel_rfl) (by kernel_rfl) ?_;refine mq rfl ?_;refine k_eqlT rfl zq rfl ?_;refine d3 ?_
     refine k_calP (Post:=fun v=>IsB _ v) rfl zq (by kernel_rfl) (fun H' hH=>f54_c _ H' _ (r36.keeps (sq hH)) hyl) ?_;rintro v (⟨hc,rfl⟩|⟨hc,rfl⟩)
     ·refine k_put ?_;refine k_neqBF rfl zq (by kernel_rfl) rfl ?_;refine d23 ?_;refine k_neqF rfl rfl rfl ?_;refine k_mv rfl rfl ?_;refine d5 ?_;refine d5 ?_;refine d5 ?_;refine d5 ?_;refine k_pickF rfl rfl ?_;refine k_pickF rfl zq ?_;refine d37 ?_;refine d18 ?_;refine k_neqF rfl zq rfl ?_;refine d13 ?_;refine rs7 ?_;refine k_ldA rfl zq ?_
      refine k_calP (Post:=fun v=>v= .tuple [.int .i64 (countAt (boatsOf b) s w:Int),.int .i64 0].toArray) rfl zq (by kernel_rfl) (fun H' hH=>by have:=f34_c (Md.starS Tryz.prog B) H' (b:=setP b s w w) (rp7.keeps (sq hH)) hp7 (rt7.keeps (sq hH)) ht7 (rk7.keeps (sq hH)) hk7;rw [orNo_yes (fbS_of hok),count_setP hs1 hw1 hw2] at this;exact this) ?_;rintro v rfl;refine d78 ?_;refine d97 ?_;refine run_seq ?_
      refine run_draw [(0,.pure),(1,.pure),(2,.pure),(3,.pure),(4,.pure),(5,.pure),(6,.pure),(9,.pure),(10,.pure),(7,.read),(8,.read),(11,.keep),(12,.keep),(13,.keep),(14,.pure),(15,.pure)] (by kernel_rfl) (by kernel_rfl) (List.Sublist.refl _) ?_;refine mq rfl ?_;refine k_neqF rfl zq rfl ?_;refine d23 ?_
      refine k_lssF rfl rfl (by omega) ?_;refine k_pickF rfl zq ?_;refine d23 ?_;refine k_mv rfl rfl ?_;refine k_ldA rfl rfl ?_;refine k_ldA rfl rfl ?_;refine k_calP (Post:=fun v=>v=_) rfl rfl (by kernel_rfl) (fun H' hH=>f62_c _ H' _) ?_;rintro v rfl;refine k_put ?_;refine k_calC rfl rfl (by kernel_rfl) (Post:=fun v new=> ∃pp2 cp2,v=fbV (setP b s w w) pp2 np cp2 pt nt ct pk nk ck∧np≤cp2∧RdS B new 3 (.slice pp2 np cp2) np (encs (setP b s w w).pts)) (fun H' hH=>f71_c _ H' (b:=b) (rdp.keeps (sq hH)) hp (by omega) w w) ?_;rintro v n71 ⟨pp2,cp2,rfl,hcm2,rp71⟩;refine k_hpA (k_put ?_);refine k_calP (Post:=fun v=>IsB _ v) rfl rfl (by kernel_rfl) (fun H' hH=>f58_c _ H' (b:=(setP b s w w)) (rp7.keeps (sq hH)) hp7 (rt7.keeps (sq hH)) ht7 (rk7.keeps (sq hH)) hk7 (b2:=(setP b s w w)) (rp71.keeps (sq hH)) hp (rdt.keeps (sq hH)) ht (rdk.keeps (sq hH)) hk) ?_;rintro v (⟨hc,rfl⟩|⟨hc,rfl⟩)
      ·refine d84 ?_;refine d126 ?_
       have hxx:=hx
       have hle:cntLt (boatsOf b) s (b.pts.getD s default).lo d≤(boatsOf b).length:=List.length_filter_le _ _
       have hcl:=countAt_le (boatsOf b) s w
       refine rr4 ?_;refine d3 ?_;refine k_add rfl zq (by unfold In64;omega) ?_;refine d45 ?_;refine rr3 ?_;refine d61 ?_;have hcs:=cntLt_succ (boatsOf b) s (b.pts.getD s default).lo d
       rw [←hw] at hcs
       exact (Md.starS Tryz.prog B).weak weakSub (hnext _ _ _ (by omega) ⟨d+1,_,_,rfl,by omega,by omega,by omega,exU rfl,rfl⟩)
      ·refine k_put ?_;exact absurd rfl hc
     ·refine k_put ?_;exact absurd ((hm _).2 (count_pos.1 hcz)) hc
   ·refine d75 ?_;refine run_seq ?_
    have hall:=cntLt_all hs1 (show (b.pts.getD s default).hi<(b.pts.getD s default).lo+(d:Int) by omega)
    have hspn:=(hv.pts.ok (b.pts.getD s default) (mem_getDR.2 ⟨s,hs1,rfl⟩)).2.2
    have h3:=asc_three ha36 (fun z hz=>by
     obtain ⟨l,hl,e⟩:=List.mem_map.1 ((hm z).1 hz)
     have:=(mem_boats.1 hl).2.1 s (by have:=(mem_boats.1 hl).1;omega)
     rw [←e];exact this) (show (b.pts.getD s default).hi-(b.pts.getD s default).lo<3 from hspn)
    refine rr12 ?_;refine d3 ?_;refine k_eqlT rfl zq (by rw [hx,hall]) ?_;refine d23 ?_;refine k_len rfl rfl ?_
    refine k_leqT rfl rfl (by omega) ?_;refine k_pickT rfl zq ?_;refine mq rfl ?_;refine k_cal rfl rfl (by kernel_rfl) (f18_c _) ?_;rintro v h' ⟨nF,rfl,rfl⟩;refine k_put ?_;refine d92 ?_;refine run_top rfl Tryz.func14 (by kernel_rfl) rfl ?_;rfl
 ·refine d44 ?_;refine d7 ?_;refine rs2 ?_
  refine k_cal rfl zq (by kernel_rfl) (f18_c _) ?_;rintro v h' ⟨nF,rfl,rfl⟩;refine d110 ?_
  refine run_top rfl Tryz.func14 (by kernel_rfl) rfl ?_;rfl
end Go.Proofs
