/- A part of the proof of a law: my own separation logic over the machine, and walks of the program. Condition of each theorem: as its statement says. -/
import Derived.Test.YtnejmahckmhflaaGreatDoorWB9
set_option linter.all false
namespace Go.Lo
open Go.Conc (G)
section
variable {α:Type} {k:Nat} [Enc α k]
theorem encs_cut: ∀(xs:List α) (i:Nat),(encs xs).take (i*k)=encs (xs.take i)∧(encs xs).drop (i*k)=encs (xs.drop i)
 |[],i=>by simp [encs]
 |a::r,0=>by simp [encs]
 |a::r,i+1=>by
  obtain ⟨h1,h2⟩:=encs_cut r i
  have hl:(Enc.enc a).length=k:=Enc.len a
  have e:(i+1)*k=(Enc.enc a).length+i*k:=by rw [hl,Nat.add_mul];omega
  refine ⟨?_,?_⟩
  ·show (Enc.enc a++encs r).take ((i+1)*k)=Enc.enc a++encs (r.take i)
   rw [e,List.take_length_add_append,h1]
  ·show (Enc.enc a++encs r).drop ((i+1)*k)=encs (r.drop i)
   rw [e,List.drop_length_add_append,h2]
theorem encs_take (xs:List α) (i:Nat):encs (xs.take i)=(encs xs).take (i*k):=(encs_cut xs i).1.symm
theorem encs_drop (xs:List α) (i:Nat):encs (xs.drop i)=(encs xs).drop (i*k):=(encs_cut xs i).2.symm
end
section
variable {B:Array Obj} {h H:Hp}
end
end Go.Lo
namespace Go.Lo
open Go.Conc (G)
section
variable {P:Program} {B:Array Obj} {h:Hp}
theorem reads_partA {e n:Nat} {cs:Array Value} {o:Nat} [AggT P e n]:Reads P B (part e cs o) h (.agg (cs.extract o (o+n))):=by
 unfold part
 refine Reads.bind und_agg ?_
 exact Reads.bind (size_agg (P:=P) (n:=n)) (Reads.pure _)
def key4B (P:Program) (t:TypeId):Bool:=match P.underlying t with
 |some (.struct fs)=>(match fs.toList with
  |[f,g,s]=>f.offset==0&&g.offset==1&&s.offset==2&&f.name != "_" &&g.name != "_" &&s.name != "_" &&scalB P f.type&&scalB P g.type&&aggB P s.type 2&&keyB P s.type&&(match P.underlying f.type with|some (.int .i64)=>true|_=>false)&&(match P.underlying g.type with|some (.int .i64)=>true|_=>false)
  |_=>false)&&!P.stoodInHeld t
 |_=>false
class Key4T (P:Program) (t:TypeId):Prop where
 eq:key4B P t=true
theorem Key4T.spec {t:TypeId} [k:Key4T P t]: ∃f g s:Field,P.underlying t=some (.struct #[f,g,s])∧f.offset=0∧g.offset=1∧s.offset=2∧f.name≠ "_" ∧g.name≠ "_" ∧s.name≠ "_" ∧Scal P f.type∧Scal P g.type∧AggT P s.type 2∧KeyT P s.type∧P.underlying f.type=some (.int .i64)∧P.underlying g.type=some (.int .i64)∧P.stoodInHeld t=false:=by
 have:=k.eq
 unfold key4B at this
 split at this
 ·rename_i fs hu
  rw [Bool.and_eq_true] at this
  obtain ⟨h1,h2⟩:=this
  split at h1
  ·rename_i f g s hfs
   simp only [Bool.and_eq_true,beq_iff_eq,bne_iff_ne,ne_eq] at h1
   obtain ⟨⟨⟨⟨⟨⟨⟨⟨⟨⟨⟨a1,a2⟩,a3⟩,b1⟩,b2⟩,b3⟩,c1⟩,c2⟩,c3⟩,c4⟩,a7⟩,a8⟩:=h1
   refine ⟨f,g,s,?_,a1,a2,a3,b1,b2,b3,⟨c1⟩,⟨c2⟩,⟨c3⟩,⟨c4⟩,?_,?_,by simpa using h2⟩
   ·rw [hu];congr 2
    exact Array.ext' (by rw [hfs])
   ·split at a7
    ·assumption
    ·cases a7
   ·split at a8
    ·assumption
    ·cases a8
  ·cases h1
 ·cases this
theorem reads_eq4 (dd:Nat) {t:TypeId} [Key4T P t] (a b c d a' b' c' d':Int):Reads P B (Op.equalIn (dd+3) t (.agg [.int .i64 a,.int .i64 b,.int .i64 c,.int .i64 d].toArray) (.agg [.int .i64 a',.int .i64 b',.int .i64 c',.int .i64 d'].toArray)) h (a==a'&&(b==b'&&(c==c'&&d==d'))):=by
 obtain ⟨f,g,s,hu,o1,o2,o3,n1,n2,n3,s1,s2,s3,s4,u1,u2,hs⟩:=Key4T.spec (P:=P) (t:=t)
 unfold Op.equalIn
 refine Reads.bind (still_und hu).reads ?_
 refine Reads.bind Reads.program' ?_
 simp only [hs,Bool.false_eq_true,if_false,pure_bind]
 rw [←Array.forIn_toList];simp only [List.forIn_cons,List.forIn_nil,n1,n2,n3,ne_eq,not_false_eq_true,if_true,o1,o2,o3,bind_assoc]
 refine Reads.bind (reads_partS (v:= .int .i64 a) rfl) (Reads.bind (reads_partS (v:= .int .i64 a') rfl) (Reads.bind (reads_eqi (dd+1) u1 a a') ?_))
 cases h1:(a==a')
 ·simp only [Bool.not_false,if_true,pure_bind,Bool.false_and]
  exact Reads.pure _
 ·simp only [Bool.not_true,Bool.false_eq_true,if_false,pure_bind,Bool.true_and,bind_assoc]
  refine Reads.bind (reads_partS (v:= .int .i64 b) rfl) (Reads.bind (reads_partS (v:= .int .i64 b') rfl) (Reads.bind (reads_eqi (dd+1) u2 b b') ?_))
  cases h2:(b==b')
  ·simp only [Bool.not_false,if_true,pure_bind,Bool.false_and]
   exact Reads.pure _
  ·simp only [Bool.not_true,Bool.false_eq_true,if_false,pure_bind,Bool.true_and,bind_assoc]
   refine Reads.bind (reads_partA (n:=2)) (Reads.bind (reads_partA (n:=2)) (Reads.bind (reads_eqK dd (t:=s.type) c d c' d') ?_))
   cases h3:(c==c'&&d==d')
   ·simp only [Bool.not_false,if_true,pure_bind]
    exact Reads.pure _
   ·simp only [Bool.not_true,Bool.false_eq_true,if_false,pure_bind]
    exact Reads.pure _
end
section
variable {P:Program} {B:Array Obj} {m:Md P B} {ops:Array Oper} {l l' l'':List Value} {S h h' H:Hp} {C:List Value→Hp→Prop} {i:Nat} {kd:Kd} {r:List (Nat×Kd)}
 {d:Option Tmp} {ty:TypeId} {pos:String} {af:Array Edge} {g:Option (Nat×Bool)}
theorem k_neq4 {t u:TypeId} {x y:Operand} {a b c e a' b' c' e':Int} (ho:ops[i]?=some ⟨d,.binOp .neq t x y u,ty,pos,af,g⟩) (hw:Wt ops l g) [kh:KHeap kd S h H] [ex:OpV l x (.agg [.int .i64 a,.int .i64 b,.int .i64 c,.int .i64 e].toArray)] [ey:OpV l y (.agg [.int .i64 a',.int .i64 b',.int .i64 c',.int .i64 e'].toArray)] [Key4T P t]
  (hg:P.eqGuardType P.depth t=false) [pt:PutV l d (.bool true) l'] [pf:PutV l d (.bool false) l''] (yes: ¬(a=a'∧b=b'∧c=c'∧e=e')→RegK m S ops r l' h C) (no:a=a'∧b=b'∧c=c'∧e=e'→RegK m S ops r l'' h C):RegK m S ops ((i,kd)::r) l h C:=by
 have he:=reads_eq4 (P:=P) (B:=B) (h:=H) 9997 (t:=t) a b c e a' b' c' e'
 by_cases hx:a=a'∧b=b'∧c=c'∧e=e'
 ·have e2:(a==a'&&(b==b'&&(c==c'&&e==e')))=true:=by simp [hx]
  rw [e2] at he
  haveI:PutV l d (.bool !true) l'':=pf
  exact k_neqG ho hw hg he (no hx)
 ·have e2:(a==a'&&(b==b'&&(c==c'&&e==e')))=false:=by simpa using hx
  rw [e2] at he
  haveI:PutV l d (.bool !false) l':=pt
  exact k_neqG ho hw hg he (yes hx)
end
end Go.Lo
namespace Go.Lo
open Go.Conc (G)
section
variable {P:Program} {B:Array Obj} {h:Hp}
def key3B (P:Program) (t:TypeId):Bool:=match P.underlying t with
 |some (.struct fs)=>(match fs.toList with
  |[f,s]=>f.offset==0&&s.offset==1&&f.name != "_" &&s.name != "_" &&scalB P f.type&&aggB P s.type 2&&keyB P s.type&&(match P.underlying f.type with|some (.int .i64)=>true|_=>false)
  |_=>false)&&!P.stoodInHeld t
 |_=>false
class Key3T (P:Program) (t:TypeId):Prop where
 eq:key3B P t=true
theorem Key3T.spec {t:TypeId} [k:Key3T P t]: ∃f s:Field,P.underlying t=some (.struct #[f,s])∧f.offset=0∧s.offset=1∧f.name≠ "_" ∧s.name≠ "_" ∧Scal P f.type∧AggT P s.type 2∧KeyT P s.type∧P.underlying f.type=some (.int .i64)∧P.stoodInHeld t=false:=by
 have:=k.eq
 unfold key3B at this
 split at this
 ·rename_i fs hu
  rw [Bool.and_eq_true] at this
  obtain ⟨h1,h2⟩:=this
  split at h1
  ·rename_i f s hfs
   simp only [Bool.and_eq_true,beq_iff_eq,bne_iff_ne,ne_eq] at h1
   obtain ⟨⟨⟨⟨⟨⟨⟨a1,a2⟩,b1⟩,b2⟩,c1⟩,c3⟩,c4⟩,a7⟩:=h1
   refine ⟨f,s,?_,a1,a2,b1,b2,⟨c1⟩,⟨c3⟩,⟨c4⟩,?_,by simpa using h2⟩
   ·rw [hu];congr 2
    exact Array.ext' (by rw [hfs])
   ·split at a7
    ·assumption
    ·cases a7
  ·cases h1
 ·cases this
theorem reads_eq3 (dd:Nat) {t:TypeId} [Key3T P t] (a c d a' c' d':Int):Reads P B (Op.equalIn (dd+3) t (.agg [.int .i64 a,.int .i64 c,.int .i64 d].toArray) (.agg [.int .i64 a',.int .i64 c',.int .i64 d'].toArray)) h (a==a'&&(c==c'&&d==d')):=by
 obtain ⟨f,s,hu,o1,o3,n1,n3,s1,s3,s4,u1,hs⟩:=Key3T.spec (P:=P) (t:=t)
 unfold Op.equalIn
 refine Reads.bind (still_und hu).reads ?_
 refine Reads.bind Reads.program' ?_
 simp only [hs,Bool.false_eq_true,if_false,pure_bind]
 rw [←Array.forIn_toList];simp only [List.forIn_cons,List.forIn_nil,n1,n3,ne_eq,not_false_eq_true,if_true,o1,o3,bind_assoc]
 refine Reads.bind (reads_partS (v:= .int .i64 a) rfl) (Reads.bind (reads_partS (v:= .int .i64 a') rfl) (Reads.bind (reads_eqi (dd+1) u1 a a') ?_))
 cases h1:(a==a')
 ·simp only [Bool.not_false,if_true,pure_bind,Bool.false_and]
  exact Reads.pure _
 ·simp only [Bool.not_true,Bool.false_eq_true,if_false,pure_bind,Bool.true_and,bind_assoc]
  refine Reads.bind (reads_partA (n:=2)) (Reads.bind (reads_partA (n:=2)) (Reads.bind (reads_eqK dd (t:=s.type) c d c' d') ?_))
  cases h3:(c==c'&&d==d')
  ·simp only [Bool.not_false,if_true,pure_bind]
   exact Reads.pure _
  ·simp only [Bool.not_true,Bool.false_eq_true,if_false,pure_bind]
   exact Reads.pure _
def keySB (P:Program) (t:TypeId):Bool:=match P.underlying t with
 |some (.struct fs)=>(match fs.toList with
  |[f,g,s]=>f.offset==0&&g.offset==1&&s.offset==2&&f.name != "_" &&g.name != "_" &&s.name != "_" &&scalB P f.type&&scalB P g.type&&scalB P s.type&&(match P.underlying s.type with|some .bool=>true|_=>false)&&(match P.underlying f.type with|some (.int .i64)=>true|_=>false)&&(match P.underlying g.type with|some (.int .i64)=>true|_=>false)
  |_=>false)&&!P.stoodInHeld t
 |_=>false
class KeyST (P:Program) (t:TypeId):Prop where
 eq:keySB P t=true
theorem KeyST.spec {t:TypeId} [k:KeyST P t]: ∃f g s:Field,P.underlying t=some (.struct #[f,g,s])∧f.offset=0∧g.offset=1∧s.offset=2∧f.name≠ "_" ∧g.name≠ "_" ∧s.name≠ "_" ∧Scal P f.type∧Scal P g.type∧Scal P s.type∧P.underlying s.type=some .bool∧P.underlying f.type=some (.int .i64)∧P.underlying g.type=some (.int .i64)∧P.stoodInHeld t=false:=by
 have:=k.eq
 unfold keySB at this
 split at this
 ·rename_i fs hu
  rw [Bool.and_eq_true] at this
  obtain ⟨h1,h2⟩:=this
  split at h1
  ·rename_i f g s hfs
   simp only [Bool.and_eq_true,beq_iff_eq,bne_iff_ne,ne_eq] at h1
   obtain ⟨⟨⟨⟨⟨⟨⟨⟨⟨⟨⟨a1,a2⟩,a3⟩,b1⟩,b2⟩,b3⟩,c1⟩,c2⟩,c3⟩,a6⟩,a7⟩,a8⟩:=h1
   refine ⟨f,g,s,?_,a1,a2,a3,b1,b2,b3,⟨c1⟩,⟨c2⟩,⟨c3⟩,?_,?_,?_,by simpa using h2⟩
   ·rw [hu];congr 2
    exact Array.ext' (by rw [hfs])
   ·split at a6
    ·assumption
    ·cases a6
   ·split at a7
    ·assumption
    ·cases a7
   ·split at a8
    ·assumption
    ·cases a8
  ·cases h1
 ·cases this
theorem reads_eqb (dd:Nat) {t:TypeId} (hb:P.underlying t=some .bool) (a c:Bool):Reads P B (Op.equalIn (dd+1) t (.bool a) (.bool c)) h (a==c):=by
 unfold Op.equalIn
 refine Reads.bind (still_und hb).reads ?_
 exact Reads.pure _
theorem reads_eqS (dd:Nat) {t:TypeId} [KeyST P t] (a b a' b':Int) (c c':Bool):Reads P B (Op.equalIn (dd+3) t (.agg [.int .i64 a,.int .i64 b,.bool c].toArray) (.agg [.int .i64 a',.int .i64 b',.bool c'].toArray)) h (a==a'&&(b==b'&&c==c')):=by
 obtain ⟨f,g,s,hu,o1,o2,o3,n1,n2,n3,s1,s2,s3,u3,u1,u2,hs⟩:=KeyST.spec (P:=P) (t:=t)
 unfold Op.equalIn
 refine Reads.bind (still_und hu).reads ?_
 refine Reads.bind Reads.program' ?_
 simp only [hs,Bool.false_eq_true,if_false,pure_bind]
 rw [←Array.forIn_toList];simp only [List.forIn_cons,List.forIn_nil,n1,n2,n3,ne_eq,not_false_eq_true,if_true,o1,o2,o3,bind_assoc]
 refine Reads.bind (reads_partS (v:= .int .i64 a) rfl) (Reads.bind (reads_partS (v:= .int .i64 a') rfl) (Reads.bind (reads_eqi (dd+1) u1 a a') ?_))
 cases h1:(a==a')
 ·simp only [Bool.not_false,if_true,pure_bind,Bool.false_and]
  exact Reads.pure _
 ·simp only [Bool.not_true,Bool.false_eq_true,if_false,pure_bind,Bool.true_and,bind_assoc]
  refine Reads.bind (reads_partS (v:= .int .i64 b) rfl) (Reads.bind (reads_partS (v:= .int .i64 b') rfl) (Reads.bind (reads_eqi (dd+1) u2 b b') ?_))
  cases h2:(b==b')
  ·simp only [Bool.not_false,if_true,pure_bind,Bool.false_and]
   exact Reads.pure _
  ·simp only [Bool.not_true,Bool.false_eq_true,if_false,pure_bind,Bool.true_and,bind_assoc]
   refine Reads.bind (reads_partS (v:= .bool c) rfl) (Reads.bind (reads_partS (v:= .bool c') rfl) (Reads.bind (reads_eqb (dd+1) u3 c c') ?_))
   cases h3:(c==c')
   ·simp only [Bool.not_false,if_true,pure_bind]
    exact Reads.pure _
   ·simp only [Bool.not_true,Bool.false_eq_true,if_false,pure_bind]
    exact Reads.pure _
end
section
variable {P:Program} {B:Array Obj} {m:Md P B} {ops:Array Oper} {l l' l'':List Value} {S h h' H:Hp} {C:List Value→Hp→Prop} {i:Nat} {kd:Kd} {r:List (Nat×Kd)}
 {d:Option Tmp} {ty:TypeId} {pos:String} {af:Array Edge} {g:Option (Nat×Bool)}
theorem k_neq3 {t u:TypeId} {x y:Operand} {a c e a' c' e':Int} (ho:ops[i]?=some ⟨d,.binOp .neq t x y u,ty,pos,af,g⟩) (hw:Wt ops l g) [kh:KHeap kd S h H] [ex:OpV l x (.agg [.int .i64 a,.int .i64 c,.int .i64 e].toArray)] [ey:OpV l y (.agg [.int .i64 a',.int .i64 c',.int .i64 e'].toArray)] [Key3T P t]
  (hg:P.eqGuardType P.depth t=false) [pt:PutV l d (.bool true) l'] [pf:PutV l d (.bool false) l''] (yes: ¬(a=a'∧c=c'∧e=e')→RegK m S ops r l' h C) (no:a=a'∧c=c'∧e=e'→RegK m S ops r l'' h C):RegK m S ops ((i,kd)::r) l h C:=by
 have he:=reads_eq3 (P:=P) (B:=B) (h:=H) 9997 (t:=t) a c e a' c' e'
 by_cases hx:a=a'∧c=c'∧e=e'
 ·have e2:(a==a'&&(c==c'&&e==e'))=true:=by simp [hx]
  rw [e2] at he
  haveI:PutV l d (.bool !true) l'':=pf
  exact k_neqG ho hw hg he (no hx)
 ·have e2:(a==a'&&(c==c'&&e==e'))=false:=by simpa using hx
  rw [e2] at he
  haveI:PutV l d (.bool !false) l':=pt
  exact k_neqG ho hw hg he (yes hx)
theorem k_neqSk {t u:TypeId} {x y:Operand} {a c a' c':Int} {e e':Bool} (ho:ops[i]?=some ⟨d,.binOp .neq t x y u,ty,pos,af,g⟩) (hw:Wt ops l g) [kh:KHeap kd S h H] [ex:OpV l x (.agg [.int .i64 a,.int .i64 c,.bool e].toArray)] [ey:OpV l y (.agg [.int .i64 a',.int .i64 c',.bool e'].toArray)] [KeyST P t]
  (hg:P.eqGuardType P.depth t=false) [pt:PutV l d (.bool true) l'] [pf:PutV l d (.bool false) l''] (yes: ¬(a=a'∧c=c'∧e=e')→RegK m S ops r l' h C) (no:a=a'∧c=c'∧e=e'→RegK m S ops r l'' h C):RegK m S ops ((i,kd)::r) l h C:=by
 have he:=reads_eqS (P:=P) (B:=B) (h:=H) 9997 (t:=t) a c a' c' e e'
 by_cases hx:a=a'∧c=c'∧e=e'
 ·have e2:(a==a'&&(c==c'&&e==e'))=true:=by simp [hx]
  rw [e2] at he
  haveI:PutV l d (.bool !true) l'':=pf
  exact k_neqG ho hw hg he (no hx)
 ·have e2:(a==a'&&(c==c'&&e==e'))=false:=by simpa using hx
  rw [e2] at he
  haveI:PutV l d (.bool !false) l':=pt
  exact k_neqG ho hw hg he (yes hx)
end
end Go.Lo
namespace Go.Proofs
open Go.Lo
open Go.Conc (G)
set_option maxRecDepth 100000
set_option synthInstance.maxHeartbeats 1000000
section
variable {P:Program} {B:Array Obj} {m:Md P B} {ops:Array Oper} {l l':List Value} {S h h' H:Hp} {C:List Value→Hp→Prop} {i:Nat} {kd:Kd} {r:List (Nat×Kd)}
 {d:Option Tmp} {ty:TypeId} {pos:String} {af:Array Edge} {g:Option (Nat×Bool)}
theorem k_eqlF {t u:TypeId} {x y:Operand} {a b:Int} {k:IntKind} (ho:ops[i]?=some ⟨d,.binOp .eql t x y u,ty,pos,af,g⟩) (hw:Wt ops l g) [kh:KHeap kd S h H] [ex:OpV l x (.int k a)] [ey:OpV l y (.int k b)] (e:a≠b) [pt:PutV l d (.bool false) l'] (q:RegK m S ops r l' h C):RegK m S ops ((i,kd)::r) l h C:=by
 have pq:=pt;rw [←decide_eq_false e] at pq;exact k_eql (l':=l') ho hw q
theorem k_neqT {t u:TypeId} {x y:Operand} {a b:Int} {k:IntKind} (ho:ops[i]?=some ⟨d,.binOp .neq t x y u,ty,pos,af,g⟩) (hw:Wt ops l g) [kh:KHeap kd S h H] [ex:OpV l x (.int k a)] [ey:OpV l y (.int k b)] (e:a≠b) [pt:PutV l d (.bool true) l'] (q:RegK m S ops r l' h C):RegK m S ops ((i,kd)::r) l h C:=by
 have pq:=pt;rw [←decide_eq_true e] at pq;exact k_neq (l':=l') ho hw q
theorem k_leqT {t u:TypeId} {x y:Operand} {a b:Int} {k:IntKind} (ho:ops[i]?=some ⟨d,.binOp .leq t x y u,ty,pos,af,g⟩) (hw:Wt ops l g) [kh:KHeap kd S h H] [ex:OpV l x (.int k a)] [ey:OpV l y (.int k b)] (e:a≤b) [pt:PutV l d (.bool true) l'] (q:RegK m S ops r l' h C):RegK m S ops ((i,kd)::r) l h C:=by
 have pq:=pt;rw [←decide_eq_true e] at pq;exact k_leq (l':=l') ho hw q
end
end Go.Proofs
namespace Go.Proofs
open Go.Lo
set_option maxRecDepth 100000
section
variable {H:Type} {enc:TypeId×Value→H} {w:World} {sp:Nat→Bool} {held:Bool}
theorem sp_arg {r:Reach} {b0:Nat} {v:Value} {d:DataW H} {ps:List MemPlace} (hv:Value.okWide Tryz.prog w r b0 46 v) (h:DataW.Trod enc Tryz.prog w 0 sp held 46 v d ps):
  ∃lo hi:Int,v= .agg [.int .i64 lo,.int .i64 hi].toArray:=by
 obtain ⟨fs,hu,hfs⟩: ∃fs,Tryz.prog.underlying 46=some (.struct fs)∧fs.toList.map (fun f=>(f.offset,f.type))=[(0,3),(1,3)]:=⟨_,Tryz.underlying46,by kernel_rfl⟩
 have h3: Tryz.prog.underlying 3=some (.int .i64):=by kernel_rfl
 unfold Value.okWide at hv
 rw [hu] at hv
 obtain ⟨cs,rfl,hsz,_⟩:=hv
 obtain ⟨fuel,h⟩:=h
 obtain ⟨xs,m,_,_,hl,hxl,hx⟩:=DataW.trod_struct hu h
 have hl2:cs.size=2:=hsz.trans (by kernel_rfl)
 obtain ⟨cl⟩:=cs
 obtain ⟨c0,c1,rfl⟩: ∃c0 c1,cl=[c0,c1]:=by
  match cl,(show cl.length=2 from hl2) with
  |[c0,c1],_=>exact ⟨_,_,rfl⟩
 obtain ⟨f0,f1,rfl⟩: ∃f0 f1,fs= #[f0,f1]:=by
  obtain ⟨fl⟩:=fs
  have hlen:fl.length=2:=by simpa using congrArg List.length hfs
  match fl,hlen with
  |[f0,f1],_=>exact ⟨_,_,rfl⟩
 simp only [List.map_cons,List.map_nil,List.cons.injEq,Prod.mk.injEq,and_true] at hfs
 obtain ⟨⟨o0,t0⟩,o1,t1⟩:=hfs
 have s3: Tryz.prog.cellsOf 3=1:=by kernel_rfl
 have go: ∀i,i<2→ ∃y,xs[i]?=some y:=fun i hi=>⟨_,List.getElem?_eq_getElem (by rw [hxl];exact hi)⟩
 obtain ⟨y0,e0⟩:=go 0 (by omega)
 obtain ⟨y1,e1⟩:=go 1 (by omega)
 have g0:=(hx 0 f0 rfl).trans e0
 have g1:=(hx 1 f1 rfl).trans e1
 rw [t0,o0,s3] at g0
 rw [t1,o1,s3] at g1
 obtain ⟨n0,q0,_,w0⟩:=DataW.trod_int h3 g0
 obtain ⟨n1,q1,_,w1⟩:=DataW.trod_int h3 g1
 obtain rfl:=List.head_eq_of_cons_eq (show [c0]=[Value.int .i64 n0] from q0)
 obtain rfl:=List.head_eq_of_cons_eq (show [c1]=[Value.int .i64 n1] from q1)
 exact ⟨n0,n1,rfl⟩
theorem tp_arg {r:Reach} {b0:Nat} {v:Value} {d:DataW H} {ps:List MemPlace} (hv:Value.okWide Tryz.prog w r b0 99 v) (h:DataW.Trod enc Tryz.prog w 0 sp held 99 v d ps):
  ∃x:Tp,v=tpV x:=by
 obtain ⟨fs,hu,hfs⟩: ∃fs,Tryz.prog.underlying 99=some (.struct fs)∧fs.toList.map (fun f=>(f.offset,f.type))=[(0,3),(1,3),(2,46)]:=⟨_,Tryz.underlying99,by kernel_rfl⟩
 obtain ⟨gs,hu2,hgs⟩: ∃fs,Tryz.prog.underlying 46=some (.struct fs)∧fs.toList.map (fun f=>(f.offset,f.type))=[(0,3),(1,3)]:=⟨_,Tryz.underlying46,by kernel_rfl⟩
 have h3: Tryz.prog.underlying 3=some (.int .i64):=by kernel_rfl
 unfold Value.okWide at hv
 rw [hu] at hv
 obtain ⟨cs,rfl,hsz,_⟩:=hv
 obtain ⟨fuel,h⟩:=h
 obtain ⟨xs,m,_,_,hl,hxl,hx⟩:=DataW.trod_struct hu h
 have hl2:cs.size=4:=hsz.trans (by kernel_rfl)
 obtain ⟨cl⟩:=cs
 obtain ⟨c0,c1,c2,c3,rfl⟩: ∃c0 c1 c2 c3,cl=[c0,c1,c2,c3]:=by
  match cl,(show cl.length=4 from hl2) with
  |[c0,c1,c2,c3],_=>exact ⟨_,_,_,_,rfl⟩
 obtain ⟨f0,f1,f2,rfl⟩: ∃f0 f1 f2,fs= #[f0,f1,f2]:=by
  obtain ⟨fl⟩:=fs
  have hlen:fl.length=3:=by simpa using congrArg List.length hfs
  match fl,hlen with
  |[f0,f1,f2],_=>exact ⟨_,_,_,rfl⟩
 obtain ⟨f3,f4,rfl⟩: ∃f0 f1,gs= #[f0,f1]:=by
  obtain ⟨fl⟩:=gs
  have hlen:fl.length=2:=by simpa using congrArg List.length hgs
  match fl,hlen with
  |[f0,f1],_=>exact ⟨_,_,rfl⟩
 simp only [List.map_cons,List.map_nil,List.cons.injEq,Prod.mk.injEq,and_true] at hfs hgs
 obtain ⟨⟨o0,t0⟩,⟨o1,t1⟩,o2,t2⟩:=hfs
 obtain ⟨⟨o3,t3⟩,o4,t4⟩:=hgs
 have s3: Tryz.prog.cellsOf 3=1:=by kernel_rfl
 have s46: Tryz.prog.cellsOf 46=2:=by kernel_rfl
 have go: ∀i,i<3→ ∃y,xs[i]?=some y:=fun i hi=>⟨_,List.getElem?_eq_getElem (by rw [hxl];exact hi)⟩
 obtain ⟨y0,e0⟩:=go 0 (by omega)
 obtain ⟨y1,e1⟩:=go 1 (by omega)
 obtain ⟨y2,e2⟩:=go 2 (by omega)
 have g0:=(hx 0 f0 rfl).trans e0
 have g1:=(hx 1 f1 rfl).trans e1
 have g2:=(hx 2 f2 rfl).trans e2
 rw [t0,o0,s3] at g0
 rw [t1,o1,s3] at g1
 rw [t2,o2,s46] at g2
 obtain ⟨n0,q0,_,w0⟩:=DataW.trod_int h3 g0
 obtain ⟨n1,q1,_,w1⟩:=DataW.trod_int h3 g1
 obtain ⟨ys,m2,_,_,hl3,hyl,hy⟩:=DataW.trod_struct hu2 g2
 have go2: ∀i,i<2→ ∃y,ys[i]?=some y:=fun i hi=>⟨_,List.getElem?_eq_getElem (by rw [hyl];exact hi)⟩
 obtain ⟨y3,e3⟩:=go2 0 (by omega)
 obtain ⟨y4,e4⟩:=go2 1 (by omega)
 have g3:=(hy 0 f3 rfl).trans e3
 have g4:=(hy 1 f4 rfl).trans e4
 rw [t3,o3,s3] at g3
 rw [t4,o4,s3] at g4
 obtain ⟨n3,q3,_,w3⟩:=DataW.trod_int h3 g3
 obtain ⟨n4,q4,_,w4⟩:=DataW.trod_int h3 g4
 obtain rfl:=List.head_eq_of_cons_eq (show [c0]=[Value.int .i64 n0] from q0)
 obtain rfl:=List.head_eq_of_cons_eq (show [c1]=[Value.int .i64 n1] from q1)
 obtain rfl:=List.head_eq_of_cons_eq (show [c2]=[Value.int .i64 n3] from q3)
 obtain rfl:=List.head_eq_of_cons_eq (show [c3]=[Value.int .i64 n4] from q4)
 exact ⟨⟨n0,n1,n3,n4⟩,rfl⟩
theorem sk_arg {r:Reach} {b0:Nat} {v:Value} {d:DataW H} {ps:List MemPlace} (hv:Value.okWide Tryz.prog w r b0 73 v) (h:DataW.Trod enc Tryz.prog w 0 sp held 73 v d ps):
  ∃x:Sk,v=skV x:=by
 obtain ⟨fs,hu,hfs⟩: ∃fs,Tryz.prog.underlying 73=some (.struct fs)∧fs.toList.map (fun f=>(f.offset,f.type))=[(0,3),(1,3),(2,4)]:=⟨_,Tryz.underlying73,by kernel_rfl⟩
 have h3: Tryz.prog.underlying 3=some (.int .i64):=by kernel_rfl
 have h4: Tryz.prog.underlying 4=some .bool:=by kernel_rfl
 unfold Value.okWide at hv
 rw [hu] at hv
 obtain ⟨cs,rfl,hsz,_⟩:=hv
 obtain ⟨fuel,h⟩:=h
 obtain ⟨xs,m,_,_,hl,hxl,hx⟩:=DataW.trod_struct hu h
 have hl2:cs.size=3:=hsz.trans (by kernel_rfl)
 obtain ⟨cl⟩:=cs
 obtain ⟨c0,c1,c2,rfl⟩: ∃c0 c1 c2,cl=[c0,c1,c2]:=by
  match cl,(show cl.length=3 from hl2) with
  |[c0,c1,c2],_=>exact ⟨_,_,_,rfl⟩
 obtain ⟨f0,f1,f2,rfl⟩: ∃f0 f1 f2,fs= #[f0,f1,f2]:=by
  obtain ⟨fl⟩:=fs
  have hlen:fl.length=3:=by simpa using congrArg List.length hfs
  match fl,hlen with
  |[f0,f1,f2],_=>exact ⟨_,_,_,rfl⟩
 simp only [List.map_cons,List.map_nil,List.cons.injEq,Prod.mk.injEq,and_true] at hfs
 obtain ⟨⟨o0,t0⟩,⟨o1,t1⟩,o2,t2⟩:=hfs
 have s3: Tryz.prog.cellsOf 3=1:=by kernel_rfl
 have s4: Tryz.prog.cellsOf 4=1:=by kernel_rfl
 have go: ∀i,i<3→ ∃y,xs[i]?=some y:=fun i hi=>⟨_,List.getElem?_eq_getElem (by rw [hxl];exact hi)⟩
 obtain ⟨y0,e0⟩:=go 0 (by omega)
 obtain ⟨y1,e1⟩:=go 1 (by omega)
 obtain ⟨y2,e2⟩:=go 2 (by omega)
 have g0:=(hx 0 f0 rfl).trans e0
 have g1:=(hx 1 f1 rfl).trans e1
 have g2:=(hx 2 f2 rfl).trans e2
 rw [t0,o0,s3] at g0
 rw [t1,o1,s3] at g1
 rw [t2,o2,s4] at g2
 obtain ⟨n0,q0,_,w0⟩:=DataW.trod_int h3 g0
 obtain ⟨n1,q1,_,w1⟩:=DataW.trod_int h3 g1
 obtain ⟨n2,q2,_⟩:=DataW.trod_bool h4 g2
 obtain rfl:=List.head_eq_of_cons_eq (show [c0]=[Value.int .i64 n0] from q0)
 obtain rfl:=List.head_eq_of_cons_eq (show [c1]=[Value.int .i64 n1] from q1)
 obtain rfl:=List.head_eq_of_cons_eq (show [c2]=[Value.bool n2] from q2)
 exact ⟨⟨n0,n1,n2⟩,rfl⟩
end
end Go.Proofs
namespace Go.Proofs
open Go.Lo
open Go.Conc (G)
set_option maxRecDepth 100000
set_option synthInstance.maxSize 100000
set_option synthInstance.maxHeartbeats 1000000
set_option maxHeartbeats 4000000
variable {B:Array Obj}
theorem f80_c (m:Md Tryz.prog B) (h:Hp) (a b c d:Int):FnC m 80 #[.agg [.int .i64 a,.int .i64 b].toArray,.agg [.int .i64 c,.int .i64 d].toArray] h fun v h'=>h'=h∧v= .agg [.int .i64 (max a c),.int .i64 (min b d)].toArray:=by
 refine fn_enter Tryz.func80 rfl rfl (l:=(.agg [.int .i64 a,.int .i64 b].toArray)::(.agg [.int .i64 c,.int .i64 d].toArray)::uu14) rfl ?_
 intro cf cs K hK
 refine rs3 ?_;refine k_box rfl zq (fun q2=>k_hp (k_put ?_));refine k_box rfl zq (fun q3=>k_hp (k_put ?_));refine k_new rfl zq (fun q4=>k_hp (k_put ?_));refine k_nil ?_;refine rs12 ?_;refine d2 ?_;refine d2 ?_;refine k_max rfl zq ?_;refine d2 ?_;refine d2 ?_;refine k_min rfl zq ?_;refine k_bld rfl zq ?_;refine d91 ?_;refine run_res (h) rfl Tryz.func80 rfl weakSub ?_;refine hK _ _ ?_;exact ⟨rfl,rfl⟩
theorem f54_c (m:Md Tryz.prog B) (h:Hp) {p:Option Addr} {n c:Nat} {xs:List Int} (x:Int) (rd:RdS B h 1 (.slice p n c) n (ints xs)) (hn:n≤1000000):FnC m 54 #[.slice p n c,.int .i64 x] h fun v h'=>h'=h∧IsB (x∈xs) v:=by
 have hl:=rd.ilen
 refine fn_enter Tryz.func54 rfl rfl (l:=(.slice p n c)::(.int .i64 x)::uu16) rfl ?_
 intro cf cs K hK
 refine d93 ?_;refine d142 ?_
 refine run_loop (fun nn l h'=> ∃(k:Nat),nn=n-k∧(k≤n)∧(∀i,i<k→xs.getD i 0≠x)∧(∃U:Nat→Value,l=((.slice p n c)::(.int .i64 x)::(U 2)::(U 3)::(U 4)::(.int .i64 (k:Int))::(U 6)::vw11 U 7 []))∧h=h') _ ⟨0,rfl,by omega,by omega,exU rfl,rfl⟩ ?_;rintro nn l h' ⟨k,rfl,hk,he,⟨U,rfl⟩,rfl⟩ hnext;refine run_seq ?_;refine d120 ?_;refine k_lssS rfl zq (fun hc=>?_) (fun hc=>?_)
 ·refine d98 ?_;refine rs6 ?_;refine d3 ?_
  obtain ⟨rd_b,rd_o,rfl⟩:=rd.ptr (by omega)
  refine k_ixs rfl zq (by first|rfl|assumption) (by omega) (by omega) ?_;refine k_ld rfl zq (rd.iat k (by omega) (by omega)) ?_;refine mq rfl ?_
  refine k_eqlS rfl zq (fun hc=>?_) (fun hc=>?_)
  ·refine d58 ?_
   refine run_res (h) rfl Tryz.func54 rfl weakSub ?_;refine hK _ _ ?_;exact ⟨rfl,IsB.yes (mem_getD.2 ⟨k,by omega,by assumption⟩)⟩
  ·refine d13 ?_;refine d109 ?_
   exact m.weak weakSub (hnext _ _ _ (by omega) ⟨k+1,rfl,by omega,fun i hi=>by
    rcases Nat.lt_or_ge i k with h1|h1
    ·exact he i h1
    ·obtain rfl:i=k:=by omega
     assumption,exU rfl,rfl⟩)
 ·refine d75 ?_;refine d38 ?_
  refine run_res (h) rfl Tryz.func54 rfl weakSub ?_;refine hK _ _ ?_;exact ⟨rfl,IsB.no fun e=>by
   obtain ⟨i,h1,h2⟩:=mem_getD.1 e
   exact he i (by omega) h2⟩
theorem linesK_zero (b:Fb):linesK b 0=[[]]:=rfl
theorem linesK_succ (b:Fb) {i:Nat} (h:i<b.pts.length):linesK b (i+1)=extL (linesK b i) (spI b i):=by
 rw [linesK,linesOf_take _ _ (by rw [spsOf_length];exact h),spsOf_getD b h];rfl
end Go.Proofs
namespace Go.Proofs
open Go.Lo
set_option maxRecDepth 100000
set_option maxHeartbeats 4000000
theorem right_sub {b c:Fb} (hp:c.pts=b.pts) (ht: ∀t∈c.tapes,t∈b.tapes) (hk: ∀t∈c.sticks,t∈b.sticks) {l:List Int} (h:rightF b l):rightF c l:=
 ⟨fun t h1=>by have:=h.1 t (ht t h1);unfold tapeOk at this⊢;rw [hp];exact this,fun t h1=>by have:=h.2 t (hk t h1);unfold stickOk at this⊢;rw [hp];exact this⟩
theorem boats_sub {b c:Fb} (hp:c.pts=b.pts) (ht: ∀t∈c.tapes,t∈b.tapes) (hk: ∀t∈c.sticks,t∈b.sticks) {l:List Int} (h:l∈boatsOf b):l∈boatsOf c:=by
 obtain ⟨h1,h2,h3⟩:=mem_boats.1 h
 exact mem_boats.2 ⟨by rw [hp];exact h1,by unfold spansF at h2⊢;rw [hp];exact h2,right_sub hp ht hk h3⟩
end Go.Proofs
namespace Go.Proofs
open Go.Lo
open Go.Conc (G)
set_option maxRecDepth 100000
set_option synthInstance.maxSize 100000
set_option synthInstance.maxHeartbeats 1000000
set_option maxHeartbeats 4000000
variable {b:Fb} {pp:Option Addr} {np cp:Nat} {pt:Option Addr} {nt ct:Nat} {pk:Option Addr} {nk ck:Nat}
variable {B:Array Obj}
variable [LaidF B]
def setP (b:Fb) (i:Nat) (lo hi:Int):Fb:={b with pts:=b.pts.set i ⟨(b.pts.getD i default).h,lo,hi⟩}
def tapeS (b:Fb) (t:Tp):Int:=if fbS b≠0 then fbS b else openS (addT b t) 0
def tapeF (b:Fb) (t:Tp):Fb:=if fbS b≠0 then noF else agreeF (addT b t)
theorem f74_c (m:Md Tryz.prog B) (h:Hp) (rdp:Rp B h b pp np cp) (hp:np≤1000) (rdt:Rt B h b pt nt ct) (ht:nt≤1000) (rdk:Rk B h b pk nk ck) (hk:nk≤1000) (x:Tp):FnC m 74 #[fbV b pp np cp pt nt ct pk nk ck,tpV x] h fun v h'=> ∃nw,h'=h++nw∧ ∃w,v= .tuple [w,.int .i64 (tapeS b x)].toArray∧BkF B (tapeF b x) nw w:=by
 have hml:=rdp.elen (by decide)
 have htl:=rdt.elen (by decide)
 have hkl:=rdk.elen (by decide)
 refine fn_enter Tryz.func74 rfl rfl (l:=(fbV b pp np cp pt nt ct pk nk ck)::(tpV x)::uu22) rfl ?_
 intro cf cs K hK
 refine rs4 ?_;refine k_box rfl zq (fun q2=>k_hp (k_put ?_));refine k_box rfl zq (fun q3=>k_hp (k_put ?_));refine k_new rfl zq (fun q4=>k_hp (k_put ?_));refine d12 ?_;refine d94 ?_
 refine k_calP (Post:=fun v=>v=_) rfl zq (by kernel_rfl) (fun H' hH=>f21_c m H' (rdp.keeps (sq hH)) hp (rdt.keeps (sq hH)) ht (rdk.keeps (sq hH)) hk) ?_;rintro v rfl;refine d135 ?_
 refine k_neqS rfl zq (fun hc=>?_) (fun hc=>?_)
 ·refine d7 ?_;refine rs4 ?_;refine d112 ?_;refine d70 ?_
  refine run_res (h) rfl Tryz.func74 rfl weakSub ?_;refine hK _ _ ?_;exact ⟨[],by simp,_,by rw [tapeS,if_pos (by assumption)],by rw [tapeF,if_pos (by assumption)];exact BkF.zero⟩
 ·have hv:=fbS_zero hc
  have hv1:=hv.few
  have hv2:=hv.few'
  refine d37 ?_
  refine run_drawT [0,1,2,3,4,5,6,7] (by kernel_rfl) (by kernel_rfl) (List.Sublist.refl _) ?_;refine DrawT.split 2 4 (by decide) ?_ ?_
  ·refine DrawT.leaf [(0,.pure),(1,.read),(3,.read),(2,.keep),(4,.keep),(5,.free),(6,.pure),(7,.free)] (by kernel_rfl) ?_
   refine d136 ?_
   refine k_calC rfl zq (by kernel_rfl) (fun H' hH=>f147_c m H' (rdt.keeps (sq hH)) (by omega)) ?_;rintro v n2 o2;refine k_hpA (k_put ?_);obtain ⟨p2,c2,rfl,hc2,r2⟩:=own_rdA (B:=B) o2
   refine k_bs kdq rfl zq (by decide) (by decide) rfl (fun q17=>k_hp (k_put ?_));refine k_app1O rfl zq rfl o2 kdq (by omega) (by omega) (fun w9 n9 o9=>k_put ?_);replace o9:OwnS 99 4 w9 (nt+1) (encs (addT b x).tapes) n9:=by rw [show encs (addT b x).tapes=encs b.tapes++tpL x by rw [addT,encs_append,encs_tp]];exact o9
   obtain ⟨p9,c9,rfl,hc9,r9⟩:=own_rdA (B:=B) o9
   refine d141 ?_;refine rs6 ?_;refine k_ldA rfl zq ?_
   refine k_calC rfl zq (by kernel_rfl) (fun H' hH=>f141_c m H' (b:=addT b x) (rdp.keeps (sq hH)) hp (r9.keeps (sq hH)) (by omega) (rdk.keeps (sq hH)) hk) ?_;rintro v n5 ⟨w5,rfl,hb5⟩;obtain ⟨pp5,np5,cp5,pt5,nt5,ct5,pk5,nk5,ck5,rfl,hr5⟩:=hb5
   refine k_hpA (k_put ?_);refine d17 ?_;refine d70 ?_
   refine run_res (h++n5) rfl Tryz.func74 rfl weakSub ?_;refine hK _ _ ?_;exact ⟨n5,rfl,_,by rw [tapeS,if_neg (fun e=>e hc)],by rw [tapeF,if_neg (fun e=>e hc)];exact ⟨_,_,_,_,_,_,_,_,_,rfl,hr5⟩⟩
  ·refine DrawT.leaf [(0,.pure),(1,.read),(3,.read),(4,.keep),(2,.keep),(5,.free),(6,.pure),(7,.free)] (by kernel_rfl) ?_
   refine d136 ?_
   refine k_bs kdq rfl zq (by decide) (by decide) rfl (fun q17=>k_hp (k_put ?_));refine k_calC rfl zq (by kernel_rfl) (fun H' hH=>f147_c m H' (rdt.keeps (sq hH)) (by omega)) ?_;rintro v n2 o2;refine k_hpA (k_put ?_);obtain ⟨p2,c2,rfl,hc2,r2⟩:=own_rdA (B:=B) o2
   refine k_app1O rfl zq rfl o2 kdq (by omega) (by omega) (fun w9 n9 o9=>k_put ?_);replace o9:OwnS 99 4 w9 (nt+1) (encs (addT b x).tapes) n9:=by rw [show encs (addT b x).tapes=encs b.tapes++tpL x by rw [addT,encs_append,encs_tp]];exact o9
   obtain ⟨p9,c9,rfl,hc9,r9⟩:=own_rdA (B:=B) o9
   refine d141 ?_;refine rs6 ?_;refine k_ldA rfl zq ?_
   refine k_calC rfl zq (by kernel_rfl) (fun H' hH=>f141_c m H' (b:=addT b x) (rdp.keeps (sq hH)) hp (r9.keeps (sq hH)) (by omega) (rdk.keeps (sq hH)) hk) ?_;rintro v n5 ⟨w5,rfl,hb5⟩;obtain ⟨pp5,np5,cp5,pt5,nt5,ct5,pk5,nk5,ck5,rfl,hr5⟩:=hb5
   refine k_hpA (k_put ?_);refine d17 ?_;refine d70 ?_
   refine run_res (h++n5) rfl Tryz.func74 rfl weakSub ?_;refine hK _ _ ?_;exact ⟨n5,rfl,_,by rw [tapeS,if_neg (fun e=>e hc)],by rw [tapeF,if_neg (fun e=>e hc)];exact ⟨_,_,_,_,_,_,_,_,_,rfl,hr5⟩⟩
theorem same_take {α:Type} [Inhabited α] {xs ys:List α} {k:Nat} (h1:k<xs.length) (h2:k<ys.length) (h:xs.take k=ys.take k) (e:xs.getD k default=ys.getD k default):xs.take (k+1)=ys.take (k+1):=by
 rw [List.take_succ,List.take_succ,h,List.getElem?_eq_getElem h1,List.getElem?_eq_getElem h2];rw [List.getD_eq_getElem?_getD,List.getD_eq_getElem?_getD,List.getElem?_eq_getElem h1,List.getElem?_eq_getElem h2] at e
 simp only [Option.getD_some] at e
 rw [e]
instance:Key3T Tryz.prog 80:=⟨by kernel_rfl⟩
instance:Key4T Tryz.prog 99:=⟨by kernel_rfl⟩
instance:KeyST Tryz.prog 73:=⟨by kernel_rfl⟩
theorem pt_ext {x y:Pt} (h:x.h=y.h∧x.lo=y.lo∧x.hi=y.hi):x=y:=by cases x;cases y;simp_all
theorem tp_ext {x y:Tp} (h:x.f=y.f∧x.t=y.t∧x.lo=y.lo∧x.hi=y.hi):x=y:=by cases x;cases y;simp_all
theorem sk_ext {x y:Sk} (h:x.h=y.h∧x.long=y.long∧x.fits=y.fits):x=y:=by cases x;cases y;simp_all
theorem fb_ext {x y:Fb} (h1:x.plank=y.plank) (h2:x.pts=y.pts) (h3:x.tapes=y.tapes) (h4:x.sticks=y.sticks):x=y:=by cases x;cases y;simp_all
theorem f58_c (m:Md Tryz.prog B) (h:Hp) (rdp:Rp B h b pp np cp) (hp:np≤1000) (rdt:Rt B h b pt nt ct) (ht:nt≤1000) (rdk:Rk B h b pk nk ck) (hk:nk≤1000) {b2:Fb} {pp2:Option Addr} {np2 cp2:Nat} {pt2:Option Addr} {nt2 ct2:Nat} {pk2:Option Addr} {nk2 ck2:Nat} (rdp2:RdS B h 3 (.slice pp2 np2 cp2) np2 (encs b2.pts)) (hp2:np2≤1000) (rdt2:RdS B h 4 (.slice pt2 nt2 ct2) nt2 (encs b2.tapes)) (ht2:nt2≤1000) (rdk2:RdS B h 3 (.slice pk2 nk2 ck2) nk2 (encs b2.sticks)) (hk2:nk2≤1000):FnC m 58 #[fbV b pp np cp pt nt ct pk nk ck,fbV b2 pp2 np2 cp2 pt2 nt2 ct2 pk2 nk2 ck2] h fun v h'=>h'=h∧IsB (b=b2) v:=by
 have hml:=rdp.elen (by decide)
 have htl:=rdt.elen (by decide)
 have hkl:=rdk.elen (by decide)
 have hml2:=rdp2.elen (by decide)
 have htl2:=rdt2.elen (by decide)
 have hkl2:=rdk2.elen (by decide)
 refine fn_enter Tryz.func58 rfl rfl (l:=[fbV b pp np cp pt nt ct pk nk ck,fbV b2 pp2 np2 cp2 pt2 nt2 ct2 pk2 nk2 ck2,undef,undef,undef,undef,undef,undef,undef,undef,undef,undef,undef,undef,undef,undef,undef,undef,undef,undef,undef,undef,undef,undef,undef,undef,undef,undef,undef,undef,undef,undef,undef,undef,undef,undef,undef,undef,undef,undef,undef,undef,undef,undef,undef,undef,undef,undef,undef,undef,undef,undef,undef,undef,undef,undef,undef,undef,undef,undef,undef,undef,undef,undef,undef,undef,undef,undef,undef,undef,undef,undef,undef,undef,undef,undef,undef,undef,undef,undef,undef,undef,undef,undef,undef,undef,undef,undef,undef,undef,undef,undef,undef,undef]) rfl ?_
 intro cf cs K hK
 refine rs3 ?_;refine k_box rfl zq (fun q2=>k_hp (k_put ?_));refine k_box rfl zq (fun q3=>k_hp (k_put ?_));refine d12 ?_;refine run_seq ?_
 refine run_region [(0,.free),(1,.free),(2,.free),(3,.free),(4,.free),(5,.free),(6,.free),(7,.free),(8,.free),(9,.free),(10,.free),(11,.free),(12,.free),(13,.free),(14,.free),(15,.free),(16,.free),(17,.free),(18,.free),(19,.free),(20,.free),(21,.free),(22,.free),(23,.free),(24,.free),(25,.free),(26,.free),(27,.free),(28,.free),(29,.free),(30,.free),(31,.free)] (by kernel_rfl) (by kernel_rfl) ?_;refine d2 ?_;refine d2 ?_
 refine k_neqS rfl zq (fun hc=>?_) (fun hc=>?_)
 ·refine d111 ?_;refine k_off rfl rfl ?_;refine k_pickT rfl zq ?_;refine d111 ?_;refine k_off rfl rfl ?_;refine k_pickT rfl zq ?_;refine d111 ?_;refine k_off rfl rfl ?_;refine d138 ?_
  refine run_res (h) rfl Tryz.func58 rfl weakSub ?_;refine hK _ _ ?_;first
   |(have hmk:b.sticks=b2.sticks:=by
      rw [List.take_of_length_le (by omega),List.take_of_length_le (by omega)] at hew
      exact hew
     exact ⟨rfl,IsB.yes (fb_ext (by omega) hmp hmt hmk)⟩)
   |exact ⟨rfl,IsB.no (fun e=>by
   have e1:=congrArg Fb.plank e
   have e2:=congrArg (fun x:Fb=>x.pts.length) e
   have e3:=congrArg (fun x:Fb=>x.tapes.length) e
   have e4:=congrArg (fun x:Fb=>x.sticks.length) e
   first|omega|(rw [e] at hx;exact hx ⟨rfl,rfl,rfl⟩)|(rw [e] at hx;exact hx ⟨rfl,rfl,rfl,rfl⟩))⟩
 ·refine mq rfl ?_;refine d25 ?_;refine k_len rfl rfl ?_;refine d25 ?_;refine k_len rfl rfl ?_
  refine k_neqS rfl rfl (fun hc=>?_) (fun hc=>?_)
  ·refine k_pickF rfl zq ?_;refine d111 ?_;refine k_off rfl rfl ?_;refine k_pickT rfl zq ?_;refine d111 ?_;refine k_off rfl rfl ?_;refine d138 ?_;refine run_res (h) rfl Tryz.func58 rfl weakSub ?_;refine hK _ _ ?_;first
    |(have hmk:b.sticks=b2.sticks:=by
       rw [List.take_of_length_le (by omega),List.take_of_length_le (by omega)] at hew
       exact hew
      exact ⟨rfl,IsB.yes (fb_ext (by omega) hmp hmt hmk)⟩)
    |exact ⟨rfl,IsB.no (fun e=>by
    have e1:=congrArg Fb.plank e
    have e2:=congrArg (fun x:Fb=>x.pts.length) e
    have e3:=congrArg (fun x:Fb=>x.tapes.length) e
    have e4:=congrArg (fun x:Fb=>x.sticks.length) e
    first|omega|(rw [e] at hx;exact hx ⟨rfl,rfl,rfl⟩)|(rw [e] at hx;exact hx ⟨rfl,rfl,rfl,rfl⟩))⟩
  ·refine k_pickF rfl zq ?_;refine mq rfl ?_;refine d25 ?_;refine k_len rfl rfl ?_;refine d25 ?_;refine k_len rfl rfl ?_;refine k_neqS rfl rfl (fun hc=>?_) (fun hc=>?_)
   ·refine k_pickF rfl zq ?_;refine d111 ?_;refine k_off rfl rfl ?_;refine d138 ?_;refine run_res (h) rfl Tryz.func58 rfl weakSub ?_;refine hK _ _ ?_;first
     |(have hmk:b.sticks=b2.sticks:=by
        rw [List.take_of_length_le (by omega),List.take_of_length_le (by omega)] at hew
        exact hew
       exact ⟨rfl,IsB.yes (fb_ext (by omega) hmp hmt hmk)⟩)
     |exact ⟨rfl,IsB.no (fun e=>by
     have e1:=congrArg Fb.plank e
     have e2:=congrArg (fun x:Fb=>x.pts.length) e
     have e3:=congrArg (fun x:Fb=>x.tapes.length) e
     have e4:=congrArg (fun x:Fb=>x.sticks.length) e
     first|omega|(rw [e] at hx;exact hx ⟨rfl,rfl,rfl⟩)|(rw [e] at hx;exact hx ⟨rfl,rfl,rfl,rfl⟩))⟩
   ·refine k_pickF rfl zq ?_;refine mq rfl ?_;refine d25 ?_;refine k_len rfl rfl ?_;refine d25 ?_;refine k_len rfl rfl ?_;refine k_neqS rfl rfl (fun hc=>?_) (fun hc=>?_)
    ·refine k_pickF rfl zq ?_;refine d58 ?_;refine run_res (h) rfl Tryz.func58 rfl weakSub ?_;refine hK _ _ ?_;first
      |(have hmk:b.sticks=b2.sticks:=by
         rw [List.take_of_length_le (by omega),List.take_of_length_le (by omega)] at hew
         exact hew
        exact ⟨rfl,IsB.yes (fb_ext (by omega) hmp hmt hmk)⟩)
      |exact ⟨rfl,IsB.no (fun e=>by
      have e1:=congrArg Fb.plank e
      have e2:=congrArg (fun x:Fb=>x.pts.length) e
      have e3:=congrArg (fun x:Fb=>x.tapes.length) e
      have e4:=congrArg (fun x:Fb=>x.sticks.length) e
      first|omega|(rw [e] at hx;exact hx ⟨rfl,rfl,rfl⟩)|(rw [e] at hx;exact hx ⟨rfl,rfl,rfl,rfl⟩))⟩
    ·refine k_pickF rfl zq ?_;refine d37 ?_;refine d142 ?_;refine run_loop (fun nn l h'=> ∃(u:Nat),nn=np-u∧(u≤np)∧(b.pts.take u=b2.pts.take u)∧(∃U:Nat→Value,l=((U 0)::(U 1)::(.pointer (some ⟨q2,0,none⟩))::(.pointer (some ⟨q3,0,none⟩))::(U 4)::(.int .i64 (u:Int))::(U 6)::(U 7)::(U 8)::(U 9)::(U 10)::vw83 U 11 []))∧h++[⟨true,q2,.cells (fbL b pp np cp pt nt ct pk nk ck).toArray 26 (0,0)⟩,⟨true,q3,.cells (fbL b2 pp2 np2 cp2 pt2 nt2 ct2 pk2 nk2 ck2).toArray 26 (0,0)⟩]=h') _ ⟨0,rfl,by omega,rfl,exU rfl,rfl⟩ ?_;rintro nn l h' ⟨u,rfl,hu,heu,⟨U,rfl⟩,rfl⟩ hnext1;refine run_seq ?_;refine rs5 ?_;refine mq rfl ?_;refine d114 ?_;refine k_lssS rfl zq (fun hc=>?_) (fun hc=>?_)
     ·refine d98 ?_;refine run_seq ?_
      refine run_draw [(0,.pure),(2,.pure),(5,.pure),(7,.pure),(1,.read),(3,.pure),(4,.read),(6,.read),(8,.pure),(9,.read),(10,.pure)] (by kernel_rfl) (by kernel_rfl) (List.Sublist.refl _) ?_;(first|refine k_fa0 rfl zq ?_|refine k_fa rfl zq ?_);refine mq rfl ?_;(first|refine k_fa0 rfl zq ?_|refine k_fa rfl zq ?_);refine mq rfl ?_;refine k_ldh rfl zq ?_
      obtain ⟨m1,o1,rfl⟩:=rdp.ptr (by omega)
      refine k_ixs rfl zq (by first|rfl|assumption) (by omega) (by omega) ?_;refine k_ldN (vs:=ptL (b.pts.getD u default)) rfl zq rfl (rdp.eat u (by omega) (by omega)) ?_;refine k_ldh rfl zq ?_;obtain ⟨n1,u1,rfl⟩:=rdp2.ptr (by omega)
      refine k_ixs rfl zq (by first|rfl|assumption) (by omega) (by omega) ?_;refine k_ldN (vs:=ptL (b2.pts.getD u default)) rfl zq rfl (rdp2.eat u (by omega) (by omega)) ?_;refine k_neq3 (hg:=by kernel_rfl) rfl zq (fun hc=>?_) (fun hc=>?_)
      ·have hx:=hc
       refine d58 ?_
       refine run_res (h) rfl Tryz.func58 rfl weakSub ?_;refine hK _ _ ?_;first
        |(have hmk:b.sticks=b2.sticks:=by
           rw [List.take_of_length_le (by omega),List.take_of_length_le (by omega)] at hew
           exact hew
          exact ⟨rfl,IsB.yes (fb_ext (by omega) hmp hmt hmk)⟩)
        |exact ⟨rfl,IsB.no (fun e=>by
        have e1:=congrArg Fb.plank e
        have e2:=congrArg (fun x:Fb=>x.pts.length) e
        have e3:=congrArg (fun x:Fb=>x.tapes.length) e
        have e4:=congrArg (fun x:Fb=>x.sticks.length) e
        first|omega|(rw [e] at hx;exact hx ⟨rfl,rfl,rfl⟩)|(rw [e] at hx;exact hx ⟨rfl,rfl,rfl,rfl⟩))⟩
      ·have hx:=hc
       refine d13 ?_;refine d109 ?_
       exact m.weak weakSub (hnext1 _ _ _ (by omega) ⟨u+1,rfl,by omega,same_take (by omega) (by omega) heu (pt_ext hx),exU rfl,rfl⟩)
     ·refine d75 ?_;refine run_seq ?_;refine rs1 ?_
      have hmp:b.pts=b2.pts:=by
       rw [List.take_of_length_le (by omega),List.take_of_length_le (by omega)] at heu
       exact heu
      refine d54 ?_
      refine run_loop (fun nn l h'=> ∃(v:Nat),nn=nt-v∧(v≤nt)∧(b.tapes.take v=b2.tapes.take v)∧(∃U:Nat→Value,l=((U 0)::(U 1)::(.pointer (some ⟨q2,0,none⟩))::(.pointer (some ⟨q3,0,none⟩))::(U 4)::(U 5)::(.int .i64 (v:Int))::(U 7)::(U 8)::(U 9)::(U 10)::vw83 U 11 []))∧h++[⟨true,q2,.cells (fbL b pp np cp pt nt ct pk nk ck).toArray 26 (0,0)⟩,⟨true,q3,.cells (fbL b2 pp2 np2 cp2 pt2 nt2 ct2 pk2 nk2 ck2).toArray 26 (0,0)⟩]=h') _ ⟨0,rfl,by omega,rfl,exU rfl,rfl⟩ ?_;rintro nn l h' ⟨v,rfl,hv,hev,⟨U,rfl⟩,rfl⟩ hnext2;refine run_seq ?_;refine rs5 ?_;refine mq rfl ?_;refine d114 ?_;refine k_lssS rfl zq (fun hc=>?_) (fun hc=>?_)
      ·refine d98 ?_;refine run_seq ?_
       refine run_draw [(0,.pure),(2,.pure),(5,.pure),(7,.pure),(1,.read),(3,.pure),(4,.read),(6,.read),(8,.pure),(9,.read),(10,.pure)] (by kernel_rfl) (by kernel_rfl) (List.Sublist.refl _) ?_;(first|refine k_fa0 rfl zq ?_|refine k_fa rfl zq ?_);refine mq rfl ?_;(first|refine k_fa0 rfl zq ?_|refine k_fa rfl zq ?_);refine mq rfl ?_;refine k_ldh rfl zq ?_
       obtain ⟨m2,o2,rfl⟩:=rdt.ptr (by omega)
       refine k_ixs rfl zq (by first|rfl|assumption) (by omega) (by omega) ?_;refine k_ldN (vs:=tpL (b.tapes.getD v default)) rfl zq rfl (rdt.eat v (by omega) (by omega)) ?_;refine k_ldh rfl zq ?_;obtain ⟨n2,u2,rfl⟩:=rdt2.ptr (by omega)
       refine k_ixs rfl zq (by first|rfl|assumption) (by omega) (by omega) ?_;refine k_ldN (vs:=tpL (b2.tapes.getD v default)) rfl zq rfl (rdt2.eat v (by omega) (by omega)) ?_;refine k_neq4 (hg:=by kernel_rfl) rfl zq (fun hc=>?_) (fun hc=>?_)
       ·have hx:=hc
        refine d58 ?_
        refine run_res (h) rfl Tryz.func58 rfl weakSub ?_;refine hK _ _ ?_;first
         |(have hmk:b.sticks=b2.sticks:=by
            rw [List.take_of_length_le (by omega),List.take_of_length_le (by omega)] at hew
            exact hew
           exact ⟨rfl,IsB.yes (fb_ext (by omega) hmp hmt hmk)⟩)
         |exact ⟨rfl,IsB.no (fun e=>by
         have e1:=congrArg Fb.plank e
         have e2:=congrArg (fun x:Fb=>x.pts.length) e
         have e3:=congrArg (fun x:Fb=>x.tapes.length) e
         have e4:=congrArg (fun x:Fb=>x.sticks.length) e
         first|omega|(rw [e] at hx;exact hx ⟨rfl,rfl,rfl⟩)|(rw [e] at hx;exact hx ⟨rfl,rfl,rfl,rfl⟩))⟩
       ·have hx:=hc
        refine d13 ?_;refine d109 ?_
        exact m.weak weakSub (hnext2 _ _ _ (by omega) ⟨v+1,rfl,by omega,same_take (by omega) (by omega) hev (tp_ext hx),exU rfl,rfl⟩)
      ·refine d75 ?_;refine run_seq ?_;refine rs1 ?_
       have hmt:b.tapes=b2.tapes:=by
        rw [List.take_of_length_le (by omega),List.take_of_length_le (by omega)] at hev
        exact hev
       refine d54 ?_
       refine run_loop (fun nn l h'=> ∃(w:Nat),nn=nk-w∧(w≤nk)∧(b.sticks.take w=b2.sticks.take w)∧(∃U:Nat→Value,l=((U 0)::(U 1)::(.pointer (some ⟨q2,0,none⟩))::(.pointer (some ⟨q3,0,none⟩))::(U 4)::(U 5)::(U 6)::(.int .i64 (w:Int))::(U 8)::(U 9)::(U 10)::vw83 U 11 []))∧h++[⟨true,q2,.cells (fbL b pp np cp pt nt ct pk nk ck).toArray 26 (0,0)⟩,⟨true,q3,.cells (fbL b2 pp2 np2 cp2 pt2 nt2 ct2 pk2 nk2 ck2).toArray 26 (0,0)⟩]=h') _ ⟨0,rfl,by omega,rfl,exU rfl,rfl⟩ ?_;rintro nn l h' ⟨w,rfl,hw,hew,⟨U,rfl⟩,rfl⟩ hnext3;refine run_seq ?_;refine rs5 ?_;refine mq rfl ?_;refine d114 ?_;refine k_lssS rfl zq (fun hc=>?_) (fun hc=>?_)
       ·refine d98 ?_;refine run_seq ?_
        refine run_draw [(0,.pure),(2,.pure),(5,.pure),(7,.pure),(1,.read),(3,.pure),(4,.read),(6,.read),(8,.pure),(9,.read),(10,.pure)] (by kernel_rfl) (by kernel_rfl) (List.Sublist.refl _) ?_;(first|refine k_fa0 rfl zq ?_|refine k_fa rfl zq ?_);refine mq rfl ?_;(first|refine k_fa0 rfl zq ?_|refine k_fa rfl zq ?_);refine mq rfl ?_;refine k_ldh rfl zq ?_
        obtain ⟨m3,o3,rfl⟩:=rdk.ptr (by omega)
        refine k_ixs rfl zq (by first|rfl|assumption) (by omega) (by omega) ?_;refine k_ldN (vs:=skL (b.sticks.getD w default)) rfl zq rfl (rdk.eat w (by omega) (by omega)) ?_;refine k_ldh rfl zq ?_;obtain ⟨n3,u3,rfl⟩:=rdk2.ptr (by omega)
        refine k_ixs rfl zq (by first|rfl|assumption) (by omega) (by omega) ?_;refine k_ldN (vs:=skL (b2.sticks.getD w default)) rfl zq rfl (rdk2.eat w (by omega) (by omega)) ?_;refine k_neqSk (hg:=by kernel_rfl) rfl zq (fun hc=>?_) (fun hc=>?_)
        ·have hx:=hc
         refine d58 ?_
         refine run_res (h) rfl Tryz.func58 rfl weakSub ?_;refine hK _ _ ?_;first
          |(have hmk:b.sticks=b2.sticks:=by
             rw [List.take_of_length_le (by omega),List.take_of_length_le (by omega)] at hew
             exact hew
            exact ⟨rfl,IsB.yes (fb_ext (by omega) hmp hmt hmk)⟩)
          |exact ⟨rfl,IsB.no (fun e=>by
          have e1:=congrArg Fb.plank e
          have e2:=congrArg (fun x:Fb=>x.pts.length) e
          have e3:=congrArg (fun x:Fb=>x.tapes.length) e
          have e4:=congrArg (fun x:Fb=>x.sticks.length) e
          first|omega|(rw [e] at hx;exact hx ⟨rfl,rfl,rfl⟩)|(rw [e] at hx;exact hx ⟨rfl,rfl,rfl,rfl⟩))⟩
        ·have hx:=hc
         refine d13 ?_;refine d109 ?_
         exact m.weak weakSub (hnext3 _ _ _ (by omega) ⟨w+1,rfl,by omega,same_take (by omega) (by omega) hew (sk_ext hx),exU rfl,rfl⟩)
       ·refine d75 ?_;refine d38 ?_
        refine run_res (h) rfl Tryz.func58 rfl weakSub ?_;refine hK _ _ ?_;first
         |(have hmk:b.sticks=b2.sticks:=by
            rw [List.take_of_length_le (by omega),List.take_of_length_le (by omega)] at hew
            exact hew
           exact ⟨rfl,IsB.yes (fb_ext (by omega) hmp hmt hmk)⟩)
         |exact ⟨rfl,IsB.no (fun e=>by
         have e1:=congrArg Fb.plank e
         have e2:=congrArg (fun x:Fb=>x.pts.length) e
         have e3:=congrArg (fun x:Fb=>x.tapes.length) e
         have e4:=congrArg (fun x:Fb=>x.sticks.length) e
         first|omega|(rw [e] at hx;exact hx ⟨rfl,rfl,rfl⟩)|(rw [e] at hx;exact hx ⟨rfl,rfl,rfl,rfl⟩))⟩
theorem setSeg_encs {α:Type} {k:Nat} [Enc α k] {xs:List α} {junk:List Value} {j:Int} {i:Nat} (a:α) (hj:j=i) (hi:i<xs.length):SetSeg (encs xs++junk) (0+j.toNat*k) (Enc.enc a) (encs (xs.set i a)++junk):=by
 subst hj
 have hl:(Enc.enc a).length=k:=Enc.len a
 have hle:i*k+k≤(encs xs).length:=by
  rw [encs_length];have:(i+1)*k≤xs.length*k:=Nat.mul_le_mul_right k hi
  rw [Nat.add_mul] at this
  omega
 refine ⟨?_,by rw [Int.toNat_natCast,hl,List.length_append];omega⟩
 rw [Int.toNat_natCast,Nat.zero_add,hl,List.take_append_of_le_length (by omega),List.drop_append_of_le_length (by omega),←encs_take,show i*k+k=(i+1)*k by rw [Nat.add_mul];omega,←encs_drop,List.set_eq_take_append_cons_drop,if_pos hi,encs_append];simp [encs]
theorem own_blk_of {t k n:Nat} {v:Value} {cs:List Value} {new:Hp} (o:OwnS t k v n cs new) (h0:0<n): ∃q cap junk,v= .slice (some ⟨q,0,none⟩) n cap∧new=[⟨true,q,.cells (cs++junk).toArray t (0,0)⟩]∧n≤cap∧cs.length+junk.length=cap*k:=by
 cases o with
 |nil=>omega
 |blk hl hc hn=>exact ⟨_,_,_,rfl,rfl,hn,hc⟩
def measS0 (b:Fb) (st lo hi:Int):Int:=if fbS b≠0 then fbS b else if¬(0≤st∧st≤(b.pts.length:Int)-1) then 6 else if¬(0≤lo∧lo≤hi∧hi≤959) then 1
 else if max (b.pts.getD st.toNat default).lo lo>min (b.pts.getD st.toNat default).hi hi then 9 else 0
def measB0 (b:Fb) (st lo hi:Int):Fb:=setP b st.toNat (max (b.pts.getD st.toNat default).lo lo) (min (b.pts.getD st.toNat default).hi hi)
def measS (b:Fb) (st lo hi:Int):Int:=if measS0 b st lo hi≠0 then measS0 b st lo hi else openS (measB0 b st lo hi) 0
def measF (b:Fb) (st lo hi:Int):Fb:=if measS0 b st lo hi≠0 then noF else agreeF (measB0 b st lo hi)
theorem setSeg_part {xs:List Pt} {junk:List Value} {j:Int} {i:Nat} {lo hi:Int} (hj:j=i) (h:i<xs.length):SetSeg (encs xs++junk) (0+j.toNat*3+1) [.int .i64 lo,.int .i64 hi] (encs (xs.set i ⟨(xs.getD i default).h,lo,hi⟩)++junk):=by
 obtain ⟨s1,s2⟩:=(setSeg_encs (junk:=junk) (⟨(xs.getD i default).h,lo,hi⟩:Pt) hj h).eq
 subst hj
 have hd:xs.drop i=xs.getD i default::xs.drop (i+1):=by
  rw [List.drop_eq_getElem_cons h,List.getD_eq_getElem?_getD,List.getElem?_eq_getElem h];rfl
 have hl:i*3≤(encs xs).length:=by rw [encs_length];omega
 have hg:(encs xs++junk)[i*3]?=some (.int .i64 (xs.getD i default).h):=by
  have e:(encs xs++junk).drop (i*3)=encs (xs.drop i)++junk:=by rw [List.drop_append_of_le_length hl,encs_drop]
  have e2:((encs xs++junk).drop (i*3))[0]?=some (.int .i64 (xs.getD i default).h):=by rw [e,hd];rfl
  rw [List.getElem?_drop] at e2
  simpa using e2
 have hlen:(Enc.enc (⟨(xs.getD i default).h,lo,hi⟩:Pt):List Value).length=3:=rfl
 rw [Int.toNat_natCast,Nat.zero_add] at s1 s2⊢
 rw [hlen] at s1 s2
 refine ⟨?_,by show i*3+1+2≤_;omega⟩
 rw [s1,List.take_add_one,hg];show List.take (i*3) (encs xs++junk)++[Value.int .i64 (xs.getD i default).h,.int .i64 lo,.int .i64 hi]++List.drop (i*3+3) (encs xs++junk)=List.take (i*3) (encs xs++junk)++[Value.int .i64 (xs.getD i default).h]++[.int .i64 lo,.int .i64 hi]++List.drop (i*3+1+2) (encs xs++junk)
 simp only [List.append_assoc,List.cons_append,List.nil_append]
theorem f71_c (m:Md Tryz.prog B) (h:Hp) (rdp:Rp B h b pp np cp) (hp:np≤1000) {i:Nat} (hi':i<np) (lo hi:Int):FnC m 71 #[fbV b pp np cp pt nt ct pk nk ck,.int .i64 (i:Int),.agg [.int .i64 lo,.int .i64 hi].toArray] h fun v h'=> ∃new,h'=h++new∧ ∃pp2 cp2,v=fbV (setP b i lo hi) pp2 np cp2 pt nt ct pk nk ck∧np≤cp2∧RdS B new 3 (.slice pp2 np cp2) np (encs (setP b i lo hi).pts):=by
 have hml:=rdp.elen (by decide)
 refine fn_enter Tryz.func71 rfl rfl (l:=(fbV b pp np cp pt nt ct pk nk ck)::(.int .i64 (i:Int))::(.agg [.int .i64 lo,.int .i64 hi].toArray)::uu18) rfl ?_
 intro cf cs K hK
 refine rs3 ?_;refine k_box rfl zq (fun q3=>k_hp (k_put ?_));refine k_box rfl zq (fun q5=>k_hp (k_put ?_));refine k_new rfl zq (fun q6=>k_hp (k_put ?_));refine k_nil ?_;refine d94 ?_;refine k_new rfl zq (fun q7=>k_hp (k_put ?_));refine d48 ?_;refine rs6 ?_
 refine k_bs0 kdq rfl zq (fun q9=>k_hp (k_put ?_));refine d2 ?_
 refine k_appO rfl zq (OwnS.zero (q:=q9)) rdp.up (encs_one _) kdq (by omega) (by omega) (fun w12 n12 o12=>k_put ?_);replace o12:OwnS 80 3 w12 np (encs b.pts) n12:=by simpa using o12
 obtain ⟨qm,cp2,junk,rfl,rfl,hcp,hcc⟩:=own_blk_of o12 (by omega)
 refine d141 ?_;refine rs7 ?_;refine d2 ?_;refine mq rfl ?_;refine k_ldA rfl zq ?_;refine d20 ?_
 haveI hsg:SetSeg (encs b.pts++junk) (0+(i:Int).toNat*3+1) [.int .i64 lo,.int .i64 hi] (encs (b.pts.set i ⟨(b.pts.getD i default).h,lo,hi⟩)++junk):=setSeg_part rfl (by omega)
 refine d48 ?_;refine d113 ?_;refine d91 ?_
 refine run_res (h++[⟨true,qm,.cells (encs (b.pts.set i ⟨(b.pts.getD i default).h,lo,hi⟩)++junk).toArray 80 (0,0)⟩]) rfl Tryz.func71 rfl weakSub ?_;refine hK _ _ ?_;exact ⟨_,rfl,_,_,rfl,hcp,(OwnS.blk (t:=80) (k:=3) (n:=np) (cap:=cp2) (b:=qm) (cs:=encs (b.pts.set i ⟨(b.pts.getD i default).h,lo,hi⟩)) (junk:=junk) (by rw [encs_length,List.length_set,hml]) (by rw [encs_length,List.length_set];rw [encs_length] at hcc;exact hcc) hcp).rd (List.Sublist.refl _)⟩
theorem f70_c (m:Md Tryz.prog B) (h:Hp) (rdp:Rp B h b pp np cp) (hp:np≤1000) (rdt:Rt B h b pt nt ct) (ht:nt≤1000) (rdk:Rk B h b pk nk ck) (hk:nk≤1000) (st lo hi:Int):FnC m 70 #[fbV b pp np cp pt nt ct pk nk ck,.int .i64 st,.agg [.int .i64 lo,.int .i64 hi].toArray] h fun v h'=> ∃nw,h'=h++nw∧ ∃w,v= .tuple [w,.int .i64 (measS b st lo hi)].toArray∧BkF B (measF b st lo hi) nw w:=by
 have hml:=rdp.elen (by decide)
 have htl:=rdt.elen (by decide)
 have hkl:=rdk.elen (by decide)
 refine fn_enter Tryz.func70 rfl rfl (l:=(fbV b pp np cp pt nt ct pk nk ck)::(.int .i64 st)::(.agg [.int .i64 lo,.int .i64 hi].toArray)::uu65) rfl ?_
 intro cf cs K hK
 refine rs4 ?_;refine k_box rfl zq (fun q3=>k_hp (k_put ?_));refine k_box rfl zq (fun q5=>k_hp (k_put ?_));refine k_new rfl zq (fun q6=>k_hp (k_put ?_));refine d12 ?_;refine d94 ?_
 refine k_calP (Post:=fun v=>v=_) rfl zq (by kernel_rfl) (fun H' hH=>f21_c m H' (rdp.keeps (sq hH)) hp (rdt.keeps (sq hH)) ht (rdk.keeps (sq hH)) hk) ?_;rintro v rfl;refine d135 ?_
 refine k_neqS rfl zq (fun hc=>?_) (fun hc=>?_)
 ·refine d7 ?_;refine rs4 ?_
  have hS:measS0 b st lo hi=fbS b:=by rw [measS0,if_pos hc]
  refine d112 ?_;refine d70 ?_
  refine run_res (h) rfl Tryz.func70 rfl weakSub ?_;refine hK _ _ ?_;exact ⟨[],by simp,_,by rw [measS,if_pos (by rw [hS];first|decide|assumption),hS],by rw [measF,if_pos (by rw [hS];first|decide|assumption)];exact BkF.zero⟩
 ·refine d37 ?_;refine run_seq ?_
  have hz:fbS b=0:=by omega
  have hv:=fbS_zero hz
  have hv1:=hv.pts.five
  have hS0:measS0 b st lo hi=measS0 b st lo hi:=rfl
  conv at hS0=>rhs;rw [measS0,if_neg (fun e=>e hz)]
  refine run_drawT [0,1,2,3,4,5] (by kernel_rfl) (by kernel_rfl) (List.Sublist.refl _) ?_;refine DrawT.leaf [(0,.pure),(2,.read),(3,.pure),(1,.keep),(4,.keep),(5,.pure)] (by kernel_rfl) ?_
  refine mq rfl ?_;refine d131 ?_
  refine k_calC rfl zq (by kernel_rfl) (Post:=fun v nw=> ∃q,nw=[⟨true,q,.cells [.int .i64 st].toArray 3 (0,0)⟩]∧v= .func (.func 162) #[] [.pointer (some ⟨q,0,none⟩)].toArray) (fun H' hH=>f108_c m H' st) ?_;rintro v nw ⟨qs,rfl,rfl⟩;refine k_hpA (k_put ?_);refine k_valP (Post:=fun v=>v=_) rfl zq callB162 (fun H' hH=>by simpa using f162_c m H' hp ((rd_has (q:=qs)).keeps hH)) ?_;rintro v rfl;refine d135 ?_
  refine k_neqS rfl zq (fun hc=>?_) (fun hc=>?_)
  ·refine d7 ?_;refine rs4 ?_
   have hS:measS0 b st lo hi=6:=by rw [hS0,if_pos (by rw [hml];intro e;rw [if_pos e] at hc;exact absurd rfl hc)]
   refine d112 ?_;refine d70 ?_
   refine run_res (h) rfl Tryz.func70 rfl weakSub ?_;refine hK _ _ ?_;have hn: ¬(0≤st∧st≤(np:Int)-1):=fun e=>hc (if_pos e)
   rw [if_neg hn];exact ⟨[],by simp,_,by rw [measS,if_pos (by rw [hS];decide),hS],by rw [measF,if_pos (by rw [hS];decide)];exact BkF.zero⟩
  ·refine d37 ?_;refine run_seq ?_
   have hst:0≤st∧st≤(np:Int)-1:=Classical.byContradiction fun e=>by rw [if_neg e] at hc;exact absurd hc (by decide)
   refine rr3 ?_;refine k_ldA rfl zq ?_;refine k_calP (Post:=fun v=>IsB _ v) rfl zq (by kernel_rfl) (fun H' hH=>f143_c m H' _ _ _ _) ?_;rintro v (⟨hc,rfl⟩|⟨hc,rfl⟩)
   ·refine d43 ?_;refine d37 ?_
    obtain ⟨i,rfl⟩:=Int.eq_ofNat_of_zero_le (show 0≤st by omega)
    obtain ⟨mb,mo,rfl⟩:=rdp.ptr (by omega)
    refine rr8 ?_;refine d2 ?_;refine mq rfl ?_;refine d20 ?_;refine k_ldN (vs:=[.int .i64 (b.pts.getD i default).lo,.int .i64 (b.pts.getD i default).hi]) rfl zq rfl (rdp.eatF i 1 (by omega) (by omega) rfl) ?_;refine k_new rfl zq (fun q10=>k_hp (k_put ?_));refine d129 ?_
    refine run_region [(0,.free),(1,.free),(2,.free),(3,.free),(4,.free),(5,.free),(6,.free),(7,.free),(8,.free),(9,.free),(10,.free),(11,.free),(12,.free)] (by kernel_rfl) (by kernel_rfl) ?_;refine d2 ?_;refine d2 ?_;refine k_max rfl zq ?_;refine d2 ?_;refine d2 ?_;refine k_min rfl zq ?_;refine k_bld rfl zq ?_
    refine k_new rfl zq (fun q11=>k_hp (k_put ?_));refine d129 ?_;refine rs5 ?_;refine d2 ?_;refine d2 ?_
    refine k_gtrS rfl zq (fun hc=>?_) (fun hc=>?_)
    ·refine d7 ?_;refine rs3 ?_
     have hS:measS0 b (i:Int) lo hi=9:=by rw [hS0,if_neg (fun e=>e (by omega)),if_neg (fun e=>e (by omega)),if_pos (by rw [Int.toNat_natCast];show (max (b.pts.getD i default).lo lo)>(min (b.pts.getD i default).hi hi);omega)]
     refine k_bld rfl zq ?_;refine d70 ?_;refine run_res (h) rfl Tryz.func70 rfl weakSub ?_;refine hK _ _ ?_;exact ⟨[],by simp,_,by rw [measS,if_pos (by rw [hS];first|decide|assumption),hS],by rw [measF,if_pos (by rw [hS];first|decide|assumption)];exact BkF.zero⟩
    ·refine d37 ?_
     have hS:measS0 b (i:Int) lo hi=0:=by rw [hS0,if_neg (fun e=>e (by omega)),if_neg (fun e=>e (by omega)),if_neg (by rw [Int.toNat_natCast];show¬(max (b.pts.getD i default).lo lo)>(min (b.pts.getD i default).hi hi);omega)]
     refine rr5 ?_;refine d2 ?_;refine k_calC rfl zq (by kernel_rfl) (fun H' hH=>f144_c m H' (rdp.keeps (sq hH)) hp) ?_;rintro v n1 o1;obtain ⟨qm,cp2,junk,rfl,rfl,hcp,hcc⟩:=own_blk_of o1 (by omega)
     refine k_hpA (k_put ?_);refine d141 ?_;refine rs7 ?_;refine d2 ?_;refine mq rfl ?_;refine k_ldA rfl zq ?_;refine d20 ?_
     haveI hsg:SetSeg (encs b.pts++junk) (0+(i:Int).toNat*3+1) [.int .i64 (max (b.pts.getD i default).lo lo),.int .i64 (min (b.pts.getD i default).hi hi)] (encs (b.pts.set i ⟨(b.pts.getD i default).h,(max (b.pts.getD i default).lo lo),(min (b.pts.getD i default).hi hi)⟩)++junk):=setSeg_part rfl (by omega)
     refine d129 ?_
     have rM:RdS B [⟨true,qm,.cells (encs (b.pts.set i ⟨(b.pts.getD i default).h,(max (b.pts.getD i default).lo lo),(min (b.pts.getD i default).hi hi)⟩)++junk).toArray 80 (0,0)⟩] 3 (.slice (some ⟨qm,0,none⟩) np cp2) np (encs (setP b i (max (b.pts.getD i default).lo lo) (min (b.pts.getD i default).hi hi)).pts):=(OwnS.blk (t:=80) (k:=3) (n:=np) (cap:=cp2) (b:=qm) (cs:=encs (b.pts.set i ⟨(b.pts.getD i default).h,(max (b.pts.getD i default).lo lo),(min (b.pts.getD i default).hi hi)⟩)) (junk:=junk) (by rw [encs_length,List.length_set,hml]) (by rw [encs_length,List.length_set];rw [encs_length] at hcc;exact hcc) hcp).rd (List.Sublist.refl _)
     refine rr6 ?_;refine k_ldA rfl zq ?_;refine k_calC rfl zq (by kernel_rfl) (fun H' hH=>f141_c m H' (b:=(setP b i (max (b.pts.getD i default).lo lo) (min (b.pts.getD i default).hi hi))) (rM.keeps (sq hH)) hp (rdt.keeps (sq hH)) ht (rdk.keeps (sq hH)) hk) ?_;rintro v n5 ⟨w5,rfl,hb5⟩;obtain ⟨pp5,np5,cp5,pt5,nt5,ct5,pk5,nk5,ck5,rfl,hr5⟩:=hb5
     refine k_hpA (k_put ?_);refine d17 ?_;refine d70 ?_
     refine run_res (h++n5) rfl Tryz.func70 rfl weakSub ?_;refine hK _ _ ?_;have eB0:measB0 b (i:Int) lo hi=(setP b i (max (b.pts.getD i default).lo lo) (min (b.pts.getD i default).hi hi)):=by rw [measB0,Int.toNat_natCast]
     exact ⟨n5,rfl,_,by rw [measS,if_neg (fun e=>e hS),eB0],by rw [measF,if_neg (fun e=>e hS),eB0];exact ⟨_,_,_,_,_,_,_,_,_,rfl,hr5⟩⟩
   ·refine d44 ?_;refine d7 ?_;refine rs3 ?_
    have hS:measS0 b st lo hi=1:=by rw [hS0,if_neg (fun e=>e (by omega)),if_pos (by omega)]
    refine k_bld rfl zq ?_;refine d70 ?_;refine run_res (h) rfl Tryz.func70 rfl weakSub ?_;refine hK _ _ ?_;exact ⟨[],by simp,_,by rw [measS,if_pos (by rw [hS];first|decide|assumption),hS],by rw [measF,if_pos (by rw [hS];first|decide|assumption)];exact BkF.zero⟩
end Go.Proofs
namespace Go.Proofs
open Go.Lo
open Go.Conc (G)
set_option maxRecDepth 100000
set_option synthInstance.maxSize 100000
set_option synthInstance.maxHeartbeats 1000000
set_option maxHeartbeats 4000000
variable {B:Array Obj}
variable [LaidF B]
theorem fold_min (a:Int) (l:List Int) (y:Int):y≤l.foldl min a↔y≤a∧ ∀z∈l,y≤z:=by
 induction l generalizing a with
 |nil=>simp
 |cons c r ih=>
  have e:y≤min a c↔y≤a∧y≤c:=by omega
  rw [List.foldl_cons,ih,e,and_assoc];simp only [List.mem_cons,forall_eq_or_imp]
theorem fold_max (a:Int) (l:List Int) (y:Int):l.foldl max a<y↔a<y∧ ∀z∈l,z<y:=by
 induction l generalizing a with
 |nil=>simp
 |cons c r ih=>
  have e:max a c<y↔a<y∧c<y:=by omega
  rw [List.foldl_cons,ih,e,and_assoc];simp only [List.mem_cons,forall_eq_or_imp]
theorem le_minL {ys:List Int} (h:ys≠[]) (y:Int):y≤minL ys↔ ∀z∈ys,y≤z:=by
 cases ys with
 |nil=>exact absurd rfl h
 |cons a r=>
  show y≤(List.drop 1 (a::r)).foldl min a↔_
  rw [fold_min];simp
theorem maxL_lt {ys:List Int} (h:ys≠[]) (y:Int):maxL ys<y↔ ∀z∈ys,z<y:=by
 cases ys with
 |nil=>exact absurd rfl h
 |cons a r=>
  show (List.drop 1 (a::r)).foldl max a<y↔_
  rw [fold_max];simp
theorem breadths_le {b:Fb} {s:Int} {k:Nat} {ys:List Int} (h: ∀z,z∈ys↔z∈breadthsAt (openL b (openS b s)) k) (ha:Asc ys):ys.length≤1000000:=by
 have h1:=List.Nodup.length_le_of_subset (l₂:=breadthsAt (openL b (openS b s)) k) (asc_nodup ha) fun z hz=>(h z).1 hz
 have h2:(openL b (openS b s)).length≤243:=by
  unfold openL
  split
  ·simp
  ·rename_i h
   exact boatsOf_le (fbS_zero (openS_zero (Classical.not_not.1 h)).1).pts
 rw [breadthsAt,List.length_map] at h1
 omega
end Go.Proofs
namespace Go.Proofs
open Go.Lo
open Go.Conc (G)
set_option maxRecDepth 100000
set_option synthInstance.maxSize 100000
set_option synthInstance.maxHeartbeats 1000000
set_option maxHeartbeats 4000000
variable {b:Fb} {pp:Option Addr} {np cp:Nat} {pt:Option Addr} {nt ct:Nat} {pk:Option Addr} {nk ck:Nat}
variable {B:Array Obj}
variable [LaidF B]
theorem _root_.Go.Lo.PtsOk.lt {pts:List Pt} (k:PtsOk pts): ∀(d i:Nat),i+d+1<pts.length→(pts.getD i default).h<(pts.getD (i+d+1) default).h
 |0,i,h=>k.up i (by omega)
 |d+1,i,h=>by
  have h1:=k.lt d i (by omega)
  have h2:=k.up (i+d+1) (by omega)
  rw [show i+(d+1)+1=i+d+1+1 by omega];omega
theorem _root_.Go.Lo.PtsOk.ends {pts:List Pt} (k:PtsOk pts):(pts.getD 0 default).h<(pts.getD (pts.length-1) default).h:=by
 have h2:=k.two
 have:=k.lt (pts.length-2) 0 (by omega)
 rw [show 0+(pts.length-2)+1=pts.length-1 by omega] at this
 exact this
theorem f48_c (m:Md Tryz.prog B) (h:Hp) (rdp:Rp B h b pp np cp) (rdt:Rt B h b pt nt ct) (rdk:Rk B h b pk nk ck):FnC m 48 #[fbV b pp np cp pt nt ct pk nk ck] h fun v h'=>h'=h∧IsB (np≤20∧nt≤20∧nk≤20∧fbS b=0) v:=by
 refine fn_enter Tryz.func48 rfl rfl (l:=(fbV b pp np cp pt nt ct pk nk ck)::uu10) rfl ?_
 intro cf cs K hK
 refine rs2 ?_;refine k_box rfl zq (fun q1=>k_hp (k_put ?_));refine aq rfl ?_;refine rs9 ?_;refine k_ldA rfl zq ?_
 refine k_calP (Post:=fun v=>IsB _ v) rfl zq (by kernel_rfl) (fun H' hH=>f17_c m H') ?_;rintro v (⟨hc,rfl⟩|⟨hc,rfl⟩)
 ·refine d43 ?_;refine d52 ?_;refine d72 ?_;refine d0 ?_
  refine run_res (h) rfl Tryz.func48 rfl weakSub ?_;refine hK _ _ ?_;first|exact ⟨rfl,IsB.yes ⟨by omega,by omega,by omega,by omega⟩⟩|exact ⟨rfl,IsB.no (by omega)⟩
 ·refine d44 ?_;refine mq rfl ?_;refine k_ldA rfl rfl ?_
  refine k_calP (Post:=fun v=>v=_) rfl rfl (by kernel_rfl) (fun H' hH=>f22_c m H' (rdp.keeps (sq hH)) (by omega) (rdt.keeps (sq hH)) (by omega) (rdk.keeps (sq hH)) (by omega)) ?_;rintro v rfl;refine k_put ?_;refine k_eqlS rfl rfl (fun hc=>?_) (fun hc=>?_)
  ·refine d92 ?_
   refine run_res (h) rfl Tryz.func48 rfl weakSub ?_;refine hK _ _ ?_;first|exact ⟨rfl,IsB.yes ⟨by omega,by omega,by omega,by omega⟩⟩|exact ⟨rfl,IsB.no (by omega)⟩
  ·refine d92 ?_
   refine run_res (h) rfl Tryz.func48 rfl weakSub ?_;refine hK _ _ ?_;first|exact ⟨rfl,IsB.yes ⟨by omega,by omega,by omega,by omega⟩⟩|exact ⟨rfl,IsB.no (by omega)⟩
theorem f51_c (m:Md Tryz.prog B) (h:Hp) (rdp:Rp B h b pp np cp) (hp:np≤1000) (hv:FOk b) (z:Nat) (hz:z≤65535):FnC m 51 #[fbV b pp np cp pt nt ct pk nk ck,.int .u16 (z:Int)] h fun v h'=>h'=h∧ ∃x:Int,v= .int .i64 x∧(b.pts.getD 0 default).h≤x∧x≤(b.pts.getD (np-1) default).h:=by
 have hml:=rdp.elen (by decide)
 have h2:=hv.pts.two
 have he:=hv.pts.ends
 rw [hml] at he
 have h0:=hv.pts.at (i:=0) (by omega)
 have h1:=hv.pts.at (i:=np-1) (by omega)
 refine fn_enter Tryz.func51 rfl rfl (l:=(fbV b pp np cp pt nt ct pk nk ck)::(.int .u16 (z:Int))::uu21) rfl ?_
 intro cf cs K hK
 refine rs2 ?_;refine k_box rfl zq (fun q2=>k_hp (k_put ?_));refine d12 ?_
 refine run_draw [(0,.pure),(5,.pure),(7,.pure),(15,.pure),(16,.pure),(1,.read),(2,.pure),(3,.pure),(4,.read),(6,.read),(8,.read),(9,.pure),(10,.pure),(11,.pure),(12,.pure),(13,.read),(14,.keep),(17,.keep),(18,.pure)] (by kernel_rfl) (by kernel_rfl) (List.Sublist.refl _) ?_;refine d8 ?_;(first|refine k_fa0 rfl zq ?_|refine k_fa rfl zq ?_);refine mq rfl ?_
 refine k_conv rfl zq (by kernel_rfl) (n':=(z:Int)) (by unfold IntKind.wrap;simp [IntKind.bits,IntKind.signed];omega) ?_;refine k_ldh rfl zq ?_;obtain ⟨rdp_b,rdp_o,rfl⟩:=rdp.ptr (by omega)
 refine d20 ?_
 refine k_ld rfl zq (rdp.fat (v:= .int .i64 (b.pts.getD 0 default).h) 0 0 (by omega) (by omega) rfl) ?_;refine d81 ?_;refine d71 ?_;refine d20 ?_
 refine k_ld rfl zq (rdp.fat (v:= .int .i64 (b.pts.getD (np-1) default).h) (np-1) 0 (by omega) (by omega) rfl) ?_;refine k_calP (Post:=fun v=>v=_) rfl zq (by kernel_rfl) (fun H' hH=>f61_c m H' _ _) ?_;rintro v rfl;refine k_put ?_;refine k_calP (Post:=fun v=>v=_) rfl zq (by kernel_rfl) (fun H' hH=>f60_c m H' _ _ z (by omega) (by omega)) ?_;rintro v rfl;refine k_put ?_;have hz7:=Nat.mod_lt z (show 0<((b.pts.getD (np-1) default).h-(b.pts.getD 0 default).h+1).toNat by omega)
 refine d0 ?_
 refine run_res (h) rfl Tryz.func51 rfl weakSub ?_;refine hK _ _ ?_;exact ⟨rfl,_,rfl,by omega,by omega⟩
theorem f52_c (m:Md Tryz.prog B) (h:Hp) (hn:2≤np) (hp:np≤1000) (z:Nat) (hz:z≤255):FnC m 52 #[fbV b pp np cp pt nt ct pk nk ck,.int .u8 (z:Int)] h fun v h'=>h'=h∧ ∃f t:Nat,v= .tuple [.int .i64 (f:Int),.int .i64 (t:Int)].toArray∧f<t∧t<np:=by
 refine fn_enter Tryz.func52 rfl rfl (l:=(fbV b pp np cp pt nt ct pk nk ck)::(.int .u8 (z:Int))::uu19) rfl ?_
 intro cf cs K hK
 refine rs3 ?_;refine k_box rfl zq (fun q2=>k_hp (k_put ?_));refine d46 ?_;refine rs9 ?_;refine mq rfl ?_
 refine k_conv rfl zq (by kernel_rfl) (n':=(z:Int)) (by unfold IntKind.wrap;simp [IntKind.bits,IntKind.signed];omega) ?_;refine d2 ?_;refine d71 ?_;refine k_remT rfl zq (by omega) ?_
 obtain ⟨w,hw⟩: ∃w,w=np-1:=⟨_,rfl⟩
 rw [show (z:Int).tmod ((np:Int)-1)=((z%w:Nat):Int) by rw [show (np:Int)-1=(w:Int) by omega];exact (Int.ofNat_tmod z w).symm];have hzw:=Nat.mod_lt z (show 0<w by omega)
 generalize z%w=t at hzw⊢
 refine k_add rfl zq (by unfold In64;omega) ?_;refine aq rfl ?_;refine rs8 ?_;refine mq rfl ?_;refine k_conv rfl zq (by kernel_rfl) (n':=(z:Int)) (by unfold IntKind.wrap;simp [IntKind.bits,IntKind.signed];omega) ?_;refine k_quo z 8 rfl zq rfl rfl (by omega) (by omega) ?_;refine mq rfl ?_;refine k_remT rfl zq (by omega) ?_
 rw [show ((z/8:Nat):Int).tmod (1+(t:Int))=((z/8%(1+t):Nat):Int) from (Int.ofNat_tmod (z/8) (1+t)).symm];have hft:=Nat.mod_lt (z/8) (show 0<1+t by omega)
 refine mq rfl ?_;refine d27 ?_
 refine run_res (h) rfl Tryz.func52 rfl weakSub ?_;refine hK _ _ ?_;exact ⟨rfl,_,1+t,rfl,hft,by omega⟩
end Go.Proofs
namespace Go.Proofs
open Go.Lo
open Go.Conc (G)
set_option maxRecDepth 100000
set_option synthInstance.maxSize 100000
set_option synthInstance.maxHeartbeats 1000000
set_option maxHeartbeats 4000000
variable {B:Array Obj}
variable [LaidF B]
theorem mem_min {ys:List Int} {z:Int} (h:z∈ys):minL ys≤z:=(le_minL (fun e=>by rw [e] at h;simp at h) (minL ys)).1 (Int.le_refl _) z h
theorem mem_max {ys:List Int} {z:Int} (h:z∈ys):z≤maxL ys:=Classical.byContradiction fun e=>by
 have:=(maxL_lt (ys:=ys) (fun e=>by rw [e] at h;simp at h) z).1 (by omega) z h
 omega
theorem min_le_max {ys:List Int} (h:ys≠[]):minL ys≤maxL ys:=by
 obtain ⟨z,hz⟩:=List.exists_mem_of_ne_nil _ h
 have:=mem_min hz;have:=mem_max hz;omega
theorem lean_take (b:Fb) (ll:List (List Int)): ∀k,0<k→k≤ll.length→ ∀i,i<k→areaI b.pts (bestBy (ltArea b) (ll.take k))≤areaI b.pts (ll.getD i [])
 |0,h,_,_,_=>by omega
 |k+1,_,hk,i,hi=>by
  rcases Nat.eq_zero_or_pos k with e|e
  ·subst e
   rw [bestBy_one,show i=0 by omega];exact Int.le_refl _
  ·have ih:=lean_take b ll k e (by omega)
   rw [bestBy_succ (ltArea b) ll k e (by omega)];by_cases h:ltArea b (ll.getD k []) (bestBy (ltArea b) (ll.take k))=true
   ·rw [if_pos h];have h2:areaI b.pts (ll.getD k [])<areaI b.pts (bestBy (ltArea b) (ll.take k)):=of_decide_eq_true h
    rcases Nat.lt_or_ge i k with h3|h3
    ·have:=ih i h3;omega
    ·rw [show i=k by omega];exact Int.le_refl _
   ·rw [if_neg h];have h2: ¬areaI b.pts (ll.getD k [])<areaI b.pts (bestBy (ltArea b) (ll.take k)):=fun x=>h (decide_eq_true x)
    rcases Nat.lt_or_ge i k with h3|h3
    ·exact ih i h3
    ·rw [show i=k by omega];omega
theorem lean_min {b:Fb} {ll:List (List Int)} (h:ll≠[]):areaI b.pts (leanL b ll)=minL (ll.map fun l=>areaI b.pts l):=by
 have hl:=List.length_pos_iff.2 h
 have hm:=bestBy_mem (ltArea b) ll hl
 have h1:minL (ll.map fun l=>areaI b.pts l)≤areaI b.pts (leanL b ll):=mem_min (List.mem_map.2 ⟨_,hm,rfl⟩)
 have h2:areaI b.pts (leanL b ll)≤minL (ll.map fun l=>areaI b.pts l):=(le_minL (by simpa using h) _).2 fun z hz=>by
  obtain ⟨l,hl2,rfl⟩:=List.mem_map.1 hz
  obtain ⟨i,hi,rfl⟩:=List.getElem_of_mem hl2
  have:=lean_take b ll ll.length hl (Nat.le_refl _) i hi
  rw [List.take_length,List.getD_eq_getElem?_getD,List.getElem?_eq_getElem hi] at this
  exact this
 omega
theorem ptsS_of {pts:List Pt} (k:PtsOk pts):ptsS pts=0:=by
 have h2:=k.two
 have h5:=k.five
 unfold ptsS
 rw [if_neg (by omega)];refine scanS_all fun i hi=>?_
 obtain ⟨o1,o2,o3⟩:=k.ok (pts.getD i default) (mem_getDR.2 ⟨i,hi,rfl⟩)
 unfold ptS
 rw [if_neg (by omega),if_neg,if_neg (by omega)];rintro ⟨h0,h1⟩;have:=k.up (i-1) (by omega)
 rw [show i-1+1=i by omega] at this
 omega
theorem fbS_of {b:Fb} (v:FOk b):fbS b=0:=by
 have hp:=v.plank
 have hf:=v.few
 have hf':=v.few'
 have e1:plankS b=0:=by rw [plankS,if_neg (by omega),ptsS_of v.pts]
 have e2:tapesS b=0:=by
  unfold tapesS
  rw [if_neg (by omega)];refine scanS_all fun i hi=>?_
  have h:=v.tapes (b.tapes.getD i default) (mem_getDR.2 ⟨i,hi,rfl⟩)
  generalize b.tapes.getD i default=q at h
  unfold okTp at h
  show tpS b.pts.length q=0
  unfold tpS
  have e:ordS b.pts.length q.f q.t=0:=by rw [ordS,if_neg (by omega),if_neg (by omega)]
  rw [e,if_neg (fun x=>x rfl),if_neg (by omega)]
 have e3:sticksS b=0:=by
  unfold sticksS
  rw [if_neg (by omega)];refine scanS_all fun i hi=>?_
  have h:=v.sticks (b.sticks.getD i default) (mem_getDR.2 ⟨i,hi,rfl⟩)
  generalize b.sticks.getD i default=q at h
  unfold okSk at h
  show skS b.pts q=0
  unfold skS
  rw [if_neg (by omega)]
 rw [fbS,e1,if_neg (fun x=>x rfl),e2,if_neg (fun x=>x rfl),e3]
theorem setP_len (b:Fb) (s:Nat) (lo hi:Int):(setP b s lo hi).pts.length=b.pts.length:=by simp [setP]
theorem setP_at {b:Fb} {s:Nat} (lo hi:Int) (hs:s<b.pts.length) (i:Nat):(setP b s lo hi).pts.getD i default=if i=s then ⟨(b.pts.getD s default).h,lo,hi⟩ else b.pts.getD i default:=by
 show (b.pts.set s ⟨(b.pts.getD s default).h,lo,hi⟩).getD i default=_
 rw [List.getD_eq_getElem?_getD,List.getElem?_set];by_cases e:s=i
 ·subst e
  rw [if_pos rfl,if_pos hs,if_pos rfl];rfl
 ·rw [if_neg e,if_neg (fun x=>e x.symm),List.getD_eq_getElem?_getD]
theorem setP_h {b:Fb} {s:Nat} (lo hi:Int) (hs:s<b.pts.length) (i:Nat):((setP b s lo hi).pts.getD i default).h=(b.pts.getD i default).h:=by
 rw [setP_at lo hi hs];split
 ·rename_i e
  rw [e]
 ·rfl
theorem setP_ok {b:Fb} (v:FOk b) {s:Nat} {lo hi:Int} (hs:s<b.pts.length) (h1:(b.pts.getD s default).lo≤lo) (h2:lo≤hi) (h3:hi≤(b.pts.getD s default).hi):FOk (setP b s lo hi):=by
 have hl:=setP_len b s lo hi
 refine ⟨v.plank,⟨by rw [hl];exact v.pts.two,by rw [hl];exact v.pts.five,fun x hx=>?_,fun i hi'=>?_⟩,v.few,fun t ht=>?_,v.few',fun k hk=>?_⟩
 ·obtain ⟨i,hi',rfl⟩:=mem_getDR.1 hx
  rw [hl] at hi'
  obtain ⟨o1,o2,o3⟩:=v.pts.ok (b.pts.getD i default) (mem_getDR.2 ⟨i,hi',rfl⟩)
  rw [setP_at lo hi hs];split
  ·rename_i e
   subst e
   exact ⟨o1,⟨by show 0≤lo;omega,h2,by show hi≤959;omega⟩,by show hi-lo<3;omega⟩
  ·exact ⟨o1,o2,o3⟩
 ·rw [hl] at hi'
  rw [setP_h lo hi hs,setP_h lo hi hs];exact v.pts.up i hi'
 ·have:=v.tapes t ht
  unfold okTp at this⊢
  rw [hl];exact this
 ·have:=v.sticks k hk
  unfold okSk at this⊢
  rw [hl,setP_h lo hi hs,setP_h lo hi hs];exact this
theorem atI_h {p q:List Pt} (h: ∀i,(p.getD i default).h=(q.getD i default).h) (hl:p.length=q.length) (l:List Int) (x:Int):atI p l x=atI q l x:=by
 have e:segN p x=segN q x:=by
  unfold segN
  have hm:(p.drop 1).map (·.h)=(q.drop 1).map (·.h):=by
   refine List.ext_getElem? fun i=>?_
   rw [List.getElem?_map,List.getElem?_map,List.getElem?_drop,List.getElem?_drop];have:=h (1+i)
   rw [List.getD_eq_getElem?_getD,List.getD_eq_getElem?_getD] at this
   rcases Nat.lt_or_ge (1+i) p.length with h1|h1
   ·rw [List.getElem?_eq_getElem h1,List.getElem?_eq_getElem (hl▸h1)] at this⊢
    simpa using this
   ·rw [List.getElem?_eq_none h1,List.getElem?_eq_none (by omega)]
  have ht: ∀(a:List Pt),((a.takeWhile fun p=>decide (p.h<x)).length)=((a.map (·.h)).takeWhile fun z=>decide (z<x)).length:=fun a=>by
   induction a with
   |nil=>rfl
   |cons c r ih=>
    rw [List.map_cons,List.takeWhile_cons,List.takeWhile_cons];by_cases hc:c.h<x
    ·simp [hc,ih]
    ·simp [hc]
  rw [ht,ht,hm]
 unfold atI
 simp only [e,h]
theorem girthF_h {p q:List Pt} (h: ∀i,(p.getD i default).h=(q.getD i default).h) (l:List Int) (f:Nat): ∀k,girthF p l f k=girthF q l f k
 |0=>rfl
 |k+1=>by simp only [girthF,girthF_h h l f k,sideI,h]
theorem right_h {b:Fb} {s:Nat} (lo hi:Int) (hs:s<b.pts.length) (l:List Int):rightF (setP b s lo hi) l↔rightF b l:=by
 have e1: ∀x,atI (setP b s lo hi).pts l x=atI b.pts l x:=fun x=>atI_h (setP_h lo hi hs) (setP_len b s lo hi) l x
 have e2: ∀f t,girthI (setP b s lo hi).pts l f t=girthI b.pts l f t:=fun f t=>girthF_h (setP_h lo hi hs) l _ _
 unfold rightF tapeOk stickOk
 simp only [e1,e2]
 exact Iff.rfl
theorem mem_setP {b:Fb} {s:Nat} {lo hi:Int} (hs:s<b.pts.length) (h1:(b.pts.getD s default).lo≤lo) (h3:hi≤(b.pts.getD s default).hi) {l:List Int}:l∈boatsOf (setP b s lo hi)↔l∈boatsOf b∧lo≤l.getD s 0∧l.getD s 0≤hi:=by
 rw [mem_boats,mem_boats,setP_len,right_h lo hi hs];unfold spansF
 constructor
 ·rintro ⟨a,c,d⟩;have hcs:=c s (by omega)
  rw [setP_at lo hi hs,if_pos rfl] at hcs
  refine ⟨⟨a,fun i hi'=>?_,d⟩,hcs.1,hcs.2⟩
  have:=c i hi'
  rw [setP_at lo hi hs] at this
  split at this
  ·rename_i e
   subst e
   have t1:lo≤l.getD i 0:=this.1
   have t2:l.getD i 0≤hi:=this.2
   omega
  ·exact this
 ·rintro ⟨⟨a,c,d⟩,e1,e2⟩;refine ⟨a,fun i hi'=>?_,d⟩
  rw [setP_at lo hi hs];split
  ·rename_i e
   subst e
   exact ⟨e1,e2⟩
  ·exact c i hi'
theorem nodup_ext {ll:List (List Int)} {x:Sp} (h:ll.Nodup):(extL ll x).Nodup:=by
 unfold extL List.Nodup
 rw [List.pairwise_flatMap];constructor
 ·intro l _
  unfold ext1
  rw [List.pairwise_map];have hsp:(spanL x).Pairwise (· ≠ ·):=by
   unfold spanL
   rw [List.pairwise_map];exact List.Pairwise.imp (fun {a c} hac e=>by omega) List.pairwise_lt_range
  exact List.Pairwise.imp (fun {a c} hac e=>hac (by
   have:=(List.append_inj' e rfl).2
   simpa using this)) hsp
 ·refine List.Pairwise.imp (fun {l k} hlk x hx y hy e=>hlk ?_) h
  unfold ext1 at hx hy
  obtain ⟨a,_,rfl⟩:=List.mem_map.1 hx
  obtain ⟨c,_,rfl⟩:=List.mem_map.1 hy
  exact (List.append_inj' e rfl).1
theorem nodup_lines (b:Fb): ∀k,k≤b.pts.length→(linesK b k).Nodup
 |0,_=>by rw [linesK_zero];simp
 |k+1,h=>by rw [linesK_succ b (by omega)];exact nodup_ext (nodup_lines b k (by omega))
theorem nodup_boats (b:Fb):(boatsOf b).Nodup:=List.Pairwise.sublist List.filter_sublist (nodup_lines b _ (Nat.le_refl _))
end Go.Proofs
namespace Go.Proofs
open Go.Lo
open Go.Conc (G)
set_option maxRecDepth 100000
set_option synthInstance.maxSize 100000
set_option synthInstance.maxHeartbeats 1000000
set_option maxHeartbeats 4000000
variable {b:Fb} {pp:Option Addr} {np cp:Nat} {pt:Option Addr} {nt ct:Nat} {pk:Option Addr} {nk ck:Nat}
variable {B:Array Obj}
variable [LaidF B]
structure Knows (b o:Fb):Prop where
 fb:fbS b=0
 fo:fbS o=0
 len:o.pts.length=b.pts.length
 hs: ∀i,(o.pts.getD i default).h=(b.pts.getD i default).h
 sub: ∀l∈boatsOf o,l∈boatsOf b
 ne:boatsOf o≠[]
theorem Knows.was {b o:Fb} (k:Knows b o):boatsOf b≠[]:=by
 obtain ⟨l,hl⟩:=List.exists_mem_of_ne_nil _ k.ne
 exact List.ne_nil_of_mem (k.sub l hl)
theorem Knows.le {b o:Fb} (k:Knows b o):(boatsOf o).length≤(boatsOf b).length:=List.Nodup.length_le_of_subset (nodup_boats o) k.sub
theorem Knows.min {b o:Fb} (k:Knows b o) {f g:List Int→Int} (e: ∀l,g l=f l):minL ((boatsOf b).map f)≤minL ((boatsOf o).map g):=by
 refine (le_minL (by simpa using k.ne) _).2 fun z hz=>?_
 obtain ⟨l,hl,rfl⟩:=List.mem_map.1 hz
 rw [e];exact mem_min (List.mem_map.2 ⟨l,k.sub l hl,rfl⟩)
theorem Knows.max {b o:Fb} (k:Knows b o) {f g:List Int→Int} (e: ∀l,g l=f l):maxL ((boatsOf o).map g)≤maxL ((boatsOf b).map f):=by
 refine Int.le_of_lt_add_one ((maxL_lt (by simpa using k.ne) _).2 fun z hz=>?_)
 obtain ⟨l,hl,rfl⟩:=List.mem_map.1 hz
 rw [e];have:=mem_max (List.mem_map.2 ⟨l,k.sub l hl,rfl⟩:f l∈(boatsOf b).map f)
 omega
theorem Knows.at {b o:Fb} (k:Knows b o) (l:List Int) (x:Int):atI o.pts l x=atI b.pts l x:=atI_h k.hs k.len l x
theorem Knows.girth {b o:Fb} (k:Knows b o) (l:List Int) (f t:Int):girthI o.pts l f t=girthI b.pts l f t:=girthF_h k.hs l _ _
theorem areaF_h {p q:List Pt} (h: ∀i,(p.getD i default).h=(q.getD i default).h) (l:List Int): ∀k,areaF p l k=areaF q l k
 |0=>rfl
 |k+1=>by simp only [areaF,areaF_h h l k,h]
theorem Knows.area {b o:Fb} (k:Knows b o) (l:List Int):areaI o.pts l=areaI b.pts l:=by
 unfold areaI
 rw [k.len,areaF_h k.hs]
theorem Knows.lean {b o:Fb} (k:Knows b o):minL ((boatsOf b).map fun l=>areaI b.pts l)≤minL ((boatsOf o).map fun l=>areaI o.pts l):=k.min fun l=>k.area l
theorem Knows.clears {b o:Fb} (k:Knows b o) (x y:Int):clearsI b x y=0∨clearsI b x y=clearsI o x y:=by
 have h1:=k.min (f:=fun l=>atI b.pts l x) (g:=fun l=>atI o.pts l x) fun l=>k.at l x
 have h2:=k.max (f:=fun l=>atI b.pts l x) (g:=fun l=>atI o.pts l x) fun l=>k.at l x
 have h3:minL ((boatsOf o).map fun l=>atI o.pts l x)≤maxL ((boatsOf o).map fun l=>atI o.pts l x):=min_le_max (by simpa using k.ne)
 unfold clearsI
 split
 ·rw [if_pos (by omega)];exact .inr rfl
 ·split
  ·rw [if_neg (by omega),if_pos (by omega)];exact .inr rfl
  ·exact .inl rfl
theorem Knows.breadths {b o:Fb} (k:Knows b o) {xs ys:List Int} {s:Nat} (h1: ∀z,z∈xs↔z∈breadthsAt (boatsOf o) s) (h2: ∀z,z∈ys↔z∈breadthsAt (boatsOf b) s): ∀x∈xs,x∈ys:=fun x hx=>by
 obtain ⟨l,hl,e⟩:=List.mem_map.1 ((h1 x).1 hx)
 exact (h2 x).2 (List.mem_map.2 ⟨l,k.sub l hl,e⟩)
theorem tape_knows {b:Fb} {t:Tp} (h0:fbS b=0) (h:tapeS b t=0):tapeF b t=addT b t∧Knows b (addT b t):=by
 rw [tapeS,if_neg (fun e=>e h0)] at h
 obtain ⟨e1,_,e2⟩:=openS_zero h
 exact ⟨by rw [tapeF,if_neg (fun e=>e h0),agreeF,if_pos h],h0,e1,rfl,fun _=>rfl,fun l hl=>boats_sub (b:=addT b t) (c:=b) rfl (fun t ht=>List.mem_append_left _ ht) (fun k hk=>hk) hl,e2⟩
theorem tape_not {b:Fb} {t:Tp} (h0:fbS b=0) (h:tapeS b t≠0):tapeF b t=noF:=by
 rw [tapeS,if_neg (fun e=>e h0)] at h
 rw [tapeF,if_neg (fun e=>e h0),agreeF,if_neg h]
theorem stick_knows {b:Fb} {t:Sk} (h0:fbS b=0) (h:stickS b t=0):stickF b t=addK b t∧Knows b (addK b t):=by
 rw [stickS,if_neg (fun e=>e h0)] at h
 obtain ⟨e1,_,e2⟩:=openS_zero h
 exact ⟨by rw [stickF,if_neg (fun e=>e h0),agreeF,if_pos h],h0,e1,rfl,fun _=>rfl,fun l hl=>boats_sub (b:=addK b t) (c:=b) rfl (fun k hk=>hk) (fun t ht=>List.mem_append_left _ ht) hl,e2⟩
theorem stick_not {b:Fb} {t:Sk} (h0:fbS b=0) (h:stickS b t≠0):stickF b t=noF:=by
 rw [stickS,if_neg (fun e=>e h0)] at h
 rw [stickF,if_neg (fun e=>e h0),agreeF,if_neg h]
theorem meas_knows {b:Fb} {s:Nat} {lo hi:Int} (h0:fbS b=0) (hs:s<b.pts.length):
  (measS b (s:Int) lo hi=0∧measF b (s:Int) lo hi=setP b s (max (b.pts.getD s default).lo lo) (min (b.pts.getD s default).hi hi)∧Knows b (setP b s (max (b.pts.getD s default).lo lo) (min (b.pts.getD s default).hi hi)))∨
  ((measS b (s:Int) lo hi=1∨measS b (s:Int) lo hi=9)∧measF b (s:Int) lo hi=noF):=by
 unfold measS measF
 by_cases e0:measS0 b (s:Int) lo hi=0
 ·rw [if_neg (fun e=>e e0),if_neg (fun e=>e e0)];unfold measS0 at e0
  rw [if_neg (fun e=>e h0),if_neg (by omega),Int.toNat_natCast] at e0
  split at e0
  ·exact absurd e0 (by decide)
  ·rename_i hr
   split at e0
   ·exact absurd e0 (by decide)
   ·rename_i hc
    unfold measB0 agreeF
    rw [Int.toNat_natCast];have hk:=setP_ok (fbS_zero h0) hs (lo:=max (b.pts.getD s default).lo lo) (hi:=min (b.pts.getD s default).hi hi) (by omega) (by omega) (by omega)
    have hz:=fbS_of hk
    by_cases he:boatsOf (setP b s (max (b.pts.getD s default).lo lo) (min (b.pts.getD s default).hi hi))=[]
    ·have e9:=openS_9 (own:=0) hz rfl he
     rw [e9];exact .inr ⟨.inr rfl,if_neg (by decide)⟩
    ·have e9:=openS_0 (own:=0) hz rfl he
     rw [e9];exact .inl ⟨rfl,if_pos rfl,h0,hz,setP_len b s _ _,setP_h _ _ hs,fun l hl=>((mem_setP hs (by omega) (by omega)).1 hl).1,he⟩
 ·rw [if_pos e0,if_pos e0];refine .inr ⟨?_,rfl⟩
  unfold measS0 at e0⊢
  rw [if_neg (fun e=>e h0),if_neg (by omega)] at e0⊢
  split at e0
  ·rename_i h
   rw [if_pos h];exact .inl rfl
  ·rename_i h
   rw [if_neg h];split at e0
   ·rename_i h
    rw [if_pos h];exact .inr rfl
   ·exact absurd rfl e0
theorem take_inside {xs ys:List Int} {k:Nat} (hk:k<xs.length):(∀x∈xs.take (k+1),x∈ys)↔(∀x∈xs.take k,x∈ys)∧xs.getD k 0∈ys:=by
 rw [List.take_add_one,List.getElem?_eq_getElem hk,List.getD_eq_getElem?_getD,List.getElem?_eq_getElem hk];simp only [Option.toList_some,List.mem_append,List.mem_singleton,Option.getD_some]
 constructor
 ·intro h
  exact ⟨fun x hx=>h x (.inl hx),h _ (.inr rfl)⟩
 ·rintro ⟨h1,h2⟩ x (hx|rfl)
  ·exact h1 x hx
  ·exact h2
theorem f150_c (m:Md Tryz.prog B) (h:Hp) {p:Option Addr} {n c:Nat} {xs:List Int} (rd:RdS B h 1 (.slice p n c) n (ints xs)) (hn:n≤1000000) {p2:Option Addr} {n2 c2:Nat} {ys:List Int} (rd2:RdS B h 1 (.slice p2 n2 c2) n2 (ints ys)) (hn2:n2≤1000000):FnC m 150 #[.slice p n c,.slice p2 n2 c2] h fun v h'=>h'=h∧IsB (∀x∈xs,x∈ys) v:=by
 have hl:=rd.ilen
 refine fn_enter Tryz.func150 rfl rfl (l:=(.slice p n c)::(.slice p2 n2 c2)::uu17) rfl ?_
 intro cf cs K hK
 refine d93 ?_;refine d142 ?_
 refine run_loop (fun nn l h'=> ∃(k:Nat),nn=n-k∧(k≤n)∧(∀x∈xs.take k,x∈ys)∧(∃U:Nat→Value,l=((.slice p n c)::(.slice p2 n2 c2)::(U 2)::(U 3)::(U 4)::(.int .i64 (k:Int))::vw13 U 6 []))∧h=h') _ ⟨0,rfl,by omega,by simp,exU rfl,rfl⟩ ?_;rintro nn l h' ⟨k,rfl,hk,hal,⟨U,rfl⟩,rfl⟩ hnext;refine run_seq ?_;refine d120 ?_;refine k_lssS rfl zq (fun hc=>?_) (fun hc=>?_)
 ·refine d98 ?_;refine rs7 ?_;refine d3 ?_;refine mq rfl ?_
  obtain ⟨rd_b,rd_o,rfl⟩:=rd.ptr (by omega)
  refine k_ixs rfl zq (by first|rfl|assumption) (by omega) (by omega) ?_;refine k_ld rfl zq (rd.iat k (by omega) (by omega)) ?_;refine k_calP (Post:=fun v=>IsB _ v) rfl zq (by kernel_rfl) (fun H' hH=>f54_c _ H' _ (rd2.keeps (sq hH)) hn2) ?_;rintro v (⟨hc,rfl⟩|⟨hc,rfl⟩)
  ·refine k_put ?_;have hc2:=hc
   refine k_notT rfl zq ?_;refine d13 ?_;refine d109 ?_;exact m.weak weakSub (hnext _ _ _ (by omega) ⟨k+1,rfl,by omega,(take_inside (by omega)).2 ⟨hal,hc2⟩,exU rfl,rfl⟩)
  ·refine d44 ?_;refine d58 ?_
   refine run_res (h) rfl Tryz.func150 rfl weakSub ?_;refine hK _ _ ?_;exact ⟨rfl,IsB.no fun hall=>hc (hall _ (mem_getD.2 ⟨k,by omega,rfl⟩))⟩
 ·refine d75 ?_;refine d38 ?_
  refine run_res (h) rfl Tryz.func150 rfl weakSub ?_;refine hK _ _ ?_;exact ⟨rfl,IsB.yes (by rw [List.take_of_length_le (by omega)] at hal;exact hal)⟩
theorem f79_c (m:Md Tryz.prog B) (h:Hp) (rdp:Rp B h b pp np cp) (hp:np≤1000) (rdt:Rt B h b pt nt ct) (ht:nt≤1000) (rdk:Rk B h b pk nk ck) (hk:nk≤1000) {o:Fb} {pp2:Option Addr} {np2 cp2:Nat} {pt2:Option Addr} {nt2 ct2:Nat} {pk2:Option Addr} {nk2 ck2:Nat} (rdp2:RdS B h 3 (.slice pp2 np2 cp2) np2 (encs o.pts)) (hp2:np2≤1000) (rdt2:RdS B h 4 (.slice pt2 nt2 ct2) nt2 (encs o.tapes)) (ht2:nt2≤1000) (rdk2:RdS B h 3 (.slice pk2 nk2 ck2) nk2 (encs o.sticks)) (hk2:nk2≤1000) (k:Knows b o) (z x0 y0:Nat) (hzz:z≤65535) (hx0:x0≤255) (hyy:y0≤65535):FnC m 79 #[fbV b pp np cp pt nt ct pk nk ck,fbV o pp2 np2 cp2 pt2 nt2 ct2 pk2 nk2 ck2,.int .u16 (z:Int),.int .u8 (x0:Int),.int .u16 (y0:Int)] h fun v h'=>h'=h∧v= .bool true:=by
 have hv:=fbS_zero k.fb
 have hv1:=hv.pts.five
 have hv2:=hv.pts.two
 have hml:=rdp.elen (by decide)
 have hml2:=rdp2.elen (by decide)
 have hkl:=k.len
 have ob:=openS_0 (own:=0) k.fb rfl k.was
 have oo:=openS_0 (own:=0) k.fo rfl k.ne
 refine fn_enter Tryz.func79 rfl rfl (l:=[fbV b pp np cp pt nt ct pk nk ck,fbV o pp2 np2 cp2 pt2 nt2 ct2 pk2 nk2 ck2,.int .u16 (z:Int),.int .u8 (x0:Int),.int .u16 (y0:Int),undef,undef,undef,undef,undef,undef,undef,undef,undef,undef,undef,undef,undef,undef,undef,undef,undef,undef,undef,undef,undef,undef,undef,undef,undef,undef,undef,undef,undef,undef,undef,undef,undef,undef,undef,undef,undef,undef,undef,undef,undef,undef,undef,undef,undef,undef,undef,undef,undef,undef,undef,undef,undef,undef,undef,undef,undef,undef,undef,undef,undef,undef,undef,undef,undef,undef,undef,undef,undef,undef,undef,undef,undef,undef,undef,undef,undef,undef,undef,undef,undef,undef,undef,undef,undef,undef,undef,undef,undef,undef,undef,undef,undef,undef,undef,undef,undef,undef,undef,undef,undef,undef,undef,undef,undef,undef,undef,undef,undef,undef,undef,undef,undef,undef,undef,undef,undef,undef,undef,undef,undef,undef,undef,undef,undef,undef,undef,undef,undef,undef,undef,undef,undef,undef,undef,undef,undef,undef,undef,undef,undef,undef,undef,undef,undef,undef,undef,undef,undef,undef,undef,undef,undef,undef,undef,undef,undef,undef,undef,undef,undef,undef,undef,undef,undef,undef,undef,undef,undef,undef,undef,undef,undef,undef,undef,undef,undef,undef,undef,undef,undef,undef,undef,undef,undef,undef,undef,undef,undef,undef,undef,undef,undef,undef,undef,undef,undef,undef,undef,undef,undef,undef,undef,undef,undef,undef,undef,undef,undef,undef,undef,undef,undef,undef,undef,undef,undef,undef]) rfl ?_
 intro cf cs K hK
 refine rs3 ?_;refine k_box rfl zq (fun q5=>k_hp (k_put ?_));refine k_box rfl zq (fun q6=>k_hp (k_put ?_));refine aq rfl ?_;refine rs8 ?_;refine d69 ?_
 refine k_calP (Post:=fun v=> ∃x:Int,v= .int .i64 x∧(b.pts.getD 0 default).h≤x∧x≤(b.pts.getD (np-1) default).h) rfl zq (by kernel_rfl) (fun H' hH=>f51_c _ H' (b:=b) (rdp.keeps (sq hH)) hp hv z hzz) ?_;rintro v ⟨x,rfl,hx1,hx2⟩;refine k_put ?_;have hxo:(o.pts.getD 0 default).h≤x∧x≤(o.pts.getD (np2-1) default).h:=by rw [k.hs,k.hs,show np2=np by omega];exact ⟨hx1,hx2⟩
 refine mq rfl ?_
 refine k_conv rfl zq (by kernel_rfl) (n':=(y0:Int)) (by unfold IntKind.wrap;simp [IntKind.bits,IntKind.signed];omega) ?_;refine k_remT rfl zq (by decide) ?_;rw [show (y0:Int).tmod 960=((y0%960:Nat):Int) from (Int.ofNat_tmod y0 960).symm];have hy960:=Nat.mod_lt y0 (show 0<960 by omega)
 generalize y0%960=y at hy960⊢
 refine d46 ?_;refine rs8 ?_;refine d69 ?_
 refine k_calP (Post:=fun v=> ∃f t:Nat,v= .tuple [.int .i64 (f:Int),.int .i64 (t:Int)].toArray∧f<t∧t<np) rfl zq (by kernel_rfl) (fun H' hH=>f52_c _ H' (b:=b) (by omega) hp x0 hx0) ?_;rintro v ⟨f,t,rfl,hft,htn⟩;refine d134 ?_;refine rs7 ?_;refine k_ldA rfl zq ?_
 refine k_calP (Post:=fun v=>v= .tuple [.int .i64 (((boatsOf b).length:Nat)),.int .i64 0].toArray) rfl zq (by kernel_rfl) (fun H' hH=>by have:=f34_c m H' (b:=b) (rdp.keeps (sq hH)) hp (rdt.keeps (sq hH)) ht (rdk.keeps (sq hH)) hk;rw [orNo_yes k.fb] at this;exact this) ?_;rintro v rfl;refine d134 ?_;refine rs7 ?_;refine k_ldA rfl zq ?_
 refine k_calP (Post:=fun v=>v= .tuple [.int .i64 (((boatsOf o).length:Nat)),.int .i64 0].toArray) rfl zq (by kernel_rfl) (fun H' hH=>by have:=f34_c m H' (b:=o) (rdp2.keeps (sq hH)) hp2 (rdt2.keeps (sq hH)) ht2 (rdk2.keeps (sq hH)) hk2;rw [orNo_yes k.fo] at this;exact this) ?_;rintro v rfl;refine d134 ?_;refine rs8 ?_;refine d69 ?_
 refine k_calC rfl zq (by kernel_rfl) (Post:=fun v new=> ∃w ys,v= .tuple [w,.int .i64 (openS b (if 0≤(t:Int)∧(t:Int)≤(np:Int)-1 then 0 else 6))].toArray∧OwnS 3 1 w ys.length (ints ys) new∧Asc ys∧ ∀z,z∈ys↔z∈breadthsAt (openL b (openS b (if 0≤(t:Int)∧(t:Int)≤(np:Int)-1 then 0 else 6))) (t:Int).toNat) (fun H' hH=>f36_c _ H' (b:=b) (rdp.keeps (sq hH)) hp (rdt.keeps (sq hH)) ht (rdk.keeps (sq hH)) hk (t:Int)) ?_;rintro v n36b ⟨w36b,yb,rfl,o36b,ha36b,hm36b⟩;refine k_hpA (k_put ?_);obtain ⟨p36b,c36b,rfl,_,r36b⟩:=own_rdA (B:=B) o36b
 have hylb:=breadths_le hm36b ha36b
 rw [if_pos (by omega),ob,openL,if_neg (fun e=>e rfl),Int.toNat_natCast] at hm36b
 rw [if_pos (by omega),ob];refine d40 ?_;refine d46 ?_;refine rs8 ?_;refine d69 ?_
 refine k_calC rfl zq (by kernel_rfl) (Post:=fun v new=> ∃w ys,v= .tuple [w,.int .i64 (openS o (if 0≤(t:Int)∧(t:Int)≤(np2:Int)-1 then 0 else 6))].toArray∧OwnS 3 1 w ys.length (ints ys) new∧Asc ys∧ ∀z,z∈ys↔z∈breadthsAt (openL o (openS o (if 0≤(t:Int)∧(t:Int)≤(np2:Int)-1 then 0 else 6))) (t:Int).toNat) (fun H' hH=>f36_c _ H' (b:=o) (rdp2.keeps (sq hH)) hp2 (rdt2.keeps (sq hH)) ht2 (rdk2.keeps (sq hH)) hk2 (t:Int)) ?_;rintro v n36o ⟨w36o,yo,rfl,o36o,ha36o,hm36o⟩;refine k_hpA (k_put ?_);obtain ⟨p36o,c36o,rfl,_,r36o⟩:=own_rdA (B:=B) o36o
 have hylo:=breadths_le hm36o ha36o
 rw [if_pos (by omega),oo,openL,if_neg (fun e=>e rfl),Int.toNat_natCast] at hm36o
 rw [if_pos (by omega),oo];refine d40 ?_;refine d46 ?_;refine rs9 ?_;refine d69 ?_
 refine k_calP (Post:=fun v=>v= .tuple [.agg [.int .i64 (minL ((boatsOf b).map fun l=>atI b.pts l x)),.int .i64 (maxL ((boatsOf b).map fun l=>atI b.pts l x))].toArray,.int .i64 0].toArray) rfl zq (by kernel_rfl) (fun H' hH=>by have:=f38_c m H' (b:=b) (rdp.keeps (sq hH)) hp (rdt.keeps (sq hH)) ht (rdk.keeps (sq hH)) hk x;rw [if_pos ⟨hx1,hx2⟩,spanT_yes ob] at this;exact this) ?_;rintro v rfl;refine d78 ?_
 refine k_new rfl zq (fun q23=>k_hp (k_put ?_));refine k_stA rfl zq rfl ?_;refine aq rfl ?_;refine rs9 ?_;refine d69 ?_;refine k_calP (Post:=fun v=>v= .tuple [.agg [.int .i64 (minL ((boatsOf o).map fun l=>atI o.pts l x)),.int .i64 (maxL ((boatsOf o).map fun l=>atI o.pts l x))].toArray,.int .i64 0].toArray) rfl zq (by kernel_rfl) (fun H' hH=>by have:=f38_c m H' (b:=o) (rdp2.keeps (sq hH)) hp2 (rdt2.keeps (sq hH)) ht2 (rdk2.keeps (sq hH)) hk2 x;rw [if_pos hxo,spanT_yes oo] at this;exact this) ?_;rintro v rfl;refine d78 ?_
 refine k_new rfl zq (fun q25=>k_hp (k_put ?_));refine k_stA rfl zq rfl ?_;refine aq rfl ?_;refine rs10 ?_;refine k_ldA rfl zq ?_;refine d3 ?_;refine k_calP (Post:=fun v=>v= .tuple [.agg [.int .i64 (minL ((boatsOf b).map fun l=>girthI b.pts l (f:Int) (t:Int))),.int .i64 (maxL ((boatsOf b).map fun l=>girthI b.pts l (f:Int) (t:Int)))].toArray,.int .i64 0].toArray) rfl zq (by kernel_rfl) (fun H' hH=>by have:=f40_c m H' (b:=b) (rdp.keeps (sq hH)) hp (rdt.keeps (sq hH)) ht (rdk.keeps (sq hH)) hk (f:Int) (t:Int);rw [show ordS np (f:Int) (t:Int)=0 by rw [ordS,if_neg (by omega),if_neg (by omega)],spanT_yes ob] at this;exact this) ?_;rintro v rfl;refine d78 ?_
 refine k_new rfl zq (fun q27=>k_hp (k_put ?_));refine k_stA rfl zq rfl ?_;refine aq rfl ?_;refine rs10 ?_;refine k_ldA rfl zq ?_;refine d3 ?_;refine k_calP (Post:=fun v=>v= .tuple [.agg [.int .i64 (minL ((boatsOf o).map fun l=>girthI o.pts l (f:Int) (t:Int))),.int .i64 (maxL ((boatsOf o).map fun l=>girthI o.pts l (f:Int) (t:Int)))].toArray,.int .i64 0].toArray) rfl zq (by kernel_rfl) (fun H' hH=>by have:=f40_c m H' (b:=o) (rdp2.keeps (sq hH)) hp2 (rdt2.keeps (sq hH)) ht2 (rdk2.keeps (sq hH)) hk2 (f:Int) (t:Int);rw [show ordS np2 (f:Int) (t:Int)=0 by rw [ordS,if_neg (by omega),if_neg (by omega)],spanT_yes oo] at this;exact this) ?_;rintro v rfl;refine d78 ?_
 refine k_new rfl zq (fun q29=>k_hp (k_put ?_));refine k_stA rfl zq rfl ?_;refine aq rfl ?_;refine rs9 ?_;refine k_ldA rfl zq ?_;refine d3 ?_;refine k_calP (Post:=fun v=>v= .tuple [.int .i64 (clearsI b x (y:Int)),.int .i64 0].toArray) rfl zq (by kernel_rfl) (fun H' hH=>by have:=f44_c m H' (b:=b) (rdp.keeps (sq hH)) hp (rdt.keeps (sq hH)) ht (rdk.keeps (sq hH)) hk x (y:Int);rw [if_pos ⟨⟨hx1,hx2⟩,by omega,by omega⟩,orNo_yes ob] at this;exact this) ?_;rintro v rfl;refine d134 ?_;refine rs9 ?_;refine k_ldA rfl zq ?_;refine d3 ?_
 refine k_calP (Post:=fun v=>v= .tuple [.int .i64 (clearsI o x (y:Int)),.int .i64 0].toArray) rfl zq (by kernel_rfl) (fun H' hH=>by have:=f44_c m H' (b:=o) (rdp2.keeps (sq hH)) hp2 (rdt2.keeps (sq hH)) ht2 (rdk2.keeps (sq hH)) hk2 x (y:Int);rw [if_pos ⟨hxo,by omega,by omega⟩,orNo_yes oo] at this;exact this) ?_;rintro v rfl;refine d134 ?_;refine rs9 ?_;refine k_ldA rfl zq ?_
 refine k_calC rfl zq (by kernel_rfl) (Post:=fun v new=> ∃w,v= .tuple [w,.int .i64 (if openS b 0≠0 then 0 else areaI b.pts (leanL b (boatsOf b))),.int .i64 (openS b 0)].toArray∧RdI B new w (if openS b 0≠0 then [] else leanL b (boatsOf b))) (fun H' hH=>f46_c _ H' (b:=b) (rdp.keeps (sq hH)) hp (rdt.keeps (sq hH)) ht (rdk.keeps (sq hH)) hk) ?_;rintro v n46b ⟨w46b,rfl,p46b,c46b,rfl,r46b⟩;refine k_hpA (k_put ?_);rw [if_neg (show¬openS b 0≠0 from fun e=>e ob),lean_min k.was,ob];refine d40 ?_;refine k_ext2 rfl zq ?_;refine k_as rfl zq ?_;refine d46 ?_;refine rs9 ?_;refine k_ldA rfl zq ?_
 refine k_calC rfl zq (by kernel_rfl) (Post:=fun v new=> ∃w,v= .tuple [w,.int .i64 (if openS o 0≠0 then 0 else areaI o.pts (leanL o (boatsOf o))),.int .i64 (openS o 0)].toArray∧RdI B new w (if openS o 0≠0 then [] else leanL o (boatsOf o))) (fun H' hH=>f46_c _ H' (b:=o) (rdp2.keeps (sq hH)) hp2 (rdt2.keeps (sq hH)) ht2 (rdk2.keeps (sq hH)) hk2) ?_;rintro v n46o ⟨w46o,rfl,p46o,c46o,rfl,r46o⟩;refine k_hpA (k_put ?_);rw [if_neg (show¬openS o 0≠0 from fun e=>e oo),lean_min k.ne,oo];refine d40 ?_;refine k_ext2 rfl zq ?_;refine k_as rfl zq ?_;refine d97 ?_;refine run_seq ?_
 refine run_region [(0,.free),(1,.free),(2,.free),(3,.free),(4,.free),(5,.free),(6,.free),(7,.free),(8,.free),(9,.free),(10,.free),(11,.free),(12,.free),(13,.free),(14,.free),(15,.free),(16,.free),(17,.free),(18,.free),(19,.free),(20,.free),(21,.free),(22,.free),(23,.free),(24,.free),(25,.free),(26,.free),(27,.free),(28,.free),(29,.free),(30,.free),(31,.free),(32,.free),(33,.free),(34,.free),(35,.free),(36,.free),(37,.free),(38,.free),(39,.free),(40,.free),(41,.free),(42,.free),(43,.free),(44,.free),(45,.free)] (by kernel_rfl) (by kernel_rfl) ?_;refine mq rfl ?_;refine k_neqF rfl zq rfl ?_;refine d23 ?_;refine k_neqF rfl rfl rfl ?_;refine k_pickF rfl zq ?_;refine d23 ?_;refine k_neqF rfl rfl rfl ?_;refine k_pickF rfl zq ?_;refine d23 ?_;refine k_neqF rfl rfl rfl ?_;refine k_pickF rfl zq ?_;refine d23 ?_;refine k_neqF rfl rfl rfl ?_;refine k_pickF rfl zq ?_;refine d23 ?_;refine k_neqF rfl rfl rfl ?_;refine k_pickF rfl zq ?_;refine d23 ?_;refine k_neqF rfl rfl rfl ?_;refine k_pickF rfl zq ?_;refine d23 ?_;refine k_neqF rfl rfl rfl ?_;refine k_pickF rfl zq ?_;refine d23 ?_;refine k_neqF rfl rfl rfl ?_;refine k_pickF rfl zq ?_;refine d23 ?_;refine k_neqF rfl rfl rfl ?_;refine k_pickF rfl zq ?_;refine d23 ?_;refine k_neqF rfl rfl rfl ?_;refine k_pickF rfl zq ?_;refine d23 ?_;refine k_neqF rfl rfl rfl ?_;refine k_pickF rfl zq ?_;refine d37 ?_
 have hcl:=k.clears x (y:Int)
 have hb1:=k.le
 have hb2:=List.length_pos_iff.2 k.ne
 refine run_region [(0,.free),(1,.free),(2,.free),(3,.free),(4,.free),(5,.free),(6,.free),(7,.free),(8,.free),(9,.free),(10,.free),(11,.free),(12,.free),(13,.free),(14,.free),(15,.free),(16,.free),(17,.free),(18,.free),(19,.free),(20,.free),(21,.free),(22,.free),(23,.free),(24,.free),(25,.free),(26,.free),(27,.free),(28,.free),(29,.free),(30,.free),(31,.free),(32,.free),(33,.free),(34,.free),(35,.free),(36,.free),(37,.free),(38,.free),(39,.free),(40,.free),(41,.free),(42,.free),(43,.free),(44,.free),(45,.free),(46,.free),(47,.free),(48,.free),(49,.free),(50,.free)] (by kernel_rfl) (by kernel_rfl) ?_;refine d3 ?_
 refine k_calP (Post:=fun v=>IsB _ v) rfl zq (by kernel_rfl) (fun H' hH=>f55_c _ H' _ _ _) ?_;rintro v (⟨hc,rfl⟩|⟨hc,rfl⟩)
 ·refine k_put ?_;refine d23 ?_;refine k_mv rfl rfl ?_;refine k_calP (Post:=fun v=>IsB _ v) rfl rfl (by kernel_rfl) (fun H' hH=>f150_c _ H' (r36o.keeps (sq hH)) hylo (r36b.keeps (sq hH)) hylb) ?_;rintro v (⟨hc,rfl⟩|⟨hc,rfl⟩)
  ·refine k_put ?_;refine k_pickT rfl zq ?_;refine mq rfl ?_;refine d25 ?_;refine d25 ?_;refine k_leqT rfl rfl (k.min fun l=>k.at l x) ?_;refine k_pickT rfl zq ?_;refine mq rfl ?_;refine d25 ?_;refine d25 ?_;refine k_leqT rfl rfl (k.max fun l=>k.at l x) ?_;refine k_pickT rfl zq ?_;refine mq rfl ?_;refine d25 ?_;refine d25 ?_;refine k_leqT rfl rfl (k.min fun l=>k.girth l (f:Int) (t:Int)) ?_;refine k_pickT rfl zq ?_;refine mq rfl ?_;refine d25 ?_;refine d25 ?_;refine k_leqT rfl rfl (k.max fun l=>k.girth l (f:Int) (t:Int)) ?_;refine k_pickT rfl zq ?_;refine d23 ?_;refine k_eqlS rfl rfl (fun hc=>?_) (fun hc=>?_)
   ·refine k_mv rfl rfl ?_;refine d5 ?_;refine k_off rfl rfl ?_;refine k_pickT rfl rfl ?_;refine k_pickT rfl zq ?_;refine d23 ?_;refine k_mv rfl rfl ?_;refine k_leqT rfl rfl k.lean ?_;refine d92 ?_
    refine run_res (h) rfl Tryz.func79 rfl weakSub ?_;refine hK _ _ ?_;exact ⟨rfl,rfl⟩
   ·refine k_mv rfl rfl ?_;refine k_mv rfl rfl ?_;refine k_mv rfl rfl ?_;refine k_eqlT rfl rfl (by omega) ?_;refine k_pickF rfl rfl ?_;refine k_pickT rfl zq ?_;refine d23 ?_;refine k_mv rfl rfl ?_;refine k_leqT rfl rfl k.lean ?_;refine d92 ?_
    refine run_res (h) rfl Tryz.func79 rfl weakSub ?_;refine hK _ _ ?_;exact ⟨rfl,rfl⟩
  ·refine k_put ?_;exact absurd (k.breadths hm36o hm36b) hc
 ·refine k_put ?_;exact absurd ⟨by omega,by omega⟩ hc
theorem f16_t (h:Hp) (rdp:Rp B h b pp np cp) (rdt:Rt B h b pt nt ct) (rdk:Rk B h b pk nk ck) (x:Tp) (y:Sk) (lo hi:Int) (w z x0 y0:Nat) (hw:w≤255) (hzz:z≤65535) (hx0:x0≤255) (hyy:y0≤65535):(Md.starS Tryz.prog B).R (AtEnd Tryz.prog B fun v _=>v= .bool true) (G (Frame.enter Tryz.prog 16 #[fbV b pp np cp pt nt ct pk nk ck,tpV x,skV y,.int .u8 (w:Int),.agg [.int .i64 lo,.int .i64 hi].toArray,.int .u16 (z:Int),.int .u8 (x0:Int),.int .u16 (y0:Int)] .normal) []) h:=by
 refine top_enter Tryz.func16 rfl rfl (l:=[fbV b pp np cp pt nt ct pk nk ck,tpV x,skV y,.int .u8 (w:Int),.agg [.int .i64 lo,.int .i64 hi].toArray,.int .u16 (z:Int),.int .u8 (x0:Int),.int .u16 (y0:Int),undef,undef,undef,undef,undef,undef,undef,undef,undef,undef,undef,undef,undef,undef,undef,undef,undef,undef,undef,undef,undef,undef,undef,undef,undef,undef,undef,undef,undef,undef,undef,undef,undef,undef,undef,undef,undef,undef,undef,undef,undef,undef,undef,undef,undef,undef,undef,undef,undef,undef,undef,undef,undef,undef,undef,undef,undef,undef,undef,undef,undef,undef,undef,undef,undef,undef,undef,undef,undef,undef,undef,undef,undef,undef,undef,undef,undef,undef,undef,undef,undef,undef,undef,undef,undef,undef,undef,undef,undef,undef,undef,undef,undef,undef,undef,undef,undef,undef,undef,undef,undef,undef,undef,undef,undef,undef,undef,undef,undef,undef,undef,undef,undef,undef,undef,undef,undef,undef,undef,undef,undef,undef,undef,undef,undef,undef,undef,undef,undef,undef,undef,undef,undef,undef,undef,undef,undef,undef,undef,undef,undef,undef,undef,undef,undef,undef,undef,undef,undef,undef,undef,undef,undef,undef]) rfl ?_
 refine rs5 ?_;refine k_box rfl zq (fun q8=>k_hp (k_put ?_));refine k_box rfl zq (fun q9=>k_hp (k_put ?_));refine k_box rfl zq (fun q10=>k_hp (k_put ?_));refine k_box rfl zq (fun q12=>k_hp (k_put ?_));refine d12 ?_;refine d94 ?_
 refine k_calP (Post:=fun v=>IsB _ v) rfl zq (by kernel_rfl) (fun H' hH=>f48_c _ H' (rdp.keeps (sq hH)) (rdt.keeps (sq hH)) (rdk.keeps (sq hH))) ?_;rintro v (⟨hc,rfl⟩|⟨hc,rfl⟩)
 ·refine d43 ?_;refine d37 ?_
  have hp:np≤1000:=by omega
  have ht:nt≤1000:=by omega
  have hk:nk≤1000:=by omega
  have h0:fbS b=0:=by omega
  have hv:=fbS_zero h0
  have hv1:=hv.pts.five
  have hv2:=hv.pts.two
  have hml:=rdp.elen (by decide)
  have hmt:=rdt.elen (by decide)
  have hmk:=rdk.elen (by decide)
  have hf3:=hv.few
  have hf4:=hv.few'
  refine rr9 ?_;refine k_ldA rfl zq ?_;refine k_ldA rfl zq ?_;refine k_calC rfl zq (by kernel_rfl) (Post:=fun v nw=> ∃w',v= .tuple [w',.int .i64 (tapeS b x)].toArray∧BkF B (tapeF b x) nw w') (fun H' hH=>f74_c _ H' (b:=b) (rdp.keeps (sq hH)) hp (rdt.keeps (sq hH)) ht (rdk.keeps (sq hH)) hk x) ?_;rintro v n74 ⟨wa,rfl,ppa,npa,cpa,pta,nta,cta,pka,nka,cka,rfl,rpa,rta,rka⟩;refine k_hpA (k_put ?_);refine d40 ?_
  refine k_new rfl zq (fun q17=>k_hp (k_put ?_));refine k_stA rfl zq rfl ?_;refine d12 ?_;refine run_seq ?_;by_cases hz:tapeS b x=0
  ·obtain ⟨tf,kn⟩:=tape_knows h0 hz
   rw [tf] at rpa rta rka⊢
   have hpla:((addT b x)).pts.length≤1000:=by show b.pts.length≤1000;omega
   have htla:((addT b x)).tapes.length≤1000:=by show (b.tapes++[_]).length≤1000;rw [List.length_append];show b.tapes.length+1≤1000;omega
   have hkla:((addT b x)).sticks.length≤1000:=by show b.sticks.length≤1000;omega
   have hpa:npa≤1000:=by have h:=rpa.elen (by decide);have h2:=hpla;omega
   have hta:nta≤1000:=by have h:=rta.elen (by decide);have h2:=htla;omega
   have hka:nka≤1000:=by have h:=rka.elen (by decide);have h2:=hkla;omega
   refine run_draw [(0,.pure),(1,.pure),(2,.pure),(3,.read),(4,.read),(5,.read),(6,.keep),(7,.keep),(8,.pure),(9,.pure),(10,.read),(11,.keep),(12,.pure),(13,.pure),(14,.pure),(17,.pure),(18,.pure),(19,.pure),(15,.read),(16,.read),(20,.keep),(21,.pure),(22,.pure),(23,.pure),(24,.pure),(25,.pure),(26,.pure),(27,.pure),(29,.pure),(28,.read),(30,.keep),(31,.pure),(32,.pure),(33,.pure)] (by kernel_rfl) (by kernel_rfl) (List.Sublist.refl _) ?_;refine mq rfl ?_;refine k_eqlT rfl zq (by omega) ?_;refine mq rfl ?_;refine k_ldA rfl rfl ?_;refine k_ldA rfl rfl ?_;refine k_ldA rfl rfl ?_
   refine k_calC rfl rfl (by kernel_rfl) (Post:=fun v nw=> ∃rp rc,v=fbV (addT b x) pp np cp rp (nt+1) rc pk nk ck∧RdS B nw 4 (.slice rp (nt+1) rc) (nt+1) (encs (addT b x).tapes)) (fun H' hH=>f78_c _ H' (b:=b) (rdt.keeps (sq hH)) ht x) ?_;rintro v u78 ⟨qp78,qc78,rfl,rd78⟩;refine k_hpA (k_put ?_);refine k_calP (Post:=fun v=>IsB _ v) rfl rfl (by kernel_rfl) (fun H' hH=>f58_c _ H' (b:=(addT b x)) (rpa.keeps (sq hH)) hpa (rta.keeps (sq hH)) hta (rka.keeps (sq hH)) hka (b2:=(addT b x)) (rdp.keeps (sq hH)) hp (rd78.keeps (sq hH)) (by omega) (rdk.keeps (sq hH)) hk) ?_;rintro v (⟨hc,rfl⟩|⟨hc,rfl⟩)
   ·refine d84 ?_;refine k_mv rfl rfl ?_;refine k_ldA rfl rfl ?_
    refine k_calP (Post:=fun v=>v= .int .i64 0) rfl rfl (by kernel_rfl) (fun H' hH=>by have:=f22_c (Md.starS Tryz.prog B) H' (b:=(addT b x)) (rpa.keeps (sq hH)) hpa (rta.keeps (sq hH)) hta (rka.keeps (sq hH)) hka;rw [kn.fo] at this;exact this) ?_;rintro v rfl;refine k_put ?_;refine k_neqF rfl rfl rfl ?_;refine k_pickF rfl rfl ?_;refine k_mv rfl rfl ?_;refine k_mv rfl rfl ?_;refine k_mv rfl rfl ?_;refine k_mv rfl rfl ?_;refine k_ldA rfl rfl ?_;refine k_ldA rfl rfl ?_;refine k_calP (Post:=fun v=>v= .bool true) rfl rfl (by kernel_rfl) (fun H' hH=>f79_c _ H' (b:=b) (rdp.keeps (sq hH)) hp (rdt.keeps (sq hH)) ht (rdk.keeps (sq hH)) hk (o:=(addT b x)) (rpa.keeps (sq hH)) hpa (rta.keeps (sq hH)) hta (rka.keeps (sq hH)) hka kn z x0 y0 hzz hx0 hyy) ?_;rintro v rfl;refine d84 ?_;refine k_pickF rfl rfl ?_;refine k_pickT rfl zq ?_;refine d23 ?_;refine k_neqF rfl rfl (by omega) ?_;refine k_mv rfl rfl ?_;refine d5 ?_;refine d5 ?_;refine k_pickF rfl rfl ?_;refine d126 ?_;refine d147 ?_;refine k_ldA rfl zq ?_
    refine k_calC rfl zq (by kernel_rfl) (Post:=fun v nw=> ∃w',v= .tuple [w',.int .i64 (stickS b y)].toArray∧BkF B (stickF b y) nw w') (fun H' hH=>f57_c _ H' (b:=b) (rdp.keeps (sq hH)) hp (rdt.keeps (sq hH)) ht (rdk.keeps (sq hH)) hk y) ?_;rintro v n57 ⟨wc,rfl,ppc,npc,cpc,ptc,ntc,ctc,pkc,nkc,ckc,rfl,rpc,rtc,rkc⟩;refine k_hpA (k_put ?_);refine d40 ?_;refine k_stA rfl zq rfl ?_;refine k_as rfl zq ?_;refine d24 ?_;refine run_seq ?_
    clear hz tf
    by_cases hz:stickS b y=0
    ·obtain ⟨tf,kn⟩:=stick_knows h0 hz
     rw [tf] at rpc rtc rkc⊢
     have hplc:((addK b y)).pts.length≤1000:=by show b.pts.length≤1000;omega
     have htlc:((addK b y)).tapes.length≤1000:=by show b.tapes.length≤1000;omega
     have hklc:((addK b y)).sticks.length≤1000:=by show (b.sticks++[_]).length≤1000;rw [List.length_append];show b.sticks.length+1≤1000;omega
     have hpc:npc≤1000:=by have h:=rpc.elen (by decide);have h2:=hplc;omega
     have htc:ntc≤1000:=by have h:=rtc.elen (by decide);have h2:=htlc;omega
     have hkc:nkc≤1000:=by have h:=rkc.elen (by decide);have h2:=hklc;omega
     refine run_draw [(0,.pure),(1,.pure),(2,.pure),(3,.read),(4,.read),(5,.read),(6,.keep),(7,.keep),(8,.pure),(9,.pure),(10,.read),(11,.keep),(12,.pure),(13,.pure),(14,.pure),(17,.pure),(18,.pure),(19,.pure),(15,.read),(16,.read),(20,.keep),(21,.pure),(22,.pure),(23,.pure),(24,.pure),(25,.pure),(26,.pure),(27,.pure),(29,.pure),(28,.read),(30,.keep),(31,.pure),(32,.pure),(33,.pure)] (by kernel_rfl) (by kernel_rfl) (List.Sublist.refl _) ?_;refine mq rfl ?_;refine k_eqlT rfl zq (by omega) ?_;refine mq rfl ?_;refine k_ldA rfl rfl ?_;refine k_ldA rfl rfl ?_;refine k_ldA rfl rfl ?_
     refine k_calC rfl rfl (by kernel_rfl) (Post:=fun v nw=> ∃rp rc,v=fbV (addK b y) pp np cp pt nt ct rp (nk+1) rc∧RdS B nw 3 (.slice rp (nk+1) rc) (nk+1) (encs (addK b y).sticks)) (fun H' hH=>f59_c _ H' (b:=b) (rdk.keeps (sq hH)) hk y) ?_;rintro v u59 ⟨qp59,qc59,rfl,rd59⟩;refine k_hpA (k_put ?_);refine k_calP (Post:=fun v=>IsB _ v) rfl rfl (by kernel_rfl) (fun H' hH=>f58_c _ H' (b:=(addK b y)) (rpc.keeps (sq hH)) hpc (rtc.keeps (sq hH)) htc (rkc.keeps (sq hH)) hkc (b2:=(addK b y)) (rdp.keeps (sq hH)) hp (rdt.keeps (sq hH)) ht (rd59.keeps (sq hH)) (by omega)) ?_;rintro v (⟨hc,rfl⟩|⟨hc,rfl⟩)
     ·refine d84 ?_;refine k_mv rfl rfl ?_;refine k_ldA rfl rfl ?_
      refine k_calP (Post:=fun v=>v= .int .i64 0) rfl rfl (by kernel_rfl) (fun H' hH=>by have:=f22_c (Md.starS Tryz.prog B) H' (b:=(addK b y)) (rpc.keeps (sq hH)) hpc (rtc.keeps (sq hH)) htc (rkc.keeps (sq hH)) hkc;rw [kn.fo] at this;exact this) ?_;rintro v rfl;refine k_put ?_;refine k_neqF rfl rfl rfl ?_;refine k_pickF rfl rfl ?_;refine k_mv rfl rfl ?_;refine k_mv rfl rfl ?_;refine k_mv rfl rfl ?_;refine k_mv rfl rfl ?_;refine k_ldA rfl rfl ?_;refine k_ldA rfl rfl ?_;refine k_calP (Post:=fun v=>v= .bool true) rfl rfl (by kernel_rfl) (fun H' hH=>f79_c _ H' (b:=b) (rdp.keeps (sq hH)) hp (rdt.keeps (sq hH)) ht (rdk.keeps (sq hH)) hk (o:=(addK b y)) (rpc.keeps (sq hH)) hpc (rtc.keeps (sq hH)) htc (rkc.keeps (sq hH)) hkc kn z x0 y0 hzz hx0 hyy) ?_;rintro v rfl;refine d84 ?_;refine k_pickF rfl rfl ?_;refine k_pickT rfl zq ?_;refine d23 ?_;refine k_neqF rfl rfl (by omega) ?_;refine k_mv rfl rfl ?_;refine d5 ?_;refine d5 ?_;refine k_pickF rfl rfl ?_;refine d126 ?_;refine rs7 ?_;refine mq rfl ?_
      refine k_conv rfl zq (by kernel_rfl) (n':=(w:Int)) (by unfold IntKind.wrap;simp [IntKind.bits,IntKind.signed];omega) ?_;refine d114 ?_;refine k_remT rfl zq (by omega) ?_
      rw [show (w:Int).tmod (np:Int)=((w%np:Nat):Int) from (Int.ofNat_tmod w np).symm];have hsn0:=Nat.mod_lt w (show 0<np by omega)
      generalize w%np=s at hsn0⊢
      refine aq rfl ?_;refine rs9 ?_;refine d69 ?_;refine k_ldA rfl zq ?_
      refine k_calC rfl zq (by kernel_rfl) (Post:=fun v nw=> ∃w',v= .tuple [w',.int .i64 (measS b (s:Int) lo hi)].toArray∧BkF B (measF b (s:Int) lo hi) nw w') (fun H' hH=>f70_c _ H' (b:=b) (rdp.keeps (sq hH)) hp (rdt.keeps (sq hH)) ht (rdk.keeps (sq hH)) hk (s:Int) lo hi) ?_;rintro v n70 ⟨we,rfl,ppe,npe,cpe,pte,nte,cte,pke,nke,cke,rfl,rpe,rte,rke⟩;refine k_hpA (k_put ?_);refine d40 ?_;refine k_stA rfl zq rfl ?_;refine d12 ?_;refine run_seq ?_
      clear hz tf
      have hs1:s<b.pts.length:=by omega
      rcases meas_knows (lo:=lo) (hi:=hi) h0 hs1 with ⟨hz,tf,kn⟩|⟨hz,tf⟩
      ·rw [tf] at rpe rte rke⊢
       have hple:((setP b s (max (b.pts.getD s default).lo lo) (min (b.pts.getD s default).hi hi))).pts.length≤1000:=by rw [setP_len];omega
       have htle:((setP b s (max (b.pts.getD s default).lo lo) (min (b.pts.getD s default).hi hi))).tapes.length≤1000:=by show b.tapes.length≤1000;omega
       have hkle:((setP b s (max (b.pts.getD s default).lo lo) (min (b.pts.getD s default).hi hi))).sticks.length≤1000:=by show b.sticks.length≤1000;omega
       have hpe:npe≤1000:=by have h:=rpe.elen (by decide);have h2:=hple;omega
       have hte:nte≤1000:=by have h:=rte.elen (by decide);have h2:=htle;omega
       have hke:nke≤1000:=by have h:=rke.elen (by decide);have h2:=hkle;omega
       refine rr2 ?_;refine mq rfl ?_;refine k_neqF rfl zq (by omega) ?_;refine d37 ?_;refine run_draw [(2,.pure),(3,.pure),(5,.pure),(0,.read),(1,.read),(4,.read),(6,.pure),(7,.pure),(8,.read),(9,.read),(10,.keep),(11,.keep),(12,.keep),(13,.pure),(14,.read),(15,.keep),(16,.pure),(17,.pure),(18,.pure),(21,.pure),(22,.pure),(23,.pure),(19,.read),(20,.read),(24,.keep),(25,.pure),(26,.pure),(27,.free),(28,.pure),(29,.pure)] (by kernel_rfl) (by kernel_rfl) (List.Sublist.refl _) ?_;refine mq rfl ?_;(first|refine k_fa0 rfl zq ?_|refine k_fa rfl zq ?_);refine mq rfl ?_;refine k_ldA rfl zq ?_;refine d63 ?_
       obtain ⟨rdp_b,rdp_o,rfl⟩:=rdp.ptr (by omega)
       refine d20 ?_
       refine k_ldN (vs:=[.int .i64 (b.pts.getD s default).lo,.int .i64 (b.pts.getD s default).hi]) rfl zq rfl (rdp.eatF s 1 (by omega) (by omega) rfl) ?_;refine k_ldA rfl zq ?_;refine k_calP (Post:=fun v=>v= .agg [.int .i64 (max (b.pts.getD s default).lo lo),.int .i64 (min (b.pts.getD s default).hi hi)].toArray) rfl zq (by kernel_rfl) (fun H' hH=>f80_c _ H' _ _ _ _) ?_;rintro v rfl;refine k_put ?_;refine k_calC rfl zq (by kernel_rfl) (Post:=fun v new=> ∃pp2 cp2,v=fbV (setP b s (max (b.pts.getD s default).lo lo) (min (b.pts.getD s default).hi hi)) pp2 np cp2 pt nt ct pk nk ck∧np≤cp2∧RdS B new 3 (.slice pp2 np cp2) np (encs (setP b s (max (b.pts.getD s default).lo lo) (min (b.pts.getD s default).hi hi)).pts)) (fun H' hH=>f71_c _ H' (b:=b) (rdp.keeps (sq hH)) hp (by omega) (max (b.pts.getD s default).lo lo) (min (b.pts.getD s default).hi hi)) ?_;rintro v n71 ⟨pp2,cp2,rfl,hcm2,rp71⟩;refine k_hpA (k_put ?_);refine k_calP (Post:=fun v=>IsB _ v) rfl zq (by kernel_rfl) (fun H' hH=>f58_c _ H' (b:=(setP b s (max (b.pts.getD s default).lo lo) (min (b.pts.getD s default).hi hi))) (rpe.keeps (sq hH)) hpe (rte.keeps (sq hH)) hte (rke.keeps (sq hH)) hke (b2:=(setP b s (max (b.pts.getD s default).lo lo) (min (b.pts.getD s default).hi hi))) (rp71.keeps (sq hH)) hp (rdt.keeps (sq hH)) ht (rdk.keeps (sq hH)) hk) ?_;rintro v (⟨hc,rfl⟩|⟨hc,rfl⟩)
       ·refine k_put ?_;refine mq rfl ?_;refine k_ldA rfl rfl ?_;refine k_calP (Post:=fun v=>v= .int .i64 0) rfl rfl (by kernel_rfl) (fun H' hH=>by have:=f22_c (Md.starS Tryz.prog B) H' (b:=(setP b s (max (b.pts.getD s default).lo lo) (min (b.pts.getD s default).hi hi))) (rpe.keeps (sq hH)) hpe (rte.keeps (sq hH)) hte (rke.keeps (sq hH)) hke;rw [kn.fo] at this;exact this) ?_;rintro v rfl;refine k_put ?_;refine k_eqlT rfl rfl rfl ?_;refine k_pickT rfl zq ?_;refine d23 ?_;refine k_mv rfl rfl ?_;refine k_mv rfl rfl ?_;refine k_ldA rfl rfl ?_;refine k_ldA rfl rfl ?_;refine k_calP (Post:=fun v=>v= .bool true) rfl rfl (by kernel_rfl) (fun H' hH=>f79_c _ H' (b:=b) (rdp.keeps (sq hH)) hp (rdt.keeps (sq hH)) ht (rdk.keeps (sq hH)) hk (o:=(setP b s (max (b.pts.getD s default).lo lo) (min (b.pts.getD s default).hi hi))) (rpe.keeps (sq hH)) hpe (rte.keeps (sq hH)) hte (rke.keeps (sq hH)) hke kn z x0 y0 hzz hx0 hyy) ?_;rintro v rfl;refine k_put ?_;refine k_pickT rfl zq ?_;refine mq rfl ?_;refine k_cal rfl rfl (by kernel_rfl) (f18_c _) ?_;rintro v h' ⟨nF,rfl,rfl⟩;refine k_put ?_;refine d92 ?_;refine run_top rfl Tryz.func16 (by kernel_rfl) rfl ?_;rfl
       ·refine k_put ?_;exact absurd rfl hc
      ·rw [tf] at rpe rte rke⊢
       have hple:noF.pts.length≤1000:=by decide
       have htle:noF.tapes.length≤1000:=by decide
       have hkle:noF.sticks.length≤1000:=by decide
       have hpe:npe≤1000:=by have h:=rpe.elen (by decide);have h2:=hple;omega
       have hte:nte≤1000:=by have h:=rte.elen (by decide);have h2:=htle;omega
       have hke:nke≤1000:=by have h:=rke.elen (by decide);have h2:=hkle;omega
       refine rr2 ?_;refine mq rfl ?_;refine k_neqT rfl zq (by omega) ?_;refine d7 ?_;refine run_seq ?_
       refine run_region [(0,.free),(1,.free),(2,.free),(3,.free),(4,.free),(5,.free),(6,.free),(7,.free),(8,.free),(9,.free),(10,.free),(11,.free),(12,.free),(13,.free),(14,.free)] (by kernel_rfl) (by kernel_rfl) ?_;refine mq rfl ?_
       refine k_eqlS rfl zq (fun hc=>?_) (fun hc=>?_)
       ·refine d52 ?_;refine k_pickT rfl zq ?_;refine mq rfl ?_;refine k_ldA rfl rfl ?_;refine k_bld rfl rfl ?_
        refine k_calP (Post:=fun v=>IsB _ v) rfl rfl (by kernel_rfl) (fun H' hH=>f58_c _ H' (b:=noF) (rpe.keeps (sq hH)) hpe (rte.keeps (sq hH)) hte (rke.keeps (sq hH)) hke (b2:=noF) rd_none (by omega) rd_none (by omega) rd_none (by omega)) ?_;rintro v (⟨hc,rfl⟩|⟨hc,rfl⟩)
        ·refine k_put ?_;refine k_pickT rfl zq ?_;refine mq rfl ?_;refine k_cal rfl rfl (by kernel_rfl) (f18_c _) ?_;rintro v h' ⟨nF,rfl,rfl⟩;refine k_put ?_;refine d92 ?_;refine run_top rfl Tryz.func16 (by kernel_rfl) rfl ?_;rfl
        ·refine k_put ?_;exact absurd rfl hc
       ·refine d23 ?_;refine k_eqlT rfl rfl (by omega) ?_;refine k_pickF rfl zq ?_;refine mq rfl ?_;refine k_ldA rfl rfl ?_;refine k_bld rfl rfl ?_
        refine k_calP (Post:=fun v=>IsB _ v) rfl rfl (by kernel_rfl) (fun H' hH=>f58_c _ H' (b:=noF) (rpe.keeps (sq hH)) hpe (rte.keeps (sq hH)) hte (rke.keeps (sq hH)) hke (b2:=noF) rd_none (by omega) rd_none (by omega) rd_none (by omega)) ?_;rintro v (⟨hc,rfl⟩|⟨hc,rfl⟩)
        ·refine k_put ?_;refine k_pickT rfl zq ?_;refine mq rfl ?_;refine k_cal rfl rfl (by kernel_rfl) (f18_c _) ?_;rintro v h' ⟨nF,rfl,rfl⟩;refine k_put ?_;refine d92 ?_;refine run_top rfl Tryz.func16 (by kernel_rfl) rfl ?_;rfl
        ·refine k_put ?_;exact absurd rfl hc
     ·refine k_put ?_;exact absurd rfl hc
    ·have tf:=stick_not h0 hz
     rw [tf] at rpc rtc rkc⊢
     have hplc:noF.pts.length≤1000:=by decide
     have htlc:noF.tapes.length≤1000:=by decide
     have hklc:noF.sticks.length≤1000:=by decide
     have hpc:npc≤1000:=by have h:=rpc.elen (by decide);have h2:=hplc;omega
     have htc:ntc≤1000:=by have h:=rtc.elen (by decide);have h2:=htlc;omega
     have hkc:nkc≤1000:=by have h:=rkc.elen (by decide);have h2:=hklc;omega
     refine run_draw [(0,.pure),(1,.pure),(2,.pure),(3,.read),(4,.read),(5,.read),(6,.keep),(7,.keep),(8,.pure),(9,.pure),(10,.read),(11,.keep),(12,.pure),(13,.pure),(14,.pure),(17,.pure),(18,.pure),(19,.pure),(15,.read),(16,.read),(20,.keep),(21,.pure),(22,.pure),(23,.pure),(24,.pure),(25,.pure),(26,.pure),(27,.pure),(29,.pure),(28,.read),(30,.keep),(31,.pure),(32,.pure),(33,.pure)] (by kernel_rfl) (by kernel_rfl) (List.Sublist.refl _) ?_;refine mq rfl ?_
     refine k_eqlF rfl zq hz ?_;refine d115 ?_;refine d5 ?_;refine d5 ?_;refine d5 ?_;refine d5 ?_;refine d5 ?_;refine d5 ?_;refine k_pickF rfl zq ?_;refine d23 ?_
     refine k_neqT rfl rfl hz ?_;refine k_mv rfl rfl ?_;refine k_bld rfl rfl ?_;refine k_ldA rfl rfl ?_;refine k_calP (Post:=fun v=>IsB _ v) rfl rfl (by kernel_rfl) (fun H' hH=>f58_c _ H' (b:=noF) (rpc.keeps (sq hH)) hpc (rtc.keeps (sq hH)) htc (rkc.keeps (sq hH)) hkc (b2:=noF) rd_none (by omega) rd_none (by omega) rd_none (by omega)) ?_;rintro v (⟨hc,rfl⟩|⟨hc,rfl⟩)
     ·refine d84 ?_;refine k_pickT rfl rfl ?_;refine d126 ?_;refine rs7 ?_;refine mq rfl ?_
      refine k_conv rfl zq (by kernel_rfl) (n':=(w:Int)) (by unfold IntKind.wrap;simp [IntKind.bits,IntKind.signed];omega) ?_;refine d114 ?_;refine k_remT rfl zq (by omega) ?_
      rw [show (w:Int).tmod (np:Int)=((w%np:Nat):Int) from (Int.ofNat_tmod w np).symm];have hsn0:=Nat.mod_lt w (show 0<np by omega)
      generalize w%np=s at hsn0⊢
      refine aq rfl ?_;refine rs9 ?_;refine d69 ?_;refine k_ldA rfl zq ?_
      refine k_calC rfl zq (by kernel_rfl) (Post:=fun v nw=> ∃w',v= .tuple [w',.int .i64 (measS b (s:Int) lo hi)].toArray∧BkF B (measF b (s:Int) lo hi) nw w') (fun H' hH=>f70_c _ H' (b:=b) (rdp.keeps (sq hH)) hp (rdt.keeps (sq hH)) ht (rdk.keeps (sq hH)) hk (s:Int) lo hi) ?_;rintro v n70 ⟨we,rfl,ppe,npe,cpe,pte,nte,cte,pke,nke,cke,rfl,rpe,rte,rke⟩;refine k_hpA (k_put ?_);refine d40 ?_;refine k_stA rfl zq rfl ?_;refine d12 ?_;refine run_seq ?_
      clear hz tf
      have hs1:s<b.pts.length:=by omega
      rcases meas_knows (lo:=lo) (hi:=hi) h0 hs1 with ⟨hz,tf,kn⟩|⟨hz,tf⟩
      ·rw [tf] at rpe rte rke⊢
       have hple:((setP b s (max (b.pts.getD s default).lo lo) (min (b.pts.getD s default).hi hi))).pts.length≤1000:=by rw [setP_len];omega
       have htle:((setP b s (max (b.pts.getD s default).lo lo) (min (b.pts.getD s default).hi hi))).tapes.length≤1000:=by show b.tapes.length≤1000;omega
       have hkle:((setP b s (max (b.pts.getD s default).lo lo) (min (b.pts.getD s default).hi hi))).sticks.length≤1000:=by show b.sticks.length≤1000;omega
       have hpe:npe≤1000:=by have h:=rpe.elen (by decide);have h2:=hple;omega
       have hte:nte≤1000:=by have h:=rte.elen (by decide);have h2:=htle;omega
       have hke:nke≤1000:=by have h:=rke.elen (by decide);have h2:=hkle;omega
       refine rr2 ?_;refine mq rfl ?_;refine k_neqF rfl zq (by omega) ?_;refine d37 ?_;refine run_draw [(2,.pure),(3,.pure),(5,.pure),(0,.read),(1,.read),(4,.read),(6,.pure),(7,.pure),(8,.read),(9,.read),(10,.keep),(11,.keep),(12,.keep),(13,.pure),(14,.read),(15,.keep),(16,.pure),(17,.pure),(18,.pure),(21,.pure),(22,.pure),(23,.pure),(19,.read),(20,.read),(24,.keep),(25,.pure),(26,.pure),(27,.free),(28,.pure),(29,.pure)] (by kernel_rfl) (by kernel_rfl) (List.Sublist.refl _) ?_;refine mq rfl ?_;(first|refine k_fa0 rfl zq ?_|refine k_fa rfl zq ?_);refine mq rfl ?_;refine k_ldA rfl zq ?_;refine d63 ?_
       obtain ⟨rdp_b,rdp_o,rfl⟩:=rdp.ptr (by omega)
       refine d20 ?_
       refine k_ldN (vs:=[.int .i64 (b.pts.getD s default).lo,.int .i64 (b.pts.getD s default).hi]) rfl zq rfl (rdp.eatF s 1 (by omega) (by omega) rfl) ?_;refine k_ldA rfl zq ?_;refine k_calP (Post:=fun v=>v= .agg [.int .i64 (max (b.pts.getD s default).lo lo),.int .i64 (min (b.pts.getD s default).hi hi)].toArray) rfl zq (by kernel_rfl) (fun H' hH=>f80_c _ H' _ _ _ _) ?_;rintro v rfl;refine k_put ?_;refine k_calC rfl zq (by kernel_rfl) (Post:=fun v new=> ∃pp2 cp2,v=fbV (setP b s (max (b.pts.getD s default).lo lo) (min (b.pts.getD s default).hi hi)) pp2 np cp2 pt nt ct pk nk ck∧np≤cp2∧RdS B new 3 (.slice pp2 np cp2) np (encs (setP b s (max (b.pts.getD s default).lo lo) (min (b.pts.getD s default).hi hi)).pts)) (fun H' hH=>f71_c _ H' (b:=b) (rdp.keeps (sq hH)) hp (by omega) (max (b.pts.getD s default).lo lo) (min (b.pts.getD s default).hi hi)) ?_;rintro v n71 ⟨pp2,cp2,rfl,hcm2,rp71⟩;refine k_hpA (k_put ?_);refine k_calP (Post:=fun v=>IsB _ v) rfl zq (by kernel_rfl) (fun H' hH=>f58_c _ H' (b:=(setP b s (max (b.pts.getD s default).lo lo) (min (b.pts.getD s default).hi hi))) (rpe.keeps (sq hH)) hpe (rte.keeps (sq hH)) hte (rke.keeps (sq hH)) hke (b2:=(setP b s (max (b.pts.getD s default).lo lo) (min (b.pts.getD s default).hi hi))) (rp71.keeps (sq hH)) hp (rdt.keeps (sq hH)) ht (rdk.keeps (sq hH)) hk) ?_;rintro v (⟨hc,rfl⟩|⟨hc,rfl⟩)
       ·refine k_put ?_;refine mq rfl ?_;refine k_ldA rfl rfl ?_;refine k_calP (Post:=fun v=>v= .int .i64 0) rfl rfl (by kernel_rfl) (fun H' hH=>by have:=f22_c (Md.starS Tryz.prog B) H' (b:=(setP b s (max (b.pts.getD s default).lo lo) (min (b.pts.getD s default).hi hi))) (rpe.keeps (sq hH)) hpe (rte.keeps (sq hH)) hte (rke.keeps (sq hH)) hke;rw [kn.fo] at this;exact this) ?_;rintro v rfl;refine k_put ?_;refine k_eqlT rfl rfl rfl ?_;refine k_pickT rfl zq ?_;refine d23 ?_;refine k_mv rfl rfl ?_;refine k_mv rfl rfl ?_;refine k_ldA rfl rfl ?_;refine k_ldA rfl rfl ?_;refine k_calP (Post:=fun v=>v= .bool true) rfl rfl (by kernel_rfl) (fun H' hH=>f79_c _ H' (b:=b) (rdp.keeps (sq hH)) hp (rdt.keeps (sq hH)) ht (rdk.keeps (sq hH)) hk (o:=(setP b s (max (b.pts.getD s default).lo lo) (min (b.pts.getD s default).hi hi))) (rpe.keeps (sq hH)) hpe (rte.keeps (sq hH)) hte (rke.keeps (sq hH)) hke kn z x0 y0 hzz hx0 hyy) ?_;rintro v rfl;refine k_put ?_;refine k_pickT rfl zq ?_;refine mq rfl ?_;refine k_cal rfl rfl (by kernel_rfl) (f18_c _) ?_;rintro v h' ⟨nF,rfl,rfl⟩;refine k_put ?_;refine d92 ?_;refine run_top rfl Tryz.func16 (by kernel_rfl) rfl ?_;rfl
       ·refine k_put ?_;exact absurd rfl hc
      ·rw [tf] at rpe rte rke⊢
       have hple:noF.pts.length≤1000:=by decide
       have htle:noF.tapes.length≤1000:=by decide
       have hkle:noF.sticks.length≤1000:=by decide
       have hpe:npe≤1000:=by have h:=rpe.elen (by decide);have h2:=hple;omega
       have hte:nte≤1000:=by have h:=rte.elen (by decide);have h2:=htle;omega
       have hke:nke≤1000:=by have h:=rke.elen (by decide);have h2:=hkle;omega
       refine rr2 ?_;refine mq rfl ?_;refine k_neqT rfl zq (by omega) ?_;refine d7 ?_;refine run_seq ?_
       refine run_region [(0,.free),(1,.free),(2,.free),(3,.free),(4,.free),(5,.free),(6,.free),(7,.free),(8,.free),(9,.free),(10,.free),(11,.free),(12,.free),(13,.free),(14,.free)] (by kernel_rfl) (by kernel_rfl) ?_;refine mq rfl ?_
       refine k_eqlS rfl zq (fun hc=>?_) (fun hc=>?_)
       ·refine d52 ?_;refine k_pickT rfl zq ?_;refine mq rfl ?_;refine k_ldA rfl rfl ?_;refine k_bld rfl rfl ?_
        refine k_calP (Post:=fun v=>IsB _ v) rfl rfl (by kernel_rfl) (fun H' hH=>f58_c _ H' (b:=noF) (rpe.keeps (sq hH)) hpe (rte.keeps (sq hH)) hte (rke.keeps (sq hH)) hke (b2:=noF) rd_none (by omega) rd_none (by omega) rd_none (by omega)) ?_;rintro v (⟨hc,rfl⟩|⟨hc,rfl⟩)
        ·refine k_put ?_;refine k_pickT rfl zq ?_;refine mq rfl ?_;refine k_cal rfl rfl (by kernel_rfl) (f18_c _) ?_;rintro v h' ⟨nF,rfl,rfl⟩;refine k_put ?_;refine d92 ?_;refine run_top rfl Tryz.func16 (by kernel_rfl) rfl ?_;rfl
        ·refine k_put ?_;exact absurd rfl hc
       ·refine d23 ?_;refine k_eqlT rfl rfl (by omega) ?_;refine k_pickF rfl zq ?_;refine mq rfl ?_;refine k_ldA rfl rfl ?_;refine k_bld rfl rfl ?_
        refine k_calP (Post:=fun v=>IsB _ v) rfl rfl (by kernel_rfl) (fun H' hH=>f58_c _ H' (b:=noF) (rpe.keeps (sq hH)) hpe (rte.keeps (sq hH)) hte (rke.keeps (sq hH)) hke (b2:=noF) rd_none (by omega) rd_none (by omega) rd_none (by omega)) ?_;rintro v (⟨hc,rfl⟩|⟨hc,rfl⟩)
        ·refine k_put ?_;refine k_pickT rfl zq ?_;refine mq rfl ?_;refine k_cal rfl rfl (by kernel_rfl) (f18_c _) ?_;rintro v h' ⟨nF,rfl,rfl⟩;refine k_put ?_;refine d92 ?_;refine run_top rfl Tryz.func16 (by kernel_rfl) rfl ?_;rfl
        ·refine k_put ?_;exact absurd rfl hc
     ·refine k_put ?_;exact absurd rfl hc
   ·refine k_put ?_;exact absurd rfl hc
  ·have tf:=tape_not h0 hz
   rw [tf] at rpa rta rka⊢
   have hpla:noF.pts.length≤1000:=by decide
   have htla:noF.tapes.length≤1000:=by decide
   have hkla:noF.sticks.length≤1000:=by decide
   have hpa:npa≤1000:=by have h:=rpa.elen (by decide);have h2:=hpla;omega
   have hta:nta≤1000:=by have h:=rta.elen (by decide);have h2:=htla;omega
   have hka:nka≤1000:=by have h:=rka.elen (by decide);have h2:=hkla;omega
   refine run_draw [(0,.pure),(1,.pure),(2,.pure),(3,.read),(4,.read),(5,.read),(6,.keep),(7,.keep),(8,.pure),(9,.pure),(10,.read),(11,.keep),(12,.pure),(13,.pure),(14,.pure),(17,.pure),(18,.pure),(19,.pure),(15,.read),(16,.read),(20,.keep),(21,.pure),(22,.pure),(23,.pure),(24,.pure),(25,.pure),(26,.pure),(27,.pure),(29,.pure),(28,.read),(30,.keep),(31,.pure),(32,.pure),(33,.pure)] (by kernel_rfl) (by kernel_rfl) (List.Sublist.refl _) ?_;refine mq rfl ?_
   refine k_eqlF rfl zq hz ?_;refine d115 ?_;refine d5 ?_;refine d5 ?_;refine d5 ?_;refine d5 ?_;refine d5 ?_;refine d5 ?_;refine k_pickF rfl zq ?_;refine d23 ?_
   refine k_neqT rfl rfl hz ?_;refine k_mv rfl rfl ?_;refine k_bld rfl rfl ?_;refine k_ldA rfl rfl ?_;refine k_calP (Post:=fun v=>IsB _ v) rfl rfl (by kernel_rfl) (fun H' hH=>f58_c _ H' (b:=noF) (rpa.keeps (sq hH)) hpa (rta.keeps (sq hH)) hta (rka.keeps (sq hH)) hka (b2:=noF) rd_none (by omega) rd_none (by omega) rd_none (by omega)) ?_;rintro v (⟨hc,rfl⟩|⟨hc,rfl⟩)
   ·refine d84 ?_;refine k_pickT rfl rfl ?_;refine d126 ?_;refine d147 ?_;refine k_ldA rfl zq ?_
    refine k_calC rfl zq (by kernel_rfl) (Post:=fun v nw=> ∃w',v= .tuple [w',.int .i64 (stickS b y)].toArray∧BkF B (stickF b y) nw w') (fun H' hH=>f57_c _ H' (b:=b) (rdp.keeps (sq hH)) hp (rdt.keeps (sq hH)) ht (rdk.keeps (sq hH)) hk y) ?_;rintro v n57 ⟨wc,rfl,ppc,npc,cpc,ptc,ntc,ctc,pkc,nkc,ckc,rfl,rpc,rtc,rkc⟩;refine k_hpA (k_put ?_);refine d40 ?_;refine k_stA rfl zq rfl ?_;refine d12 ?_;refine run_seq ?_
    clear hz tf
    by_cases hz:stickS b y=0
    ·obtain ⟨tf,kn⟩:=stick_knows h0 hz
     rw [tf] at rpc rtc rkc⊢
     have hplc:((addK b y)).pts.length≤1000:=by show b.pts.length≤1000;omega
     have htlc:((addK b y)).tapes.length≤1000:=by show b.tapes.length≤1000;omega
     have hklc:((addK b y)).sticks.length≤1000:=by show (b.sticks++[_]).length≤1000;rw [List.length_append];show b.sticks.length+1≤1000;omega
     have hpc:npc≤1000:=by have h:=rpc.elen (by decide);have h2:=hplc;omega
     have htc:ntc≤1000:=by have h:=rtc.elen (by decide);have h2:=htlc;omega
     have hkc:nkc≤1000:=by have h:=rkc.elen (by decide);have h2:=hklc;omega
     refine run_draw [(0,.pure),(1,.pure),(2,.pure),(3,.read),(4,.read),(5,.read),(6,.keep),(7,.keep),(8,.pure),(9,.pure),(10,.read),(11,.keep),(12,.pure),(13,.pure),(14,.pure),(17,.pure),(18,.pure),(19,.pure),(15,.read),(16,.read),(20,.keep),(21,.pure),(22,.pure),(23,.pure),(24,.pure),(25,.pure),(26,.pure),(27,.pure),(29,.pure),(28,.read),(30,.keep),(31,.pure),(32,.pure),(33,.pure)] (by kernel_rfl) (by kernel_rfl) (List.Sublist.refl _) ?_;refine mq rfl ?_;refine k_eqlT rfl zq (by omega) ?_;refine mq rfl ?_;refine k_ldA rfl rfl ?_;refine k_ldA rfl rfl ?_;refine k_ldA rfl rfl ?_
     refine k_calC rfl rfl (by kernel_rfl) (Post:=fun v nw=> ∃rp rc,v=fbV (addK b y) pp np cp pt nt ct rp (nk+1) rc∧RdS B nw 3 (.slice rp (nk+1) rc) (nk+1) (encs (addK b y).sticks)) (fun H' hH=>f59_c _ H' (b:=b) (rdk.keeps (sq hH)) hk y) ?_;rintro v u59 ⟨qp59,qc59,rfl,rd59⟩;refine k_hpA (k_put ?_);refine k_calP (Post:=fun v=>IsB _ v) rfl rfl (by kernel_rfl) (fun H' hH=>f58_c _ H' (b:=(addK b y)) (rpc.keeps (sq hH)) hpc (rtc.keeps (sq hH)) htc (rkc.keeps (sq hH)) hkc (b2:=(addK b y)) (rdp.keeps (sq hH)) hp (rdt.keeps (sq hH)) ht (rd59.keeps (sq hH)) (by omega)) ?_;rintro v (⟨hc,rfl⟩|⟨hc,rfl⟩)
     ·refine d84 ?_;refine k_mv rfl rfl ?_;refine k_ldA rfl rfl ?_
      refine k_calP (Post:=fun v=>v= .int .i64 0) rfl rfl (by kernel_rfl) (fun H' hH=>by have:=f22_c (Md.starS Tryz.prog B) H' (b:=(addK b y)) (rpc.keeps (sq hH)) hpc (rtc.keeps (sq hH)) htc (rkc.keeps (sq hH)) hkc;rw [kn.fo] at this;exact this) ?_;rintro v rfl;refine k_put ?_;refine k_neqF rfl rfl rfl ?_;refine k_pickF rfl rfl ?_;refine k_mv rfl rfl ?_;refine k_mv rfl rfl ?_;refine k_mv rfl rfl ?_;refine k_mv rfl rfl ?_;refine k_ldA rfl rfl ?_;refine k_ldA rfl rfl ?_;refine k_calP (Post:=fun v=>v= .bool true) rfl rfl (by kernel_rfl) (fun H' hH=>f79_c _ H' (b:=b) (rdp.keeps (sq hH)) hp (rdt.keeps (sq hH)) ht (rdk.keeps (sq hH)) hk (o:=(addK b y)) (rpc.keeps (sq hH)) hpc (rtc.keeps (sq hH)) htc (rkc.keeps (sq hH)) hkc kn z x0 y0 hzz hx0 hyy) ?_;rintro v rfl;refine d84 ?_;refine k_pickF rfl rfl ?_;refine k_pickT rfl zq ?_;refine d23 ?_;refine k_neqF rfl rfl (by omega) ?_;refine k_mv rfl rfl ?_;refine d5 ?_;refine d5 ?_;refine k_pickF rfl rfl ?_;refine d126 ?_;refine rs7 ?_;refine mq rfl ?_
      refine k_conv rfl zq (by kernel_rfl) (n':=(w:Int)) (by unfold IntKind.wrap;simp [IntKind.bits,IntKind.signed];omega) ?_;refine d114 ?_;refine k_remT rfl zq (by omega) ?_
      rw [show (w:Int).tmod (np:Int)=((w%np:Nat):Int) from (Int.ofNat_tmod w np).symm];have hsn0:=Nat.mod_lt w (show 0<np by omega)
      generalize w%np=s at hsn0⊢
      refine aq rfl ?_;refine rs9 ?_;refine d69 ?_;refine k_ldA rfl zq ?_
      refine k_calC rfl zq (by kernel_rfl) (Post:=fun v nw=> ∃w',v= .tuple [w',.int .i64 (measS b (s:Int) lo hi)].toArray∧BkF B (measF b (s:Int) lo hi) nw w') (fun H' hH=>f70_c _ H' (b:=b) (rdp.keeps (sq hH)) hp (rdt.keeps (sq hH)) ht (rdk.keeps (sq hH)) hk (s:Int) lo hi) ?_;rintro v n70 ⟨we,rfl,ppe,npe,cpe,pte,nte,cte,pke,nke,cke,rfl,rpe,rte,rke⟩;refine k_hpA (k_put ?_);refine d40 ?_;refine k_stA rfl zq rfl ?_;refine d12 ?_;refine run_seq ?_
      clear hz tf
      have hs1:s<b.pts.length:=by omega
      rcases meas_knows (lo:=lo) (hi:=hi) h0 hs1 with ⟨hz,tf,kn⟩|⟨hz,tf⟩
      ·rw [tf] at rpe rte rke⊢
       have hple:((setP b s (max (b.pts.getD s default).lo lo) (min (b.pts.getD s default).hi hi))).pts.length≤1000:=by rw [setP_len];omega
       have htle:((setP b s (max (b.pts.getD s default).lo lo) (min (b.pts.getD s default).hi hi))).tapes.length≤1000:=by show b.tapes.length≤1000;omega
       have hkle:((setP b s (max (b.pts.getD s default).lo lo) (min (b.pts.getD s default).hi hi))).sticks.length≤1000:=by show b.sticks.length≤1000;omega
       have hpe:npe≤1000:=by have h:=rpe.elen (by decide);have h2:=hple;omega
       have hte:nte≤1000:=by have h:=rte.elen (by decide);have h2:=htle;omega
       have hke:nke≤1000:=by have h:=rke.elen (by decide);have h2:=hkle;omega
       refine rr2 ?_;refine mq rfl ?_;refine k_neqF rfl zq (by omega) ?_;refine d37 ?_;refine run_draw [(2,.pure),(3,.pure),(5,.pure),(0,.read),(1,.read),(4,.read),(6,.pure),(7,.pure),(8,.read),(9,.read),(10,.keep),(11,.keep),(12,.keep),(13,.pure),(14,.read),(15,.keep),(16,.pure),(17,.pure),(18,.pure),(21,.pure),(22,.pure),(23,.pure),(19,.read),(20,.read),(24,.keep),(25,.pure),(26,.pure),(27,.free),(28,.pure),(29,.pure)] (by kernel_rfl) (by kernel_rfl) (List.Sublist.refl _) ?_;refine mq rfl ?_;(first|refine k_fa0 rfl zq ?_|refine k_fa rfl zq ?_);refine mq rfl ?_;refine k_ldA rfl zq ?_;refine d63 ?_
       obtain ⟨rdp_b,rdp_o,rfl⟩:=rdp.ptr (by omega)
       refine d20 ?_
       refine k_ldN (vs:=[.int .i64 (b.pts.getD s default).lo,.int .i64 (b.pts.getD s default).hi]) rfl zq rfl (rdp.eatF s 1 (by omega) (by omega) rfl) ?_;refine k_ldA rfl zq ?_;refine k_calP (Post:=fun v=>v= .agg [.int .i64 (max (b.pts.getD s default).lo lo),.int .i64 (min (b.pts.getD s default).hi hi)].toArray) rfl zq (by kernel_rfl) (fun H' hH=>f80_c _ H' _ _ _ _) ?_;rintro v rfl;refine k_put ?_;refine k_calC rfl zq (by kernel_rfl) (Post:=fun v new=> ∃pp2 cp2,v=fbV (setP b s (max (b.pts.getD s default).lo lo) (min (b.pts.getD s default).hi hi)) pp2 np cp2 pt nt ct pk nk ck∧np≤cp2∧RdS B new 3 (.slice pp2 np cp2) np (encs (setP b s (max (b.pts.getD s default).lo lo) (min (b.pts.getD s default).hi hi)).pts)) (fun H' hH=>f71_c _ H' (b:=b) (rdp.keeps (sq hH)) hp (by omega) (max (b.pts.getD s default).lo lo) (min (b.pts.getD s default).hi hi)) ?_;rintro v n71 ⟨pp2,cp2,rfl,hcm2,rp71⟩;refine k_hpA (k_put ?_);refine k_calP (Post:=fun v=>IsB _ v) rfl zq (by kernel_rfl) (fun H' hH=>f58_c _ H' (b:=(setP b s (max (b.pts.getD s default).lo lo) (min (b.pts.getD s default).hi hi))) (rpe.keeps (sq hH)) hpe (rte.keeps (sq hH)) hte (rke.keeps (sq hH)) hke (b2:=(setP b s (max (b.pts.getD s default).lo lo) (min (b.pts.getD s default).hi hi))) (rp71.keeps (sq hH)) hp (rdt.keeps (sq hH)) ht (rdk.keeps (sq hH)) hk) ?_;rintro v (⟨hc,rfl⟩|⟨hc,rfl⟩)
       ·refine k_put ?_;refine mq rfl ?_;refine k_ldA rfl rfl ?_;refine k_calP (Post:=fun v=>v= .int .i64 0) rfl rfl (by kernel_rfl) (fun H' hH=>by have:=f22_c (Md.starS Tryz.prog B) H' (b:=(setP b s (max (b.pts.getD s default).lo lo) (min (b.pts.getD s default).hi hi))) (rpe.keeps (sq hH)) hpe (rte.keeps (sq hH)) hte (rke.keeps (sq hH)) hke;rw [kn.fo] at this;exact this) ?_;rintro v rfl;refine k_put ?_;refine k_eqlT rfl rfl rfl ?_;refine k_pickT rfl zq ?_;refine d23 ?_;refine k_mv rfl rfl ?_;refine k_mv rfl rfl ?_;refine k_ldA rfl rfl ?_;refine k_ldA rfl rfl ?_;refine k_calP (Post:=fun v=>v= .bool true) rfl rfl (by kernel_rfl) (fun H' hH=>f79_c _ H' (b:=b) (rdp.keeps (sq hH)) hp (rdt.keeps (sq hH)) ht (rdk.keeps (sq hH)) hk (o:=(setP b s (max (b.pts.getD s default).lo lo) (min (b.pts.getD s default).hi hi))) (rpe.keeps (sq hH)) hpe (rte.keeps (sq hH)) hte (rke.keeps (sq hH)) hke kn z x0 y0 hzz hx0 hyy) ?_;rintro v rfl;refine k_put ?_;refine k_pickT rfl zq ?_;refine mq rfl ?_;refine k_cal rfl rfl (by kernel_rfl) (f18_c _) ?_;rintro v h' ⟨nF,rfl,rfl⟩;refine k_put ?_;refine d92 ?_;refine run_top rfl Tryz.func16 (by kernel_rfl) rfl ?_;rfl
       ·refine k_put ?_;exact absurd rfl hc
      ·rw [tf] at rpe rte rke⊢
       have hple:noF.pts.length≤1000:=by decide
       have htle:noF.tapes.length≤1000:=by decide
       have hkle:noF.sticks.length≤1000:=by decide
       have hpe:npe≤1000:=by have h:=rpe.elen (by decide);have h2:=hple;omega
       have hte:nte≤1000:=by have h:=rte.elen (by decide);have h2:=htle;omega
       have hke:nke≤1000:=by have h:=rke.elen (by decide);have h2:=hkle;omega
       refine rr2 ?_;refine mq rfl ?_;refine k_neqT rfl zq (by omega) ?_;refine d7 ?_;refine run_seq ?_
       refine run_region [(0,.free),(1,.free),(2,.free),(3,.free),(4,.free),(5,.free),(6,.free),(7,.free),(8,.free),(9,.free),(10,.free),(11,.free),(12,.free),(13,.free),(14,.free)] (by kernel_rfl) (by kernel_rfl) ?_;refine mq rfl ?_
       refine k_eqlS rfl zq (fun hc=>?_) (fun hc=>?_)
       ·refine d52 ?_;refine k_pickT rfl zq ?_;refine mq rfl ?_;refine k_ldA rfl rfl ?_;refine k_bld rfl rfl ?_
        refine k_calP (Post:=fun v=>IsB _ v) rfl rfl (by kernel_rfl) (fun H' hH=>f58_c _ H' (b:=noF) (rpe.keeps (sq hH)) hpe (rte.keeps (sq hH)) hte (rke.keeps (sq hH)) hke (b2:=noF) rd_none (by omega) rd_none (by omega) rd_none (by omega)) ?_;rintro v (⟨hc,rfl⟩|⟨hc,rfl⟩)
        ·refine k_put ?_;refine k_pickT rfl zq ?_;refine mq rfl ?_;refine k_cal rfl rfl (by kernel_rfl) (f18_c _) ?_;rintro v h' ⟨nF,rfl,rfl⟩;refine k_put ?_;refine d92 ?_;refine run_top rfl Tryz.func16 (by kernel_rfl) rfl ?_;rfl
        ·refine k_put ?_;exact absurd rfl hc
       ·refine d23 ?_;refine k_eqlT rfl rfl (by omega) ?_;refine k_pickF rfl zq ?_;refine mq rfl ?_;refine k_ldA rfl rfl ?_;refine k_bld rfl rfl ?_
        refine k_calP (Post:=fun v=>IsB _ v) rfl rfl (by kernel_rfl) (fun H' hH=>f58_c _ H' (b:=noF) (rpe.keeps (sq hH)) hpe (rte.keeps (sq hH)) hte (rke.keeps (sq hH)) hke (b2:=noF) rd_none (by omega) rd_none (by omega) rd_none (by omega)) ?_;rintro v (⟨hc,rfl⟩|⟨hc,rfl⟩)
        ·refine k_put ?_;refine k_pickT rfl zq ?_;refine mq rfl ?_;refine k_cal rfl rfl (by kernel_rfl) (f18_c _) ?_;rintro v h' ⟨nF,rfl,rfl⟩;refine k_put ?_;refine d92 ?_;refine run_top rfl Tryz.func16 (by kernel_rfl) rfl ?_;rfl
        ·refine k_put ?_;exact absurd rfl hc
     ·refine k_put ?_;exact absurd rfl hc
    ·have tf:=stick_not h0 hz
     rw [tf] at rpc rtc rkc⊢
     have hplc:noF.pts.length≤1000:=by decide
     have htlc:noF.tapes.length≤1000:=by decide
     have hklc:noF.sticks.length≤1000:=by decide
     have hpc:npc≤1000:=by have h:=rpc.elen (by decide);have h2:=hplc;omega
     have htc:ntc≤1000:=by have h:=rtc.elen (by decide);have h2:=htlc;omega
     have hkc:nkc≤1000:=by have h:=rkc.elen (by decide);have h2:=hklc;omega
     refine run_draw [(0,.pure),(1,.pure),(2,.pure),(3,.read),(4,.read),(5,.read),(6,.keep),(7,.keep),(8,.pure),(9,.pure),(10,.read),(11,.keep),(12,.pure),(13,.pure),(14,.pure),(17,.pure),(18,.pure),(19,.pure),(15,.read),(16,.read),(20,.keep),(21,.pure),(22,.pure),(23,.pure),(24,.pure),(25,.pure),(26,.pure),(27,.pure),(29,.pure),(28,.read),(30,.keep),(31,.pure),(32,.pure),(33,.pure)] (by kernel_rfl) (by kernel_rfl) (List.Sublist.refl _) ?_;refine mq rfl ?_
     refine k_eqlF rfl zq hz ?_;refine d115 ?_;refine d5 ?_;refine d5 ?_;refine d5 ?_;refine d5 ?_;refine d5 ?_;refine d5 ?_;refine k_pickF rfl zq ?_;refine d23 ?_
     refine k_neqT rfl rfl hz ?_;refine k_mv rfl rfl ?_;refine k_bld rfl rfl ?_;refine k_ldA rfl rfl ?_;refine k_calP (Post:=fun v=>IsB _ v) rfl rfl (by kernel_rfl) (fun H' hH=>f58_c _ H' (b:=noF) (rpc.keeps (sq hH)) hpc (rtc.keeps (sq hH)) htc (rkc.keeps (sq hH)) hkc (b2:=noF) rd_none (by omega) rd_none (by omega) rd_none (by omega)) ?_;rintro v (⟨hc,rfl⟩|⟨hc,rfl⟩)
     ·refine d84 ?_;refine k_pickT rfl rfl ?_;refine d126 ?_;refine rs7 ?_;refine mq rfl ?_
      refine k_conv rfl zq (by kernel_rfl) (n':=(w:Int)) (by unfold IntKind.wrap;simp [IntKind.bits,IntKind.signed];omega) ?_;refine d114 ?_;refine k_remT rfl zq (by omega) ?_
      rw [show (w:Int).tmod (np:Int)=((w%np:Nat):Int) from (Int.ofNat_tmod w np).symm];have hsn0:=Nat.mod_lt w (show 0<np by omega)
      generalize w%np=s at hsn0⊢
      refine aq rfl ?_;refine rs9 ?_;refine d69 ?_;refine k_ldA rfl zq ?_
      refine k_calC rfl zq (by kernel_rfl) (Post:=fun v nw=> ∃w',v= .tuple [w',.int .i64 (measS b (s:Int) lo hi)].toArray∧BkF B (measF b (s:Int) lo hi) nw w') (fun H' hH=>f70_c _ H' (b:=b) (rdp.keeps (sq hH)) hp (rdt.keeps (sq hH)) ht (rdk.keeps (sq hH)) hk (s:Int) lo hi) ?_;rintro v n70 ⟨we,rfl,ppe,npe,cpe,pte,nte,cte,pke,nke,cke,rfl,rpe,rte,rke⟩;refine k_hpA (k_put ?_);refine d40 ?_;refine k_stA rfl zq rfl ?_;refine d12 ?_;refine run_seq ?_
      clear hz tf
      have hs1:s<b.pts.length:=by omega
      rcases meas_knows (lo:=lo) (hi:=hi) h0 hs1 with ⟨hz,tf,kn⟩|⟨hz,tf⟩
      ·rw [tf] at rpe rte rke⊢
       have hple:((setP b s (max (b.pts.getD s default).lo lo) (min (b.pts.getD s default).hi hi))).pts.length≤1000:=by rw [setP_len];omega
       have htle:((setP b s (max (b.pts.getD s default).lo lo) (min (b.pts.getD s default).hi hi))).tapes.length≤1000:=by show b.tapes.length≤1000;omega
       have hkle:((setP b s (max (b.pts.getD s default).lo lo) (min (b.pts.getD s default).hi hi))).sticks.length≤1000:=by show b.sticks.length≤1000;omega
       have hpe:npe≤1000:=by have h:=rpe.elen (by decide);have h2:=hple;omega
       have hte:nte≤1000:=by have h:=rte.elen (by decide);have h2:=htle;omega
       have hke:nke≤1000:=by have h:=rke.elen (by decide);have h2:=hkle;omega
       refine rr2 ?_;refine mq rfl ?_;refine k_neqF rfl zq (by omega) ?_;refine d37 ?_;refine run_draw [(2,.pure),(3,.pure),(5,.pure),(0,.read),(1,.read),(4,.read),(6,.pure),(7,.pure),(8,.read),(9,.read),(10,.keep),(11,.keep),(12,.keep),(13,.pure),(14,.read),(15,.keep),(16,.pure),(17,.pure),(18,.pure),(21,.pure),(22,.pure),(23,.pure),(19,.read),(20,.read),(24,.keep),(25,.pure),(26,.pure),(27,.free),(28,.pure),(29,.pure)] (by kernel_rfl) (by kernel_rfl) (List.Sublist.refl _) ?_;refine mq rfl ?_;(first|refine k_fa0 rfl zq ?_|refine k_fa rfl zq ?_);refine mq rfl ?_;refine k_ldA rfl zq ?_;refine d63 ?_
       obtain ⟨rdp_b,rdp_o,rfl⟩:=rdp.ptr (by omega)
       refine d20 ?_
       refine k_ldN (vs:=[.int .i64 (b.pts.getD s default).lo,.int .i64 (b.pts.getD s default).hi]) rfl zq rfl (rdp.eatF s 1 (by omega) (by omega) rfl) ?_;refine k_ldA rfl zq ?_;refine k_calP (Post:=fun v=>v= .agg [.int .i64 (max (b.pts.getD s default).lo lo),.int .i64 (min (b.pts.getD s default).hi hi)].toArray) rfl zq (by kernel_rfl) (fun H' hH=>f80_c _ H' _ _ _ _) ?_;rintro v rfl;refine k_put ?_;refine k_calC rfl zq (by kernel_rfl) (Post:=fun v new=> ∃pp2 cp2,v=fbV (setP b s (max (b.pts.getD s default).lo lo) (min (b.pts.getD s default).hi hi)) pp2 np cp2 pt nt ct pk nk ck∧np≤cp2∧RdS B new 3 (.slice pp2 np cp2) np (encs (setP b s (max (b.pts.getD s default).lo lo) (min (b.pts.getD s default).hi hi)).pts)) (fun H' hH=>f71_c _ H' (b:=b) (rdp.keeps (sq hH)) hp (by omega) (max (b.pts.getD s default).lo lo) (min (b.pts.getD s default).hi hi)) ?_;rintro v n71 ⟨pp2,cp2,rfl,hcm2,rp71⟩;refine k_hpA (k_put ?_);refine k_calP (Post:=fun v=>IsB _ v) rfl zq (by kernel_rfl) (fun H' hH=>f58_c _ H' (b:=(setP b s (max (b.pts.getD s default).lo lo) (min (b.pts.getD s default).hi hi))) (rpe.keeps (sq hH)) hpe (rte.keeps (sq hH)) hte (rke.keeps (sq hH)) hke (b2:=(setP b s (max (b.pts.getD s default).lo lo) (min (b.pts.getD s default).hi hi))) (rp71.keeps (sq hH)) hp (rdt.keeps (sq hH)) ht (rdk.keeps (sq hH)) hk) ?_;rintro v (⟨hc,rfl⟩|⟨hc,rfl⟩)
       ·refine k_put ?_;refine mq rfl ?_;refine k_ldA rfl rfl ?_;refine k_calP (Post:=fun v=>v= .int .i64 0) rfl rfl (by kernel_rfl) (fun H' hH=>by have:=f22_c (Md.starS Tryz.prog B) H' (b:=(setP b s (max (b.pts.getD s default).lo lo) (min (b.pts.getD s default).hi hi))) (rpe.keeps (sq hH)) hpe (rte.keeps (sq hH)) hte (rke.keeps (sq hH)) hke;rw [kn.fo] at this;exact this) ?_;rintro v rfl;refine k_put ?_;refine k_eqlT rfl rfl rfl ?_;refine k_pickT rfl zq ?_;refine d23 ?_;refine k_mv rfl rfl ?_;refine k_mv rfl rfl ?_;refine k_ldA rfl rfl ?_;refine k_ldA rfl rfl ?_;refine k_calP (Post:=fun v=>v= .bool true) rfl rfl (by kernel_rfl) (fun H' hH=>f79_c _ H' (b:=b) (rdp.keeps (sq hH)) hp (rdt.keeps (sq hH)) ht (rdk.keeps (sq hH)) hk (o:=(setP b s (max (b.pts.getD s default).lo lo) (min (b.pts.getD s default).hi hi))) (rpe.keeps (sq hH)) hpe (rte.keeps (sq hH)) hte (rke.keeps (sq hH)) hke kn z x0 y0 hzz hx0 hyy) ?_;rintro v rfl;refine k_put ?_;refine k_pickT rfl zq ?_;refine mq rfl ?_;refine k_cal rfl rfl (by kernel_rfl) (f18_c _) ?_;rintro v h' ⟨nF,rfl,rfl⟩;refine k_put ?_;refine d92 ?_;refine run_top rfl Tryz.func16 (by kernel_rfl) rfl ?_;rfl
       ·refine k_put ?_;exact absurd rfl hc
      ·rw [tf] at rpe rte rke⊢
       have hple:noF.pts.length≤1000:=by decide
       have htle:noF.tapes.length≤1000:=by decide
       have hkle:noF.sticks.length≤1000:=by decide
       have hpe:npe≤1000:=by have h:=rpe.elen (by decide);have h2:=hple;omega
       have hte:nte≤1000:=by have h:=rte.elen (by decide);have h2:=htle;omega
       have hke:nke≤1000:=by have h:=rke.elen (by decide);have h2:=hkle;omega
       refine rr2 ?_;refine mq rfl ?_;refine k_neqT rfl zq (by omega) ?_;refine d7 ?_;refine run_seq ?_
       refine run_region [(0,.free),(1,.free),(2,.free),(3,.free),(4,.free),(5,.free),(6,.free),(7,.free),(8,.free),(9,.free),(10,.free),(11,.free),(12,.free),(13,.free),(14,.free)] (by kernel_rfl) (by kernel_rfl) ?_;refine mq rfl ?_
       refine k_eqlS rfl zq (fun hc=>?_) (fun hc=>?_)
       ·refine d52 ?_;refine k_pickT rfl zq ?_;refine mq rfl ?_;refine k_ldA rfl rfl ?_;refine k_bld rfl rfl ?_
        refine k_calP (Post:=fun v=>IsB _ v) rfl rfl (by kernel_rfl) (fun H' hH=>f58_c _ H' (b:=noF) (rpe.keeps (sq hH)) hpe (rte.keeps (sq hH)) hte (rke.keeps (sq hH)) hke (b2:=noF) rd_none (by omega) rd_none (by omega) rd_none (by omega)) ?_;rintro v (⟨hc,rfl⟩|⟨hc,rfl⟩)
        ·refine k_put ?_;refine k_pickT rfl zq ?_;refine mq rfl ?_;refine k_cal rfl rfl (by kernel_rfl) (f18_c _) ?_;rintro v h' ⟨nF,rfl,rfl⟩;refine k_put ?_;refine d92 ?_;refine run_top rfl Tryz.func16 (by kernel_rfl) rfl ?_;rfl
        ·refine k_put ?_;exact absurd rfl hc
       ·refine d23 ?_;refine k_eqlT rfl rfl (by omega) ?_;refine k_pickF rfl zq ?_;refine mq rfl ?_;refine k_ldA rfl rfl ?_;refine k_bld rfl rfl ?_
        refine k_calP (Post:=fun v=>IsB _ v) rfl rfl (by kernel_rfl) (fun H' hH=>f58_c _ H' (b:=noF) (rpe.keeps (sq hH)) hpe (rte.keeps (sq hH)) hte (rke.keeps (sq hH)) hke (b2:=noF) rd_none (by omega) rd_none (by omega) rd_none (by omega)) ?_;rintro v (⟨hc,rfl⟩|⟨hc,rfl⟩)
        ·refine k_put ?_;refine k_pickT rfl zq ?_;refine mq rfl ?_;refine k_cal rfl rfl (by kernel_rfl) (f18_c _) ?_;rintro v h' ⟨nF,rfl,rfl⟩;refine k_put ?_;refine d92 ?_;refine run_top rfl Tryz.func16 (by kernel_rfl) rfl ?_;rfl
        ·refine k_put ?_;exact absurd rfl hc
     ·refine k_put ?_;exact absurd rfl hc
   ·refine k_put ?_;exact absurd rfl hc
 ·refine d44 ?_;refine d7 ?_;refine rs2 ?_
  refine k_cal rfl zq (by kernel_rfl) (f18_c _) ?_;rintro v h' ⟨nF,rfl,rfl⟩;refine d110 ?_
  refine run_top rfl Tryz.func16 (by kernel_rfl) rfl ?_;rfl
end Go.Proofs
