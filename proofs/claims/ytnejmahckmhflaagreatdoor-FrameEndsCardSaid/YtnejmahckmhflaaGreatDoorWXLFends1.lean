/- A part of the proof of a law: my own separation logic over the machine, and walks of the program. Condition of each theorem: as its statement says. -/
import Derived.Test.YtnejmahckmhflaaGreatDoorWB9
set_option linter.all false
namespace Go.Lo
open Go.Conc (G)
section
variable {P:Program} {B:Array Obj} {h:Hp}
theorem reads_partA {e n:Nat} {cs:Array Value} {o:Nat} [AggT P e n]:Reads P B (part e cs o) h (.agg (cs.extract o (o+n))):=by
 unfold part
 refine Reads.bind und_agg ?_
 exact Reads.bind (size_agg (P:=P) (n:=n)) (Reads.pure _)
def key4B (P:Program) (t:TypeId):Bool:=match P.underlying t with
 |some (.struct fs)=>(match fs.toList with
  |[f,g,s]=>f.offset==0&&g.offset==1&&s.offset==2&&f.name != "_" &&g.name != "_" &&s.name != "_" &&scalB P f.type&&scalB P g.type&&aggB P s.type 2&&keyB P s.type&&(match P.underlying f.type with|some (.int .i64)=>true|_=>false)&&(match P.underlying g.type with|some (.int .i64)=>true|_=>false)
  |_=>false)&&!P.stoodInHeld t
 |_=>false
class Key4T (P:Program) (t:TypeId):Prop where
 eq:key4B P t=true
theorem Key4T.spec {t:TypeId} [k:Key4T P t]: ∃f g s:Field,P.underlying t=some (.struct #[f,g,s])∧f.offset=0∧g.offset=1∧s.offset=2∧f.name≠ "_" ∧g.name≠ "_" ∧s.name≠ "_" ∧Scal P f.type∧Scal P g.type∧AggT P s.type 2∧KeyT P s.type∧P.underlying f.type=some (.int .i64)∧P.underlying g.type=some (.int .i64)∧P.stoodInHeld t=false:=by
 have:=k.eq
 unfold key4B at this
 split at this
 ·rename_i fs hu
  rw [Bool.and_eq_true] at this
  obtain ⟨h1,h2⟩:=this
  split at h1
  ·rename_i f g s hfs
   simp only [Bool.and_eq_true,beq_iff_eq,bne_iff_ne,ne_eq] at h1
   obtain ⟨⟨⟨⟨⟨⟨⟨⟨⟨⟨⟨a1,a2⟩,a3⟩,b1⟩,b2⟩,b3⟩,c1⟩,c2⟩,c3⟩,c4⟩,a7⟩,a8⟩:=h1
   refine ⟨f,g,s,?_,a1,a2,a3,b1,b2,b3,⟨c1⟩,⟨c2⟩,⟨c3⟩,⟨c4⟩,?_,?_,by simpa using h2⟩
   ·rw [hu];congr 2
    exact Array.ext' (by rw [hfs])
   ·split at a7
    ·assumption
    ·cases a7
   ·split at a8
    ·assumption
    ·cases a8
  ·cases h1
 ·cases this
theorem reads_eq4 (dd:Nat) {t:TypeId} [Key4T P t] (a b c d a' b' c' d':Int):Reads P B (Op.equalIn (dd+3) t (.agg [.int .i64 a,.int .i64 b,.int .i64 c,.int .i64 d].toArray) (.agg [.int .i64 a',.int .i64 b',.int .i64 c',.int .i64 d'].toArray)) h (a==a'&&(b==b'&&(c==c'&&d==d'))):=by
 obtain ⟨f,g,s,hu,o1,o2,o3,n1,n2,n3,s1,s2,s3,s4,u1,u2,hs⟩:=Key4T.spec (P:=P) (t:=t)
 unfold Op.equalIn
 refine Reads.bind (still_und hu).reads ?_
 refine Reads.bind Reads.program' ?_
 simp only [hs,Bool.false_eq_true,if_false,pure_bind]
 rw [←Array.forIn_toList];simp only [List.forIn_cons,List.forIn_nil,n1,n2,n3,ne_eq,not_false_eq_true,if_true,o1,o2,o3,bind_assoc]
 refine Reads.bind (reads_partS (v:= .int .i64 a) rfl) (Reads.bind (reads_partS (v:= .int .i64 a') rfl) (Reads.bind (reads_eqi (dd+1) u1 a a') ?_))
 cases h1:(a==a')
 ·simp only [Bool.not_false,if_true,pure_bind,Bool.false_and]
  exact Reads.pure _
 ·simp only [Bool.not_true,Bool.false_eq_true,if_false,pure_bind,Bool.true_and,bind_assoc]
  refine Reads.bind (reads_partS (v:= .int .i64 b) rfl) (Reads.bind (reads_partS (v:= .int .i64 b') rfl) (Reads.bind (reads_eqi (dd+1) u2 b b') ?_))
  cases h2:(b==b')
  ·simp only [Bool.not_false,if_true,pure_bind,Bool.false_and]
   exact Reads.pure _
  ·simp only [Bool.not_true,Bool.false_eq_true,if_false,pure_bind,Bool.true_and,bind_assoc]
   refine Reads.bind (reads_partA (n:=2)) (Reads.bind (reads_partA (n:=2)) (Reads.bind (reads_eqK dd (t:=s.type) c d c' d') ?_))
   cases h3:(c==c'&&d==d')
   ·simp only [Bool.not_false,if_true,pure_bind]
    exact Reads.pure _
   ·simp only [Bool.not_true,Bool.false_eq_true,if_false,pure_bind]
    exact Reads.pure _
end
section
variable {P:Program} {B:Array Obj} {m:Md P B} {ops:Array Oper} {l l' l'':List Value} {S h h' H:Hp} {C:List Value→Hp→Prop} {i:Nat} {kd:Kd} {r:List (Nat×Kd)}
 {d:Option Tmp} {ty:TypeId} {pos:String} {af:Array Edge} {g:Option (Nat×Bool)}
theorem k_neq4 {t u:TypeId} {x y:Operand} {a b c e a' b' c' e':Int} (ho:ops[i]?=some ⟨d,.binOp .neq t x y u,ty,pos,af,g⟩) (hw:Wt ops l g) [kh:KHeap kd S h H] [ex:OpV l x (.agg [.int .i64 a,.int .i64 b,.int .i64 c,.int .i64 e].toArray)] [ey:OpV l y (.agg [.int .i64 a',.int .i64 b',.int .i64 c',.int .i64 e'].toArray)] [Key4T P t]
  (hg:P.eqGuardType P.depth t=false) [pt:PutV l d (.bool true) l'] [pf:PutV l d (.bool false) l''] (yes: ¬(a=a'∧b=b'∧c=c'∧e=e')→RegK m S ops r l' h C) (no:a=a'∧b=b'∧c=c'∧e=e'→RegK m S ops r l'' h C):RegK m S ops ((i,kd)::r) l h C:=by
 have he:=reads_eq4 (P:=P) (B:=B) (h:=H) 9997 (t:=t) a b c e a' b' c' e'
 by_cases hx:a=a'∧b=b'∧c=c'∧e=e'
 ·have e2:(a==a'&&(b==b'&&(c==c'&&e==e')))=true:=by simp [hx]
  rw [e2] at he
  haveI:PutV l d (.bool !true) l'':=pf
  exact k_neqG ho hw hg he (no hx)
 ·have e2:(a==a'&&(b==b'&&(c==c'&&e==e')))=false:=by simpa using hx
  rw [e2] at he
  haveI:PutV l d (.bool !false) l':=pt
  exact k_neqG ho hw hg he (yes hx)
end
end Go.Lo
namespace Go.Lo
open Go.Conc (G)
section
variable {P:Program} {B:Array Obj} {h:Hp}
def key3B (P:Program) (t:TypeId):Bool:=match P.underlying t with
 |some (.struct fs)=>(match fs.toList with
  |[f,s]=>f.offset==0&&s.offset==1&&f.name != "_" &&s.name != "_" &&scalB P f.type&&aggB P s.type 2&&keyB P s.type&&(match P.underlying f.type with|some (.int .i64)=>true|_=>false)
  |_=>false)&&!P.stoodInHeld t
 |_=>false
class Key3T (P:Program) (t:TypeId):Prop where
 eq:key3B P t=true
theorem Key3T.spec {t:TypeId} [k:Key3T P t]: ∃f s:Field,P.underlying t=some (.struct #[f,s])∧f.offset=0∧s.offset=1∧f.name≠ "_" ∧s.name≠ "_" ∧Scal P f.type∧AggT P s.type 2∧KeyT P s.type∧P.underlying f.type=some (.int .i64)∧P.stoodInHeld t=false:=by
 have:=k.eq
 unfold key3B at this
 split at this
 ·rename_i fs hu
  rw [Bool.and_eq_true] at this
  obtain ⟨h1,h2⟩:=this
  split at h1
  ·rename_i f s hfs
   simp only [Bool.and_eq_true,beq_iff_eq,bne_iff_ne,ne_eq] at h1
   obtain ⟨⟨⟨⟨⟨⟨⟨a1,a2⟩,b1⟩,b2⟩,c1⟩,c3⟩,c4⟩,a7⟩:=h1
   refine ⟨f,s,?_,a1,a2,b1,b2,⟨c1⟩,⟨c3⟩,⟨c4⟩,?_,by simpa using h2⟩
   ·rw [hu];congr 2
    exact Array.ext' (by rw [hfs])
   ·split at a7
    ·assumption
    ·cases a7
  ·cases h1
 ·cases this
theorem reads_eq3 (dd:Nat) {t:TypeId} [Key3T P t] (a c d a' c' d':Int):Reads P B (Op.equalIn (dd+3) t (.agg [.int .i64 a,.int .i64 c,.int .i64 d].toArray) (.agg [.int .i64 a',.int .i64 c',.int .i64 d'].toArray)) h (a==a'&&(c==c'&&d==d')):=by
 obtain ⟨f,s,hu,o1,o3,n1,n3,s1,s3,s4,u1,hs⟩:=Key3T.spec (P:=P) (t:=t)
 unfold Op.equalIn
 refine Reads.bind (still_und hu).reads ?_
 refine Reads.bind Reads.program' ?_
 simp only [hs,Bool.false_eq_true,if_false,pure_bind]
 rw [←Array.forIn_toList];simp only [List.forIn_cons,List.forIn_nil,n1,n3,ne_eq,not_false_eq_true,if_true,o1,o3,bind_assoc]
 refine Reads.bind (reads_partS (v:= .int .i64 a) rfl) (Reads.bind (reads_partS (v:= .int .i64 a') rfl) (Reads.bind (reads_eqi (dd+1) u1 a a') ?_))
 cases h1:(a==a')
 ·simp only [Bool.not_false,if_true,pure_bind,Bool.false_and]
  exact Reads.pure _
 ·simp only [Bool.not_true,Bool.false_eq_true,if_false,pure_bind,Bool.true_and,bind_assoc]
  refine Reads.bind (reads_partA (n:=2)) (Reads.bind (reads_partA (n:=2)) (Reads.bind (reads_eqK dd (t:=s.type) c d c' d') ?_))
  cases h3:(c==c'&&d==d')
  ·simp only [Bool.not_false,if_true,pure_bind]
   exact Reads.pure _
  ·simp only [Bool.not_true,Bool.false_eq_true,if_false,pure_bind]
   exact Reads.pure _
def keySB (P:Program) (t:TypeId):Bool:=match P.underlying t with
 |some (.struct fs)=>(match fs.toList with
  |[f,g,s]=>f.offset==0&&g.offset==1&&s.offset==2&&f.name != "_" &&g.name != "_" &&s.name != "_" &&scalB P f.type&&scalB P g.type&&scalB P s.type&&(match P.underlying s.type with|some .bool=>true|_=>false)&&(match P.underlying f.type with|some (.int .i64)=>true|_=>false)&&(match P.underlying g.type with|some (.int .i64)=>true|_=>false)
  |_=>false)&&!P.stoodInHeld t
 |_=>false
class KeyST (P:Program) (t:TypeId):Prop where
 eq:keySB P t=true
theorem KeyST.spec {t:TypeId} [k:KeyST P t]: ∃f g s:Field,P.underlying t=some (.struct #[f,g,s])∧f.offset=0∧g.offset=1∧s.offset=2∧f.name≠ "_" ∧g.name≠ "_" ∧s.name≠ "_" ∧Scal P f.type∧Scal P g.type∧Scal P s.type∧P.underlying s.type=some .bool∧P.underlying f.type=some (.int .i64)∧P.underlying g.type=some (.int .i64)∧P.stoodInHeld t=false:=by
 have:=k.eq
 unfold keySB at this
 split at this
 ·rename_i fs hu
  rw [Bool.and_eq_true] at this
  obtain ⟨h1,h2⟩:=this
  split at h1
  ·rename_i f g s hfs
   simp only [Bool.and_eq_true,beq_iff_eq,bne_iff_ne,ne_eq] at h1
   obtain ⟨⟨⟨⟨⟨⟨⟨⟨⟨⟨⟨a1,a2⟩,a3⟩,b1⟩,b2⟩,b3⟩,c1⟩,c2⟩,c3⟩,a6⟩,a7⟩,a8⟩:=h1
   refine ⟨f,g,s,?_,a1,a2,a3,b1,b2,b3,⟨c1⟩,⟨c2⟩,⟨c3⟩,?_,?_,?_,by simpa using h2⟩
   ·rw [hu];congr 2
    exact Array.ext' (by rw [hfs])
   ·split at a6
    ·assumption
    ·cases a6
   ·split at a7
    ·assumption
    ·cases a7
   ·split at a8
    ·assumption
    ·cases a8
  ·cases h1
 ·cases this
theorem reads_eqb (dd:Nat) {t:TypeId} (hb:P.underlying t=some .bool) (a c:Bool):Reads P B (Op.equalIn (dd+1) t (.bool a) (.bool c)) h (a==c):=by
 unfold Op.equalIn
 refine Reads.bind (still_und hb).reads ?_
 exact Reads.pure _
theorem reads_eqS (dd:Nat) {t:TypeId} [KeyST P t] (a b a' b':Int) (c c':Bool):Reads P B (Op.equalIn (dd+3) t (.agg [.int .i64 a,.int .i64 b,.bool c].toArray) (.agg [.int .i64 a',.int .i64 b',.bool c'].toArray)) h (a==a'&&(b==b'&&c==c')):=by
 obtain ⟨f,g,s,hu,o1,o2,o3,n1,n2,n3,s1,s2,s3,u3,u1,u2,hs⟩:=KeyST.spec (P:=P) (t:=t)
 unfold Op.equalIn
 refine Reads.bind (still_und hu).reads ?_
 refine Reads.bind Reads.program' ?_
 simp only [hs,Bool.false_eq_true,if_false,pure_bind]
 rw [←Array.forIn_toList];simp only [List.forIn_cons,List.forIn_nil,n1,n2,n3,ne_eq,not_false_eq_true,if_true,o1,o2,o3,bind_assoc]
 refine Reads.bind (reads_partS (v:= .int .i64 a) rfl) (Reads.bind (reads_partS (v:= .int .i64 a') rfl) (Reads.bind (reads_eqi (dd+1) u1 a a') ?_))
 cases h1:(a==a')
 ·simp only [Bool.not_false,if_true,pure_bind,Bool.false_and]
  exact Reads.pure _
 ·simp only [Bool.not_true,Bool.false_eq_true,if_false,pure_bind,Bool.true_and,bind_assoc]
  refine Reads.bind (reads_partS (v:= .int .i64 b) rfl) (Reads.bind (reads_partS (v:= .int .i64 b') rfl) (Reads.bind (reads_eqi (dd+1) u2 b b') ?_))
  cases h2:(b==b')
  ·simp only [Bool.not_false,if_true,pure_bind,Bool.false_and]
   exact Reads.pure _
  ·simp only [Bool.not_true,Bool.false_eq_true,if_false,pure_bind,Bool.true_and,bind_assoc]
   refine Reads.bind (reads_partS (v:= .bool c) rfl) (Reads.bind (reads_partS (v:= .bool c') rfl) (Reads.bind (reads_eqb (dd+1) u3 c c') ?_))
   cases h3:(c==c')
   ·simp only [Bool.not_false,if_true,pure_bind]
    exact Reads.pure _
   ·simp only [Bool.not_true,Bool.false_eq_true,if_false,pure_bind]
    exact Reads.pure _
end
section
variable {P:Program} {B:Array Obj} {m:Md P B} {ops:Array Oper} {l l' l'':List Value} {S h h' H:Hp} {C:List Value→Hp→Prop} {i:Nat} {kd:Kd} {r:List (Nat×Kd)}
 {d:Option Tmp} {ty:TypeId} {pos:String} {af:Array Edge} {g:Option (Nat×Bool)}
theorem k_neq3 {t u:TypeId} {x y:Operand} {a c e a' c' e':Int} (ho:ops[i]?=some ⟨d,.binOp .neq t x y u,ty,pos,af,g⟩) (hw:Wt ops l g) [kh:KHeap kd S h H] [ex:OpV l x (.agg [.int .i64 a,.int .i64 c,.int .i64 e].toArray)] [ey:OpV l y (.agg [.int .i64 a',.int .i64 c',.int .i64 e'].toArray)] [Key3T P t]
  (hg:P.eqGuardType P.depth t=false) [pt:PutV l d (.bool true) l'] [pf:PutV l d (.bool false) l''] (yes: ¬(a=a'∧c=c'∧e=e')→RegK m S ops r l' h C) (no:a=a'∧c=c'∧e=e'→RegK m S ops r l'' h C):RegK m S ops ((i,kd)::r) l h C:=by
 have he:=reads_eq3 (P:=P) (B:=B) (h:=H) 9997 (t:=t) a c e a' c' e'
 by_cases hx:a=a'∧c=c'∧e=e'
 ·have e2:(a==a'&&(c==c'&&e==e'))=true:=by simp [hx]
  rw [e2] at he
  haveI:PutV l d (.bool !true) l'':=pf
  exact k_neqG ho hw hg he (no hx)
 ·have e2:(a==a'&&(c==c'&&e==e'))=false:=by simpa using hx
  rw [e2] at he
  haveI:PutV l d (.bool !false) l':=pt
  exact k_neqG ho hw hg he (yes hx)
theorem k_neqSk {t u:TypeId} {x y:Operand} {a c a' c':Int} {e e':Bool} (ho:ops[i]?=some ⟨d,.binOp .neq t x y u,ty,pos,af,g⟩) (hw:Wt ops l g) [kh:KHeap kd S h H] [ex:OpV l x (.agg [.int .i64 a,.int .i64 c,.bool e].toArray)] [ey:OpV l y (.agg [.int .i64 a',.int .i64 c',.bool e'].toArray)] [KeyST P t]
  (hg:P.eqGuardType P.depth t=false) [pt:PutV l d (.bool true) l'] [pf:PutV l d (.bool false) l''] (yes: ¬(a=a'∧c=c'∧e=e')→RegK m S ops r l' h C) (no:a=a'∧c=c'∧e=e'→RegK m S ops r l'' h C):RegK m S ops ((i,kd)::r) l h C:=by
 have he:=reads_eqS (P:=P) (B:=B) (h:=H) 9997 (t:=t) a c a' c' e e'
 by_cases hx:a=a'∧c=c'∧e=e'
 ·have e2:(a==a'&&(c==c'&&e==e'))=true:=by simp [hx]
  rw [e2] at he
  haveI:PutV l d (.bool !true) l'':=pf
  exact k_neqG ho hw hg he (no hx)
 ·have e2:(a==a'&&(c==c'&&e==e'))=false:=by simpa using hx
  rw [e2] at he
  haveI:PutV l d (.bool !false) l':=pt
  exact k_neqG ho hw hg he (yes hx)
end
end Go.Lo
namespace Go.Proofs
open Go.Lo
open Go.Conc (G)
set_option maxRecDepth 100000
set_option synthInstance.maxHeartbeats 1000000
section
variable {P:Program} {B:Array Obj} {m:Md P B} {ops:Array Oper} {l l':List Value} {S h h' H:Hp} {C:List Value→Hp→Prop} {i:Nat} {kd:Kd} {r:List (Nat×Kd)}
 {d:Option Tmp} {ty:TypeId} {pos:String} {af:Array Edge} {g:Option (Nat×Bool)}
theorem k_eqlF {t u:TypeId} {x y:Operand} {a b:Int} {k:IntKind} (ho:ops[i]?=some ⟨d,.binOp .eql t x y u,ty,pos,af,g⟩) (hw:Wt ops l g) [kh:KHeap kd S h H] [ex:OpV l x (.int k a)] [ey:OpV l y (.int k b)] (e:a≠b) [pt:PutV l d (.bool false) l'] (q:RegK m S ops r l' h C):RegK m S ops ((i,kd)::r) l h C:=by
 have pq:=pt;rw [←decide_eq_false e] at pq;exact k_eql (l':=l') ho hw q
theorem k_neqT {t u:TypeId} {x y:Operand} {a b:Int} {k:IntKind} (ho:ops[i]?=some ⟨d,.binOp .neq t x y u,ty,pos,af,g⟩) (hw:Wt ops l g) [kh:KHeap kd S h H] [ex:OpV l x (.int k a)] [ey:OpV l y (.int k b)] (e:a≠b) [pt:PutV l d (.bool true) l'] (q:RegK m S ops r l' h C):RegK m S ops ((i,kd)::r) l h C:=by
 have pq:=pt;rw [←decide_eq_true e] at pq;exact k_neq (l':=l') ho hw q
theorem k_gtrF {t u:TypeId} {x y:Operand} {a b:Int} {k:IntKind} (ho:ops[i]?=some ⟨d,.binOp .gtr t x y u,ty,pos,af,g⟩) (hw:Wt ops l g) [kh:KHeap kd S h H] [ex:OpV l x (.int k a)] [ey:OpV l y (.int k b)] (e: ¬b<a) [pt:PutV l d (.bool false) l'] (q:RegK m S ops r l' h C):RegK m S ops ((i,kd)::r) l h C:=by
 have pq:=pt;rw [←decide_eq_false e] at pq;exact k_gtr (l':=l') ho hw q
theorem k_lssF {t u:TypeId} {x y:Operand} {a b:Int} {k:IntKind} (ho:ops[i]?=some ⟨d,.binOp .lss t x y u,ty,pos,af,g⟩) (hw:Wt ops l g) [kh:KHeap kd S h H] [ex:OpV l x (.int k a)] [ey:OpV l y (.int k b)] (e: ¬a<b) [pt:PutV l d (.bool false) l'] (q:RegK m S ops r l' h C):RegK m S ops ((i,kd)::r) l h C:=by
 have pq:=pt;rw [←decide_eq_false e] at pq;exact k_lss (l':=l') ho hw q
theorem k_gtrT {t u:TypeId} {x y:Operand} {a b:Int} {k:IntKind} (ho:ops[i]?=some ⟨d,.binOp .gtr t x y u,ty,pos,af,g⟩) (hw:Wt ops l g) [kh:KHeap kd S h H] [ex:OpV l x (.int k a)] [ey:OpV l y (.int k b)] (e:b<a) [pt:PutV l d (.bool true) l'] (q:RegK m S ops r l' h C):RegK m S ops ((i,kd)::r) l h C:=by
 have pq:=pt;rw [←decide_eq_true e] at pq;exact k_gtr (l':=l') ho hw q
theorem k_lssT {t u:TypeId} {x y:Operand} {a b:Int} {k:IntKind} (ho:ops[i]?=some ⟨d,.binOp .lss t x y u,ty,pos,af,g⟩) (hw:Wt ops l g) [kh:KHeap kd S h H] [ex:OpV l x (.int k a)] [ey:OpV l y (.int k b)] (e:a<b) [pt:PutV l d (.bool true) l'] (q:RegK m S ops r l' h C):RegK m S ops ((i,kd)::r) l h C:=by
 have pq:=pt;rw [←decide_eq_true e] at pq;exact k_lss (l':=l') ho hw q
theorem k_geqT {t u:TypeId} {x y:Operand} {a b:Int} {k:IntKind} (ho:ops[i]?=some ⟨d,.binOp .geq t x y u,ty,pos,af,g⟩) (hw:Wt ops l g) [kh:KHeap kd S h H] [ex:OpV l x (.int k a)] [ey:OpV l y (.int k b)] (e:b≤a) [pt:PutV l d (.bool true) l'] (q:RegK m S ops r l' h C):RegK m S ops ((i,kd)::r) l h C:=by
 have pq:=pt;rw [←decide_eq_true e] at pq;exact k_geq (l':=l') ho hw q
theorem k_geqF {t u:TypeId} {x y:Operand} {a b:Int} {k:IntKind} (ho:ops[i]?=some ⟨d,.binOp .geq t x y u,ty,pos,af,g⟩) (hw:Wt ops l g) [kh:KHeap kd S h H] [ex:OpV l x (.int k a)] [ey:OpV l y (.int k b)] (e: ¬b≤a) [pt:PutV l d (.bool false) l'] (q:RegK m S ops r l' h C):RegK m S ops ((i,kd)::r) l h C:=by
 have pq:=pt;rw [←decide_eq_false e] at pq;exact k_geq (l':=l') ho hw q
theorem reads_eqBoolK {t:TypeId} (hb:P.underlying t=some .bool) (a c:Bool):Reads P B (Op.equal t (.bool a) (.bool c)) H (a==c):=by
 show Reads P B (Op.equalIn 10000 t (.bool a) (.bool c)) H (a==c)
 unfold Op.equalIn
 exact Reads.bind (still_und hb).reads (Reads.pure _)
theorem k_neqBF {t u:TypeId} {x y:Operand} {a c:Bool} (ho:ops[i]?=some ⟨d,.binOp .neq t x y u,ty,pos,af,g⟩) (hw:Wt ops l g) (hb:P.underlying t=some .bool) [KHeap kd S h H] [ex:OpV l x (.bool a)] [ey:OpV l y (.bool c)] (e:a=c) [PutV l d (.bool false) l'] (q:RegK m S ops r l' h C):RegK m S ops ((i,kd)::r) l h C:=
 RegK.rd (v:= .bool false) ho hw (by
  subst e
  simp only [execOp,ex.eq,ey.eq]
  refine Reads.value (Reads.bind (a:=()) (Reads.pure _) ?_)
  show Reads P B (Op.equal t (.bool a) (.bool a)>>=fun b=>pure (Value.bool !b)) H _
  have:=reads_eqBoolK (P:=P) (B:=B) (H:=H) hb a a
  rw [beq_self_eq_true] at this
  exact Reads.bind this (Reads.pure _)) q
end
end Go.Proofs
namespace Go.Proofs
open Go.Lo
open Go.Conc (G)
set_option maxRecDepth 100000
set_option synthInstance.maxSize 100000
set_option synthInstance.maxHeartbeats 1000000
set_option maxHeartbeats 4000000
variable {b:Fb} {pp:Option Addr} {np cp:Nat} {pt:Option Addr} {nt ct:Nat} {pk:Option Addr} {nk ck:Nat}
variable {B:Array Obj}
variable [LaidF B]
theorem same_take {α:Type} [Inhabited α] {xs ys:List α} {k:Nat} (h1:k<xs.length) (h2:k<ys.length) (h:xs.take k=ys.take k) (e:xs.getD k default=ys.getD k default):xs.take (k+1)=ys.take (k+1):=by
 rw [List.take_succ,List.take_succ,h,List.getElem?_eq_getElem h1,List.getElem?_eq_getElem h2];rw [List.getD_eq_getElem?_getD,List.getD_eq_getElem?_getD,List.getElem?_eq_getElem h1,List.getElem?_eq_getElem h2] at e
 simp only [Option.getD_some] at e
 rw [e]
instance:Key3T Tryz.prog 80:=⟨by kernel_rfl⟩
instance:Key4T Tryz.prog 99:=⟨by kernel_rfl⟩
instance:KeyST Tryz.prog 73:=⟨by kernel_rfl⟩
theorem pt_ext {x y:Pt} (h:x.h=y.h∧x.lo=y.lo∧x.hi=y.hi):x=y:=by cases x;cases y;simp_all
theorem tp_ext {x y:Tp} (h:x.f=y.f∧x.t=y.t∧x.lo=y.lo∧x.hi=y.hi):x=y:=by cases x;cases y;simp_all
theorem sk_ext {x y:Sk} (h:x.h=y.h∧x.long=y.long∧x.fits=y.fits):x=y:=by cases x;cases y;simp_all
theorem fb_ext {x y:Fb} (h1:x.plank=y.plank) (h2:x.pts=y.pts) (h3:x.tapes=y.tapes) (h4:x.sticks=y.sticks):x=y:=by cases x;cases y;simp_all
theorem f58_c (m:Md Tryz.prog B) (h:Hp) (rdp:Rp B h b pp np cp) (hp:np≤1000) (rdt:Rt B h b pt nt ct) (ht:nt≤1000) (rdk:Rk B h b pk nk ck) (hk:nk≤1000) {b2:Fb} {pp2:Option Addr} {np2 cp2:Nat} {pt2:Option Addr} {nt2 ct2:Nat} {pk2:Option Addr} {nk2 ck2:Nat} (rdp2:RdS B h 3 (.slice pp2 np2 cp2) np2 (encs b2.pts)) (hp2:np2≤1000) (rdt2:RdS B h 4 (.slice pt2 nt2 ct2) nt2 (encs b2.tapes)) (ht2:nt2≤1000) (rdk2:RdS B h 3 (.slice pk2 nk2 ck2) nk2 (encs b2.sticks)) (hk2:nk2≤1000):FnC m 58 #[fbV b pp np cp pt nt ct pk nk ck,fbV b2 pp2 np2 cp2 pt2 nt2 ct2 pk2 nk2 ck2] h fun v h'=>h'=h∧IsB (b=b2) v:=by
 have hml:=rdp.elen (by decide)
 have htl:=rdt.elen (by decide)
 have hkl:=rdk.elen (by decide)
 have hml2:=rdp2.elen (by decide)
 have htl2:=rdt2.elen (by decide)
 have hkl2:=rdk2.elen (by decide)
 refine fn_enter Tryz.func58 rfl rfl (l:=[fbV b pp np cp pt nt ct pk nk ck,fbV b2 pp2 np2 cp2 pt2 nt2 ct2 pk2 nk2 ck2,undef,undef,undef,undef,undef,undef,undef,undef,undef,undef,undef,undef,undef,undef,undef,undef,undef,undef,undef,undef,undef,undef,undef,undef,undef,undef,undef,undef,undef,undef,undef,undef,undef,undef,undef,undef,undef,undef,undef,undef,undef,undef,undef,undef,undef,undef,undef,undef,undef,undef,undef,undef,undef,undef,undef,undef,undef,undef,undef,undef,undef,undef,undef,undef,undef,undef,undef,undef,undef,undef,undef,undef,undef,undef,undef,undef,undef,undef,undef,undef,undef,undef,undef,undef,undef,undef,undef,undef,undef,undef,undef,undef]) rfl ?_
 intro cf cs K hK
 refine rs3 ?_;refine k_box rfl zq (fun q2=>k_hp (k_put ?_));refine k_box rfl zq (fun q3=>k_hp (k_put ?_));refine d12 ?_;refine run_seq ?_
 refine run_region [(0,.free),(1,.free),(2,.free),(3,.free),(4,.free),(5,.free),(6,.free),(7,.free),(8,.free),(9,.free),(10,.free),(11,.free),(12,.free),(13,.free),(14,.free),(15,.free),(16,.free),(17,.free),(18,.free),(19,.free),(20,.free),(21,.free),(22,.free),(23,.free),(24,.free),(25,.free),(26,.free),(27,.free),(28,.free),(29,.free),(30,.free),(31,.free)] (by kernel_rfl) (by kernel_rfl) ?_;refine d2 ?_;refine d2 ?_
 refine k_neqS rfl zq (fun hc=>?_) (fun hc=>?_)
 ·refine d111 ?_;refine k_off rfl rfl ?_;refine k_pickT rfl zq ?_;refine d111 ?_;refine k_off rfl rfl ?_;refine k_pickT rfl zq ?_;refine d111 ?_;refine k_off rfl rfl ?_;refine d138 ?_
  refine run_res (h) rfl Tryz.func58 rfl weakSub ?_;refine hK _ _ ?_;first
   |(have hmk:b.sticks=b2.sticks:=by
      rw [List.take_of_length_le (by omega),List.take_of_length_le (by omega)] at hew
      exact hew
     exact ⟨rfl,IsB.yes (fb_ext (by omega) hmp hmt hmk)⟩)
   |exact ⟨rfl,IsB.no (fun e=>by
   have e1:=congrArg Fb.plank e
   have e2:=congrArg (fun x:Fb=>x.pts.length) e
   have e3:=congrArg (fun x:Fb=>x.tapes.length) e
   have e4:=congrArg (fun x:Fb=>x.sticks.length) e
   first|omega|(rw [e] at hx;exact hx ⟨rfl,rfl,rfl⟩)|(rw [e] at hx;exact hx ⟨rfl,rfl,rfl,rfl⟩))⟩
 ·refine mq rfl ?_;refine d25 ?_;refine k_len rfl rfl ?_;refine d25 ?_;refine k_len rfl rfl ?_
  refine k_neqS rfl rfl (fun hc=>?_) (fun hc=>?_)
  ·refine k_pickF rfl zq ?_;refine d111 ?_;refine k_off rfl rfl ?_;refine k_pickT rfl zq ?_;refine d111 ?_;refine k_off rfl rfl ?_;refine d138 ?_;refine run_res (h) rfl Tryz.func58 rfl weakSub ?_;refine hK _ _ ?_;first
    |(have hmk:b.sticks=b2.sticks:=by
       rw [List.take_of_length_le (by omega),List.take_of_length_le (by omega)] at hew
       exact hew
      exact ⟨rfl,IsB.yes (fb_ext (by omega) hmp hmt hmk)⟩)
    |exact ⟨rfl,IsB.no (fun e=>by
    have e1:=congrArg Fb.plank e
    have e2:=congrArg (fun x:Fb=>x.pts.length) e
    have e3:=congrArg (fun x:Fb=>x.tapes.length) e
    have e4:=congrArg (fun x:Fb=>x.sticks.length) e
    first|omega|(rw [e] at hx;exact hx ⟨rfl,rfl,rfl⟩)|(rw [e] at hx;exact hx ⟨rfl,rfl,rfl,rfl⟩))⟩
  ·refine k_pickF rfl zq ?_;refine mq rfl ?_;refine d25 ?_;refine k_len rfl rfl ?_;refine d25 ?_;refine k_len rfl rfl ?_;refine k_neqS rfl rfl (fun hc=>?_) (fun hc=>?_)
   ·refine k_pickF rfl zq ?_;refine d111 ?_;refine k_off rfl rfl ?_;refine d138 ?_;refine run_res (h) rfl Tryz.func58 rfl weakSub ?_;refine hK _ _ ?_;first
     |(have hmk:b.sticks=b2.sticks:=by
        rw [List.take_of_length_le (by omega),List.take_of_length_le (by omega)] at hew
        exact hew
       exact ⟨rfl,IsB.yes (fb_ext (by omega) hmp hmt hmk)⟩)
     |exact ⟨rfl,IsB.no (fun e=>by
     have e1:=congrArg Fb.plank e
     have e2:=congrArg (fun x:Fb=>x.pts.length) e
     have e3:=congrArg (fun x:Fb=>x.tapes.length) e
     have e4:=congrArg (fun x:Fb=>x.sticks.length) e
     first|omega|(rw [e] at hx;exact hx ⟨rfl,rfl,rfl⟩)|(rw [e] at hx;exact hx ⟨rfl,rfl,rfl,rfl⟩))⟩
   ·refine k_pickF rfl zq ?_;refine mq rfl ?_;refine d25 ?_;refine k_len rfl rfl ?_;refine d25 ?_;refine k_len rfl rfl ?_;refine k_neqS rfl rfl (fun hc=>?_) (fun hc=>?_)
    ·refine k_pickF rfl zq ?_;refine d58 ?_;refine run_res (h) rfl Tryz.func58 rfl weakSub ?_;refine hK _ _ ?_;first
      |(have hmk:b.sticks=b2.sticks:=by
         rw [List.take_of_length_le (by omega),List.take_of_length_le (by omega)] at hew
         exact hew
        exact ⟨rfl,IsB.yes (fb_ext (by omega) hmp hmt hmk)⟩)
      |exact ⟨rfl,IsB.no (fun e=>by
      have e1:=congrArg Fb.plank e
      have e2:=congrArg (fun x:Fb=>x.pts.length) e
      have e3:=congrArg (fun x:Fb=>x.tapes.length) e
      have e4:=congrArg (fun x:Fb=>x.sticks.length) e
      first|omega|(rw [e] at hx;exact hx ⟨rfl,rfl,rfl⟩)|(rw [e] at hx;exact hx ⟨rfl,rfl,rfl,rfl⟩))⟩
    ·refine k_pickF rfl zq ?_;refine d37 ?_;refine d142 ?_;refine run_loop (fun nn l h'=> ∃(u:Nat),nn=np-u∧(u≤np)∧(b.pts.take u=b2.pts.take u)∧(∃U:Nat→Value,l=((U 0)::(U 1)::(.pointer (some ⟨q2,0,none⟩))::(.pointer (some ⟨q3,0,none⟩))::(U 4)::(.int .i64 (u:Int))::(U 6)::(U 7)::(U 8)::(U 9)::(U 10)::vw83 U 11 []))∧h++[⟨true,q2,.cells (fbL b pp np cp pt nt ct pk nk ck).toArray 26 (0,0)⟩,⟨true,q3,.cells (fbL b2 pp2 np2 cp2 pt2 nt2 ct2 pk2 nk2 ck2).toArray 26 (0,0)⟩]=h') _ ⟨0,rfl,by omega,rfl,exU rfl,rfl⟩ ?_;rintro nn l h' ⟨u,rfl,hu,heu,⟨U,rfl⟩,rfl⟩ hnext1;refine run_seq ?_;refine rs5 ?_;refine mq rfl ?_;refine d114 ?_;refine k_lssS rfl zq (fun hc=>?_) (fun hc=>?_)
     ·refine d98 ?_;refine run_seq ?_
      refine run_draw [(0,.pure),(2,.pure),(5,.pure),(7,.pure),(1,.read),(3,.pure),(4,.read),(6,.read),(8,.pure),(9,.read),(10,.pure)] (by kernel_rfl) (by kernel_rfl) (List.Sublist.refl _) ?_;(first|refine k_fa0 rfl zq ?_|refine k_fa rfl zq ?_);refine mq rfl ?_;(first|refine k_fa0 rfl zq ?_|refine k_fa rfl zq ?_);refine mq rfl ?_;refine k_ldh rfl zq ?_
      obtain ⟨m1,o1,rfl⟩:=rdp.ptr (by omega)
      refine k_ixs rfl zq (by first|rfl|assumption) (by omega) (by omega) ?_;refine k_ldN (vs:=ptL (b.pts.getD u default)) rfl zq rfl (rdp.eat u (by omega) (by omega)) ?_;refine k_ldh rfl zq ?_;obtain ⟨n1,u1,rfl⟩:=rdp2.ptr (by omega)
      refine k_ixs rfl zq (by first|rfl|assumption) (by omega) (by omega) ?_;refine k_ldN (vs:=ptL (b2.pts.getD u default)) rfl zq rfl (rdp2.eat u (by omega) (by omega)) ?_;refine k_neq3 (hg:=by kernel_rfl) rfl zq (fun hc=>?_) (fun hc=>?_)
      ·have hx:=hc
       refine d58 ?_
       refine run_res (h) rfl Tryz.func58 rfl weakSub ?_;refine hK _ _ ?_;first
        |(have hmk:b.sticks=b2.sticks:=by
           rw [List.take_of_length_le (by omega),List.take_of_length_le (by omega)] at hew
           exact hew
          exact ⟨rfl,IsB.yes (fb_ext (by omega) hmp hmt hmk)⟩)
        |exact ⟨rfl,IsB.no (fun e=>by
        have e1:=congrArg Fb.plank e
        have e2:=congrArg (fun x:Fb=>x.pts.length) e
        have e3:=congrArg (fun x:Fb=>x.tapes.length) e
        have e4:=congrArg (fun x:Fb=>x.sticks.length) e
        first|omega|(rw [e] at hx;exact hx ⟨rfl,rfl,rfl⟩)|(rw [e] at hx;exact hx ⟨rfl,rfl,rfl,rfl⟩))⟩
      ·have hx:=hc
       refine d13 ?_;refine d109 ?_
       exact m.weak weakSub (hnext1 _ _ _ (by omega) ⟨u+1,rfl,by omega,same_take (by omega) (by omega) heu (pt_ext hx),exU rfl,rfl⟩)
     ·refine d75 ?_;refine run_seq ?_;refine rs1 ?_
      have hmp:b.pts=b2.pts:=by
       rw [List.take_of_length_le (by omega),List.take_of_length_le (by omega)] at heu
       exact heu
      refine d54 ?_
      refine run_loop (fun nn l h'=> ∃(v:Nat),nn=nt-v∧(v≤nt)∧(b.tapes.take v=b2.tapes.take v)∧(∃U:Nat→Value,l=((U 0)::(U 1)::(.pointer (some ⟨q2,0,none⟩))::(.pointer (some ⟨q3,0,none⟩))::(U 4)::(U 5)::(.int .i64 (v:Int))::(U 7)::(U 8)::(U 9)::(U 10)::vw83 U 11 []))∧h++[⟨true,q2,.cells (fbL b pp np cp pt nt ct pk nk ck).toArray 26 (0,0)⟩,⟨true,q3,.cells (fbL b2 pp2 np2 cp2 pt2 nt2 ct2 pk2 nk2 ck2).toArray 26 (0,0)⟩]=h') _ ⟨0,rfl,by omega,rfl,exU rfl,rfl⟩ ?_;rintro nn l h' ⟨v,rfl,hv,hev,⟨U,rfl⟩,rfl⟩ hnext2;refine run_seq ?_;refine rs5 ?_;refine mq rfl ?_;refine d114 ?_;refine k_lssS rfl zq (fun hc=>?_) (fun hc=>?_)
      ·refine d98 ?_;refine run_seq ?_
       refine run_draw [(0,.pure),(2,.pure),(5,.pure),(7,.pure),(1,.read),(3,.pure),(4,.read),(6,.read),(8,.pure),(9,.read),(10,.pure)] (by kernel_rfl) (by kernel_rfl) (List.Sublist.refl _) ?_;(first|refine k_fa0 rfl zq ?_|refine k_fa rfl zq ?_);refine mq rfl ?_;(first|refine k_fa0 rfl zq ?_|refine k_fa rfl zq ?_);refine mq rfl ?_;refine k_ldh rfl zq ?_
       obtain ⟨m2,o2,rfl⟩:=rdt.ptr (by omega)
       refine k_ixs rfl zq (by first|rfl|assumption) (by omega) (by omega) ?_;refine k_ldN (vs:=tpL (b.tapes.getD v default)) rfl zq rfl (rdt.eat v (by omega) (by omega)) ?_;refine k_ldh rfl zq ?_;obtain ⟨n2,u2,rfl⟩:=rdt2.ptr (by omega)
       refine k_ixs rfl zq (by first|rfl|assumption) (by omega) (by omega) ?_;refine k_ldN (vs:=tpL (b2.tapes.getD v default)) rfl zq rfl (rdt2.eat v (by omega) (by omega)) ?_;refine k_neq4 (hg:=by kernel_rfl) rfl zq (fun hc=>?_) (fun hc=>?_)
       ·have hx:=hc
        refine d58 ?_
        refine run_res (h) rfl Tryz.func58 rfl weakSub ?_;refine hK _ _ ?_;first
         |(have hmk:b.sticks=b2.sticks:=by
            rw [List.take_of_length_le (by omega),List.take_of_length_le (by omega)] at hew
            exact hew
           exact ⟨rfl,IsB.yes (fb_ext (by omega) hmp hmt hmk)⟩)
         |exact ⟨rfl,IsB.no (fun e=>by
         have e1:=congrArg Fb.plank e
         have e2:=congrArg (fun x:Fb=>x.pts.length) e
         have e3:=congrArg (fun x:Fb=>x.tapes.length) e
         have e4:=congrArg (fun x:Fb=>x.sticks.length) e
         first|omega|(rw [e] at hx;exact hx ⟨rfl,rfl,rfl⟩)|(rw [e] at hx;exact hx ⟨rfl,rfl,rfl,rfl⟩))⟩
       ·have hx:=hc
        refine d13 ?_;refine d109 ?_
        exact m.weak weakSub (hnext2 _ _ _ (by omega) ⟨v+1,rfl,by omega,same_take (by omega) (by omega) hev (tp_ext hx),exU rfl,rfl⟩)
      ·refine d75 ?_;refine run_seq ?_;refine rs1 ?_
       have hmt:b.tapes=b2.tapes:=by
        rw [List.take_of_length_le (by omega),List.take_of_length_le (by omega)] at hev
        exact hev
       refine d54 ?_
       refine run_loop (fun nn l h'=> ∃(w:Nat),nn=nk-w∧(w≤nk)∧(b.sticks.take w=b2.sticks.take w)∧(∃U:Nat→Value,l=((U 0)::(U 1)::(.pointer (some ⟨q2,0,none⟩))::(.pointer (some ⟨q3,0,none⟩))::(U 4)::(U 5)::(U 6)::(.int .i64 (w:Int))::(U 8)::(U 9)::(U 10)::vw83 U 11 []))∧h++[⟨true,q2,.cells (fbL b pp np cp pt nt ct pk nk ck).toArray 26 (0,0)⟩,⟨true,q3,.cells (fbL b2 pp2 np2 cp2 pt2 nt2 ct2 pk2 nk2 ck2).toArray 26 (0,0)⟩]=h') _ ⟨0,rfl,by omega,rfl,exU rfl,rfl⟩ ?_;rintro nn l h' ⟨w,rfl,hw,hew,⟨U,rfl⟩,rfl⟩ hnext3;refine run_seq ?_;refine rs5 ?_;refine mq rfl ?_;refine d114 ?_;refine k_lssS rfl zq (fun hc=>?_) (fun hc=>?_)
       ·refine d98 ?_;refine run_seq ?_
        refine run_draw [(0,.pure),(2,.pure),(5,.pure),(7,.pure),(1,.read),(3,.pure),(4,.read),(6,.read),(8,.pure),(9,.read),(10,.pure)] (by kernel_rfl) (by kernel_rfl) (List.Sublist.refl _) ?_;(first|refine k_fa0 rfl zq ?_|refine k_fa rfl zq ?_);refine mq rfl ?_;(first|refine k_fa0 rfl zq ?_|refine k_fa rfl zq ?_);refine mq rfl ?_;refine k_ldh rfl zq ?_
        obtain ⟨m3,o3,rfl⟩:=rdk.ptr (by omega)
        refine k_ixs rfl zq (by first|rfl|assumption) (by omega) (by omega) ?_;refine k_ldN (vs:=skL (b.sticks.getD w default)) rfl zq rfl (rdk.eat w (by omega) (by omega)) ?_;refine k_ldh rfl zq ?_;obtain ⟨n3,u3,rfl⟩:=rdk2.ptr (by omega)
        refine k_ixs rfl zq (by first|rfl|assumption) (by omega) (by omega) ?_;refine k_ldN (vs:=skL (b2.sticks.getD w default)) rfl zq rfl (rdk2.eat w (by omega) (by omega)) ?_;refine k_neqSk (hg:=by kernel_rfl) rfl zq (fun hc=>?_) (fun hc=>?_)
        ·have hx:=hc
         refine d58 ?_
         refine run_res (h) rfl Tryz.func58 rfl weakSub ?_;refine hK _ _ ?_;first
          |(have hmk:b.sticks=b2.sticks:=by
             rw [List.take_of_length_le (by omega),List.take_of_length_le (by omega)] at hew
             exact hew
            exact ⟨rfl,IsB.yes (fb_ext (by omega) hmp hmt hmk)⟩)
          |exact ⟨rfl,IsB.no (fun e=>by
          have e1:=congrArg Fb.plank e
          have e2:=congrArg (fun x:Fb=>x.pts.length) e
          have e3:=congrArg (fun x:Fb=>x.tapes.length) e
          have e4:=congrArg (fun x:Fb=>x.sticks.length) e
          first|omega|(rw [e] at hx;exact hx ⟨rfl,rfl,rfl⟩)|(rw [e] at hx;exact hx ⟨rfl,rfl,rfl,rfl⟩))⟩
        ·have hx:=hc
         refine d13 ?_;refine d109 ?_
         exact m.weak weakSub (hnext3 _ _ _ (by omega) ⟨w+1,rfl,by omega,same_take (by omega) (by omega) hew (sk_ext hx),exU rfl,rfl⟩)
       ·refine d75 ?_;refine d38 ?_
        refine run_res (h) rfl Tryz.func58 rfl weakSub ?_;refine hK _ _ ?_;first
         |(have hmk:b.sticks=b2.sticks:=by
            rw [List.take_of_length_le (by omega),List.take_of_length_le (by omega)] at hew
            exact hew
           exact ⟨rfl,IsB.yes (fb_ext (by omega) hmp hmt hmk)⟩)
         |exact ⟨rfl,IsB.no (fun e=>by
         have e1:=congrArg Fb.plank e
         have e2:=congrArg (fun x:Fb=>x.pts.length) e
         have e3:=congrArg (fun x:Fb=>x.tapes.length) e
         have e4:=congrArg (fun x:Fb=>x.sticks.length) e
         first|omega|(rw [e] at hx;exact hx ⟨rfl,rfl,rfl⟩)|(rw [e] at hx;exact hx ⟨rfl,rfl,rfl,rfl⟩))⟩
end Go.Proofs
namespace Go.Proofs
open Go.Lo
open Go.Conc (G)
set_option maxRecDepth 100000
set_option synthInstance.maxSize 100000
set_option synthInstance.maxHeartbeats 1000000
set_option maxHeartbeats 4000000
variable {B:Array Obj}
variable [LaidF B]
theorem fold_min (a:Int) (l:List Int) (y:Int):y≤l.foldl min a↔y≤a∧ ∀z∈l,y≤z:=by
 induction l generalizing a with
 |nil=>simp
 |cons c r ih=>
  have e:y≤min a c↔y≤a∧y≤c:=by omega
  rw [List.foldl_cons,ih,e,and_assoc];simp only [List.mem_cons,forall_eq_or_imp]
theorem fold_max (a:Int) (l:List Int) (y:Int):l.foldl max a<y↔a<y∧ ∀z∈l,z<y:=by
 induction l generalizing a with
 |nil=>simp
 |cons c r ih=>
  have e:max a c<y↔a<y∧c<y:=by omega
  rw [List.foldl_cons,ih,e,and_assoc];simp only [List.mem_cons,forall_eq_or_imp]
theorem le_minL {ys:List Int} (h:ys≠[]) (y:Int):y≤minL ys↔ ∀z∈ys,y≤z:=by
 cases ys with
 |nil=>exact absurd rfl h
 |cons a r=>
  show y≤(List.drop 1 (a::r)).foldl min a↔_
  rw [fold_min];simp
theorem maxL_lt {ys:List Int} (h:ys≠[]) (y:Int):maxL ys<y↔ ∀z∈ys,z<y:=by
 cases ys with
 |nil=>exact absurd rfl h
 |cons a r=>
  show (List.drop 1 (a::r)).foldl max a<y↔_
  rw [fold_max];simp
end Go.Proofs
namespace Go.Proofs
open Go.Lo
open Go.Conc (G)
set_option maxRecDepth 100000
set_option synthInstance.maxSize 100000
set_option synthInstance.maxHeartbeats 1000000
set_option maxHeartbeats 4000000
variable {b:Fb} {pp:Option Addr} {np cp:Nat} {pt:Option Addr} {nt ct:Nat} {pk:Option Addr} {nk ck:Nat}
variable {B:Array Obj}
variable [LaidF B]
theorem _root_.Go.Lo.PtsOk.lt {pts:List Pt} (k:PtsOk pts): ∀(d i:Nat),i+d+1<pts.length→(pts.getD i default).h<(pts.getD (i+d+1) default).h
 |0,i,h=>k.up i (by omega)
 |d+1,i,h=>by
  have h1:=k.lt d i (by omega)
  have h2:=k.up (i+d+1) (by omega)
  rw [show i+(d+1)+1=i+d+1+1 by omega];omega
theorem _root_.Go.Lo.PtsOk.ends {pts:List Pt} (k:PtsOk pts):(pts.getD 0 default).h<(pts.getD (pts.length-1) default).h:=by
 have h2:=k.two
 have:=k.lt (pts.length-2) 0 (by omega)
 rw [show 0+(pts.length-2)+1=pts.length-1 by omega] at this
 exact this
theorem f48_c (m:Md Tryz.prog B) (h:Hp) (rdp:Rp B h b pp np cp) (rdt:Rt B h b pt nt ct) (rdk:Rk B h b pk nk ck):FnC m 48 #[fbV b pp np cp pt nt ct pk nk ck] h fun v h'=>h'=h∧IsB (np≤20∧nt≤20∧nk≤20∧fbS b=0) v:=by
 refine fn_enter Tryz.func48 rfl rfl (l:=(fbV b pp np cp pt nt ct pk nk ck)::uu10) rfl ?_
 intro cf cs K hK
 refine rs2 ?_;refine k_box rfl zq (fun q1=>k_hp (k_put ?_));refine aq rfl ?_;refine rs9 ?_;refine k_ldA rfl zq ?_
 refine k_calP (Post:=fun v=>IsB _ v) rfl zq (by kernel_rfl) (fun H' hH=>f17_c m H') ?_;rintro v (⟨hc,rfl⟩|⟨hc,rfl⟩)
 ·refine d43 ?_;refine d52 ?_;refine d72 ?_;refine d0 ?_
  refine run_res (h) rfl Tryz.func48 rfl weakSub ?_;refine hK _ _ ?_;first|exact ⟨rfl,IsB.yes ⟨by omega,by omega,by omega,by omega⟩⟩|exact ⟨rfl,IsB.no (by omega)⟩
 ·refine d44 ?_;refine mq rfl ?_;refine k_ldA rfl rfl ?_
  refine k_calP (Post:=fun v=>v=_) rfl rfl (by kernel_rfl) (fun H' hH=>f22_c m H' (rdp.keeps (sq hH)) (by omega) (rdt.keeps (sq hH)) (by omega) (rdk.keeps (sq hH)) (by omega)) ?_;rintro v rfl;refine k_put ?_;refine k_eqlS rfl rfl (fun hc=>?_) (fun hc=>?_)
  ·refine d92 ?_
   refine run_res (h) rfl Tryz.func48 rfl weakSub ?_;refine hK _ _ ?_;first|exact ⟨rfl,IsB.yes ⟨by omega,by omega,by omega,by omega⟩⟩|exact ⟨rfl,IsB.no (by omega)⟩
  ·refine d92 ?_
   refine run_res (h) rfl Tryz.func48 rfl weakSub ?_;refine hK _ _ ?_;first|exact ⟨rfl,IsB.yes ⟨by omega,by omega,by omega,by omega⟩⟩|exact ⟨rfl,IsB.no (by omega)⟩
theorem f51_c (m:Md Tryz.prog B) (h:Hp) (rdp:Rp B h b pp np cp) (hp:np≤1000) (hv:FOk b) (z:Nat) (hz:z≤65535):FnC m 51 #[fbV b pp np cp pt nt ct pk nk ck,.int .u16 (z:Int)] h fun v h'=>h'=h∧ ∃x:Int,v= .int .i64 x∧(b.pts.getD 0 default).h≤x∧x≤(b.pts.getD (np-1) default).h:=by
 have hml:=rdp.elen (by decide)
 have h2:=hv.pts.two
 have he:=hv.pts.ends
 rw [hml] at he
 have h0:=hv.pts.at (i:=0) (by omega)
 have h1:=hv.pts.at (i:=np-1) (by omega)
 refine fn_enter Tryz.func51 rfl rfl (l:=(fbV b pp np cp pt nt ct pk nk ck)::(.int .u16 (z:Int))::uu21) rfl ?_
 intro cf cs K hK
 refine rs2 ?_;refine k_box rfl zq (fun q2=>k_hp (k_put ?_));refine d12 ?_
 refine run_draw [(0,.pure),(5,.pure),(7,.pure),(15,.pure),(16,.pure),(1,.read),(2,.pure),(3,.pure),(4,.read),(6,.read),(8,.read),(9,.pure),(10,.pure),(11,.pure),(12,.pure),(13,.read),(14,.keep),(17,.keep),(18,.pure)] (by kernel_rfl) (by kernel_rfl) (List.Sublist.refl _) ?_;refine d8 ?_;(first|refine k_fa0 rfl zq ?_|refine k_fa rfl zq ?_);refine mq rfl ?_
 refine k_conv rfl zq (by kernel_rfl) (n':=(z:Int)) (by unfold IntKind.wrap;simp [IntKind.bits,IntKind.signed];omega) ?_;refine k_ldh rfl zq ?_;obtain ⟨rdp_b,rdp_o,rfl⟩:=rdp.ptr (by omega)
 refine d20 ?_
 refine k_ld rfl zq (rdp.fat (v:= .int .i64 (b.pts.getD 0 default).h) 0 0 (by omega) (by omega) rfl) ?_;refine d81 ?_;refine d71 ?_;refine d20 ?_
 refine k_ld rfl zq (rdp.fat (v:= .int .i64 (b.pts.getD (np-1) default).h) (np-1) 0 (by omega) (by omega) rfl) ?_;refine k_calP (Post:=fun v=>v=_) rfl zq (by kernel_rfl) (fun H' hH=>f61_c m H' _ _) ?_;rintro v rfl;refine k_put ?_;refine k_calP (Post:=fun v=>v=_) rfl zq (by kernel_rfl) (fun H' hH=>f60_c m H' _ _ z (by omega) (by omega)) ?_;rintro v rfl;refine k_put ?_;have hz7:=Nat.mod_lt z (show 0<((b.pts.getD (np-1) default).h-(b.pts.getD 0 default).h+1).toNat by omega)
 refine d0 ?_
 refine run_res (h) rfl Tryz.func51 rfl weakSub ?_;refine hK _ _ ?_;exact ⟨rfl,_,rfl,by omega,by omega⟩
end Go.Proofs
namespace Go.Proofs
open Go.Lo
open Go.Conc (G)
set_option maxRecDepth 100000
set_option synthInstance.maxSize 100000
set_option synthInstance.maxHeartbeats 1000000
set_option maxHeartbeats 4000000
variable {B:Array Obj}
variable [LaidF B]
theorem boats_addK (b:Fb) (k:Sk):boatsOf (addK b k)=(boatsOf b).filter fun l=>decide (stickOk b l k):=by
 show (linesK b b.pts.length).filter (fun l=>decide (rightF (addK b k) l))=((linesK b b.pts.length).filter fun l=>decide (rightF b l)).filter fun l=>decide (stickOk b l k)
 rw [List.filter_filter];refine List.filter_congr fun l _=>?_
 rw [←Bool.decide_and,decide_eq_decide];constructor
 ·rintro ⟨h1,h2⟩;exact ⟨h2 k (List.mem_append_right _ List.mem_cons_self),h1,fun j hj=>h2 j (List.mem_append_left _ hj)⟩
 ·rintro ⟨h1,h2,h3⟩;refine ⟨h2,fun j hj=>?_⟩
  rcases List.mem_append.1 hj with e|e
  ·exact h3 j e
  ·obtain rfl:=List.mem_singleton.1 e
   exact h1
theorem fbS_addK {b:Fb} {k:Sk} (h0:fbS b=0) (hl:b.sticks.length≤2) (ok:okSk b.pts k):fbS (addK b k)=0:=by
 have hv:=fbS_zero h0
 have h1:plankS b=0:=Classical.byContradiction fun e=>by rw [fbS,if_pos e] at h0;exact e h0
 have h2:tapesS b=0:=Classical.byContradiction fun e=>by rw [fbS,if_neg (fun x=>x h1),if_pos e] at h0;exact e h0
 have h3:sticksS (addK b k)=0:=by
  have hlen:(addK b k).sticks.length=b.sticks.length+1:=by simp [addK]
  unfold sticksS
  rw [if_neg (by omega)];refine scanS_all fun i hi=>?_
  have hm:(addK b k).sticks.getD i default∈b.sticks++[k]:=mem_getDR.2 ⟨i,hi,rfl⟩
  have hok:okSk b.pts ((addK b k).sticks.getD i default):=by
   rcases List.mem_append.1 hm with e|e
   ·exact hv.sticks _ e
   ·rw [List.mem_singleton.1 e];exact ok
  generalize (addK b k).sticks.getD i default=q at hok
  show skS b.pts q=0
  unfold okSk at hok
  unfold skS
  rw [if_neg (by omega)]
 have e1:plankS (addK b k)=plankS b:=rfl
 have e2:tapesS (addK b k)=tapesS b:=rfl
 rw [fbS,e1,if_neg (fun x=>x h1),e2,if_neg (fun x=>x h2),h3]
theorem stick_open {b:Fb} {k:Sk} (h0:fbS b=0) (hf:fbS (addK b k)=0) (hne:boatsOf (addK b k)≠[]):stickS b k=0∧stickF b k=addK b k:=by
 have e:=openS_0 (own:=0) hf rfl hne
 exact ⟨by rw [stickS,if_neg (fun x=>x h0),e],by rw [stickF,if_neg (fun x=>x h0),agreeF,if_pos e]⟩
theorem stick_shut {b:Fb} {k:Sk} (h0:fbS b=0) (hf:fbS (addK b k)=0) (he:boatsOf (addK b k)=[]):stickS b k=9:=by
 rw [stickS,if_neg (fun x=>x h0),openS_9 hf rfl he]
theorem filter_two {α:Type} (p q:α→Bool) (h: ∀a,q a=!p a): ∀l:List α,(l.filter p).length+(l.filter q).length=l.length
 |[]=>rfl
 |a::r=>by
  have ih:=filter_two p q h r
  rw [List.filter_cons,List.filter_cons,h a];cases p a<;>simp<;>omega
theorem ends_cases {b:Fb} {x y:Int} (h0:fbS b=0) (hl:b.sticks.length≤2) (hx:(b.pts.getD 0 default).h≤x∧x≤(b.pts.getD (b.pts.length-1) default).h) (hy:0≤y∧y≤959):fbS (addK b ⟨x,y,true⟩)=0∧fbS (addK b ⟨x,y,false⟩)=0∧
  ((openS b 0=9∧(boatsOf b).length=0∧stickS b ⟨x,y,true⟩=9∧stickS b ⟨x,y,false⟩=9)∨
   (openS b 0=0∧0<(boatsOf b).length∧clearsI b x y=2∧ ¬y≤minL ((boatsOf b).map fun l=>atI b.pts l x)∧maxL ((boatsOf b).map fun l=>atI b.pts l x)<y∧stickS b ⟨x,y,true⟩=9∧(stickS b ⟨x,y,false⟩=0∧stickF b ⟨x,y,false⟩=addK b ⟨x,y,false⟩)∧(boatsOf (addK b ⟨x,y,false⟩)).length=(boatsOf b).length)∨
   (openS b 0=0∧0<(boatsOf b).length∧clearsI b x y=1∧y≤minL ((boatsOf b).map fun l=>atI b.pts l x)∧ ¬maxL ((boatsOf b).map fun l=>atI b.pts l x)<y∧(stickS b ⟨x,y,true⟩=0∧stickF b ⟨x,y,true⟩=addK b ⟨x,y,true⟩)∧stickS b ⟨x,y,false⟩=9∧(boatsOf (addK b ⟨x,y,true⟩)).length=(boatsOf b).length)∨
   (openS b 0=0∧0<(boatsOf b).length∧clearsI b x y=0∧ ¬y≤minL ((boatsOf b).map fun l=>atI b.pts l x)∧ ¬maxL ((boatsOf b).map fun l=>atI b.pts l x)<y∧(stickS b ⟨x,y,true⟩=0∧stickF b ⟨x,y,true⟩=addK b ⟨x,y,true⟩)∧(stickS b ⟨x,y,false⟩=0∧stickF b ⟨x,y,false⟩=addK b ⟨x,y,false⟩)∧
    (boatsOf (addK b ⟨x,y,true⟩)).length+(boatsOf (addK b ⟨x,y,false⟩)).length=(boatsOf b).length)):=by
 have f1:=fbS_addK (k:=⟨x,y,true⟩) h0 hl ⟨hx,hy⟩
 have f2:=fbS_addK (k:=⟨x,y,false⟩) h0 hl ⟨hx,hy⟩
 refine ⟨f1,f2,?_⟩
 have b1:boatsOf (addK b ⟨x,y,true⟩)=(boatsOf b).filter fun l=>decide (y≤atI b.pts l x):=by
  rw [boats_addK];refine List.filter_congr fun l _=>?_
  rw [decide_eq_decide];unfold stickOk
  simp
 have b2:boatsOf (addK b ⟨x,y,false⟩)=(boatsOf b).filter fun l=>!decide (y≤atI b.pts l x):=by
  rw [boats_addK];refine List.filter_congr fun l _=>?_
  unfold stickOk
  by_cases e:y≤atI b.pts l x<;>simp [e]
 have hsum:(boatsOf (addK b ⟨x,y,true⟩)).length+(boatsOf (addK b ⟨x,y,false⟩)).length=(boatsOf b).length:=by
  rw [b1,b2];exact filter_two _ _ (fun a=>rfl) _
 by_cases he:boatsOf b=[]
 ·left
  have e1:boatsOf (addK b ⟨x,y,true⟩)=[]:=by rw [b1,he];rfl
  have e2:boatsOf (addK b ⟨x,y,false⟩)=[]:=by rw [b2,he];rfl
  exact ⟨openS_9 h0 rfl he,by rw [he];rfl,stick_shut h0 f1 e1,stick_shut h0 f2 e2⟩
 ·right
  have ho:=openS_0 (own:=0) h0 rfl he
  have hlt:=List.length_pos_iff.2 he
  have hm:((boatsOf b).map fun l=>atI b.pts l x)≠[]:=by simpa using he
  by_cases c1:maxL ((boatsOf b).map fun l=>atI b.pts l x)<y
  ·left
   have hall:=(maxL_lt hm y).1 c1
   have e1:boatsOf (addK b ⟨x,y,true⟩)=[]:=by
    rw [b1,List.filter_eq_nil_iff];intro l hl
    have:=hall _ (List.mem_map.2 ⟨l,hl,rfl⟩);rw [decide_eq_true_iff];omega
   have e3:(boatsOf (addK b ⟨x,y,false⟩)).length=(boatsOf b).length:=by rw [e1] at hsum;simpa using hsum
   refine ⟨ho,hlt,by rw [clearsI,if_pos c1],fun h=>?_,c1,stick_shut h0 f1 e1,stick_open h0 f2 (fun e=>by rw [e] at e3;simp at e3;omega),e3⟩
   obtain ⟨l,hl⟩:=List.exists_mem_of_ne_nil _ hm
   have:=(le_minL hm y).1 h l hl
   have:=hall l hl
   omega
  ·right
   by_cases c2:y≤minL ((boatsOf b).map fun l=>atI b.pts l x)
   ·left
    have hall:=(le_minL hm y).1 c2
    have e2:boatsOf (addK b ⟨x,y,false⟩)=[]:=by
     rw [b2,List.filter_eq_nil_iff];intro l hl
     have:=hall _ (List.mem_map.2 ⟨l,hl,rfl⟩);simpa using this
    have e3:(boatsOf (addK b ⟨x,y,true⟩)).length=(boatsOf b).length:=by rw [e2] at hsum;simpa using hsum
    exact ⟨ho,hlt,by rw [clearsI,if_neg c1,if_pos c2],c2,c1,stick_open h0 f1 (fun e=>by rw [e] at e3;simp at e3;omega),stick_shut h0 f2 e2,e3⟩
   ·right
    have e1:boatsOf (addK b ⟨x,y,true⟩)≠[]:=fun e=>c1 ((maxL_lt hm y).2 fun z hz=>by
     obtain ⟨l,hl,rfl⟩:=List.mem_map.1 hz
     rw [b1,List.filter_eq_nil_iff] at e
     have:=e l hl;rw [decide_eq_true_iff] at this;omega)
    have e2:boatsOf (addK b ⟨x,y,false⟩)≠[]:=fun e=>c2 ((le_minL hm y).2 fun z hz=>by
     obtain ⟨l,hl,rfl⟩:=List.mem_map.1 hz
     rw [b2,List.filter_eq_nil_iff] at e
     have:=e l hl;simpa using this)
    exact ⟨ho,hlt,by rw [clearsI,if_neg c1,if_neg c2],c2,c1,stick_open h0 f1 e1,stick_open h0 f2 e2,hsum⟩
end Go.Proofs
namespace Go.Proofs
open Go.Lo
open Go.Conc (G)
set_option maxRecDepth 100000
set_option synthInstance.maxSize 100000
set_option synthInstance.maxHeartbeats 1000000
set_option maxHeartbeats 4000000
variable {b:Fb} {pp:Option Addr} {np cp:Nat} {pt:Option Addr} {nt ct:Nat} {pk:Option Addr} {nk ck:Nat}
variable {B:Array Obj}
variable [LaidF B]
theorem f6_t (h:Hp) (rdp:Rp B h b pp np cp) (rdt:Rt B h b pt nt ct) (rdk:Rk B h b pk nk ck) (z y0:Nat) (hzz:z≤65535) (hyy:y0≤65535):(Md.starS Tryz.prog B).R (AtEnd Tryz.prog B fun v _=>v= .bool true) (G (Frame.enter Tryz.prog 6 #[fbV b pp np cp pt nt ct pk nk ck,.int .u16 (z:Int),.int .u16 (y0:Int)] .normal) []) h:=by
 refine top_enter Tryz.func6 rfl rfl (l:=[fbV b pp np cp pt nt ct pk nk ck,.int .u16 (z:Int),.int .u16 (y0:Int),undef,undef,undef,undef,undef,undef,undef,undef,undef,undef,undef,undef,undef,undef,undef,undef,undef,undef,undef,undef,undef,undef,undef,undef,undef,undef,undef,undef,undef,undef,undef,undef,undef,undef,undef,undef,undef,undef,undef,undef,undef,undef,undef,undef,undef,undef,undef,undef,undef,undef,undef,undef,undef,undef,undef,undef,undef,undef,undef,undef,undef,undef,undef,undef,undef,undef,undef,undef,undef,undef,undef,undef,undef,undef,undef,undef,undef,undef,undef,undef,undef,undef,undef,undef,undef,undef,undef,undef,undef,undef,undef,undef,undef,undef,undef,undef,undef,undef,undef,undef,undef,undef,undef,undef,undef,undef,undef,undef,undef,undef,undef,undef,undef,undef,undef,undef,undef,undef,undef,undef,undef,undef,undef,undef,undef,undef,undef,undef,undef,undef,undef,undef,undef,undef,undef,undef,undef,undef,undef,undef,undef,undef,undef,undef,undef,undef,undef,undef,undef,undef,undef,undef,undef,undef,undef,undef,undef,undef,undef,undef,undef,undef,undef,undef,undef,undef,undef,undef,undef,undef,undef,undef,undef,undef,undef]) rfl ?_
 refine rs2 ?_;refine k_box rfl zq (fun q3=>k_hp (k_put ?_));refine d12 ?_;refine rs9 ?_;refine k_ldA rfl zq ?_
 refine k_calP (Post:=fun v=>IsB _ v) rfl zq (by kernel_rfl) (fun H' hH=>f48_c _ H' (rdp.keeps (sq hH)) (rdt.keeps (sq hH)) (rdk.keeps (sq hH))) ?_;rintro v (⟨hc,rfl⟩|⟨hc,rfl⟩)
 ·refine d43 ?_;refine mq rfl ?_;refine d25 ?_;refine k_len rfl rfl ?_
  refine k_geqS rfl rfl (fun hc=>?_) (fun hc=>?_)
  ·refine k_pickF rfl zq ?_;refine d7 ?_;refine rs2 ?_;refine k_cal rfl zq (by kernel_rfl) (f18_c _) ?_;rintro v h' ⟨nF,rfl,rfl⟩;refine d110 ?_
   refine run_top rfl Tryz.func6 (by kernel_rfl) rfl ?_;rfl
  ·refine k_pickF rfl zq ?_;refine d37 ?_;have hp:np≤1000:=by omega
   have ht:nt≤1000:=by omega
   have hk:nk≤1000:=by omega
   have h0:fbS b=0:=by omega
   have hv:=fbS_zero h0
   have hv1:=hv.pts.five
   have hv2:=hv.pts.two
   have hml:=rdp.elen (by decide)
   have hmk:=rdk.elen (by decide)
   have hbn:=boatsOf_le hv.pts
   refine rr8 ?_;refine d69 ?_;refine k_calP (Post:=fun v=> ∃x:Int,v= .int .i64 x∧(b.pts.getD 0 default).h≤x∧x≤(b.pts.getD (np-1) default).h) rfl zq (by kernel_rfl) (fun H' hH=>f51_c _ H' (rdp.keeps (sq hH)) hp hv z hzz) ?_;rintro v ⟨x,rfl,hx1,hx2'⟩;refine k_put ?_;have hx2:=hx2'
   rw [←hml] at hx2
   refine mq rfl ?_
   refine k_conv rfl zq (by kernel_rfl) (n':=(y0:Int)) (by unfold IntKind.wrap;simp [IntKind.bits,IntKind.signed];omega) ?_;refine k_remT rfl zq (by decide) ?_;rw [show (y0:Int).tmod 960=((y0%960:Nat):Int) from (Int.ofNat_tmod y0 960).symm];have hy960:=Nat.mod_lt y0 (show 0<960 by omega)
   generalize y0%960=y at hy960⊢
   refine d97 ?_
   have hy1:(0:Int)≤(y:Int):=by omega
   have hy2:(y:Int)≤959:=by omega
   obtain ⟨ft,ff,hcas⟩:=ends_cases h0 (by omega:b.sticks.length≤2) ⟨hx1,hx2⟩ ⟨hy1,hy2⟩
   rcases hcas with ⟨eo,en,sT,sF⟩|⟨eo,en,ec,el,eh,sT,sF,es⟩|⟨eo,en,ec,el,eh,sT,sF,es⟩|⟨eo,en,ec,el,eh,sT,sF,es⟩
   ·refine rr9 ?_;refine d69 ?_;refine k_calP (Post:=fun v=>v= .tuple [.agg [.int .i64 0,.int .i64 0].toArray,.int .i64 9].toArray) rfl zq (by kernel_rfl) (fun H' hH=>by have:=f38_c (Md.starS Tryz.prog B) H' (b:=b) (rdp.keeps (sq hH)) hp (rdt.keeps (sq hH)) ht (rdk.keeps (sq hH)) hk x;rw [if_pos ⟨hx1,hx2'⟩,spanT_no (by rw [eo];decide),eo] at this;exact this) ?_;rintro v rfl;refine d78 ?_
    refine k_new rfl zq (fun q9=>k_hp (k_put ?_));refine k_stA rfl zq rfl ?_;refine aq rfl ?_;refine rs9 ?_;refine k_ldA rfl zq ?_;refine d3 ?_;refine k_calP (Post:=fun v=>v= .tuple [.int .i64 0,.int .i64 9].toArray) rfl zq (by kernel_rfl) (fun H' hH=>by have:=f44_c (Md.starS Tryz.prog B) H' (b:=b) (rdp.keeps (sq hH)) hp (rdt.keeps (sq hH)) ht (rdk.keeps (sq hH)) hk x (y:Int);rw [if_pos ⟨⟨hx1,hx2'⟩,hy1,hy2⟩,orNo_no (by rw [eo];decide),eo] at this;exact this) ?_;rintro v rfl;refine d134 ?_;refine rs7 ?_;refine k_ldA rfl zq ?_
    refine k_calP (Post:=fun v=>v= .tuple [.int .i64 (((boatsOf b).length:Nat):Int),.int .i64 0].toArray) rfl zq (by kernel_rfl) (fun H' hH=>by have:=f34_c (Md.starS Tryz.prog B) H' (b:=b) (rdp.keeps (sq hH)) hp (rdt.keeps (sq hH)) ht (rdk.keeps (sq hH)) hk;rw [orNo_yes h0] at this;exact this) ?_;rintro v rfl;refine d134 ?_;refine rs11 ?_;refine k_ldA rfl zq ?_;refine d3 ?_;refine k_bld rfl zq ?_
    refine k_calC rfl zq (by kernel_rfl) (Post:=fun v new=> ∃w,v= .tuple [w,.int .i64 (stickS b ⟨x,(y:Int),true⟩)].toArray∧BkF B (stickF b ⟨x,(y:Int),true⟩) new w) (fun H' hH=>f57_c _ H' (b:=b) (rdp.keeps (sq hH)) hp (rdt.keeps (sq hH)) ht (rdk.keeps (sq hH)) hk ⟨x,(y:Int),true⟩) ?_;rintro v nT ⟨wT,rfl,ppT,npT,cpT,ptT,ntT,ctT,pkT,nkT,ckT,rfl,rpT,rtT,rkT⟩;refine k_hpA (k_put ?_);rw [sT];refine d40 ?_
    refine k_new rfl zq (fun q15=>k_hp (k_put ?_));refine k_stA rfl zq rfl ?_;refine aq rfl ?_;refine rs11 ?_;refine k_ldA rfl zq ?_;refine d3 ?_;refine k_bld rfl zq ?_;refine k_calC rfl zq (by kernel_rfl) (Post:=fun v new=> ∃w,v= .tuple [w,.int .i64 (stickS b ⟨x,(y:Int),false⟩)].toArray∧BkF B (stickF b ⟨x,(y:Int),false⟩) new w) (fun H' hH=>f57_c _ H' (b:=b) (rdp.keeps (sq hH)) hp (rdt.keeps (sq hH)) ht (rdk.keeps (sq hH)) hk ⟨x,(y:Int),false⟩) ?_;rintro v nF ⟨wF,rfl,ppF,npF,cpF,ptF,ntF,ctF,pkF,nkF,ckF,rfl,rpF,rtF,rkF⟩;refine k_hpA (k_put ?_);rw [sF];refine d40 ?_
    refine k_new rfl zq (fun q17=>k_hp (k_put ?_));refine k_stA rfl zq rfl ?_;refine d12 ?_;refine run_seq ?_;refine run_region [(0,.free),(1,.free),(2,.free),(3,.free),(4,.free),(5,.free),(6,.free),(7,.free),(8,.free),(9,.free),(10,.free),(11,.free),(12,.free),(13,.free)] (by kernel_rfl) (by kernel_rfl) ?_;refine mq rfl ?_;refine k_neqF rfl zq rfl ?_;refine d23 ?_;refine k_mv rfl rfl ?_;refine k_neqF rfl rfl rfl ?_;refine k_pickF rfl zq ?_;refine d23 ?_
    refine k_eqlF rfl rfl (by decide) ?_;refine k_mv rfl rfl ?_;refine k_gtrF rfl rfl (by omega) ?_;refine k_neqBF rfl rfl (by kernel_rfl) rfl ?_;refine k_pickF rfl zq ?_;refine d37 ?_;refine d18 ?_;refine k_neqT rfl zq (by decide) ?_;refine d7 ?_;refine run_seq ?_
    refine run_region [(0,.free),(1,.free),(2,.free),(3,.free),(4,.free),(5,.free),(6,.free),(7,.free),(8,.free),(9,.free),(10,.free),(11,.free),(12,.free),(13,.free)] (by kernel_rfl) (by kernel_rfl) ?_;refine mq rfl ?_;refine k_eqlT rfl zq rfl ?_;refine d23 ?_;refine k_eqlT rfl rfl rfl ?_;refine k_pickT rfl zq ?_;refine d23 ?_;refine k_eqlT rfl rfl rfl ?_;refine k_pickT rfl zq ?_;refine mq rfl ?_
    refine k_cal rfl rfl (by kernel_rfl) (f18_c _) ?_;rintro v h' ⟨nF,rfl,rfl⟩;refine k_put ?_;refine d92 ?_;refine run_top rfl Tryz.func6 (by kernel_rfl) rfl ?_;rfl
   ·refine rr9 ?_;refine d69 ?_;refine k_calP (Post:=fun v=>v= .tuple [.agg [.int .i64 (minL ((boatsOf b).map fun l=>atI b.pts l x)),.int .i64 (maxL ((boatsOf b).map fun l=>atI b.pts l x))].toArray,.int .i64 0].toArray) rfl zq (by kernel_rfl) (fun H' hH=>by have:=f38_c (Md.starS Tryz.prog B) H' (b:=b) (rdp.keeps (sq hH)) hp (rdt.keeps (sq hH)) ht (rdk.keeps (sq hH)) hk x;rw [if_pos ⟨hx1,hx2'⟩,spanT_yes eo] at this;exact this) ?_;rintro v rfl;refine d78 ?_
    refine k_new rfl zq (fun q9=>k_hp (k_put ?_));refine k_stA rfl zq rfl ?_;refine aq rfl ?_;refine rs9 ?_;refine k_ldA rfl zq ?_;refine d3 ?_;refine k_calP (Post:=fun v=>v= .tuple [.int .i64 2,.int .i64 0].toArray) rfl zq (by kernel_rfl) (fun H' hH=>by have:=f44_c (Md.starS Tryz.prog B) H' (b:=b) (rdp.keeps (sq hH)) hp (rdt.keeps (sq hH)) ht (rdk.keeps (sq hH)) hk x (y:Int);rw [if_pos ⟨⟨hx1,hx2'⟩,hy1,hy2⟩,orNo_yes eo,ec] at this;exact this) ?_;rintro v rfl;refine d134 ?_;refine rs7 ?_;refine k_ldA rfl zq ?_
    refine k_calP (Post:=fun v=>v= .tuple [.int .i64 (((boatsOf b).length:Nat):Int),.int .i64 0].toArray) rfl zq (by kernel_rfl) (fun H' hH=>by have:=f34_c (Md.starS Tryz.prog B) H' (b:=b) (rdp.keeps (sq hH)) hp (rdt.keeps (sq hH)) ht (rdk.keeps (sq hH)) hk;rw [orNo_yes h0] at this;exact this) ?_;rintro v rfl;refine d134 ?_;refine rs11 ?_;refine k_ldA rfl zq ?_;refine d3 ?_;refine k_bld rfl zq ?_
    refine k_calC rfl zq (by kernel_rfl) (Post:=fun v new=> ∃w,v= .tuple [w,.int .i64 (stickS b ⟨x,(y:Int),true⟩)].toArray∧BkF B (stickF b ⟨x,(y:Int),true⟩) new w) (fun H' hH=>f57_c _ H' (b:=b) (rdp.keeps (sq hH)) hp (rdt.keeps (sq hH)) ht (rdk.keeps (sq hH)) hk ⟨x,(y:Int),true⟩) ?_;rintro v nT ⟨wT,rfl,ppT,npT,cpT,ptT,ntT,ctT,pkT,nkT,ckT,rfl,rpT,rtT,rkT⟩;refine k_hpA (k_put ?_);rw [sT];refine d40 ?_
    refine k_new rfl zq (fun q15=>k_hp (k_put ?_));refine k_stA rfl zq rfl ?_;refine aq rfl ?_;refine rs11 ?_;refine k_ldA rfl zq ?_;refine d3 ?_;refine k_bld rfl zq ?_;refine k_calC rfl zq (by kernel_rfl) (Post:=fun v new=> ∃w,v= .tuple [w,.int .i64 (stickS b ⟨x,(y:Int),false⟩)].toArray∧BkF B (stickF b ⟨x,(y:Int),false⟩) new w) (fun H' hH=>f57_c _ H' (b:=b) (rdp.keeps (sq hH)) hp (rdt.keeps (sq hH)) ht (rdk.keeps (sq hH)) hk ⟨x,(y:Int),false⟩) ?_;rintro v nF ⟨wF,rfl,ppF,npF,cpF,ptF,ntF,ctF,pkF,nkF,ckF,rfl,rpF,rtF,rkF⟩;refine k_hpA (k_put ?_);rw [sF.1];rw [sF.2] at rpF rtF rkF⊢
    have hpF:npF≤1000:=by have h:=rpF.elen (by decide);have h2:(addK b ⟨x,(y:Int),false⟩).pts.length=b.pts.length:=rfl;omega
    have htF:ntF≤1000:=by have h:=rtF.elen (by decide);have h2:(addK b ⟨x,(y:Int),false⟩).tapes.length=b.tapes.length:=rfl;have:=hv.few;omega
    have hkF:nkF≤1000:=by have h:=rkF.elen (by decide);have h2:(addK b ⟨x,(y:Int),false⟩).sticks.length=b.sticks.length+1:=List.length_append;omega
    refine d40 ?_
    refine k_new rfl zq (fun q17=>k_hp (k_put ?_));refine k_stA rfl zq rfl ?_;refine d12 ?_;refine run_seq ?_;refine run_region [(0,.free),(1,.free),(2,.free),(3,.free),(4,.free),(5,.free),(6,.free),(7,.free),(8,.free),(9,.free),(10,.free),(11,.free),(12,.free),(13,.free)] (by kernel_rfl) (by kernel_rfl) ?_;refine mq rfl ?_;refine k_neqF rfl zq rfl ?_;refine d23 ?_;refine k_mv rfl rfl ?_;refine k_neqF rfl rfl rfl ?_;refine k_pickF rfl zq ?_;refine d23 ?_;refine k_eqlT rfl rfl (by decide) ?_;refine k_mv rfl rfl ?_
    refine k_gtrT rfl rfl (by omega) ?_;refine k_neqBF rfl rfl (by kernel_rfl) rfl ?_;refine k_pickF rfl zq ?_;refine d37 ?_;refine d18 ?_;refine k_neqF rfl zq (by decide) ?_;refine d37 ?_;refine run_seq ?_;refine run_region [(0,.free),(1,.free),(2,.free),(3,.free),(4,.free),(5,.free),(6,.free),(7,.free),(8,.free),(9,.free),(10,.free),(11,.free),(12,.free),(13,.free),(14,.free),(15,.free),(16,.free),(17,.free),(18,.free),(19,.free),(20,.free),(21,.free),(22,.free),(23,.free),(24,.free),(25,.free),(26,.free),(27,.free),(28,.free),(29,.free)] (by kernel_rfl) (by kernel_rfl) ?_;refine mq rfl ?_
    refine k_eqlF rfl zq (by decide) ?_;refine d2 ?_;refine mq rfl ?_
    refine k_geqF rfl zq (by omega) ?_;refine k_neqBF rfl zq (by kernel_rfl) rfl ?_;refine d23 ?_;refine k_eqlT rfl rfl (by decide) ?_;refine d25 ?_;refine k_mv rfl rfl ?_
    refine k_lssT rfl rfl (by omega) ?_;refine k_neqBF rfl rfl (by kernel_rfl) rfl ?_;refine k_pickF rfl zq ?_;refine d23 ?_;refine k_eqlF rfl rfl (by decide) ?_;refine k_mv rfl rfl ?_;refine k_neqF rfl rfl (by decide) ?_;refine k_neqBF rfl rfl (by kernel_rfl) rfl ?_;refine k_pickF rfl zq ?_;refine d23 ?_;refine k_eqlT rfl rfl (by decide) ?_;refine k_mv rfl rfl ?_;refine k_neqT rfl rfl (by decide) ?_;refine k_neqBF rfl rfl (by kernel_rfl) rfl ?_;refine d126 ?_;refine rs2 ?_;refine k_as rfl zq ?_;refine d68 ?_
    refine k_eqlF rfl zq (by decide) ?_;refine d37 ?_;refine d18 ?_;refine k_eqlT rfl zq (by decide) ?_;refine d7 ?_;refine d90 ?_
    refine run_draw [(2,.pure),(3,.pure),(4,.pure),(0,.read),(1,.read),(5,.keep),(6,.keep),(7,.pure)] (by kernel_rfl) (by kernel_rfl) (List.Sublist.refl _) ?_;refine d3 ?_;refine k_bld rfl zq ?_;refine k_ldA rfl zq ?_;refine k_ldA rfl zq ?_
    refine k_calC rfl zq (by kernel_rfl) (Post:=fun v nw=> ∃rp rc,v=fbV (addK b ⟨x,(y:Int),false⟩) pp np cp pt nt ct rp (nk+1) rc∧RdS B nw 3 (.slice rp (nk+1) rc) (nk+1) (encs (addK b ⟨x,(y:Int),false⟩).sticks)) (fun H' hH=>f59_c _ H' (b:=b) (rdk.keeps (sq hH)) hk ⟨x,(y:Int),false⟩) ?_;rintro v uF ⟨qpF,qcF,rfl,rdF⟩;refine k_hpA (k_put ?_);refine k_calP (Post:=fun v=>IsB _ v) rfl zq (by kernel_rfl) (fun H' hH=>f58_c _ H' (b:=addK b ⟨x,(y:Int),false⟩) (rpF.keeps (sq hH)) hpF (rtF.keeps (sq hH)) htF (rkF.keeps (sq hH)) hkF (b2:=addK b ⟨x,(y:Int),false⟩) (rdp.keeps (sq hH)) hp (rdt.keeps (sq hH)) ht (rdF.keeps (sq hH)) (by omega)) ?_;rintro v (⟨hc,rfl⟩|⟨hc,rfl⟩)
    ·refine d43 ?_;refine d13 ?_;refine rs7 ?_;refine k_ldA rfl zq ?_
     refine k_calP (Post:=fun v=>v= .tuple [.int .i64 (((boatsOf (addK b ⟨x,(y:Int),false⟩)).length:Nat):Int),.int .i64 0].toArray) rfl zq (by kernel_rfl) (fun H' hH=>by have:=f34_c (Md.starS Tryz.prog B) H' (b:=addK b ⟨x,(y:Int),false⟩) (rpF.keeps (sq hH)) hpF (rtF.keeps (sq hH)) htF (rkF.keeps (sq hH)) hkF;rw [orNo_yes ff] at this;exact this) ?_;rintro v rfl;refine d78 ?_;refine k_as rfl zq ?_;refine d68 ?_;refine k_neqF rfl zq rfl ?_;refine d13 ?_;refine rr2 ?_;refine mq rfl ?_;refine aq rfl ?_;refine rs9 ?_;refine d3 ?_;refine d29 ?_;refine k_eqlT rfl zq (by omega) ?_;refine mq rfl ?_
     refine k_cal rfl rfl (by kernel_rfl) (f18_c _) ?_;rintro v h' ⟨nF,rfl,rfl⟩;refine k_put ?_;refine d92 ?_;refine run_top rfl Tryz.func6 (by kernel_rfl) rfl ?_;rfl
    ·refine k_put ?_;exact absurd rfl hc
   ·refine rr9 ?_;refine d69 ?_;refine k_calP (Post:=fun v=>v= .tuple [.agg [.int .i64 (minL ((boatsOf b).map fun l=>atI b.pts l x)),.int .i64 (maxL ((boatsOf b).map fun l=>atI b.pts l x))].toArray,.int .i64 0].toArray) rfl zq (by kernel_rfl) (fun H' hH=>by have:=f38_c (Md.starS Tryz.prog B) H' (b:=b) (rdp.keeps (sq hH)) hp (rdt.keeps (sq hH)) ht (rdk.keeps (sq hH)) hk x;rw [if_pos ⟨hx1,hx2'⟩,spanT_yes eo] at this;exact this) ?_;rintro v rfl;refine d78 ?_
    refine k_new rfl zq (fun q9=>k_hp (k_put ?_));refine k_stA rfl zq rfl ?_;refine aq rfl ?_;refine rs9 ?_;refine k_ldA rfl zq ?_;refine d3 ?_;refine k_calP (Post:=fun v=>v= .tuple [.int .i64 1,.int .i64 0].toArray) rfl zq (by kernel_rfl) (fun H' hH=>by have:=f44_c (Md.starS Tryz.prog B) H' (b:=b) (rdp.keeps (sq hH)) hp (rdt.keeps (sq hH)) ht (rdk.keeps (sq hH)) hk x (y:Int);rw [if_pos ⟨⟨hx1,hx2'⟩,hy1,hy2⟩,orNo_yes eo,ec] at this;exact this) ?_;rintro v rfl;refine d134 ?_;refine rs7 ?_;refine k_ldA rfl zq ?_
    refine k_calP (Post:=fun v=>v= .tuple [.int .i64 (((boatsOf b).length:Nat):Int),.int .i64 0].toArray) rfl zq (by kernel_rfl) (fun H' hH=>by have:=f34_c (Md.starS Tryz.prog B) H' (b:=b) (rdp.keeps (sq hH)) hp (rdt.keeps (sq hH)) ht (rdk.keeps (sq hH)) hk;rw [orNo_yes h0] at this;exact this) ?_;rintro v rfl;refine d134 ?_;refine rs11 ?_;refine k_ldA rfl zq ?_;refine d3 ?_;refine k_bld rfl zq ?_
    refine k_calC rfl zq (by kernel_rfl) (Post:=fun v new=> ∃w,v= .tuple [w,.int .i64 (stickS b ⟨x,(y:Int),true⟩)].toArray∧BkF B (stickF b ⟨x,(y:Int),true⟩) new w) (fun H' hH=>f57_c _ H' (b:=b) (rdp.keeps (sq hH)) hp (rdt.keeps (sq hH)) ht (rdk.keeps (sq hH)) hk ⟨x,(y:Int),true⟩) ?_;rintro v nT ⟨wT,rfl,ppT,npT,cpT,ptT,ntT,ctT,pkT,nkT,ckT,rfl,rpT,rtT,rkT⟩;refine k_hpA (k_put ?_);rw [sT.1];rw [sT.2] at rpT rtT rkT⊢
    have hpT:npT≤1000:=by have h:=rpT.elen (by decide);have h2:(addK b ⟨x,(y:Int),true⟩).pts.length=b.pts.length:=rfl;omega
    have htT:ntT≤1000:=by have h:=rtT.elen (by decide);have h2:(addK b ⟨x,(y:Int),true⟩).tapes.length=b.tapes.length:=rfl;have:=hv.few;omega
    have hkT:nkT≤1000:=by have h:=rkT.elen (by decide);have h2:(addK b ⟨x,(y:Int),true⟩).sticks.length=b.sticks.length+1:=List.length_append;omega
    refine d40 ?_
    refine k_new rfl zq (fun q15=>k_hp (k_put ?_));refine k_stA rfl zq rfl ?_;refine aq rfl ?_;refine rs11 ?_;refine k_ldA rfl zq ?_;refine d3 ?_;refine k_bld rfl zq ?_;refine k_calC rfl zq (by kernel_rfl) (Post:=fun v new=> ∃w,v= .tuple [w,.int .i64 (stickS b ⟨x,(y:Int),false⟩)].toArray∧BkF B (stickF b ⟨x,(y:Int),false⟩) new w) (fun H' hH=>f57_c _ H' (b:=b) (rdp.keeps (sq hH)) hp (rdt.keeps (sq hH)) ht (rdk.keeps (sq hH)) hk ⟨x,(y:Int),false⟩) ?_;rintro v nF ⟨wF,rfl,ppF,npF,cpF,ptF,ntF,ctF,pkF,nkF,ckF,rfl,rpF,rtF,rkF⟩;refine k_hpA (k_put ?_);rw [sF];refine d40 ?_
    refine k_new rfl zq (fun q17=>k_hp (k_put ?_));refine k_stA rfl zq rfl ?_;refine d12 ?_;refine run_seq ?_;refine run_region [(0,.free),(1,.free),(2,.free),(3,.free),(4,.free),(5,.free),(6,.free),(7,.free),(8,.free),(9,.free),(10,.free),(11,.free),(12,.free),(13,.free)] (by kernel_rfl) (by kernel_rfl) ?_;refine mq rfl ?_;refine k_neqF rfl zq rfl ?_;refine d23 ?_;refine k_mv rfl rfl ?_;refine k_neqF rfl rfl rfl ?_;refine k_pickF rfl zq ?_;refine d23 ?_;refine k_eqlT rfl rfl (by decide) ?_;refine k_mv rfl rfl ?_
    refine k_gtrT rfl rfl (by omega) ?_;refine k_neqBF rfl rfl (by kernel_rfl) rfl ?_;refine k_pickF rfl zq ?_;refine d37 ?_;refine d18 ?_;refine k_neqF rfl zq (by decide) ?_;refine d37 ?_;refine run_seq ?_;refine run_region [(0,.free),(1,.free),(2,.free),(3,.free),(4,.free),(5,.free),(6,.free),(7,.free),(8,.free),(9,.free),(10,.free),(11,.free),(12,.free),(13,.free),(14,.free),(15,.free),(16,.free),(17,.free),(18,.free),(19,.free),(20,.free),(21,.free),(22,.free),(23,.free),(24,.free),(25,.free),(26,.free),(27,.free),(28,.free),(29,.free)] (by kernel_rfl) (by kernel_rfl) ?_;refine mq rfl ?_;refine k_eqlT rfl zq (by decide) ?_;refine d2 ?_;refine mq rfl ?_
    refine k_geqT rfl zq (by omega) ?_;refine k_neqBF rfl zq (by kernel_rfl) rfl ?_;refine d23 ?_
    refine k_eqlF rfl rfl (by decide) ?_;refine d25 ?_;refine k_mv rfl rfl ?_
    refine k_lssF rfl rfl (by omega) ?_;refine k_neqBF rfl rfl (by kernel_rfl) rfl ?_;refine k_pickF rfl zq ?_;refine d23 ?_;refine k_eqlT rfl rfl (by decide) ?_;refine k_mv rfl rfl ?_;refine k_neqT rfl rfl (by decide) ?_;refine k_neqBF rfl rfl (by kernel_rfl) rfl ?_;refine k_pickF rfl zq ?_;refine d23 ?_;refine k_eqlF rfl rfl (by decide) ?_;refine k_mv rfl rfl ?_;refine k_neqF rfl rfl (by decide) ?_;refine k_neqBF rfl rfl (by kernel_rfl) rfl ?_;refine d126 ?_;refine rs2 ?_;refine k_as rfl zq ?_;refine d68 ?_;refine k_eqlT rfl zq (by decide) ?_;refine d7 ?_;refine d90 ?_
    refine run_draw [(2,.pure),(3,.pure),(4,.pure),(0,.read),(1,.read),(5,.keep),(6,.keep),(7,.pure)] (by kernel_rfl) (by kernel_rfl) (List.Sublist.refl _) ?_;refine d3 ?_;refine k_bld rfl zq ?_;refine k_ldA rfl zq ?_;refine k_ldA rfl zq ?_
    refine k_calC rfl zq (by kernel_rfl) (Post:=fun v nw=> ∃rp rc,v=fbV (addK b ⟨x,(y:Int),true⟩) pp np cp pt nt ct rp (nk+1) rc∧RdS B nw 3 (.slice rp (nk+1) rc) (nk+1) (encs (addK b ⟨x,(y:Int),true⟩).sticks)) (fun H' hH=>f59_c _ H' (b:=b) (rdk.keeps (sq hH)) hk ⟨x,(y:Int),true⟩) ?_;rintro v uT ⟨qpT,qcT,rfl,rdT⟩;refine k_hpA (k_put ?_);refine k_calP (Post:=fun v=>IsB _ v) rfl zq (by kernel_rfl) (fun H' hH=>f58_c _ H' (b:=addK b ⟨x,(y:Int),true⟩) (rpT.keeps (sq hH)) hpT (rtT.keeps (sq hH)) htT (rkT.keeps (sq hH)) hkT (b2:=addK b ⟨x,(y:Int),true⟩) (rdp.keeps (sq hH)) hp (rdt.keeps (sq hH)) ht (rdT.keeps (sq hH)) (by omega)) ?_;rintro v (⟨hc,rfl⟩|⟨hc,rfl⟩)
    ·refine d43 ?_;refine d13 ?_;refine rs7 ?_;refine k_ldA rfl zq ?_
     refine k_calP (Post:=fun v=>v= .tuple [.int .i64 (((boatsOf (addK b ⟨x,(y:Int),true⟩)).length:Nat):Int),.int .i64 0].toArray) rfl zq (by kernel_rfl) (fun H' hH=>by have:=f34_c (Md.starS Tryz.prog B) H' (b:=addK b ⟨x,(y:Int),true⟩) (rpT.keeps (sq hH)) hpT (rtT.keeps (sq hH)) htT (rkT.keeps (sq hH)) hkT;rw [orNo_yes ft] at this;exact this) ?_;rintro v rfl;refine d78 ?_;refine k_as rfl zq ?_;refine d68 ?_;refine k_neqF rfl zq rfl ?_;refine d13 ?_;refine rr2 ?_;refine mq rfl ?_;refine d68 ?_
     refine k_eqlF rfl zq (by decide) ?_;refine d13 ?_;refine rs9 ?_;refine d3 ?_;refine d29 ?_;refine k_eqlT rfl zq (by omega) ?_;refine mq rfl ?_
     refine k_cal rfl rfl (by kernel_rfl) (f18_c _) ?_;rintro v h' ⟨nF,rfl,rfl⟩;refine k_put ?_;refine d92 ?_;refine run_top rfl Tryz.func6 (by kernel_rfl) rfl ?_;rfl
    ·refine k_put ?_;exact absurd rfl hc
   ·refine rr9 ?_;refine d69 ?_;refine k_calP (Post:=fun v=>v= .tuple [.agg [.int .i64 (minL ((boatsOf b).map fun l=>atI b.pts l x)),.int .i64 (maxL ((boatsOf b).map fun l=>atI b.pts l x))].toArray,.int .i64 0].toArray) rfl zq (by kernel_rfl) (fun H' hH=>by have:=f38_c (Md.starS Tryz.prog B) H' (b:=b) (rdp.keeps (sq hH)) hp (rdt.keeps (sq hH)) ht (rdk.keeps (sq hH)) hk x;rw [if_pos ⟨hx1,hx2'⟩,spanT_yes eo] at this;exact this) ?_;rintro v rfl;refine d78 ?_
    refine k_new rfl zq (fun q9=>k_hp (k_put ?_));refine k_stA rfl zq rfl ?_;refine aq rfl ?_;refine rs9 ?_;refine k_ldA rfl zq ?_;refine d3 ?_;refine k_calP (Post:=fun v=>v= .tuple [.int .i64 0,.int .i64 0].toArray) rfl zq (by kernel_rfl) (fun H' hH=>by have:=f44_c (Md.starS Tryz.prog B) H' (b:=b) (rdp.keeps (sq hH)) hp (rdt.keeps (sq hH)) ht (rdk.keeps (sq hH)) hk x (y:Int);rw [if_pos ⟨⟨hx1,hx2'⟩,hy1,hy2⟩,orNo_yes eo,ec] at this;exact this) ?_;rintro v rfl;refine d134 ?_;refine rs7 ?_;refine k_ldA rfl zq ?_
    refine k_calP (Post:=fun v=>v= .tuple [.int .i64 (((boatsOf b).length:Nat):Int),.int .i64 0].toArray) rfl zq (by kernel_rfl) (fun H' hH=>by have:=f34_c (Md.starS Tryz.prog B) H' (b:=b) (rdp.keeps (sq hH)) hp (rdt.keeps (sq hH)) ht (rdk.keeps (sq hH)) hk;rw [orNo_yes h0] at this;exact this) ?_;rintro v rfl;refine d134 ?_;refine rs11 ?_;refine k_ldA rfl zq ?_;refine d3 ?_;refine k_bld rfl zq ?_
    refine k_calC rfl zq (by kernel_rfl) (Post:=fun v new=> ∃w,v= .tuple [w,.int .i64 (stickS b ⟨x,(y:Int),true⟩)].toArray∧BkF B (stickF b ⟨x,(y:Int),true⟩) new w) (fun H' hH=>f57_c _ H' (b:=b) (rdp.keeps (sq hH)) hp (rdt.keeps (sq hH)) ht (rdk.keeps (sq hH)) hk ⟨x,(y:Int),true⟩) ?_;rintro v nT ⟨wT,rfl,ppT,npT,cpT,ptT,ntT,ctT,pkT,nkT,ckT,rfl,rpT,rtT,rkT⟩;refine k_hpA (k_put ?_);rw [sT.1];rw [sT.2] at rpT rtT rkT⊢
    have hpT:npT≤1000:=by have h:=rpT.elen (by decide);have h2:(addK b ⟨x,(y:Int),true⟩).pts.length=b.pts.length:=rfl;omega
    have htT:ntT≤1000:=by have h:=rtT.elen (by decide);have h2:(addK b ⟨x,(y:Int),true⟩).tapes.length=b.tapes.length:=rfl;have:=hv.few;omega
    have hkT:nkT≤1000:=by have h:=rkT.elen (by decide);have h2:(addK b ⟨x,(y:Int),true⟩).sticks.length=b.sticks.length+1:=List.length_append;omega
    refine d40 ?_
    refine k_new rfl zq (fun q15=>k_hp (k_put ?_));refine k_stA rfl zq rfl ?_;refine aq rfl ?_;refine rs11 ?_;refine k_ldA rfl zq ?_;refine d3 ?_;refine k_bld rfl zq ?_;refine k_calC rfl zq (by kernel_rfl) (Post:=fun v new=> ∃w,v= .tuple [w,.int .i64 (stickS b ⟨x,(y:Int),false⟩)].toArray∧BkF B (stickF b ⟨x,(y:Int),false⟩) new w) (fun H' hH=>f57_c _ H' (b:=b) (rdp.keeps (sq hH)) hp (rdt.keeps (sq hH)) ht (rdk.keeps (sq hH)) hk ⟨x,(y:Int),false⟩) ?_;rintro v nF ⟨wF,rfl,ppF,npF,cpF,ptF,ntF,ctF,pkF,nkF,ckF,rfl,rpF,rtF,rkF⟩;refine k_hpA (k_put ?_);rw [sF.1];rw [sF.2] at rpF rtF rkF⊢
    have hpF:npF≤1000:=by have h:=rpF.elen (by decide);have h2:(addK b ⟨x,(y:Int),false⟩).pts.length=b.pts.length:=rfl;omega
    have htF:ntF≤1000:=by have h:=rtF.elen (by decide);have h2:(addK b ⟨x,(y:Int),false⟩).tapes.length=b.tapes.length:=rfl;have:=hv.few;omega
    have hkF:nkF≤1000:=by have h:=rkF.elen (by decide);have h2:(addK b ⟨x,(y:Int),false⟩).sticks.length=b.sticks.length+1:=List.length_append;omega
    refine d40 ?_
    refine k_new rfl zq (fun q17=>k_hp (k_put ?_));refine k_stA rfl zq rfl ?_;refine d12 ?_;refine run_seq ?_;refine run_region [(0,.free),(1,.free),(2,.free),(3,.free),(4,.free),(5,.free),(6,.free),(7,.free),(8,.free),(9,.free),(10,.free),(11,.free),(12,.free),(13,.free)] (by kernel_rfl) (by kernel_rfl) ?_;refine mq rfl ?_;refine k_neqF rfl zq rfl ?_;refine d23 ?_;refine k_mv rfl rfl ?_;refine k_neqF rfl rfl rfl ?_;refine k_pickF rfl zq ?_;refine d23 ?_;refine k_eqlT rfl rfl (by decide) ?_;refine k_mv rfl rfl ?_
    refine k_gtrT rfl rfl (by omega) ?_;refine k_neqBF rfl rfl (by kernel_rfl) rfl ?_;refine k_pickF rfl zq ?_;refine d37 ?_;refine d18 ?_;refine k_neqF rfl zq (by decide) ?_;refine d37 ?_;refine run_seq ?_;refine run_region [(0,.free),(1,.free),(2,.free),(3,.free),(4,.free),(5,.free),(6,.free),(7,.free),(8,.free),(9,.free),(10,.free),(11,.free),(12,.free),(13,.free),(14,.free),(15,.free),(16,.free),(17,.free),(18,.free),(19,.free),(20,.free),(21,.free),(22,.free),(23,.free),(24,.free),(25,.free),(26,.free),(27,.free),(28,.free),(29,.free)] (by kernel_rfl) (by kernel_rfl) ?_;refine mq rfl ?_
    refine k_eqlF rfl zq (by decide) ?_;refine d2 ?_;refine mq rfl ?_
    refine k_geqF rfl zq (by omega) ?_;refine k_neqBF rfl zq (by kernel_rfl) rfl ?_;refine d23 ?_
    refine k_eqlF rfl rfl (by decide) ?_;refine d25 ?_;refine k_mv rfl rfl ?_
    refine k_lssF rfl rfl (by omega) ?_;refine k_neqBF rfl rfl (by kernel_rfl) rfl ?_;refine k_pickF rfl zq ?_;refine d23 ?_;refine k_eqlT rfl rfl (by decide) ?_;refine k_mv rfl rfl ?_;refine k_neqT rfl rfl (by decide) ?_;refine k_neqBF rfl rfl (by kernel_rfl) rfl ?_;refine k_pickF rfl zq ?_;refine d23 ?_;refine k_eqlT rfl rfl (by decide) ?_;refine k_mv rfl rfl ?_;refine k_neqT rfl rfl (by decide) ?_;refine k_neqBF rfl rfl (by kernel_rfl) rfl ?_;refine d126 ?_;refine rs2 ?_;refine k_as rfl zq ?_;refine d68 ?_;refine k_eqlT rfl zq (by decide) ?_;refine d7 ?_;refine d90 ?_
    refine run_draw [(2,.pure),(3,.pure),(4,.pure),(0,.read),(1,.read),(5,.keep),(6,.keep),(7,.pure)] (by kernel_rfl) (by kernel_rfl) (List.Sublist.refl _) ?_;refine d3 ?_;refine k_bld rfl zq ?_;refine k_ldA rfl zq ?_;refine k_ldA rfl zq ?_
    refine k_calC rfl zq (by kernel_rfl) (Post:=fun v nw=> ∃rp rc,v=fbV (addK b ⟨x,(y:Int),true⟩) pp np cp pt nt ct rp (nk+1) rc∧RdS B nw 3 (.slice rp (nk+1) rc) (nk+1) (encs (addK b ⟨x,(y:Int),true⟩).sticks)) (fun H' hH=>f59_c _ H' (b:=b) (rdk.keeps (sq hH)) hk ⟨x,(y:Int),true⟩) ?_;rintro v uT ⟨qpT,qcT,rfl,rdT⟩;refine k_hpA (k_put ?_);refine k_calP (Post:=fun v=>IsB _ v) rfl zq (by kernel_rfl) (fun H' hH=>f58_c _ H' (b:=addK b ⟨x,(y:Int),true⟩) (rpT.keeps (sq hH)) hpT (rtT.keeps (sq hH)) htT (rkT.keeps (sq hH)) hkT (b2:=addK b ⟨x,(y:Int),true⟩) (rdp.keeps (sq hH)) hp (rdt.keeps (sq hH)) ht (rdT.keeps (sq hH)) (by omega)) ?_;rintro v (⟨hc,rfl⟩|⟨hc,rfl⟩)
    ·refine d43 ?_;refine d13 ?_;refine rs7 ?_;refine k_ldA rfl zq ?_
     refine k_calP (Post:=fun v=>v= .tuple [.int .i64 (((boatsOf (addK b ⟨x,(y:Int),true⟩)).length:Nat):Int),.int .i64 0].toArray) rfl zq (by kernel_rfl) (fun H' hH=>by have:=f34_c (Md.starS Tryz.prog B) H' (b:=addK b ⟨x,(y:Int),true⟩) (rpT.keeps (sq hH)) hpT (rtT.keeps (sq hH)) htT (rkT.keeps (sq hH)) hkT;rw [orNo_yes ft] at this;exact this) ?_;rintro v rfl;refine d78 ?_;refine k_as rfl zq ?_;refine d68 ?_;refine k_neqF rfl zq rfl ?_;refine d13 ?_;refine rr2 ?_;refine mq rfl ?_;refine d68 ?_;refine k_eqlT rfl zq (by decide) ?_;refine d7 ?_;refine d90 ?_
     refine run_draw [(2,.pure),(3,.pure),(4,.pure),(0,.read),(1,.read),(5,.keep),(6,.keep),(7,.pure)] (by kernel_rfl) (by kernel_rfl) (List.Sublist.refl _) ?_;refine d3 ?_;refine k_bld rfl zq ?_;refine k_ldA rfl zq ?_;refine k_ldA rfl zq ?_
     refine k_calC rfl zq (by kernel_rfl) (Post:=fun v nw=> ∃rp rc,v=fbV (addK b ⟨x,(y:Int),false⟩) pp np cp pt nt ct rp (nk+1) rc∧RdS B nw 3 (.slice rp (nk+1) rc) (nk+1) (encs (addK b ⟨x,(y:Int),false⟩).sticks)) (fun H' hH=>f59_c _ H' (b:=b) (rdk.keeps (sq hH)) hk ⟨x,(y:Int),false⟩) ?_;rintro v uF ⟨qpF,qcF,rfl,rdF⟩;refine k_hpA (k_put ?_);refine k_calP (Post:=fun v=>IsB _ v) rfl zq (by kernel_rfl) (fun H' hH=>f58_c _ H' (b:=addK b ⟨x,(y:Int),false⟩) (rpF.keeps (sq hH)) hpF (rtF.keeps (sq hH)) htF (rkF.keeps (sq hH)) hkF (b2:=addK b ⟨x,(y:Int),false⟩) (rdp.keeps (sq hH)) hp (rdt.keeps (sq hH)) ht (rdF.keeps (sq hH)) (by omega)) ?_;rintro v (⟨hc,rfl⟩|⟨hc,rfl⟩)
     ·refine d43 ?_;refine d13 ?_;refine rs7 ?_;refine k_ldA rfl zq ?_
      refine k_calP (Post:=fun v=>v= .tuple [.int .i64 (((boatsOf (addK b ⟨x,(y:Int),false⟩)).length:Nat):Int),.int .i64 0].toArray) rfl zq (by kernel_rfl) (fun H' hH=>by have:=f34_c (Md.starS Tryz.prog B) H' (b:=addK b ⟨x,(y:Int),false⟩) (rpF.keeps (sq hH)) hpF (rtF.keeps (sq hH)) htF (rkF.keeps (sq hH)) hkF;rw [orNo_yes ff] at this;exact this) ?_;rintro v rfl;refine d78 ?_;refine k_as rfl zq ?_;refine d68 ?_;refine k_neqF rfl zq rfl ?_;refine d13 ?_;refine rr2 ?_;refine mq rfl ?_;refine aq rfl ?_;refine rs9 ?_;refine d3 ?_;refine d29 ?_;refine k_eqlT rfl zq (by omega) ?_;refine mq rfl ?_
      refine k_cal rfl rfl (by kernel_rfl) (f18_c _) ?_;rintro v h' ⟨nF,rfl,rfl⟩;refine k_put ?_;refine d92 ?_;refine run_top rfl Tryz.func6 (by kernel_rfl) rfl ?_;rfl
     ·refine k_put ?_;exact absurd rfl hc
    ·refine k_put ?_;exact absurd rfl hc
 ·refine d44 ?_;refine d66 ?_;refine k_pickT rfl zq ?_;refine d7 ?_;refine rs2 ?_
  refine k_cal rfl zq (by kernel_rfl) (f18_c _) ?_;rintro v h' ⟨nF,rfl,rfl⟩;refine d110 ?_
  refine run_top rfl Tryz.func6 (by kernel_rfl) rfl ?_;rfl
end Go.Proofs
