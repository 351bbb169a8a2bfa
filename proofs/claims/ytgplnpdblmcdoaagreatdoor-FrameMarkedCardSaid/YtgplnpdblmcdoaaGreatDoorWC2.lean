/- A part of the proof of a law: my own separation logic over the machine, and walks of the program. Condition of each theorem: as its statement says. -/
import Derived.Test.YtgplnpdblmcdoaaGreatDoorWC1
import Derived.Test.YtgplnpdblmcdoaaGreatDoorProg
set_option linter.all false
namespace Go.Lo
open Go.Conc (G)
section
variable {P:Program} {B:Array Obj} {m:Md P B} {ops:Array Oper} {l l':List Value} {S h h' H:Hp} {C:List Value→Hp→Prop} {i:Nat} {kd:Kd} {r:List (Nat×Kd)}
  {d:Option Tmp} {ty:TypeId} {pos:String} {af:Array Edge} {g:Option (Nat×Bool)}
theorem jbm {b:Builtin} {args:List Operand} {ats:Array TypeId} {vs:List Value} (ea:args.map (ev l)=vs):
    execOp (ev l) ⟨d,.call ⟨.builtin b,args.toArray,ats⟩,ty,pos,af,g⟩=builtin b ats ty (args.toArray.map fun| .const _=>true|_=>false) vs.toArray:=by
  have e:(Array.map (ev l) args.toArray)=vs.toArray:=by rw [List.map_toArray,ea]
  simp only [execOp,resolve,e]
  rfl
theorem jhr {t t2 e k by':Nat} {x y:Operand} {s u:Value} {n mm:Nat} {cs ys:List Value} {F new:Hp} (ho:ops[i]?=some ⟨d,.call ⟨.builtin .append,[x,y].toArray,#[t,t2]⟩,ty,pos,af,g⟩) (hg:Wt ops l g)
    [ex:OpV l x s] [ey:OpV l y u] [SliceT P t e k] [SliceT P t2 e k] [ElemT P e k by'] (hw:Weak B h (F++new)) (o:OwnS e k s n cs new) (rx:RdS B h k u mm ys) (h1: ∀u∈ys,u.oneCell'=true) (hk:kd= .free∨(kd= .keep∧S.Sublist F)) (hb:2*(n+mm)*by'≤2^48) (hmax:n+mm≤2^62)
    (c: ∀v' new',OwnS e k v' (n+mm) (cs++ys) new'→RegK m S ops r (put l d v') (F++new') C):RegK m S ops ((i,kd)::r) l h C:=by
  refine RegK.ke (hk.symm.imp (·.1) id) ho hg ?_
  rw [jbm (vs:=[s,u]) (by simp [ex.eq,ey.eq])];exact Tri.bind (jko hw o rx h1 hb hmax fun v' new' o'=>Tri.pure ⟨hk.imp id fun x=>x.2.trans (List.sublist_append_left _ _),c v' new' o'⟩)
def zrep (z:Array Value) (n:Nat):Array Value:=(Array.range n).map (z[· %z.size]!)
theorem k_bsl {t e k len:Nat} {ps:List (Nat×Operand)} {parts:List (Nat×Value)} {z:Value} {cs:List Value} (hk:kd= .free∨(kd= .keep∧S.Sublist h)) (ho:ops[i]?=some ⟨d,.buildSlice t len ps.toArray,ty,pos,af,g⟩) (hw:Wt ops l g) [a:PartsV l ps parts] [SliceT P t e k] [zt:ZeroT P e z]
    (hs:len*k≤2^24) (hc:Instr.fill (fun j=>some (j*k,k)) (if len*k=0 then #[] else zrep z.cells (len*k)) parts=some cs.toArray)
    (n: ∀q,RegK m S ops r (put l d (.slice (some ⟨q,0,none⟩) len len)) (h++[⟨true,q,.cells cs.toArray e (0,0)⟩]) C):RegK m S ops ((i,kd)::r) l h C:=by
  refine RegK.ke (hk.symm.imp (·.1) id) ho hw ?_
  obtain ⟨hu,hsz⟩:=jbj (P:=P) (B:=B) (h:=h) (t:=t)
  simp only [execOp]
  have e2:(Array.map (fun x:Nat×Operand=>(x.1,ev l x.2)) ps.toArray)=parts.toArray:=by rw [List.map_toArray,←a.eq]
  refine Tri.bind ?_
  show Tri P B (Instr.buildSlice t len (Array.map (fun x:Nat×Operand=>(x.1,ev l x.2)) ps.toArray)) h _
  rw [e2];unfold Instr.buildSlice
  refine Tri.bind ((jal hu).reads.tri ?_)
  refine Tri.bind (hsz.tri ?_)
  rw [if_neg (by omega)];have fin: ∀zc,Instr.fill (fun j=>some (j*k,k)) (zrep zc (len*k)) parts=some cs.toArray→Tri P B (do
      let some cells:=Instr.fill (fun i=>some (i*k,k)) ((Array.range (len*k)).map (zc[· %zc.size]!)) parts.toArray.toList|stuck "buildSlice: a part of the wrong size"
      pure (Value.slice (some (←newRow e cells)) len len)) h (fun a h'=>Tri P B (pure (Next.value a)) h' (upon m ⟨d,.buildSlice t len ps.toArray,ty,pos,af,g⟩ l fun l' h'=>(kd= .free∨S.Sublist h')∧RegK m S ops r l' h' C)):=by
    intro zc hf
    have:Instr.fill (fun i=>some (i*k,k)) ((Array.range (len*k)).map (zc[· %zc.size]!)) parts.toArray.toList=some cs.toArray:=hf
    simp only [this]
    exact Tri.bind (jeU fun q hq=>Tri.pure (Tri.pure ⟨hk.imp id fun x=>x.2.trans (List.sublist_append_left _ _),n q⟩))
  split
  · rename_i h0
    rw [if_pos h0] at hc
    refine Tri.bind (Tri.pure (a:= #[]) ?_)
    refine fin _ ?_
    have:zrep #[] (len*k)= #[]:=by rw [h0];simp [zrep]
    rw [this];exact hc
  · rename_i h0
    rw [if_neg h0] at hc
    refine Tri.bind (s:=zeroValue e) (reads_zero.tri ?_)
    refine Tri.bind (Tri.pure ?_)
    exact fin _ hc
theorem jcO {t e k n c:Nat} {x:Operand} {p:Option Addr} (ho:ops[i]?=some ⟨d,.call ⟨.builtin .len,[x].toArray,#[t]⟩,ty,pos,af,g⟩) (hw:Wt ops l g) [kh:KHeap kd S h H] [ex:OpV l x (.slice p n c)] [SliceT P t e k] [PutV l d (.int .i64 n) l']
    (q:RegK m S ops r l' h C):RegK m S ops ((i,kd)::r) l h C:=
  RegK.rd (v:= .int .i64 n) ho hw (by
    rw [jbm (vs:=[.slice p n c]) (by simp [ex.eq])];obtain ⟨hu,_⟩:=jbj (P:=P) (B:=B) (h:=H) (t:=t)
    refine Reads.value ?_
    unfold Builtin.len_
    simp only [List.getElem?_toArray,List.getElem?_cons_zero]
    exact Reads.bind (jal hu).reads (Reads.pure _)) q
theorem k_min {x y:Operand} {a b:Int} {k:IntKind} {ats:Array TypeId} (ho:ops[i]?=some ⟨d,.call ⟨.builtin .min,[x,y].toArray,ats⟩,ty,pos,af,g⟩) (hw:Wt ops l g) [kh:KHeap kd S h H] [ex:OpV l x (.int k a)] [ey:OpV l y (.int k b)] [PutV l d (.int k (min a b)) l']
    (q:RegK m S ops r l' h C):RegK m S ops ((i,kd)::r) l h C:=
  RegK.rd (v:= .int k (min a b)) ho hw (by
    rw [jbm (vs:=[.int k a,.int k b]) (by simp [ex.eq,ey.eq])];refine Reads.value ?_
    show Reads P B (Builtin.min_ ats ty #[.int k a,.int k b]) H _
    have:Builtin.min_ ats ty #[.int k a,.int k b]=Pure.pure (.int k (min a b)):=by
      simp only [Builtin.min_,List.foldlM,Builtin.min2]
      rw [show (if b<a then b else a)=min a b by rw [Int.min_def];split<;>split<;>omega];rfl
    rw [this];exact Reads.pure _) q
theorem jja {x y:Operand} {a b:Int} {k:IntKind} {ats:Array TypeId} (ho:ops[i]?=some ⟨d,.call ⟨.builtin .max,[x,y].toArray,ats⟩,ty,pos,af,g⟩) (hw:Wt ops l g) [kh:KHeap kd S h H] [ex:OpV l x (.int k a)] [ey:OpV l y (.int k b)] [PutV l d (.int k (max a b)) l']
    (q:RegK m S ops r l' h C):RegK m S ops ((i,kd)::r) l h C:=
  RegK.rd (v:= .int k (max a b)) ho hw (by
    rw [jbm (vs:=[.int k a,.int k b]) (by simp [ex.eq,ey.eq])];refine Reads.value ?_
    show Reads P B (Builtin.max_ ats ty #[.int k a,.int k b]) H _
    have:Builtin.max_ ats ty #[.int k a,.int k b]=Pure.pure (.int k (max a b)):=by
      simp only [Builtin.max_,List.foldlM,Builtin.max2]
      rw [show (if b>a then b else a)=max a b by rw [Int.max_def];split<;>split<;>omega];rfl
    rw [this];exact Reads.pure _) q
class ArgsA (l:List Value) (xs:Array Operand) (vs:outParam (Array Value)):Prop where
  eq:xs.map (ev l)=vs
instance {l:List Value} {xs:List Operand} {vs:List Value} [a:ArgsV l xs vs]:ArgsA l xs.toArray vs.toArray:=⟨by rw [List.map_toArray,a.eq]⟩
theorem jeG {f:Fn} {a c:Array Operand} {av cv:Array Value} (ho:ops[i]?=some ⟨d,.makeFunc f a c,ty,pos,af,g⟩) (hw:Wt ops l g) [kh:KHeap kd S h H] [ea:ArgsA l a av] [ec:ArgsA l c cv] [PutV l d (.func f av cv) l'] (q:RegK m S ops r l' h C):RegK m S ops ((i,kd)::r) l h C:=
  RegK.rd (v:= .func f av cv) ho hw (by simp only [execOp,ea.eq,ec.eq,Instr.makeFunc];exact Reads.value (Reads.pure _)) q
end
end Go.Lo
namespace Go.Lo
open Go.Conc (G)
section
variable {P:Program} {B:Array Obj} {m:Md P B} {ops:Array Oper} {l l':List Value} {S h h' H:Hp} {C:List Value→Hp→Prop} {i:Nat} {kd:Kd} {r:List (Nat×Kd)}
  {d:Option Tmp} {ty:TypeId} {pos:String} {af:Array Edge} {g:Option (Nat×Bool)}
theorem jap {t u:TypeId} {x y:Operand} {a b:Int} {k:IntKind} {l'':List Value} (ho:ops[i]?=some ⟨d,.binOp .lss t x y u,ty,pos,af,g⟩) (hw:Wt ops l g) [kh:KHeap kd S h H] [ex:OpV l x (.int k a)] [ey:OpV l y (.int k b)] [pt:PutV l d (.bool true) l'] [pf:PutV l d (.bool false) l'']
    (yes:a<b→RegK m S ops r l' h C) (no:b≤a→RegK m S ops r l'' h C):RegK m S ops ((i,kd)::r) l h C:=by
  by_cases e:a<b
  · have pq:=pt;rw [←decide_eq_true e] at pq;exact k_lss (l':=l') ho hw (yes e)
  · have pq:=pf;rw [←decide_eq_false e] at pq;exact k_lss (l':=l'') ho hw (no (by omega))
theorem ja1 {t u:TypeId} {x y:Operand} {a b:Int} {k:IntKind} {l'':List Value} (ho:ops[i]?=some ⟨d,.binOp .leq t x y u,ty,pos,af,g⟩) (hw:Wt ops l g) [kh:KHeap kd S h H] [ex:OpV l x (.int k a)] [ey:OpV l y (.int k b)] [pt:PutV l d (.bool true) l'] [pf:PutV l d (.bool false) l'']
    (yes:a≤b→RegK m S ops r l' h C) (no:b<a→RegK m S ops r l'' h C):RegK m S ops ((i,kd)::r) l h C:=by
  by_cases e:a≤b
  · have pq:=pt;rw [←decide_eq_true e] at pq;exact k_leq (l':=l') ho hw (yes e)
  · have pq:=pf;rw [←decide_eq_false e] at pq;exact k_leq (l':=l'') ho hw (no (by omega))
theorem jbz {t u:TypeId} {x y:Operand} {a b:Int} {k:IntKind} {l'':List Value} (ho:ops[i]?=some ⟨d,.binOp .gtr t x y u,ty,pos,af,g⟩) (hw:Wt ops l g) [kh:KHeap kd S h H] [ex:OpV l x (.int k a)] [ey:OpV l y (.int k b)] [pt:PutV l d (.bool true) l'] [pf:PutV l d (.bool false) l'']
    (yes:b<a→RegK m S ops r l' h C) (no:a≤b→RegK m S ops r l'' h C):RegK m S ops ((i,kd)::r) l h C:=by
  by_cases e:b<a
  · have pq:=pt;rw [←decide_eq_true e] at pq;exact k_gtr (l':=l') ho hw (yes e)
  · have pq:=pf;rw [←decide_eq_false e] at pq;exact k_gtr (l':=l'') ho hw (no (by omega))
theorem jaY {t u:TypeId} {x y:Operand} {a b:Int} {k:IntKind} {l'':List Value} (ho:ops[i]?=some ⟨d,.binOp .geq t x y u,ty,pos,af,g⟩) (hw:Wt ops l g) [kh:KHeap kd S h H] [ex:OpV l x (.int k a)] [ey:OpV l y (.int k b)] [pt:PutV l d (.bool true) l'] [pf:PutV l d (.bool false) l'']
    (yes:b≤a→RegK m S ops r l' h C) (no:a<b→RegK m S ops r l'' h C):RegK m S ops ((i,kd)::r) l h C:=by
  by_cases e:b≤a
  · have pq:=pt;rw [←decide_eq_true e] at pq;exact jkY (l':=l') ho hw (yes e)
  · have pq:=pf;rw [←decide_eq_false e] at pq;exact jkY (l':=l'') ho hw (no (by omega))
theorem jcd {t u:TypeId} {x y:Operand} {a b:Int} {k:IntKind} {l'':List Value} (ho:ops[i]?=some ⟨d,.binOp .eql t x y u,ty,pos,af,g⟩) (hw:Wt ops l g) [kh:KHeap kd S h H] [ex:OpV l x (.int k a)] [ey:OpV l y (.int k b)] [pt:PutV l d (.bool true) l'] [pf:PutV l d (.bool false) l'']
    (yes:a=b→RegK m S ops r l' h C) (no:a≠b→RegK m S ops r l'' h C):RegK m S ops ((i,kd)::r) l h C:=by
  by_cases e:a=b
  · have pq:=pt;rw [←decide_eq_true e] at pq;exact k_eql (l':=l') ho hw (yes e)
  · have pq:=pf;rw [←decide_eq_false e] at pq;exact k_eql (l':=l'') ho hw (no e)
theorem jaF {t u:TypeId} {x y:Operand} {a b:Int} {k:IntKind} {l'':List Value} (ho:ops[i]?=some ⟨d,.binOp .neq t x y u,ty,pos,af,g⟩) (hw:Wt ops l g) [kh:KHeap kd S h H] [ex:OpV l x (.int k a)] [ey:OpV l y (.int k b)] [pt:PutV l d (.bool true) l'] [pf:PutV l d (.bool false) l'']
    (yes:a≠b→RegK m S ops r l' h C) (no:a=b→RegK m S ops r l'' h C):RegK m S ops ((i,kd)::r) l h C:=by
  by_cases e:a=b
  · have pq:=pf;rw [←decide_eq_false (not_not_intro e)] at pq;exact k_neq (l':=l'') ho hw (no e)
  · have pq:=pt;rw [←decide_eq_true e] at pq;exact k_neq (l':=l') ho hw (yes e)
theorem jew {b:Frame} {ds:List Deferred} {k:List Item} {cs:List Frame} {K:Goroutine→Hp→Prop} {c:Operand} {x y:Code} {t:Bool} [e:OpV l c (.bool t)] (yes:t=true→m.R K (Gr b l ds (.code x::k) cs) h) (no:t=false→m.R K (Gr b l ds (.code y::k) cs) h):
    m.R K (Gr b l ds (.code (.cond c x y)::k) cs) h:=by
  cases t with
  |true=>exact run_if e.eq (yes rfl)
  |false=>exact jjC e.eq (no rfl)
theorem jcv {b:Frame} {ds:List Deferred} {k:List Item} {cs:List Frame} {K:Goroutine→Hp→Prop} {c:Operand} {x y:Code} [e:OpV l c (.bool true)] (yes:m.R K (Gr b l ds (.code x::k) cs) h):m.R K (Gr b l ds (.code (.cond c x y)::k) cs) h:=run_if e.eq yes
theorem jfc {b:Frame} {ds:List Deferred} {k:List Item} {cs:List Frame} {K:Goroutine→Hp→Prop} {c:Operand} {x y:Code} [e:OpV l c (.bool false)] (no:m.R K (Gr b l ds (.code y::k) cs) h):m.R K (Gr b l ds (.code (.cond c x y)::k) cs) h:=jjC e.eq no
abbrev ints (xs:List Int):List Value:=xs.map (Value.int .i64)
theorem jdT (xs:List Int): ∀u∈ints xs,u.oneCell'=true:=by
  intro u hu
  obtain ⟨x,_,rfl⟩:=List.mem_map.1 hu
  rfl
theorem RdS.int {n c:Nat} {p:Option Addr} {b o:Nat} {xs:List Int} (rd:RdS B h 1 (.slice p n c) n (ints xs)) (hp:p=some ⟨b,o,none⟩) {j:Int} (h0:0≤j) (h1:j<n):Rd B h ⟨b,o+j.toNat*1,none⟩ (.int .i64 (xs.getD j.toNat 0)):=by
  obtain ⟨p',c',e,hl,⟨e',e''⟩|⟨b',o',e',rd⟩⟩:=rd
  · omega
  · obtain ⟨rfl,_,rfl⟩:=Value.slice.inj e
    rw [hp] at e'
    obtain ⟨rfl,rfl,_⟩:=Addr.mk.inj (Option.some.inj e')
    have hj:j.toNat<xs.length:=by simp at hl;omega
    have:=rd j.toNat (by simpa using hj)
    rw [Nat.mul_one];rw [List.getD_eq_getElem?_getD,List.getElem?_map,List.getElem?_eq_getElem hj] at this
    rw [List.getD_eq_getElem?_getD,List.getElem?_eq_getElem hj];exact this
theorem RdS.ptr {k n c:Nat} {p:Option Addr} {ys:List Value} (rd:RdS B h k (.slice p n c) n ys) (hn:0<n): ∃b o,p=some ⟨b,o,none⟩:=by
  obtain ⟨p',c',e,hl,⟨e',e''⟩|⟨b',o',e',rd⟩⟩:=rd
  · omega
  · obtain ⟨rfl,_,rfl⟩:=Value.slice.inj e
    exact ⟨b',o',e'⟩
end
end Go.Lo
namespace Go.Lo
open Go.Conc (G)
class LenIs (vs:List Value) (n:Nat):Prop where
  eq:vs.length=n
instance:LenIs [] 0:=⟨rfl⟩
instance {v:Value} {vs:List Value} {n:Nat} [s:LenIs vs n]:LenIs (v::vs) (n+1):=⟨by simp [s.eq]⟩
theorem jj9: ∀(vs:List Value) (j off:Nat) (cs:List Value),off+j+vs.length≤cs.length→
    (vs.zipIdx j).foldl (fun (cs:Array Value) (p:Value×Nat)=>cs.setIfInBounds (off+p.2) p.1) cs.toArray=(cs.take (off+j)++vs++cs.drop (off+j+vs.length)).toArray
  |[],j,off,cs,_=>by simp
  |v::vs,j,off,cs,h=>by
    simp only [List.length_cons] at h
    have hlt:off+j<cs.length:=by omega
    rw [List.zipIdx_cons,List.foldl_cons];have e:(cs.toArray.setIfInBounds (off+j) v)=(cs.set (off+j) v).toArray:=by simp
    simp only [e]
    rw [jj9 vs (j+1) off _ (by simp;omega)];congr 1
    rw [show off+(j+1)=off+j+1 by omega];simp only [List.length_cons]
    rw [show off+j+(vs.length+1)=off+j+1+vs.length by omega,List.drop_set_of_lt (by omega),List.take_succ_eq_append_getElem (by simpa using hlt)];simp [List.take_set_of_le]
theorem jit {place:Nat→Option (Nat×Nat)} {cs vs:List Value} {j off size:Nat} {v:Value} {ps:List (Nat×Value)} (hp:place j=some (off,size)) (hv:v.cells=vs.toArray) (hs:vs.length=size) (ho:off+vs.length≤cs.length):
    Instr.fill place cs.toArray ((j,v)::ps)=Instr.fill place (cs.take off++vs++cs.drop (off+vs.length)).toArray ps:=by
  simp only [Instr.fill,hp,hv]
  have:(decide (vs.toArray.size≠size)||decide (off+vs.toArray.size>cs.toArray.size))=false:=by simp [hs];omega
  rw [if_neg (by simpa using this)];congr 1
  have:=jj9 vs 0 off cs (by simpa using ho)
  rw [←Array.foldl_toList];simp only [Nat.add_zero] at this
  rw [←this];simp
class PlAt (pl:List (Nat×Nat)) (j:Nat) (off size:outParam Nat):Prop where
  eq:pl[j]?=some (off,size)
instance {o s:Nat} {l:List (Nat×Nat)}:PlAt ((o,s)::l) 0 o s:=⟨rfl⟩
instance {o s j:Nat} {x:Nat×Nat} {l:List (Nat×Nat)} [p:PlAt l j o s]:PlAt (x::l) (j+1) o s:=⟨by simpa using p.eq⟩
class FillS (pl:List (Nat×Nat)) (zs:List Value) (parts:List (Nat×Value)) (out:outParam (List Value)):Prop where
  eq:jmO pl zs parts=some out.toArray
instance {pl:List (Nat×Nat)} {zs:List Value}:FillS pl zs [] zs:=⟨rfl⟩
instance {pl:List (Nat×Nat)} {zs zs' vs out:List Value} {j off size:Nat} {v:Value} {ps:List (Nat×Value)} [p:PlAt pl j off size] [c:CellsV v vs] [n:LenIs vs size] [s:SetSeg zs off vs zs'] [f:FillS pl zs' ps out]:FillS pl zs ((j,v)::ps) out:=⟨by
  have:=f.eq
  unfold jmO at this⊢
  rw [jit p.eq c.eq n.eq s.eq.2,←s.eq.1];exact this⟩
class AppL (a b:List Value) (c:outParam (List Value)):Prop where
  eq:a++b=c
instance {b:List Value}:AppL [] b b:=⟨rfl⟩
instance {x:Value} {a b c:List Value} [s:AppL a b c]:AppL (x::a) b (x::c):=⟨by simp [s.eq]⟩
class PartsL (k s:Nat) (parts:List (Nat×Value)) (cs:outParam (List Value)):Prop where
  eq: ∀pre rest:List Value,pre.length=s*k→rest.length=parts.length*k→Instr.fill (fun j=>some (j*k,k)) (pre++rest).toArray parts=some (pre++cs).toArray
instance {k s:Nat}:PartsL k s [] []:=⟨fun pre rest _ hr=>by
  have:rest=[]:=List.length_eq_zero_iff.1 (by simpa using hr)
  subst this;rfl⟩
instance {k s:Nat} {v:Value} {ps:List (Nat×Value)} {vs cs out:List Value} [c:CellsV v vs] [n:LenIs vs k] [f:PartsL k (s+1) ps cs] [a:AppL vs cs out]:PartsL k s ((s,v)::ps) out:=⟨fun pre rest hp hr=>by
  have hn:=n.eq
  simp only [List.length_cons,Nat.add_mul,Nat.one_mul] at hr
  rw [jit rfl c.eq hn (by simp;omega)];have e:(pre++rest).take (s*k)++vs++(pre++rest).drop (s*k+vs.length)=(pre++vs)++rest.drop k:=by
    rw [←hp,List.take_left,List.drop_append];simp [hn]
  rw [e,f.eq (pre++vs) (rest.drop k) (by simp [hp,hn,Nat.add_mul]) (by simp;omega),List.append_assoc,a.eq]⟩
section
variable {P:Program} {B:Array Obj} {m:Md P B} {ops:Array Oper} {l l':List Value} {S h h' H:Hp} {C:List Value→Hp→Prop} {i:Nat} {kd:Kd} {r:List (Nat×Kd)}
  {d:Option Tmp} {ty:TypeId} {pos:String} {af:Array Edge} {g:Option (Nat×Bool)}
theorem jcP {t:TypeId} {ps:List (Nat×Operand)} {parts:List (Nat×Value)} {pl:List (Nat×Nat)} {zs cs:List Value} (ho:ops[i]?=some ⟨d,.build t ps.toArray,ty,pos,af,g⟩) (hw:Wt ops l g) [KHeap kd S h H] [a:PartsV l ps parts] [StructT P t pl] [ZeroT P t (.agg zs.toArray)]
    [f:FillS pl zs parts cs] [PutV l d (.agg cs.toArray) l'] (n:RegK m S ops r l' h C):RegK m S ops ((i,kd)::r) l h C:=k_build ho hw f.eq n
theorem k_bs {t e k len:Nat} {ps:List (Nat×Operand)} {parts:List (Nat×Value)} {z:Value} {cs:List Value} (hk:kd= .free∨(kd= .keep∧S.Sublist h)) (ho:ops[i]?=some ⟨d,.buildSlice t len ps.toArray,ty,pos,af,g⟩) (hw:Wt ops l g) [a:PartsV l ps parts] [SliceT P t e k] [zt:ZeroT P e z] [f:PartsL k 0 parts cs]
    (hs:len*k≤2^24) (h0:len*k≠0) (hp:parts.length=len) (n: ∀q,RegK m S ops r (put l d (.slice (some ⟨q,0,none⟩) len len)) (h++[⟨true,q,.cells cs.toArray e (0,0)⟩]) C):RegK m S ops ((i,kd)::r) l h C:=by
  refine k_bsl hk ho hw hs ?_ n
  rw [if_neg h0];have:=f.eq [] (zrep z.cells (len*k)).toList (by simp) (by simp [zrep,hp])
  simpa using this
theorem jf1 {t e k:Nat} {z:Value} (hk:kd= .free∨(kd= .keep∧S.Sublist h)) (ho:ops[i]?=some ⟨d,.buildSlice t 0 #[],ty,pos,af,g⟩) (hw:Wt ops l g) [SliceT P t e k] [zt:ZeroT P e z]
    (n: ∀q,RegK m S ops r (put l d (.slice (some ⟨q,0,none⟩) 0 0)) (h++[⟨true,q,.cells ([]:List Value).toArray e (0,0)⟩]) C):RegK m S ops ((i,kd)::r) l h C:=
  k_bsl (ps:=[]) (parts:=[]) (cs:=[]) hk ho hw (a:=⟨rfl⟩) (by simp) (by simp [Instr.fill]) n
end
end Go.Lo
namespace Go.Lo
open Go.Conc (G)
class AppH (a b:Hp) (c:outParam Hp):Prop where
  eq:a++b=c
instance (priority:=low) {f b:Hp}:AppH f b (f++b):=⟨rfl⟩
theorem jaa {B:Array Obj} {a b:Hp} [s:SubH a b]:Weak B b a:=Weak.sub s.sub
theorem OwnS.rd' {B:Array Obj} {t k:Nat} {v:Value} {n:Nat} {cs:List Value} {new h:Hp} (o:OwnS t k v n cs new) [s:SubH new h]:RdS B h k v n cs:=o.rd s.sub
theorem jdj {B:Array Obj} {h:Hp} {k q n c t:Nat} {rw:Bool} {f:Nat×Nat} {ys:List Value} [x:Has h q rw (.cells ys.toArray t f)] (hl:ys.length=n*k):RdS B h k (.slice (some ⟨q,0,none⟩) n c) n ys:=
  ⟨_,c,rfl,hl,.inr ⟨q,0,rfl,fun j hj=>by
    rw [Nat.zero_add];refine Rd.held x.mem ?_
    rw [List.getElem?_toArray,List.getD_eq_getElem?_getD,List.getElem?_eq_getElem hj];rfl⟩⟩
section
variable {P:Program} {B:Array Obj} {m:Md P B} {ops:Array Oper} {l l':List Value} {S h h' H:Hp} {C:List Value→Hp→Prop} {i:Nat} {kd:Kd} {r:List (Nat×Kd)}
  {d:Option Tmp} {ty:TypeId} {pos:String} {af:Array Edge} {g:Option (Nat×Bool)}
theorem jaL {a b:Hp} [s:AppH a b h'] (n:RegK m S ops r l h' C):RegK m S ops r l (a++b) C:=by rw [s.eq];exact n
theorem jik {t t2 t3 e k by' q c:Nat} {x y:Operand} {s:Value} {n mm:Nat} {rw:Bool} {f:Nat×Nat} {cs ys:List Value} {F new:Hp} (ho:ops[i]?=some ⟨d,.call ⟨.builtin .append,[x,y].toArray,#[t,t2]⟩,ty,pos,af,g⟩) (hg:Wt ops l g)
    [ex:OpV l x s] [ey:OpV l y (.slice (some ⟨q,0,none⟩) mm c)] [SliceT P t e k] [SliceT P t2 e k] [ElemT P e k by'] [hh:Has h q rw (.cells ys.toArray t3 f)] [on:Ones ys] (hy:ys.length=mm*k) (o:OwnS e k s n cs new) [w:SubH (F++new) h] (hk:kd= .free∨(kd= .keep∧S.Sublist F)) (hb:2*(n+mm)*by'≤2^48) (hmax:n+mm≤2^62)
    (cc: ∀v' new',OwnS e k v' (n+mm) (cs++ys) new'→RegK m S ops r (put l d v') (F++new') C):RegK m S ops ((i,kd)::r) l h C:=
  jhr ho hg jaa o (jdj hy) on.one hk hb hmax cc
end
end Go.Lo
namespace Go.Lo
open Go.Conc (G)
theorem sq {a b c:Hp} [s:SubH a b] (h:b.Sublist c):a.Sublist c:=s.sub.trans h
class HK (kd:Kd) (S h:Hp):Prop where
  eq:kd= .free∨(kd= .keep∧S.Sublist h)
instance {S h:Hp}:HK .free S h:=⟨.inl rfl⟩
instance {S h:Hp} [s:SubH S h]:HK .keep S h:=⟨.inr ⟨rfl,s.sub⟩⟩
theorem kdq {kd:Kd} {S h:Hp} [k:HK kd S h]:kd= .free∨(kd= .keep∧S.Sublist h):=k.eq
section
variable {P:Program} {B:Array Obj} {m:Md P B} {ops:Array Oper} {l l':List Value} {S h:Hp} {C:List Value→Hp→Prop} {i:Nat} {kd:Kd} {r:List (Nat×Kd)} {d:Option Tmp} {ty:TypeId} {pos:String} {af:Array Edge} {x:Operand} {v:Value}
theorem mq {H:Hp} (ho:ops[i]?=some ⟨d,.move x,ty,pos,af,none⟩) [KHeap kd S h H] [e:OpV l x v] [PutV l d v l'] (n:RegK m S ops r l' h C):RegK m S ops ((i,kd)::r) l h C:=k_mv ho trivial n
theorem aq {H:Hp} (ho:ops[i]?=some ⟨d,.assign x,ty,pos,af,none⟩) [KHeap kd S h H] [e:OpV l x v] [PutV l d v l'] (n:C l' h):RegK m S ops [(i,kd)] l h C:=k_as ho trivial (jaB n)
end
end Go.Lo
namespace Go.Lo
open Go.Conc (G)
abbrev uu6:List Value:=undef::undef::undef::undef::undef::undef::[]
abbrev uu7:List Value:=undef::uu6
abbrev uu8:List Value:=undef::uu7
abbrev uu9:List Value:=undef::uu8
abbrev uu10:List Value:=undef::uu9
abbrev uu11:List Value:=undef::uu10
abbrev uu12:List Value:=undef::uu11
abbrev uu13:List Value:=undef::uu12
abbrev uu14:List Value:=undef::uu13
abbrev uu15:List Value:=undef::uu14
abbrev uu16:List Value:=undef::uu15
abbrev uu17:List Value:=undef::uu16
abbrev uu18:List Value:=undef::uu17
abbrev uu19:List Value:=undef::uu18
abbrev uu20:List Value:=undef::uu19
abbrev uu21:List Value:=undef::uu20
abbrev uu22:List Value:=undef::uu21
abbrev uu24:List Value:=undef::undef::uu22
abbrev uu25:List Value:=undef::uu24
abbrev uu26:List Value:=undef::uu25
abbrev uu27:List Value:=undef::uu26
abbrev uu29:List Value:=undef::undef::uu27
abbrev uu31:List Value:=undef::undef::uu29
abbrev uu32:List Value:=undef::uu31
abbrev uu33:List Value:=undef::uu32
abbrev uu34:List Value:=undef::uu33
abbrev uu35:List Value:=undef::uu34
abbrev uu36:List Value:=undef::uu35
abbrev uu37:List Value:=undef::uu36
abbrev uu41:List Value:=undef::undef::undef::undef::uu37
abbrev uu42:List Value:=undef::uu41
abbrev uu46:List Value:=undef::undef::undef::undef::uu42
abbrev uu49:List Value:=undef::undef::undef::uu46
abbrev uu50:List Value:=undef::uu49
abbrev uu52:List Value:=undef::undef::uu50
abbrev uu53:List Value:=undef::uu52
abbrev uu54:List Value:=undef::uu53
abbrev uu57:List Value:=undef::undef::undef::uu54
abbrev uu60:List Value:=undef::undef::undef::uu57
abbrev uu62:List Value:=undef::undef::uu60
abbrev uu63:List Value:=undef::uu62
abbrev uu65:List Value:=undef::undef::uu63
abbrev uu66:List Value:=undef::uu65
abbrev uu72:List Value:=undef::undef::undef::undef::undef::undef::uu66
abbrev uu73:List Value:=undef::uu72
abbrev uu74:List Value:=undef::uu73
abbrev uu80:List Value:=undef::undef::undef::undef::undef::undef::uu74
abbrev uu83:List Value:=undef::undef::undef::uu80
abbrev uu92:List Value:=undef::undef::undef::undef::undef::undef::undef::undef::undef::uu83
abbrev uu115:List Value:=undef::undef::undef::undef::undef::undef::undef::undef::undef::undef::undef::undef::undef::undef::undef::undef::undef::undef::undef::undef::undef::undef::undef::uu92
abbrev uu130:List Value:=undef::undef::undef::undef::undef::undef::undef::undef::undef::undef::undef::undef::undef::undef::undef::uu115
abbrev uu138:List Value:=undef::undef::undef::undef::undef::undef::undef::undef::uu130
abbrev uu163:List Value:=undef::undef::undef::undef::undef::undef::undef::undef::undef::undef::undef::undef::undef::undef::undef::undef::undef::undef::undef::undef::undef::undef::undef::undef::undef::uu138
abbrev uu164:List Value:=undef::uu163
abbrev uu305:List Value:=undef::undef::undef::undef::undef::undef::undef::undef::undef::undef::undef::undef::undef::undef::undef::undef::undef::undef::undef::undef::undef::undef::undef::undef::undef::undef::undef::undef::undef::undef::undef::undef::undef::undef::undef::undef::undef::undef::undef::undef::undef::undef::undef::undef::undef::undef::undef::undef::undef::undef::undef::undef::undef::undef::undef::undef::undef::undef::undef::undef::undef::undef::undef::undef::undef::undef::undef::undef::undef::undef::undef::undef::undef::undef::undef::undef::undef::undef::undef::undef::undef::undef::undef::undef::undef::undef::undef::undef::undef::undef::undef::undef::undef::undef::undef::undef::undef::undef::undef::undef::undef::undef::undef::undef::undef::undef::undef::undef::undef::undef::undef::undef::undef::undef::undef::undef::undef::undef::undef::undef::undef::undef::undef::undef::undef::undef::undef::undef::undef::undef::undef::undef::undef::undef::undef::undef::undef::undef::undef::undef::undef::uu164
end Go.Lo
namespace Go.Lo
open Go.Conc (G)
class ResL (P:Program) (h:Hp) (l:List Value) (rs:List ResultVar) (vs:outParam (List Value)):Prop where
  eq: ∀B,Reads P B (rs.mapM (m:=Sem) fun| .tmp t=>pure (l.toArray.getD t undef)| .cell a t=>do loadVar t (←asAddr (l.toArray.getD a undef))) h vs
instance {P:Program} {h:Hp} {l:List Value}:ResL P h l [] []:=⟨fun _=>Reads.pure _⟩
theorem jf4 {l:List Value} {t:Nat} {v:Value} (s:l.getD t undef=v):l.toArray.getD t undef=v:=by
  rw [←s,Array.getD_eq_getD_getElem?,List.getElem?_toArray,←List.getD_eq_getElem?_getD]
instance {P:Program} {h:Hp} {l:List Value} {t:Nat} {v:Value} {rs:List ResultVar} {vs:List Value} [s:Slot l t v] [r:ResL P h l rs vs]:ResL P h l (.tmp t::rs) (v::vs):=⟨fun B=>by
  rw [List.mapM_cons];refine Reads.bind (a:=v) (by simp only [jf4 s.eq];exact Reads.pure _) ?_
  exact Reads.bind (r.eq B) (Reads.pure _)⟩
instance {P:Program} {h:Hp} {l:List Value} {a t b o n t':Nat} {rw:Bool} {f:Nat×Nat} {cs ws:List Value} {rs:List ResultVar} {vs:List Value} [s:Slot l a (.pointer (some ⟨b,o,none⟩))] [AggT P t n] [q:Has h b rw (.cells cs.toArray t' f)] [g:Seg cs o n ws] [r:ResL P h l rs vs]:
    ResL P h l (.cell a t::rs) (.agg ws.toArray::vs):=⟨fun B=>by
  rw [List.mapM_cons];refine Reads.bind (a:= .agg ws.toArray) ?_ ?_
  · simp only [jf4 s.eq]
    exact Reads.bind (a:=⟨b,o,none⟩) (Reads.pure _) (jgG g.eq.2 (rdN_of q.mem g.eq))
  · exact Reads.bind (r.eq B) (Reads.pure _)⟩
instance {P:Program} {h:Hp} {l:List Value} {a t b o t':Nat} {rw:Bool} {f:Nat×Nat} {cs:List Value} {v:Value} {rs:List ResultVar} {vs:List Value} [s:Slot l a (.pointer (some ⟨b,o,none⟩))] [Scal P t] [q:Has h b rw (.cells cs.toArray t' f)] [g:At cs o v] [r:ResL P h l rs vs]:
    ResL P h l (.cell a t::rs) (v::vs):=⟨fun B=>by
  rw [List.mapM_cons];refine Reads.bind (a:=v) ?_ ?_
  · simp only [jf4 s.eq]
    exact Reads.bind (a:=⟨b,o,none⟩) (Reads.pure _) (jgH (Rd.held q.mem (by simpa using g.eq)))
  · exact Reads.bind (r.eq B) (Reads.pure _)⟩
class ResV (vs:List Value) (v:outParam Value):Prop where
  eq:(if h:vs.toArray.size=1 then vs.toArray[0] else .tuple vs.toArray)=v
instance {v:Value}:ResV [v] v:=⟨rfl⟩
instance:ResV [] (.tuple [].toArray):=⟨rfl⟩
instance {v w:Value} {vs:List Value}:ResV (v::w::vs) (.tuple (v::w::vs).toArray):=⟨by simp⟩
theorem jh0 {P:Program} {B:Array Obj} {h:Hp} {l:List Value} {fn:Func} {rs:List ResultVar} {vs:List Value} {v:Value} (hr:fn.results=rs.toArray) [r:ResL P h l rs vs] [e:ResV vs v]:Reads P B (results fn l.toArray) h v:=by
  unfold results
  rw [hr,Array.mapM_eq_mapM_toList,map_eq_pure_bind];refine Reads.bind (Reads.bind (r.eq B) (Reads.pure _)) ?_
  rw [e.eq];exact Reads.pure _
section
variable {P:Program} {B:Array Obj} {m:Md P B} {ops:Array Oper} {l l':List Value} {S h h' H:Hp} {C:List Value→Hp→Prop} {i:Nat} {kd:Kd} {r:List (Nat×Kd)}
  {d:Option Tmp} {ty:TypeId} {pos:String} {af:Array Edge} {g:Option (Nat×Bool)}
theorem jab {b:Frame} {todo:List Item} {c:Frame} {cs:List Frame} {K:Goroutine→Hp→Prop} {fn:Func} {rs:List ResultVar} {vs:List Value} {v:Value} (h':Hp) (hk:b.kind= .normal) (hf:P.funcs[b.fn]?=some fn) (hr:fn.results=rs.toArray) [ResL P h l rs vs] [ResV vs v] (w:Weak B h h')
    (n:m.R K (G (c.finish v) cs) h'):m.R K (Gret b l [] todo (c::cs)) h:=jkB hk hf (jh0 hr) (m.weak w n)
theorem jaZ {args:List Operand} {ats:Array TypeId} {f:FuncId} {vs:List Value} {Post:Value→Hp→Prop} (ho:ops[i]?=some ⟨d,.call ⟨.value (.func f),args.toArray,ats⟩,ty,pos,af,g⟩) (hw:Wt ops l g)
    [ea:ArgsV l args vs] (hf:ja4 P f=true) (c:FnC m f vs.toArray h Post) (n: ∀v h',Post v h'→RegK m S ops r (put l d v) h' C):RegK m S ops ((i,.free)::r) l h C:=
  k_call (ex:=(⟨rfl⟩:OpV l (.func f) (.func (.func f) #[] #[]))) ho hw hf (by simpa using c) n
theorem k_calK {args:List Operand} {ats:Array TypeId} {f:FuncId} {vs:List Value} {Post:Value→Hp→Prop} (ho:ops[i]?=some ⟨d,.call ⟨.value (.func f),args.toArray,ats⟩,ty,pos,af,g⟩) (hw:Wt ops l g)
    [ea:ArgsV l args vs] (hf:ja4 P f=true) (c:FnC m f vs.toArray h Post) (n: ∀v h',Post v h'→S.Sublist h'∧RegK m S ops r (put l d v) h' C):RegK m S ops ((i,.keep)::r) l h C:=
  jmz (ex:=(⟨rfl⟩:OpV l (.func f) (.func (.func f) #[] #[]))) ho hw hf (by simpa using c) n
theorem jat {args:List Operand} {ats:Array TypeId} {f:FuncId} {vs:List Value} {Post:Value→Hp→Prop} (ho:ops[i]?=some ⟨d,.call ⟨.value (.func f),args.toArray,ats⟩,ty,pos,af,g⟩) (hw:Wt ops l g) [kb:KBase kd S h H]
    [ea:ArgsV l args vs] (hf:ja4 P f=true) (c: ∀H':Hp,H.Sublist H'→FnC m f vs.toArray H' fun v h'=> ∃new,h'=H'++new∧Post v new) (n: ∀v new,Post v new→RegK m S ops r (put l d v) (h++new) C):RegK m S ops ((i,kd)::r) l h C:=
  jhq (ex:=(⟨rfl⟩:OpV l (.func f) (.func (.func f) #[] #[]))) ho hw hf (by simpa using c) n
theorem jae {args:List Operand} {ats:Array TypeId} {f:FuncId} {vs:List Value} {Post:Value→Prop} (ho:ops[i]?=some ⟨d,.call ⟨.value (.func f),args.toArray,ats⟩,ty,pos,af,g⟩) (hw:Wt ops l g) [kb:KBase kd S h H]
    [ea:ArgsV l args vs] (hf:ja4 P f=true) (c: ∀H':Hp,H.Sublist H'→FnC m f vs.toArray H' fun v h'=>h'=H'∧Post v) (n: ∀v,Post v→RegK m S ops r (put l d v) h C):RegK m S ops ((i,kd)::r) l h C:=
  jat (Post:=fun v new=>new=[]∧Post v) ho hw hf (fun H' hs=>CallF.mono (c H' hs) fun v h' ⟨e,p⟩=>⟨[],by simp [e],rfl,p⟩) fun v new ⟨e,p⟩=>by subst e;simpa using n v p
end
theorem exU {l:List Value} {f:(Nat→Value)→List Value} (h:l=f fun i=>l.getD i undef): ∃U,l=f U:=⟨_,h⟩
def IsB (p:Prop) (v:Value):Prop:=(p∧v= .bool true)∨(¬p∧v= .bool false)
theorem IsB.iff {p q:Prop} {v:Value} (e:p↔q) (h:IsB p v):IsB q v:=h.imp (fun ⟨a,b⟩=>⟨e.1 a,b⟩) fun ⟨a,b⟩=>⟨fun x=>a (e.2 x),b⟩
theorem IsB.yes {p:Prop} (h:p):IsB p (.bool true):= .inl ⟨h,rfl⟩
theorem IsB.no {p:Prop} (h: ¬p):IsB p (.bool false):= .inr ⟨h,rfl⟩
end Go.Lo
namespace Go.Proofs
open Go.Lo
set_option maxRecDepth 100000
instance:Scal Tryz.prog 3:=⟨by kernel_rfl⟩
instance:ZeroT Tryz.prog 3 (.int .i64 0):=⟨by kernel_rfl⟩
instance:ElemT Tryz.prog 3 1 8:=⟨by kernel_rfl⟩
instance:IntT Tryz.prog 3 .i64:=⟨by kernel_rfl⟩
instance:Scal Tryz.prog 4:=⟨by kernel_rfl⟩
instance:ZeroT Tryz.prog 4 (.bool false):=⟨by kernel_rfl⟩
instance:IntT Tryz.prog 5 .u8:=⟨by kernel_rfl⟩
instance:Scal Tryz.prog 21:=⟨by kernel_rfl⟩
instance:IntT Tryz.prog 21 .i32:=⟨by kernel_rfl⟩
instance:Scal Tryz.prog 22:=⟨by kernel_rfl⟩
instance:SliceT Tryz.prog 22 32 3:=⟨by kernel_rfl⟩
instance:Scal Tryz.prog 23:=⟨by kernel_rfl⟩
instance:SliceT Tryz.prog 23 89 4:=⟨by kernel_rfl⟩
instance:Scal Tryz.prog 24:=⟨by kernel_rfl⟩
instance:SliceT Tryz.prog 24 50 3:=⟨by kernel_rfl⟩
instance:AggT Tryz.prog 26 4:=⟨by kernel_rfl⟩
instance:ZeroT Tryz.prog 26 (.agg [.int .i64 0,.slice none 0 0,.slice none 0 0,.slice none 0 0].toArray):=⟨by kernel_rfl⟩
instance:StructT Tryz.prog 26 [(0,1),(1,1),(2,1),(3,1)]:=⟨by kernel_rfl⟩
instance:FieldT Tryz.prog 26 0 0 3:=⟨by kernel_rfl⟩
instance:FieldT Tryz.prog 26 1 1 22:=⟨by kernel_rfl⟩
instance:FieldT Tryz.prog 26 2 2 23:=⟨by kernel_rfl⟩
instance:FieldT Tryz.prog 26 3 3 24:=⟨by kernel_rfl⟩
instance:SliceT Tryz.prog 27 60 1:=⟨by kernel_rfl⟩
instance:AggT Tryz.prog 30 2:=⟨by kernel_rfl⟩
instance:ZeroT Tryz.prog 30 (.agg [.int .i64 0,.int .i64 0].toArray):=⟨by kernel_rfl⟩
instance:ElemT Tryz.prog 30 2 16:=⟨by kernel_rfl⟩
instance:StructT Tryz.prog 30 [(0,1),(1,1)]:=⟨by kernel_rfl⟩
instance:FieldT Tryz.prog 30 0 0 3:=⟨by kernel_rfl⟩
instance:FieldT Tryz.prog 30 1 1 3:=⟨by kernel_rfl⟩
instance:AggT Tryz.prog 32 3:=⟨by kernel_rfl⟩
instance:ZeroT Tryz.prog 32 (.agg [.int .i64 0,.int .i64 0,.int .i64 0].toArray):=⟨by kernel_rfl⟩
instance:ElemT Tryz.prog 32 3 24:=⟨by kernel_rfl⟩
instance:StructT Tryz.prog 32 [(0,1),(1,2)]:=⟨by kernel_rfl⟩
instance:FieldT Tryz.prog 32 0 0 3:=⟨by kernel_rfl⟩
instance:FieldT Tryz.prog 32 1 1 30:=⟨by kernel_rfl⟩
instance:Scal Tryz.prog 34:=⟨by kernel_rfl⟩
instance:ZeroT Tryz.prog 34 (.slice none 0 0):=⟨by kernel_rfl⟩
instance:ElemT Tryz.prog 34 1 24:=⟨by kernel_rfl⟩
instance:SliceT Tryz.prog 34 3 1:=⟨by kernel_rfl⟩
instance:Scal Tryz.prog 40:=⟨by kernel_rfl⟩
instance:SliceT Tryz.prog 40 30 2:=⟨by kernel_rfl⟩
instance:Scal Tryz.prog 41:=⟨by kernel_rfl⟩
instance:SliceT Tryz.prog 41 178 4:=⟨by kernel_rfl⟩
instance:AggT Tryz.prog 43 5:=⟨by kernel_rfl⟩
instance:ZeroT Tryz.prog 43 (.agg [.int .i64 0,.int .i64 0,.int .i64 0,.slice none 0 0,.slice none 0 0].toArray):=⟨by kernel_rfl⟩
instance:StructT Tryz.prog 43 [(0,1),(1,1),(2,1),(3,1),(4,1)]:=⟨by kernel_rfl⟩
instance:FieldT Tryz.prog 43 0 0 3:=⟨by kernel_rfl⟩
instance:FieldT Tryz.prog 43 1 1 3:=⟨by kernel_rfl⟩
instance:FieldT Tryz.prog 43 2 2 3:=⟨by kernel_rfl⟩
instance:FieldT Tryz.prog 43 3 3 40:=⟨by kernel_rfl⟩
instance:FieldT Tryz.prog 43 4 4 41:=⟨by kernel_rfl⟩
instance:AggT Tryz.prog 50 3:=⟨by kernel_rfl⟩
instance:ZeroT Tryz.prog 50 (.agg [.int .i64 0,.int .i64 0,.bool false].toArray):=⟨by kernel_rfl⟩
instance:ElemT Tryz.prog 50 3 24:=⟨by kernel_rfl⟩
instance:StructT Tryz.prog 50 [(0,1),(1,1),(2,1)]:=⟨by kernel_rfl⟩
instance:FieldT Tryz.prog 50 0 0 3:=⟨by kernel_rfl⟩
instance:FieldT Tryz.prog 50 1 1 3:=⟨by kernel_rfl⟩
instance:FieldT Tryz.prog 50 2 2 4:=⟨by kernel_rfl⟩
instance:Scal Tryz.prog 52:=⟨by kernel_rfl⟩
instance:ZeroT Tryz.prog 52 (.slice none 0 0):=⟨by kernel_rfl⟩
instance:SliceT Tryz.prog 52 34 1:=⟨by kernel_rfl⟩
instance:Scal Tryz.prog 60:=⟨by kernel_rfl⟩
instance:IntT Tryz.prog 60 .u16:=⟨by kernel_rfl⟩
instance:AggT Tryz.prog 89 4:=⟨by kernel_rfl⟩
instance:ZeroT Tryz.prog 89 (.agg [.int .i64 0,.int .i64 0,.int .i64 0,.int .i64 0].toArray):=⟨by kernel_rfl⟩
instance:ElemT Tryz.prog 89 4 32:=⟨by kernel_rfl⟩
instance:StructT Tryz.prog 89 [(0,1),(1,1),(2,2)]:=⟨by kernel_rfl⟩
instance:FieldT Tryz.prog 89 0 0 3:=⟨by kernel_rfl⟩
instance:FieldT Tryz.prog 89 1 1 3:=⟨by kernel_rfl⟩
instance:FieldT Tryz.prog 89 2 2 30:=⟨by kernel_rfl⟩
instance:AggT Tryz.prog 96 4:=⟨by kernel_rfl⟩
instance:ZeroT Tryz.prog 96 (.agg [.int .i64 0,.slice none 0 0,.slice none 0 0,.slice none 0 0].toArray):=⟨by kernel_rfl⟩
instance:StructT Tryz.prog 96 [(0,4)]:=⟨by kernel_rfl⟩
instance:FieldT Tryz.prog 96 0 0 26:=⟨by kernel_rfl⟩
instance:AggT Tryz.prog 98 5:=⟨by kernel_rfl⟩
instance:ZeroT Tryz.prog 98 (.agg [.int .i64 0,.int .i64 0,.int .i64 0,.int .i64 0,.int .i64 0].toArray):=⟨by kernel_rfl⟩
instance:ElemT Tryz.prog 98 5 40:=⟨by kernel_rfl⟩
instance:ArrayT Tryz.prog 98 5 3 1:=⟨by kernel_rfl⟩
instance:Scal Tryz.prog 101:=⟨by kernel_rfl⟩
instance:ZeroT Tryz.prog 101 (.nilFunc):=⟨by kernel_rfl⟩
instance:AggT Tryz.prog 104 5:=⟨by kernel_rfl⟩
instance:ZeroT Tryz.prog 104 (.agg [.int .i64 0,.int .i64 0,.int .i64 0,.slice none 0 0,.slice none 0 0].toArray):=⟨by kernel_rfl⟩
instance:StructT Tryz.prog 104 [(0,5)]:=⟨by kernel_rfl⟩
instance:FieldT Tryz.prog 104 0 0 43:=⟨by kernel_rfl⟩
instance:AggT Tryz.prog 106 7:=⟨by kernel_rfl⟩
instance:ZeroT Tryz.prog 106 (.agg [.int .i64 0,.int .i64 0,.int .i64 0,.int .i64 0,.int .i64 0,.int .i64 0,.int .i64 0].toArray):=⟨by kernel_rfl⟩
instance:ElemT Tryz.prog 106 7 56:=⟨by kernel_rfl⟩
instance:ArrayT Tryz.prog 106 7 3 1:=⟨by kernel_rfl⟩
instance:Scal Tryz.prog 110:=⟨by kernel_rfl⟩
instance:Scal Tryz.prog 117:=⟨by kernel_rfl⟩
instance:ZeroT Tryz.prog 117 (.slice none 0 0):=⟨by kernel_rfl⟩
instance:SliceT Tryz.prog 117 106 7:=⟨by kernel_rfl⟩
instance:AggT Tryz.prog 120 6:=⟨by kernel_rfl⟩
instance:ZeroT Tryz.prog 120 (.agg [.int .i64 0,.int .i64 0,.int .i64 0,.slice none 0 0,.slice none 0 0,.slice none 0 0].toArray):=⟨by kernel_rfl⟩
instance:StructT Tryz.prog 120 [(0,5),(5,1)]:=⟨by kernel_rfl⟩
instance:FieldT Tryz.prog 120 1 5 117:=⟨by kernel_rfl⟩
instance:Scal Tryz.prog 124:=⟨by kernel_rfl⟩
instance:Scal Tryz.prog 132:=⟨by kernel_rfl⟩
instance:ZeroT Tryz.prog 132 (.map none):=⟨by kernel_rfl⟩
instance:Scal Tryz.prog 136:=⟨by kernel_rfl⟩
instance:ZeroT Tryz.prog 136 (.slice none 0 0):=⟨by kernel_rfl⟩
instance:SliceT Tryz.prog 136 98 5:=⟨by kernel_rfl⟩
instance:AggT Tryz.prog 139 5:=⟨by kernel_rfl⟩
instance:ZeroT Tryz.prog 139 (.agg [.int .i64 0,.slice none 0 0,.slice none 0 0,.slice none 0 0,.slice none 0 0].toArray):=⟨by kernel_rfl⟩
instance:StructT Tryz.prog 139 [(0,4),(4,1)]:=⟨by kernel_rfl⟩
instance:FieldT Tryz.prog 139 0 0 96:=⟨by kernel_rfl⟩
instance:FieldT Tryz.prog 139 1 4 136:=⟨by kernel_rfl⟩
instance:Scal Tryz.prog 142:=⟨by kernel_rfl⟩
instance:IntT Tryz.prog 152 .u32:=⟨by kernel_rfl⟩
instance:FieldT Tryz.prog 154 0 0 21:=⟨by kernel_rfl⟩
instance:FieldT Tryz.prog 154 1 1 152:=⟨by kernel_rfl⟩
instance:ZeroT Tryz.prog 156 (.agg [.int .i32 0,.int .u32 0].toArray):=⟨by kernel_rfl⟩
instance:FieldT Tryz.prog 156 1 0 154:=⟨by kernel_rfl⟩
instance:IntT Tryz.prog 159 .u64:=⟨by kernel_rfl⟩
instance:FieldT Tryz.prog 161 2 0 159:=⟨by kernel_rfl⟩
instance:ZeroT Tryz.prog 163 (.agg [.int .u64 0,.int .u32 0].toArray):=⟨by kernel_rfl⟩
instance:FieldT Tryz.prog 163 1 0 161:=⟨by kernel_rfl⟩
instance:FieldT Tryz.prog 163 2 1 152:=⟨by kernel_rfl⟩
instance:AggT Tryz.prog 178 4:=⟨by kernel_rfl⟩
instance:ZeroT Tryz.prog 178 (.agg [.int .i64 0,.int .i64 0,.int .i64 0,.int .i64 0].toArray):=⟨by kernel_rfl⟩
instance:FieldT Tryz.prog 178 0 0 3:=⟨by kernel_rfl⟩
instance:FieldT Tryz.prog 178 1 1 3:=⟨by kernel_rfl⟩
instance:FieldT Tryz.prog 178 2 2 30:=⟨by kernel_rfl⟩
instance:AggT Tryz.prog 182 3:=⟨by kernel_rfl⟩
instance:ArrayT Tryz.prog 182 3 142 1:=⟨by kernel_rfl⟩
instance:AggT Tryz.prog 186 3:=⟨by kernel_rfl⟩
instance:ArrayT Tryz.prog 186 3 124 1:=⟨by kernel_rfl⟩
instance:IntT Tryz.prog 190 .u64:=⟨by kernel_rfl⟩
instance:AggT Tryz.prog 193 2:=⟨by kernel_rfl⟩
instance:ZeroT Tryz.prog 193 (.agg [.int .i64 0,.int .i64 0].toArray):=⟨by kernel_rfl⟩
instance:StructT Tryz.prog 193 [(0,1),(1,1)]:=⟨by kernel_rfl⟩
instance:FieldT Tryz.prog 193 0 0 3:=⟨by kernel_rfl⟩
instance:FieldT Tryz.prog 193 1 1 3:=⟨by kernel_rfl⟩
instance:Scal Tryz.prog 229:=⟨by kernel_rfl⟩
instance:Scal Tryz.prog 230:=⟨by kernel_rfl⟩
instance:ZeroT Tryz.prog 230 (.nilFunc):=⟨by kernel_rfl⟩
instance:Scal Tryz.prog 244:=⟨by kernel_rfl⟩
instance:ZeroT Tryz.prog 244 (.int .u64 0):=⟨by kernel_rfl⟩
instance:IntT Tryz.prog 244 .u64:=⟨by kernel_rfl⟩
end Go.Proofs
namespace Go.Lo
open Go.Conc (G)
class Enc (α:Type) (k:outParam Nat) where
  enc:α→List Value
  len: ∀a,(enc a).length=k
  one: ∀a,∀u∈enc a,u.oneCell'=true
abbrev enc {α:Type} {k:Nat} [Enc α k]:α→List Value:=Enc.enc
def encs {α:Type} {k:Nat} [Enc α k]:List α→List Value
  |[]=>[]
  |a::r=>Enc.enc a++encs r
section
variable {α:Type} {k:Nat} [Enc α k]
theorem jel: ∀(xs:List α),(encs xs).length=xs.length*k
  |[]=>by simp [encs]
  |a::r=>by
    have:=jel r
    simp only [encs,List.length_append,Enc.len,this,List.length_cons,Nat.add_mul,Nat.one_mul]
    omega
theorem jaV: ∀(xs ys:List α),encs (xs++ys)=encs xs++encs ys
  |[],ys=>rfl
  |a::r,ys=>by simp [encs,jaV r ys]
theorem jcp: ∀(xs:List α),∀u∈encs xs,u.oneCell'=true
  |[],u,h=>by simp [encs] at h
  |a::r,u,h=>by
    rcases List.mem_append.1 h with h|h
    · exact Enc.one a u h
    · exact jcp r u h
theorem jmY [Inhabited α]: ∀(xs:List α) (i j:Nat),i<xs.length→j<k→(encs xs)[i*k+j]?=(Enc.enc (xs.getD i default))[j]?
  |[],i,j,h,_=>by simp at h
  |a::r,0,j,_,hj=>by
    simp only [encs,Nat.zero_mul,Nat.zero_add]
    rw [List.getElem?_append_left (by rw [Enc.len];exact hj)];rfl
  |a::r,i+1,j,h,hj=>by
    have:=jmY r i j (by simpa using h) hj
    simp only [encs]
    rw [List.getElem?_append_right (by rw [Enc.len,Nat.add_mul];omega),Enc.len];rw [show (i+1)*k+j-k=i*k+j by rw [Nat.add_mul];omega,this];rfl
theorem jfF [Inhabited α] (xs:List α) (i:Nat) (h:i<xs.length):xs.take (i+1)=xs.take i++[xs.getD i default]:=by
  rw [List.take_add_one,List.getElem?_eq_getElem h,List.getD_eq_getElem?_getD,List.getElem?_eq_getElem h];rfl
end
theorem take_snoc' (xs:List Int) (i:Nat) (h:i<xs.length):xs.take (i+1)=xs.take i++[xs.getD i 0]:=jfF xs i h
theorem jbg (xs ys:List Int):ints (xs++ys)=ints xs++ints ys:=List.map_append
theorem jdA (xs:List Int) (i:Nat):ints (xs.take i)=(ints xs).take i:=List.map_take
theorem jil (xs:List Int) (i:Nat):ints (xs.drop i)=(ints xs).drop i:=List.map_drop
section
variable {B:Array Obj} {h H:Hp}
theorem RdS.up {k:Nat} {v:Value} {n:Nat} {ys:List Value} (r:RdS B h k v n ys) [s:SubH h H]:RdS B H k v n ys:=r.keeps s.sub
theorem RdS.len {k n c:Nat} {p:Option Addr} {ys:List Value} (r:RdS B h k (.slice p n c) n ys):ys.length=n*k:=by
  obtain ⟨_,_,e,hl,_⟩:=r;exact hl
theorem RdS.ilen {n c:Nat} {p:Option Addr} {xs:List Int} (r:RdS B h 1 (.slice p n c) n (ints xs)):xs.length=n:=by
  have:=r.len;simpa using this
theorem RdS.elen {α:Type} {k:Nat} [Enc α k] {n c:Nat} {p:Option Addr} {xs:List α} (r:RdS B h k (.slice p n c) n (encs xs)) (hk:0<k):xs.length=n:=by
  have:=r.len
  rw [jel] at this
  exact Nat.eq_of_mul_eq_mul_right hk this
theorem RdS.rdN {k n c:Nat} {b o:Nat} {ys:List Value} (r:RdS B h k (.slice (some ⟨b,o,none⟩) n c) n ys):RdN B h b o ys:=by
  obtain ⟨p',c',e,hl,⟨rfl,e''⟩|⟨b',o',e',rd⟩⟩:=r
  · cases e
  · obtain ⟨rfl,_,rfl⟩:=Value.slice.inj e
    obtain ⟨rfl,rfl,_⟩:=Addr.mk.inj (Option.some.inj e')
    exact rd
theorem RdS.iat {n c b o:Nat} {xs:List Int} (rd:RdS B h 1 (.slice (some ⟨b,o,none⟩) n c) n (ints xs)) [s:SubH h H] {j:Int} (i:Nat) (hj:j=i) (hi:i<n):Rd B H ⟨b,o+j.toNat*1,none⟩ (.int .i64 (xs.getD i 0)):=by
  have hl:=rd.ilen
  have:=rd.rdN i (by simpa [hl] using hi)
  rw [hj,Int.toNat_natCast,Nat.mul_one];rw [List.getD_eq_getElem?_getD,List.getElem?_map,List.getElem?_eq_getElem (by omega)] at this
  rw [List.getD_eq_getElem?_getD,List.getElem?_eq_getElem (by omega)];exact this.keeps s.sub
theorem RdS.fat {α:Type} {k:Nat} [Enc α k] [Inhabited α] {n c b o:Nat} {xs:List α} (rd:RdS B h k (.slice (some ⟨b,o,none⟩) n c) n (encs xs)) [s:SubH h H] {j:Int} (i:Nat) (f:Nat) (hj:j=i) (hi:i<n) {v:Value} (hv:(Enc.enc (xs.getD i default))[f]?=some v):Rd B H ⟨b,o+j.toNat*k+f,none⟩ v:=by
  have hf:f<k:=by
    have:=(List.getElem?_eq_some_iff.1 hv).1
    rwa [Enc.len] at this
  have hl:=rd.elen (by omega)
  have hlt:i*k+f<(encs xs).length:=by
    rw [jel,hl];have:(i+1)*k≤n*k:=Nat.mul_le_mul_right k hi
    rw [Nat.add_mul] at this
    omega
  have:=rd.rdN (i*k+f) hlt
  rw [List.getD_eq_getElem?_getD,jmY xs i f (by omega) hf,hv] at this
  rw [hj,Int.toNat_natCast,Nat.add_assoc];exact this.keeps s.sub
theorem RdS.eat {α:Type} {k:Nat} [Enc α k] [Inhabited α] {n c b o:Nat} {xs:List α} (rd:RdS B h k (.slice (some ⟨b,o,none⟩) n c) n (encs xs)) [s:SubH h H] {j:Int} (i:Nat) (hj:j=i) (hi:i<n):RdN B H b (o+j.toNat*k) (Enc.enc (xs.getD i default)):=fun f hf=>by
  refine rd.fat i f hj hi ?_
  have: ∀(l:List Value),f<l.length→l[f]?=some (l.getD f undef):=fun l hl=>by
    rw [List.getD_eq_getElem?_getD,List.getElem?_eq_getElem hl];rfl
  exact this _ hf
end
end Go.Lo
namespace Go.Lo
open Go.Conc (G)
structure Sp where
  lo:Int
  hi:Int
  deriving DecidableEq,Inhabited
structure Ru where
  a:Int
  b:Int
  lo:Int
  hi:Int
  deriving DecidableEq,Inhabited
structure Bk where
  bend:Int
  twist:Int
  turns:Int
  marks:List Sp
  rules:List Ru
  deriving DecidableEq,Inhabited
abbrev spL (x:Sp):List Value:=[.int .i64 x.lo,.int .i64 x.hi]
abbrev ruL (x:Ru):List Value:=[.int .i64 x.a,.int .i64 x.b,.int .i64 x.lo,.int .i64 x.hi]
instance:Enc Sp 2 where
  enc:=spL
  len:=fun _=>rfl
  one:=fun _=>jcF rfl
instance:Enc Ru 4 where
  enc:=ruL
  len:=fun _=>rfl
  one:=fun _=>jcF rfl
abbrev spV (x:Sp):Value:= .agg (spL x).toArray
abbrev ruV (x:Ru):Value:= .agg (ruL x).toArray
abbrev bookL (x y z:Int) (mv rv:Value):List Value:=[.int .i64 x,.int .i64 y,.int .i64 z,mv,rv]
abbrev jiA (x y z:Int) (mv rv:Value):Value:= .agg (bookL x y z mv rv).toArray
abbrev bkL (b:Bk) (pm:Option Addr) (nm cm:Nat) (pr:Option Addr) (nr cr:Nat):List Value:=bookL b.bend b.twist b.turns (.slice pm nm cm) (.slice pr nr cr)
abbrev bkV (b:Bk) (pm:Option Addr) (nm cm:Nat) (pr:Option Addr) (nr cr:Nat):Value:= .agg (bkL b pm nm cm pr nr cr).toArray
theorem jao {α:Type} [Inhabited α] (xs:List α) (k:Nat) (h:k<xs.length):xs.drop k=xs.getD k default::xs.drop (k+1):=by
  rw [List.drop_eq_getElem_cons h,List.getD_eq_getElem?_getD,List.getElem?_eq_getElem h];rfl
theorem jai {α:Type} [Inhabited α] {xs:List α} {x:α}:x∈xs↔ ∃i,i<xs.length∧xs.getD i default=x:=by
  rw [List.mem_iff_getElem];constructor
  · rintro ⟨i,h,e⟩;exact ⟨i,h,by rw [List.getD_eq_getElem?_getD,List.getElem?_eq_getElem h];exact e⟩
  · rintro ⟨i,h,e⟩;exact ⟨i,h,by rw [List.getD_eq_getElem?_getD,List.getElem?_eq_getElem h] at e;exact e⟩
theorem jeR {α:Type} [Inhabited α] {xs:List α} {p:α→Prop} {k:Nat} (h: ∀i,i<k→p (xs.getD i default)) (hk:p (xs.getD k default)): ∀i,i<k+1→p (xs.getD i default):=fun i hi=>by
  rcases Nat.lt_or_ge i k with h1|h1
  · exact h i h1
  · obtain rfl:i=k:=by omega
    exact hk
section
variable {B:Array Obj} {h H:Hp}
theorem RdS.vat {n c b o:Nat} {ys:List Value} (rd:RdS B h 1 (.slice (some ⟨b,o,none⟩) n c) n ys) [s:SubH h H] {j:Int} (i:Nat) (hj:j=i) (hi:i<n):Rd B H ⟨b,o+j.toNat*1,none⟩ (ys.getD i undef):=by
  have hl:=rd.len
  have:=rd.rdN i (by omega)
  rw [hj,Int.toNat_natCast,Nat.mul_one];exact this.keeps s.sub
def CapV (u:Value):Prop:= ∀p n c,u= .slice p n c→n≤c
def RdE (B:Array Obj) (h:Hp) (vs:List Value) (ll:List (List Int)):Prop:=
  (vs.length=ll.length∧ ∀u∈vs,CapV u)∧ ∀i,i<ll.length→ ∃p c,vs.getD i undef= .slice p (ll.getD i []).length c∧RdS B h 1 (.slice p (ll.getD i []).length c) (ll.getD i []).length (ints (ll.getD i []))
theorem RdE.keeps {vs:List Value} {ll:List (List Int)} (r:RdE B h vs ll) (s:h.Sublist H):RdE B H vs ll:=
  ⟨r.1,fun i hi=>by obtain ⟨p,c,e,rd⟩:=r.2 i hi;exact ⟨p,c,e,rd.keeps s⟩⟩
theorem RdE.up {vs:List Value} {ll:List (List Int)} (r:RdE B h vs ll) [s:SubH h H]:RdE B H vs ll:=r.keeps s.sub
theorem RdE.nil:RdE B h [] []:=⟨⟨rfl,fun u hu=>by simp at hu⟩,fun i hi=>by simp at hi⟩
theorem RdE.snoc {vs:List Value} {ll:List (List Int)} {p:Option Addr} {c n:Nat} {xs:List Int} (r:RdE B h vs ll) (hn:n=xs.length) (rd:RdS B h 1 (.slice p n c) n (ints xs)) (hc:n≤c):RdE B h (vs++[.slice p n c]) (ll++[xs]):=by
  subst hn
  refine ⟨⟨by simp [r.1.1],fun u hu=>?_⟩,fun i hi=>?_⟩
  · rcases List.mem_append.1 hu with hu|hu
    · exact r.1.2 u hu
    · rw [List.mem_singleton.1 hu];intro p' n' c' e
      obtain ⟨_,rfl,rfl⟩:=Value.slice.inj e
      exact hc
  have hl:=r.1.1
  simp only [List.length_append,List.length_cons,List.length_nil] at hi
  rcases Nat.lt_or_ge i ll.length with h1|h1
  · obtain ⟨p',c',e,rd'⟩:=r.2 i h1
    refine ⟨p',c',?_,?_⟩<;>simp only [List.getD_eq_getElem?_getD] at e rd'⊢ <;>rw [List.getElem?_append_left h1]
    · rw [List.getElem?_append_left (by omega)];exact e
    · exact rd'
  · obtain rfl:i=ll.length:=by omega
    refine ⟨p,c,?_,?_⟩<;>simp only [List.getD_eq_getElem?_getD]<;>rw [List.getElem?_append_right (Nat.le_refl _),Nat.sub_self]
    · rw [←hl,List.getElem?_append_right (Nat.le_refl _),Nat.sub_self];rfl
    · exact rd
theorem RdE.cap {vs:List Value} {ll:List (List Int)} (r:RdE B h vs ll) {i:Nat} (hi:i<ll.length) {p:Option Addr} {n c:Nat} (e:vs.getD i undef= .slice p n c):n≤c:=by
  have hl:=r.1.1
  refine r.1.2 (vs.getD i undef) ?_ p n c e
  rw [List.getD_eq_getElem?_getD,List.getElem?_eq_getElem (by omega)];exact List.getElem_mem _
end
theorem OwnS.zero {t k q:Nat}:OwnS t k (.slice (some ⟨q,0,none⟩) 0 0) 0 [] [⟨true,q,.cells ([]:List Value).toArray t (0,0)⟩]:=
  .blk (cs:=[]) (junk:=[]) (by simp) (by simp) (Nat.le_refl _)
theorem Weak.mid {B:Array Obj} (A w C:Hp):Weak B ((A++w)++C) ((A++C)++w):=Weak.perm (by
  rw [List.append_assoc,List.append_assoc];exact List.Perm.append_left A List.perm_append_comm)
theorem jb0 (ll:List (List Int)) (i:Nat) (h:i<ll.length):ll.take (i+1)=ll.take i++[ll.getD i []]:=by
  rw [List.take_add_one,List.getElem?_eq_getElem h,List.getD_eq_getElem?_getD,List.getElem?_eq_getElem h];rfl
section
variable {P:Program} {B:Array Obj} {m:Md P B} {ops:Array Oper} {l l':List Value} {S h h' H:Hp} {C:List Value→Hp→Prop} {i:Nat} {kd:Kd} {r:List (Nat×Kd)}
  {d:Option Tmp} {ty:TypeId} {pos:String} {af:Array Edge} {g:Option (Nat×Bool)}
theorem jmB {t t2 t3 e k by' q c:Nat} {x y:Operand} {s:Value} {n mm:Nat} {rw:Bool} {f:Nat×Nat} {cs ys:List Value} {F new:Hp} (ho:ops[i]?=some ⟨d,.call ⟨.builtin .append,[x,y].toArray,#[t,t2]⟩,ty,pos,af,g⟩) (hg:Wt ops l g)
    [ex:OpV l x s] [ey:OpV l y (.slice (some ⟨q,0,none⟩) mm c)] [SliceT P t e k] [SliceT P t2 e k] [ElemT P e k by'] [hh:Has h q rw (.cells ys.toArray t3 f)] [on:Ones ys] (hy:ys.length=mm*k) (o:OwnS e k s n cs new) (w:Weak B h (F++new)) (hk:kd= .free∨(kd= .keep∧S.Sublist F)) (hb:2*(n+mm)*by'≤2^48) (hmax:n+mm≤2^62)
    (cc: ∀v' new',OwnS e k v' (n+mm) (cs++ys) new'→RegK m S ops r (put l d v') (F++new') C):RegK m S ops ((i,kd)::r) l h C:=
  jhr ho hg w o (jdj hy) on.one hk hb hmax cc
end
end Go.Lo
namespace Go.Lo
open Go.Conc (G)
def cutP (k:Nat) (p:Option Addr) (c lo:Nat):Option Addr:=if c=lo then p else p.map fun a=>a.add (lo*k)
def OkP (p:Option Addr):Prop:=p=none∨ ∃b o,p=some ⟨b,o,none⟩
section
variable {B:Array Obj} {h:Hp}
theorem jm0 {k c:Nat} {p:Option Addr} (hp:OkP p):cutP k p c 0=p:=by
  unfold cutP
  split
  · rfl
  · rcases hp with rfl|⟨b,o,rfl⟩
    · rfl
    · simp [Addr.add_none]
theorem RdS.pre {k n c:Nat} {p:Option Addr} {ys:List Value} (rd:RdS B h k (.slice p n c) n ys) {m:Nat} (hm:m≤n):RdS B h k (.slice p m c) m (ys.take (m*k)):=by
  obtain ⟨p',c',e,hl,hr⟩:=rd
  obtain ⟨rfl,_,rfl⟩:=Value.slice.inj e
  have hmk:m*k≤n*k:=Nat.mul_le_mul_right k hm
  refine ⟨_,_,rfl,by rw [List.length_take,hl];omega,?_⟩
  rcases hr with ⟨rfl,rfl⟩|⟨b,o,rfl,rd⟩
  · exact .inl ⟨rfl,by omega⟩
  · refine .inr ⟨b,o,rfl,fun j hj=>?_⟩
    rw [List.length_take] at hj
    have:=rd j (by omega)
    rw [List.getD_eq_getElem?_getD] at this⊢
    rw [List.getElem?_take,if_pos (by omega)];exact this
theorem OwnS.pre {t k n c:Nat} {p:Option Addr} {cs:List Value} {new:Hp} (o:OwnS t k (.slice p n c) n cs new) {m:Nat} (hm:m≤n):OwnS t k (.slice p m c) m (cs.take (m*k)) new:=by
  have hmk:m*k≤n*k:=Nat.mul_le_mul_right k hm
  cases o with
  |nil=>
    obtain rfl:m=0:=by omega
    simp only [List.take_nil]
    exact .nil
  |blk hl hc hn=>
    rename_i b junk
    have e:cs++junk=cs.take (m*k)++(cs.drop (m*k)++junk):=by rw [←List.append_assoc,List.take_append_drop]
    rw [e];exact .blk (by rw [List.length_take,hl];omega) (by rw [←List.length_append,←e,List.length_append];exact hc) (by omega)
theorem OwnS.cap {t k n c:Nat} {p:Option Addr} {cs:List Value} {new:Hp} (o:OwnS t k (.slice p n c) n cs new):n≤c:=by
  cases o with
  |nil=>exact Nat.le_refl _
  |blk hl hc hn=>exact hn
end
section
variable {P:Program} {B:Array Obj} {m:Md P B} {ops:Array Oper} {l l':List Value} {S h h' H:Hp} {C:List Value→Hp→Prop} {i:Nat} {kd:Kd} {r:List (Nat×Kd)}
  {d:Option Tmp} {ty:TypeId} {pos:String} {af:Array Edge} {g:Option (Nat×Bool)}
theorem jh3 {n c:Nat} {lo hi:Option Value} {a b:Nat} (hh:(hi=none∧b=n)∨ ∃ik,hi=some (.int ik (b:Int))∧b≤c) (hl:(lo=none∧a=0)∨ ∃ik,lo=some (.int ik (a:Int))∧a≤b):
    Reads P B (Instr.sliceBounds true n c lo hi none) h (a,b,c):=by
  unfold Instr.sliceBounds
  refine Reads.bind (Reads.pure c) ?_
  rcases hh with ⟨rfl,rfl⟩|⟨ik,rfl,hb⟩<;>rcases hl with ⟨rfl,rfl⟩|⟨ik',rfl,ha⟩
  · exact Reads.pure _
  · exact Reads.bind (Reads.pure b) (Reads.bind (jcE (i:=(a:Int)) (by omega) (by omega)) (Reads.pure _))
  · exact Reads.bind (jcE (i:=(b:Int)) (by omega) (by omega)) (Reads.pure _)
  · exact Reads.bind (jcE (i:=(b:Int)) (by omega) (by omega)) (Reads.bind (jcE (i:=(a:Int)) (by omega) (by omega)) (Reads.pure _))
theorem jh1 {t e k n c:Nat} {p:Option Addr} {lo hi:Option Value} {a b:Nat} [SliceT P t e k] (hh:(hi=none∧b=n)∨ ∃ik,hi=some (.int ik (b:Int))∧b≤c) (hl:(lo=none∧a=0)∨ ∃ik,lo=some (.int ik (a:Int))∧a≤b):
    Reads P B (Instr.sliceAt t (.slice p n c) lo hi none) h (.slice (cutP k p c a) (b-a) (c-a)):=by
  obtain ⟨hu,hs⟩:=jbj (P:=P) (B:=B) (h:=h) (t:=t)
  unfold Instr.sliceAt
  refine Reads.bind (jal hu).reads ?_
  unfold Instr.slice
  refine Reads.bind (jal hu).reads ?_
  refine Reads.bind (jh3 hh hl) ?_
  exact Reads.bind hs (Reads.pure _)
theorem k_slTo {t e k n c b:Nat} {x z:Operand} {p:Option Addr} {j:Int} {ik:IntKind} (ho:ops[i]?=some ⟨d,.slice t x none (some z) none,ty,pos,af,g⟩) (hw:Wt ops l g) [KHeap kd S h H] [ex:OpV l x (.slice p n c)] [ez:OpV l z (.int ik j)] [SliceT P t e k]
    (hp:OkP p) (hj:j=(b:Int)) (hb:b≤c) [PutV l d (.slice p b c) l'] (q:RegK m S ops r l' h C):RegK m S ops ((i,kd)::r) l h C:=
  RegK.rd (v:= .slice p b c) ho hw (by
    simp only [execOp,ex.eq,Option.map_some,ez.eq,Option.map_none,hj]
    have:=jh1 (P:=P) (B:=B) (h:=H) (t:=t) (n:=n) (c:=c) (p:=p) (lo:=none) (hi:=some (.int ik (b:Int))) (a:=0) (b:=b) (.inr ⟨ik,rfl,hb⟩) (.inl ⟨rfl,rfl⟩)
    rw [jm0 hp,Nat.sub_zero,Nat.sub_zero] at this
    exact Reads.value this) q
theorem jdS {t e k n c a:Nat} {x y:Operand} {p:Option Addr} {j:Int} {ik:IntKind} (ho:ops[i]?=some ⟨d,.slice t x (some y) none none,ty,pos,af,g⟩) (hw:Wt ops l g) [KHeap kd S h H] [ex:OpV l x (.slice p n c)] [ey:OpV l y (.int ik j)] [SliceT P t e k]
    (hj:j=(a:Int)) (ha:a≤n) [PutV l d (.slice (cutP k p c a) (n-a) (c-a)) l'] (q:RegK m S ops r l' h C):RegK m S ops ((i,kd)::r) l h C:=
  RegK.rd (v:= .slice (cutP k p c a) (n-a) (c-a)) ho hw (by
    simp only [execOp,ex.eq,Option.map_some,ey.eq,Option.map_none,hj]
    exact Reads.value (jh1 (.inl ⟨rfl,rfl⟩) (.inr ⟨ik,rfl,ha⟩))) q
end
end Go.Lo
namespace Go.Lo
open Go.Conc (G)
def padL (l:List Int):List Int:=(l++List.replicate 7 0).take 7
def hts (l:List Int):List Value:=ints (padL l)
abbrev htV (l:List Int):Value:= .agg (hts l).toArray
theorem jbc (l:List Int):(hts l).length=7:=by simp [hts,padL]
theorem jmF (l:List Int): ∀u∈hts l,u.oneCell'=true:=jdT _
theorem padL_get {l:List Int} {k:Nat} (hk:k<7):(padL l)[k]?=some (l.getD k 0):=by
  unfold padL
  rw [List.getElem?_take,if_pos hk,List.getD_eq_getElem?_getD];by_cases h:k<l.length
  · rw [List.getElem?_append_left h,List.getElem?_eq_getElem h];rfl
  · rw [List.getElem?_append_right (by omega),List.getElem?_replicate,if_pos (by omega),List.getElem?_eq_none (by omega)];rfl
theorem jjd {l:List Int} {k:Nat} (hk:k<7):(hts l)[k]?=some (.int .i64 (l.getD k 0)):=by
  simp [hts,padL_get hk]
instance:Enc (List Int) 7 where
  enc:=hts
  len:=jbc
  one:=jmF
instance {l:List Int}:Ones (hts l):=⟨jmF l⟩
instance {l:List Int}:LenIs (hts l) 7:=⟨jbc l⟩
instance {l:List Int}:Seg (hts l) 0 7 (hts l):=⟨by rw [List.drop_zero];exact List.take_of_length_le (by rw [jbc];exact Nat.le_refl _),jbc l⟩
instance {v1 v2 v3 v4 v5 v6 v7:Value} {m:List Int}:SetSeg [v1,v2,v3,v4,v5,v6,v7] 0 (hts m) (hts m):=⟨by simp [jbc],by simp [jbc]⟩
theorem hts_nil:hts []=[.int .i64 0,.int .i64 0,.int .i64 0,.int .i64 0,.int .i64 0,.int .i64 0,.int .i64 0]:=by simp [hts,padL,ints,List.replicate]
section
variable {B:Array Obj} {h H:Hp}
theorem rdS_hts {q n t:Nat} {rw:Bool} {f:Nat×Nat} {l:List Int} [x:Has h q rw (.cells (hts l).toArray t f)] (hl:l.length=n) (hn:n≤7) (c:Nat):RdS B h 1 (.slice (some ⟨q,0,none⟩) n c) n (ints l):=
  ⟨_,c,rfl,by simp [hl],.inr ⟨q,0,rfl,fun j hj=>by
    rw [Nat.zero_add];have hj':j<n:=by simpa [hl] using hj
    refine Rd.held x.mem ?_
    rw [List.getElem?_toArray,jjd (by omega)];simp only [List.getD_eq_getElem?_getD,List.getElem?_map]
    rw [List.getElem?_eq_getElem (by omega)];rfl⟩⟩
theorem jjG {q t:Nat} {rw:Bool} {f:Nat×Nat} {l:List Int} {j:Int} (k:Nat) [x:Has h q rw (.cells (hts l).toArray t f)] (hj:j=k) (hk:k<7):Rd B h ⟨q,0+j.toNat*1,none⟩ (.int .i64 (l.getD k 0)):=by
  subst hj
  rw [Int.toNat_natCast,Nat.mul_one,Nat.zero_add];refine Rd.held x.mem ?_
  rw [List.getElem?_toArray,jjd hk]
end
section
variable {P:Program} {B:Array Obj} {m:Md P B} {ops:Array Oper} {l l':List Value} {S h h' H:Hp} {C:List Value→Hp→Prop} {i:Nat} {kd:Kd} {r:List (Nat×Kd)}
  {d:Option Tmp} {ty:TypeId} {pos:String} {af:Array Edge} {g:Option (Nat×Bool)}
theorem jea {x:Operand} {args:List Operand} {ats:Array TypeId} {f:FuncId} {first cap:Array Value} {vs:List Value} {Post:Value→Prop} (ho:ops[i]?=some ⟨d,.call ⟨.value x,args.toArray,ats⟩,ty,pos,af,g⟩) (hw:Wt ops l g) [kb:KBase kd S h H]
    [ex:OpV l x (.func (.func f) first cap)] [ea:ArgsV l args vs] (hf:ja4 P f=true) (c: ∀H':Hp,H.Sublist H'→FnC m f (first++vs.toArray++cap) H' fun v h'=>h'=H'∧Post v)
    (n: ∀v,Post v→RegK m S ops r (put l d v) h C):RegK m S ops ((i,kd)::r) l h C:=
  jhq (Post:=fun v new=>new=[]∧Post v) ho hw hf (fun H' hs=>CallF.mono (c H' hs) fun v h' ⟨e,p⟩=>⟨[],by simp [e],rfl,p⟩) fun v new ⟨e,p⟩=>by subst e;simpa using n v p
theorem jhk {n:Nat} {hi:Option Value} {b:Nat} (hh:(hi=none∧b=n)∨ ∃ik,hi=some (.int ik (b:Int))∧b≤n):Reads P B (Instr.sliceBounds false n n none hi none) h (0,b,n):=by
  unfold Instr.sliceBounds
  refine Reads.bind (Reads.pure n) ?_
  rcases hh with ⟨rfl,rfl⟩|⟨ik,rfl,hb⟩
  · exact Reads.pure _
  · exact Reads.bind (jcE (i:=(b:Int)) (by omega) (by omega)) (Reads.pure _)
theorem jgK {t e k n b o c:Nat} {hi:Option Value} [ArrayT P t n e k] (hh:(hi=none∧c=n)∨ ∃ik,hi=some (.int ik (c:Int))∧c≤n):Reads P B (Instr.sliceAt t (.pointer (some ⟨b,o,none⟩)) none hi none) h (.slice (some ⟨b,o,none⟩) c n):=by
  obtain ⟨hu,hs⟩:=jdH (P:=P) (B:=B) (h:=h) (t:=t)
  unfold Instr.sliceAt
  refine Reads.bind (jal hu).reads ?_
  refine Reads.bind (a:=⟨b,o,none⟩) (Reads.pure _) ?_
  refine Reads.bind (jhk hh) ?_
  refine Reads.bind hs ?_
  simp only [Nat.zero_mul,Addr.add_none,Nat.add_zero,ite_self,Nat.sub_zero]
  exact Reads.pure _
theorem k_slA {t e k n b o c:Nat} {x z:Operand} {j:Int} {ik:IntKind} (ho:ops[i]?=some ⟨d,.slice t x none (some z) none,ty,pos,af,g⟩) (hw:Wt ops l g) [KHeap kd S h H] [ex:OpV l x (.pointer (some ⟨b,o,none⟩))] [ez:OpV l z (.int ik j)]
    [ArrayT P t n e k] (hj:j=(c:Int)) (hc:c≤n) [PutV l d (.slice (some ⟨b,o,none⟩) c n) l'] (q:RegK m S ops r l' h C):RegK m S ops ((i,kd)::r) l h C:=
  RegK.rd (v:= .slice (some ⟨b,o,none⟩) c n) ho hw (by
    simp only [execOp,ex.eq,Option.map_some,ez.eq,Option.map_none,hj]
    exact Reads.value (jgK (.inr ⟨ik,rfl,hc⟩))) q
theorem k_slAA {t e k n b o:Nat} {x:Operand} (ho:ops[i]?=some ⟨d,.slice t x none none none,ty,pos,af,g⟩) (hw:Wt ops l g) [KHeap kd S h H] [ex:OpV l x (.pointer (some ⟨b,o,none⟩))]
    [ArrayT P t n e k] [PutV l d (.slice (some ⟨b,o,none⟩) n n) l'] (q:RegK m S ops r l' h C):RegK m S ops ((i,kd)::r) l h C:=
  RegK.rd (v:= .slice (some ⟨b,o,none⟩) n n) ho hw (by
    simp only [execOp,ex.eq,Option.map_none]
    exact Reads.value (jgK (.inl ⟨rfl,rfl⟩))) q
theorem k_copy {t t2 e b nd cd ns t':Nat} {x y:Operand} {u:Value} {rw:Bool} {cs ys:List Value} (cs':List Value) (ho:ops[i]?=some ⟨d,.call ⟨.builtin .copy,[x,y].toArray,#[t,t2]⟩,ty,pos,af,g⟩) (hw:Wt ops l g) [KSub kd S h']
    [ex:OpV l x (.slice (some ⟨b,0,none⟩) nd cd)] [ey:OpV l y u] [SliceT P t e 1] [q:Has h b rw (.cells cs.toArray t' (0,0))] [up:Upd h b (.cells cs'.toArray t' (0,0)) h'] (rd:RdS B h 1 u ns ys) (h1: ∀u∈ys,u.oneCell'=true) (hn:nd≤cs.length) (hc:cs'=(ys.take nd)++cs.drop (min ns nd))
    (n:RegK m S ops r (put l d (.int .i64 (min ns nd:Nat))) h' C):RegK m S ops ((i,kd)::r) l h C:=by
  obtain ⟨o1,g1,g2,e1,e2⟩:=up.ex
  refine RegK.ke (KSub.kind (S:=S) (h:=h')) ho hw ?_
  obtain ⟨hu,hs⟩:=jbj (P:=P) (B:=B) (h:=h) (t:=t)
  rw [jbm (vs:=[.slice (some ⟨b,0,none⟩) nd cd,u]) (by simp [ex.eq,ey.eq])];have hl:=rd
  obtain ⟨p,c,rfl,hyl,hp⟩:=hl
  have hfirst:Reads P B (Builtin.firstCells 1 (min ns nd) (.slice p ns c)) h (ys.take (min ns nd)).toArray:=by
    have:=jch (P:=P) (rd.pre (m:=min ns nd) (by omega))
    rw [Nat.mul_one] at this
    have e:Builtin.firstCells 1 (min ns nd) (.slice p (min ns nd) c)=Builtin.firstCells 1 (min ns nd) (.slice p ns c):=by cases p<;>rfl
    rw [←e];exact this
  show Tri P B (Builtin.copy_ #[t,t2] ty #[.slice (some ⟨b,0,none⟩) nd cd,.slice p ns c]>>=fun v=>pure (Next.value v)) h _
  refine Tri.bind ?_
  unfold Builtin.copy_
  refine Tri.bind ((jal hu).reads.tri ?_)
  refine Tri.bind (Reads.tri (a:=ns) (Reads.pure _) ?_)
  refine Tri.bind (hs.tri ?_)
  refine Tri.bind (hfirst.tri ?_)
  simp only [List.toList_toArray]
  have hlen:(ys.take (min ns nd)).length=min ns nd:=by rw [List.length_take];omega
  refine jfC q.mem ⟨o1,g1,g2,e1,rfl⟩ ?_
  refine Tri.bind (jc3 (ys.take (min ns nd)) 0 _ (by simp;omega) (fun u hu=>h1 u (List.mem_of_mem_take hu)) fun c' hc'=>Tri.pure (Tri.pure ?_))
  have e3:c'=cs'.toArray:=by
    apply Array.ext'
    rw [hc',hc,hlen];simp only [Nat.add_zero,List.toList_toArray,List.take_zero,List.nil_append,Nat.zero_add]
    congr 1
    rcases Nat.le_total ns nd with h2|h2
    · rw [Nat.min_eq_left h2,List.take_of_length_le (by omega),List.take_of_length_le (by omega)]
    · rw [Nat.min_eq_right h2]
  rw [e3,←e2];exact ⟨KSub.sub,n⟩
theorem jgI {e:TypeId} {xs:List Int} {j:Nat} [Scal P e] (hj:j<xs.length):Reads P B (part e (ints xs).toArray (j*1)) h (.int .i64 (xs.getD j 0)):=by
  unfold part
  refine Reads.bind jfu ?_
  have:(ints xs).toArray[j*1]?=some (.int .i64 (xs.getD j 0)):=by
    rw [Nat.mul_one,List.getElem?_toArray,List.getElem?_map,List.getElem?_eq_getElem hj,List.getD_eq_getElem?_getD,List.getElem?_eq_getElem hj];rfl
  simp only [this]
  exact Reads.pure _
theorem jcr (dd:Nat) {e:TypeId} (he:P.underlying e=some (.int .i64)) (a b:Int):Reads P B (Op.equalIn (dd+1) e (.int .i64 a) (.int .i64 b)) h (a==b):=by
  unfold Op.equalIn
  refine Reads.bind (jal he).reads ?_
  simp only [if_true]
  exact Reads.pure _
theorem jjo: ∀(xs ys:List Int),xs.length=ys.length→((List.range' 0 xs.length 1).all fun j=>xs.getD j 0==ys.getD j 0)=decide (xs=ys):=by
  intro xs ys hl
  rw [Bool.eq_iff_iff,List.all_eq_true,decide_eq_true_iff];constructor
  · intro h
    apply List.ext_getElem hl
    intro j h1 h2
    have:=h j (by rw [List.mem_range'_1];omega)
    rw [List.getD_eq_getElem?_getD,List.getElem?_eq_getElem h1,List.getD_eq_getElem?_getD,List.getElem?_eq_getElem h2] at this
    simpa using this
  · rintro rfl j _;simp
theorem jlX (dd:Nat) {t n e:Nat} {xs ys:List Int} [ArrayT P t n e 1] [Scal P e] (he:P.underlying e=some (.int .i64)) (hx:xs.length=n) (hy:ys.length=n):Reads P B (Op.equalIn (dd+2) t (.agg (ints xs).toArray) (.agg (ints ys).toArray)) h (decide (xs=ys)):=by
  obtain ⟨hu,hs⟩:=jdH (P:=P) (B:=B) (h:=h) (t:=t)
  unfold Op.equalIn
  refine Reads.bind (jal hu).reads ?_
  refine Reads.bind hs ?_
  rw [←jjo xs ys (hx.trans hy.symm),hx];simp only [Std.Legacy.Range.forIn_eq_forIn_range',Std.Legacy.Range.size,Nat.sub_zero,Nat.add_sub_cancel,Nat.div_one]
  have hl: ∀j∈List.range' 0 n 1,j<n:=fun j hj=>by simpa using (List.mem_range'_1.1 hj).2
  generalize List.range' 0 n 1=L at hl⊢
  induction L with
  |nil=>exact Reads.bind (Reads.pure _) (Reads.pure _)
  |cons j L ih=>
    have hj:j<n:=hl j (by simp)
    have ih':=ih fun x hx=>hl x (by simp [hx])
    simp only [List.forIn_cons,bind_assoc,List.all_cons]
    refine Reads.bind (jgI (by omega)) ?_
    refine Reads.bind (jgI (by omega)) ?_
    refine Reads.bind (jcr dd he _ _) ?_
    cases hb:(xs.getD j 0==ys.getD j 0)
    · exact Reads.pure _
    · simpa using ih'
theorem k_eqA {t u n e:Nat} {x y:Operand} {xs ys:List Int} (ho:ops[i]?=some ⟨d,.binOp .eql t x y u,ty,pos,af,g⟩) (hw:Wt ops l g) [KHeap kd S h H] [ex:OpV l x (.agg (ints xs).toArray)] [ey:OpV l y (.agg (ints ys).toArray)] [ArrayT P t n e 1] [Scal P e]
    (he:P.underlying e=some (.int .i64)) (hg:P.eqGuardType P.depth t=false) (hx:xs.length=n) (hy:ys.length=n) [PutV l d (.bool (decide (xs=ys))) l'] (q:RegK m S ops r l' h C):RegK m S ops ((i,kd)::r) l h C:=
  RegK.rd (v:= .bool (decide (xs=ys))) ho hw (by
    simp only [execOp,ex.eq,ey.eq]
    refine Reads.value (Reads.bind (a:=()) ?_ ?_)
    · unfold eqGuard
      refine Reads.bind Reads.program' (Reads.bind Reads.program' ?_)
      rw [if_pos (by simp [hg])];exact Reads.pure _
    · show Reads P B (Op.equal t (.agg (ints xs).toArray) (.agg (ints ys).toArray)>>=fun b=>pure (Value.bool b)) H _
      exact Reads.bind (jlX 9998 he hx hy) (Reads.pure _)) q
end
end Go.Lo
namespace Go.Lo
open Go.Conc (G)
section
variable {P:Program} {B:Array Obj} {m:Md P B} {ops:Array Oper} {l l':List Value} {S h h' H:Hp} {C:List Value→Hp→Prop} {i:Nat} {kd:Kd} {r:List (Nat×Kd)}
  {d:Option Tmp} {ty:TypeId} {pos:String} {af:Array Edge} {g:Option (Nat×Bool)}
theorem jjX {t n e k:Nat} {zs:List Value} (ho:ops[i]?=some ⟨d,.build t #[],ty,pos,af,g⟩) (hw:Wt ops l g) [KHeap kd S h H] [ArrayT P t n e k] [ZeroT P t (.agg zs.toArray)] [PutV l d (.agg zs.toArray) l'] (q:RegK m S ops r l' h C):RegK m S ops ((i,kd)::r) l h C:=
  RegK.rd (v:= .agg zs.toArray) ho hw (by
    obtain ⟨hu,hs⟩:=jdH (P:=P) (B:=B) (h:=H) (t:=t)
    simp only [execOp,Array.map_empty]
    refine Reads.value ?_
    unfold Instr.build
    refine Reads.bind (reads_zero (v:= .agg zs.toArray)) ?_
    refine Reads.bind (jal hu).reads ?_
    refine Reads.bind hs ?_
    exact Reads.pure _) q
end
end Go.Lo
namespace Go.Lo
open Go.Conc (G)
def Obj.plain:Obj→Bool
  | .cells .. =>false
  | .chan .. =>false
  |_=>true
section
variable {P:Program} {B:Array Obj} {h:Hp}
theorem jbF {rw:Bool} {b:Nat} {o:Obj} (hm:(⟨rw,b,o⟩:Chunk)∈h) (ho:Obj.plain o=true):Reads P B (getObj b) h o:=fun w s=>by
  have hb:=(s.mem _ hm).2
  simp only at hb
  have e1:o.isChan=false:=by cases o<;>first|rfl|cases ho
  refine ⟨?_,?_⟩
  · cases o<;>first|(cases ho;done)|simp [getObj,Sem.run,hb]
  · have:(getObj b).events P w #[]= #[⟨.obj b,false,false⟩]:=by
      unfold Sem.events getObj
      simp only [Sem.runT,hb]
      cases o<;>first|(cases ho;done)|rfl
    rw [this];intro e he
    simp at he
    subst he
    exact .inr ⟨rfl,.inr (.inl ⟨_,hm,rfl,fun x=>by cases x⟩)⟩
theorem jbK {h1 h2:Hp} {b:Nat} {o o':Obj} {Q:Unit→Hp→Prop} (ho:Obj.plain o=true) (ho':Obj.plain o'=true) (q:Q () (h1++⟨true,b,o'⟩::h2)):Tri P B (setObj b o') (h1++⟨true,b,o⟩::h2) Q:=fun w s=>by
  have hb:=(s.mem ⟨true,b,o⟩ (by simp)).2
  simp only at hb
  have e1:o'.isChan=false:=by cases o'<;>first|rfl|cases ho'
  refine ⟨(),{w with heap:=w.heap.setIfInBounds b o'},_,?_,?_,q⟩
  · cases o<;>first|(cases ho;done)|simp [setObj,Sem.run,hb]
  · refine Stp.turn s ?_
    have:(setObj b o').events P w #[]= #[⟨.obj b,true,false⟩]:=by
      unfold Sem.events setObj
      simp only [Sem.runT,hb,e1]
      cases o<;>first|(cases ho;done)|rfl
    rw [this];intro e he
    simp at he
    subst he
    exact .inr ⟨rfl,.inr (.inl ⟨⟨true,b,o⟩,by simp,rfl,fun _=>rfl⟩)⟩
end
def lrec (fn:FuncId) (l:List Value) (ps:Array Tmp) (a c:Code) (q1:Nat) (st:LoopState):Obj:= .loop {state:=st,pending:=none,fn,tmps:=l.toArray,params:=ps,assign:=a,body:=c,defers:=q1}
def bR (f:FuncId) (q:Nat):Frame:={bF f with roundOf:=some q}
def CallV {P:Program} {B:Array Obj} (m:Md P B) (v:Value) (args:List Value) (h:Hp) (Post:Value→Hp→Prop):Prop:=
  ∃fn first cap nx fr,v= .func fn first cap∧callee P nx=some fr∧Reads P B (invoke (.fn fn cap) (first++args.toArray)) h nx∧CallF m fr h Post
theorem CallV.fn {P:Program} {B:Array Obj} {m:Md P B} {f:FuncId} {first cap:Array Value} {args:List Value} {h:Hp} {Post:Value→Hp→Prop} (hf:ja4 P f=true) (c:FnC m f (first++args.toArray++cap) h Post):CallV m (.func (.func f) first cap) args h Post:=
  ⟨.func f,first,cap,.enter f (first++args.toArray++cap),_,rfl,rfl,by simp only [invoke];exact jej hf _,c⟩
section
variable {P:Program} {B:Array Obj} {m:Md P B} {K:Goroutine→Hp→Prop} {b:Frame} {l:List Value} {ds:List Deferred} {k:List Item} {cs:List Frame} {h:Hp}
theorem CallV.yield {q q1:Nat} {fn:FuncId} {ps:Array Tmp} {a c:Code} {st:LoopState} {args:List Value} {rw:Bool} {Post:Value→Hp→Prop} (hm:(⟨rw,q,lrec fn l ps a c q1 st⟩:Chunk)∈h) (hl:args.length=ps.size) {l':List Value}
    (hp:(ps.zip args.toArray).foldl (fun tmps (t,a)=>tmps.setIfInBounds t a) l.toArray=l'.toArray) (t:CallF m (Fr (bR fn q) l' [] [.code a,.beginRound,.code c]) h Post):CallV m (.func (.yield q) #[] #[]) args h Post:=by
  refine ⟨.yield q,#[],#[],.round q fn l'.toArray a c,Frame.round q fn l'.toArray a c .normal,rfl,rfl,?_,t⟩
  simp only [invoke,Instr.yield,Instr.getLoop,Array.empty_append]
  refine Reads.bind (a:={state:=st,pending:=none,fn,tmps:=l.toArray,params:=ps,assign:=a,body:=c,defers:=q1}) (Reads.bind (jbF hm rfl) (Reads.pure _)) ?_
  rw [if_neg (by simp [hl])];simp only [hp]
  exact Reads.pure _
theorem jex {α:Type} {s:Sem α} {a:α} {w w':World} (r:s.run P w= .ok a w'):s.runT P w #[]=(.ok a w',s.events P w #[]):=by
  have h1:(s.runT P w #[]).1=s.run P w:=by simp
  have h2:s.events P w #[]=(s.runT P w #[]).2:=rfl
  rw [←r,←h1,h2]
theorem jeX {f:Operand} {fid:FuncId} {first cap:Array Value} {ps:Array Tmp} {a c:Code} [ef:OpV l f (.func (.func fid) first cap)] (hr:b.roundOf=none) (hk:b.kind= .normal) (hcall:ja4 P fid=true)
    (t: ∀q1 q2,FnC m fid (first++ #[.func (.yield q2) #[] #[]]++cap) (h++[⟨true,q1,.deferred (some [])⟩,⟨true,q2,lrec b.fn l ps a c q1 .ready⟩])
      fun v h'=>m.R K (Gr b l (⟨.collected q1,#[]⟩::ds) (.endRangeFunc q2::k) cs) h'):
    m.R K (Gr b l ds (.code (.rangeFunc f ps a c)::k) cs) h:=by
  refine m.step (K':=fun g' h'=>m.R K g' h') ⟨rfl,fun w sw=>?_⟩ fun g' h' x=>x
  have s1:=sw.new (.deferred (some []))
  have s2:=s1.new (lrec b.fn l ps a c w.heap.size .ready)
  have st:Stp B h ((h++[⟨true,w.heap.size,.deferred (some [])⟩])++[⟨true,(w.heap.push (.deferred (some []))).size,lrec b.fn l ps a c w.heap.size .ready⟩]) w
      { w with heap:=(w.heap.push (.deferred (some []))).push (lrec b.fn l ps a c w.heap.size .ready)} #[]:=
    { sat:=s2,size:=by simp;omega,os:=rfl,out:=rfl,tape:=rfl,drawn:=Nat.le_refl _,
      old:=fun x hx _=>by
        show ((w.heap.push _).push _)[x]?=_
        rw [Array.getElem?_push_lt (by simp;omega),Array.getElem_push_lt hx,Array.getElem?_eq_getElem hx]
      key:=fun x hx=>by
        simp only [List.mem_append,List.mem_singleton] at hx
        rcases hx with (hx|rfl)|rfl
        · exact .inr ⟨x,hx,rfl,fun y=>y⟩
        · exact .inl (Nat.le_refl _)
        · exact .inl (by simp)
      evs:=by simp}
  have hsz:(w.heap.push (.deferred (some []))).size=w.heap.size+1:=by simp
  rw [hsz] at st
  have he:=Fr.eval b l (⟨.collected w.heap.size,#[]⟩::ds) (.inRangeFunc (w.heap.size+1)::k)
  have hc: ∀w',(callFunc fid (first++ #[.func (.yield (w.heap.size+1)) #[] #[]]++cap)).run P w'= .ok (.enter fid (first++ #[.func (.yield (w.heap.size+1)) #[] #[]]++cap)) w'∧(callFunc fid (first++ #[.func (.yield (w.heap.size+1)) #[] #[]]++cap)).events P w' #[]= #[]:=by
    intro w'
    unfold ja4 at hcall
    split at hcall
    · rename_i fn e
      simp only [Bool.and_eq_true,Bool.not_eq_true'] at hcall
      have hn:fn.name≠ "runtime.NumGoroutine" :=by simpa using hcall.1
      have hb:fn.body≠none:=fun hx=>by rw [hx] at hcall;simp at hcall
      unfold callFunc
      constructor
      · simp [e,hn,hb]
      · simp [e,hn,hb]
    · cases hcall
  refine ⟨G (Frame.enter P fid (first++ #[.func (.yield (w.heap.size+1)) #[] #[]]++cap) .normal) (Fr b l (⟨.collected w.heap.size,#[]⟩::ds) (.inRangeFunc (w.heap.size+1)::k)::cs),
    { w with heap:=(w.heap.push (.deferred (some []))).push (lrec b.fn l ps a c w.heap.size .ready)},#[],_,?_,st,?_⟩
  · have hent:(Instr.enterLoop b.fn l.toArray ps a c none).runT P w #[]=(.ok (w.heap.size+1,[⟨.collected w.heap.size,#[]⟩]) {w with heap:=(w.heap.push (.deferred (some []))).push (lrec b.fn l ps a c w.heap.size .ready)},#[]):=by
      unfold Instr.enterLoop
      simp only [newObj,bind,Sem.bind,pure,lrec,Sem.runT,hsz]
    have hsem: ∀fr:Frame,fr.eval=ev l→(do let d←resolve fr.eval {callee:= .value f,args:= #[.const (.func (.yield (w.heap.size+1)) #[] #[])],argTypes:= #[]} 0;invoke d.target d.args)=callFunc fid (first++ #[.func (.yield (w.heap.size+1)) #[] #[]]++cap):=by
      intro fr hfr
      rw [hfr];have e:Array.map (ev l) #[Operand.const (.func (.yield (w.heap.size+1)) #[] #[])]= #[.func (.yield (w.heap.size+1)) #[] #[]]:=by simp [ev]
      simp only [resolve,ef.eq,Deferred.ofValue,e]
      rfl
    have h1:stepG P m.main (Gr b l ds (.code (.rangeFunc f ps a c)::k) cs) w=GStep.after (seen P b.fn #[]) (stepG.apply P true (Fr b l (⟨.collected w.heap.size,#[]⟩::ds) (.inRangeFunc (w.heap.size+1)::k)) cs none (callFunc fid (first++ #[.func (.yield (w.heap.size+1)) #[] #[]]++cap)) {w with heap:=(w.heap.push (.deferred (some []))).push (lrec b.fn l ps a c w.heap.size .ready)}):=by
      rw [←hsem _ he];simp only [Gr,Fr,G,stepG,stepG.exec,hr,hent]
      rfl
    rw [h1];obtain ⟨c1,c2⟩:=hc {w with heap:=(w.heap.push (.deferred (some []))).push (lrec b.fn l ps a c w.heap.size .ready)}
    have hseen: ∀fn,seen P fn #[]= #[]:=fun fn=>by
      apply Array.eq_empty_of_size_eq_zero
      cases hs:(seen P fn #[]).size with
      |zero=>rfl
      |succ x=>
        have hm:(seen P fn #[])[0]'(by omega)∈seen P fn #[]:=Array.getElem_mem _
        have:=jbT P fn #[] _ hm
        simp at this
    have hfn:(Fr b l (⟨.collected w.heap.size,#[]⟩::ds) (.inRangeFunc (w.heap.size+1)::k)).fn=b.fn:=rfl
    have e2:=jex c1
    rw [c2] at e2
    simp only [stepG.apply,e2,if_true,hfn,hseen,ite_self,GStep.after]
    rfl
  · rw [List.append_assoc];refine t w.heap.size (w.heap.size+1) _ _ K fun v h' hv=>?_
    have:(Fr b l (⟨.collected w.heap.size,#[]⟩::ds) (.inRangeFunc (w.heap.size+1)::k)).finish v=Fr b l (⟨.collected w.heap.size,#[]⟩::ds) (.endRangeFunc (w.heap.size+1)::k):=rfl
    rw [this];exact hv
theorem jdu {q q1:Nat} {fn:FuncId} {l0:List Value} {ps:Array Tmp} {a c:Code} {st:LoopState} {F E:Hp} (hh:h=F++⟨true,q,lrec fn l0 ps a c q1 st⟩::E) (hst:st= .ready∨st= .done) (n:m.R K (Gr b l ds k cs) (F++E)):
    m.R K (Gr b l ds (.endRangeFunc q::k) cs) h:=by
  subst hh
  have key:Tri P B (Instr.endLoop q) (F++⟨true,q,lrec fn l0 ps a c q1 st⟩::E) fun j h'=>j=none∧m.R K (Gr b l ds k cs) h':=by
    unfold Instr.endLoop
    refine Tri.bind (Reads.tri (a:={state:=st,pending:=none,fn,tmps:=l0.toArray,params:=ps,assign:=a,body:=c,defers:=q1}) (Reads.bind (jbF (rw:=true) (o:=lrec fn l0 ps a c q1 st) (by simp) rfl) (Reads.pure _)) ?_)
    have hb:(st==LoopState.busy)=false:=by rcases hst with rfl|rfl<;>rfl
    simp only [hb,Bool.false_eq_true,if_false]
    refine Tri.bind (jbK rfl rfl (Tri.pure ⟨rfl,m.weak (Weak.sub ?_) n⟩))
    exact List.Sublist.append_left (List.sublist_cons_self _ _) _
  refine m.step (K':=fun g' h'=>m.R K g' h') ⟨rfl,fun w sw=>?_⟩ fun g' h' x=>x
  obtain ⟨j,w',h',hr,st',rfl,n'⟩:=key w sw
  refine ⟨_,w',seen P b.fn ((Instr.endLoop q).events P w #[]),h',?_,st'.events fun e he=>jbT _ _ _ e he,n'⟩
  simp [Gr,Fr,G,stepG,stepG.exec,hr,GStep.after]
theorem jcz {q1:Nat} {todo:List Item} {F E:Hp} (hh:h=F++⟨true,q1,.deferred (some [])⟩::E) (n:m.R K (Gret b l ds todo cs) (F++E)):m.R K (Gret b l (⟨.collected q1,#[]⟩::ds) todo cs) h:=by
  subst hh
  have key:Tri P B (Instr.takeDeferred q1) (F++⟨true,q1,.deferred (some [])⟩::E) fun j h'=>j=[]∧m.R K (Gret b l ds todo cs) h':=by
    unfold Instr.takeDeferred
    refine Tri.bind (Reads.tri (jbF (rw:=true) (o:= .deferred (some [])) (by simp) rfl) ?_)
    refine Tri.bind (jbK rfl rfl (Tri.pure ⟨rfl,m.weak (Weak.sub ?_) n⟩))
    exact List.Sublist.append_left (List.sublist_cons_self _ _) _
  refine m.step (K':=fun g' h'=>m.R K g' h') ⟨rfl,fun w sw=>?_⟩ fun g' h' x=>x
  obtain ⟨j,w',h',hr,st',rfl,n'⟩:=key w sw
  refine ⟨_,w',seen P b.fn ((Instr.takeDeferred q1).events P w #[]),h',?_,st'.events fun e he=>jbT _ _ _ e he,n'⟩
  simp [Gret,Fr,G,stepG,unwind,hr,GStep.after]
theorem jcY {f:FuncId} {q q1:Nat} {fn:FuncId} {l0:List Value} {ps:Array Tmp} {a c:Code} {F E:Hp} (hh:h=F++⟨true,q,lrec fn l0 ps a c q1 .ready⟩::E) (n:m.R K (Gr (bR f q) l ds k cs) (F++⟨true,q,lrec fn l0 ps a c q1 .busy⟩::E)):
    m.R K (Gr (bR f q) l ds (.beginRound::k) cs) h:=by
  subst hh
  have key:Tri P B (do Instr.beginRound q;pure Next.skip) (F++⟨true,q,lrec fn l0 ps a c q1 .ready⟩::E) fun j h'=>j=Next.skip∧m.R K (Gr (bR f q) l ds k cs) h':=by
    unfold Instr.beginRound
    refine Tri.bind ?_
    refine Tri.bind (Reads.tri (a:={state:= .ready,pending:=none,fn,tmps:=l0.toArray,params:=ps,assign:=a,body:=c,defers:=q1}) (Reads.bind (jbF (rw:=true) (o:=lrec fn l0 ps a c q1 .ready) (by simp) rfl) (Reads.pure _)) ?_)
    exact Tri.bind (jbK (o':=lrec fn l0 ps a c q1 .busy) rfl rfl (Tri.pure (Tri.pure ⟨rfl,n⟩)))
  refine m.step (K':=fun g' h'=>m.R K g' h') ⟨rfl,fun w sw=>?_⟩ fun g' h' x=>x
  obtain ⟨j,w',h',hr,st',rfl,n'⟩:=key w sw
  refine ⟨_,w',seen P f ((do Instr.beginRound q;pure Next.skip:Sem Next).events P w #[]),h',?_,st'.events fun e he=>jbT _ _ _ e he,n'⟩
  have hfin:(Fr (bR f q) l ds (.beginRound::k)).finish undef=Fr (bR f q) l ds k:=rfl
  have hst:stepG P m.main (Gr (bR f q) l ds (.beginRound::k) cs) w=stepG.apply P true (Fr (bR f q) l ds (.beginRound::k)) cs none (do Instr.beginRound q;pure Next.skip) w:=by
    simp [Gr,Fr,G,stepG,stepG.exec,bR]
  rw [hst];have e2:=jex hr
  have hkd:(Fr (bR f q) l ds (.beginRound::k)).kind= .normal:=rfl
  have hfn:(Fr (bR f q) l ds (.beginRound::k)).fn=f:=rfl
  simp only [stepG.apply,e2,if_true,hkd,hfn,hfin]
  rfl
theorem jcR {f:FuncId} {q q1:Nat} {fn:FuncId} {l0:List Value} {ps:Array Tmp} {a c:Code} {fr:Frame} {F E:Hp} (hh:h=F++⟨true,q,lrec fn l0 ps a c q1 .busy⟩::E) (n:m.R K (G (fr.finish (.bool true)) cs) (F++⟨true,q,lrec fn l0 ps a c q1 .ready⟩::E)):
    m.R K (Gr (bR f q) l ds [] (fr::cs)) h:=by
  subst hh
  have key:Tri P B (Instr.endRound q none) (F++⟨true,q,lrec fn l0 ps a c q1 .busy⟩::E) fun j h'=>j= .bool true∧m.R K (G (fr.finish (.bool true)) cs) h':=by
    unfold Instr.endRound
    refine Tri.bind (Reads.tri (a:={state:= .busy,pending:=none,fn,tmps:=l0.toArray,params:=ps,assign:=a,body:=c,defers:=q1}) (Reads.bind (jbF (rw:=true) (o:=lrec fn l0 ps a c q1 .busy) (by simp) rfl) (Reads.pure _)) ?_)
    exact Tri.bind (jbK (o':=lrec fn l0 ps a c q1 .ready) rfl rfl (Tri.pure ⟨rfl,n⟩))
  refine m.step (K':=fun g' h'=>m.R K g' h') ⟨rfl,fun w sw=>?_⟩ fun g' h' x=>x
  obtain ⟨j,w',h',hr,st',rfl,n'⟩:=key w sw
  refine ⟨_,w',seen P f ((Instr.endRound q none).events P w #[]),h',?_,st'.events fun e he=>jbT _ _ _ e he,n'⟩
  simp [Gr,Fr,G,stepG,stepG.exec,bR,bF,hr,GStep.after,doReturn]
end
section
variable {P:Program} {B:Array Obj} {m:Md P B} {ops:Array Oper} {l l':List Value} {S h h' H:Hp} {C:List Value→Hp→Prop} {i:Nat} {r:List (Nat×Kd)}
  {d:Option Tmp} {ty:TypeId} {pos:String} {af:Array Edge} {g:Option (Nat×Bool)}
theorem jih {K:Goroutine→Hp→Prop} {b:Frame} {ds:List Deferred} {k:List Item} {cs:List Frame} {r:List (Nat×Kd)} (w:Weak B h h') (n:RegK m S ops r l h' fun l' h'=>m.R K (Gr b l' ds k cs) h'):RegK m S ops r l h fun l' h'=>m.R K (Gr b l' ds k cs) h':=
  WeakC.reg WeakR r l h h' w n
theorem jdy {x:Operand} {args:List Operand} {ats:Array TypeId} {v:Value} {vs:List Value} {Post:Value→Hp→Prop} (ho:ops[i]?=some ⟨d,.call ⟨.value x,args.toArray,ats⟩,ty,pos,af,g⟩) (hw:Wt ops l g)
    [ex:OpV l x v] [ea:ArgsV l args vs] (c:CallV m v vs h Post) (n: ∀v h',Post v h'→RegK m S ops r (put l d v) h' C):RegK m S ops ((i,.free)::r) l h C:=by
  obtain ⟨fn,first,cap,nx,fr,rfl,hc,hr,c⟩:=c
  refine RegK.fr ho hw ?_
  have e:(Array.map (ev l) args.toArray)=vs.toArray:=by rw [List.map_toArray,ea.eq]
  refine Reads.tri (a:=nx) ?_ (jfB hc (c.mono fun v h' p=>n v h' p))
  simp only [execOp,resolve,e,ex.eq,Deferred.ofValue]
  refine Reads.bind (a:=⟨.fn fn cap,first++vs.toArray⟩) (Reads.pure _) ?_
  exact hr
end
end Go.Lo
namespace Go.Lo
open Go.Conc (G)
def ja8 (xs:List Int) (i j:Nat):List Int:=(xs.set i (xs.getD j 0)).set j (xs.getD i 0)
theorem jcq (xs:List Int) (i j:Nat):(ja8 xs i j).length=xs.length:=by simp [ja8]
theorem getD_set {xs:List Int} {i k:Nat} {v:Int} (h:i<xs.length):(xs.set i v).getD k 0=if k=i then v else xs.getD k 0:=by
  rw [List.getD_eq_getElem?_getD];split
  · rename_i e;subst e;rw [List.getElem?_set_self h];rfl
  · rename_i e;rw [List.getElem?_set_ne (fun x=>e x.symm),←List.getD_eq_getElem?_getD]
theorem ja0 {xs:List Int} {i j k:Nat} (hi:i<xs.length) (hj:j<xs.length):(ja8 xs i j).getD k 0=if k=j then xs.getD i 0 else if k=i then xs.getD j 0 else xs.getD k 0:=by
  rw [ja8,getD_set (by simpa using hj),getD_set hi]
theorem jhS (l1 l2 l3:List Int) (a b:Int):(l1++b::l2++a::l3).Perm (l1++a::l2++b::l3):=by
  rw [List.append_assoc,List.append_assoc];refine List.Perm.append_left l1 ?_
  rw [List.cons_append,List.cons_append];have h1:(b::(l2++a::l3)).Perm (b::a::(l2++l3)):=List.Perm.cons b List.perm_middle
  have h2:(a::(l2++b::l3)).Perm (a::b::(l2++l3)):=List.Perm.cons a List.perm_middle
  exact h1.trans ((List.Perm.swap a b _).trans h2.symm)
theorem jer {xs:List Int} {i j:Nat} (hij:i<j) (hj:j<xs.length):(ja8 xs i j).Perm xs:=by
  have hi:i<xs.length:=by omega
  have e:xs=xs.take i++xs.getD i 0::(xs.drop (i+1)).take (j-i-1)++xs.getD j 0::xs.drop (j+1):=by
    apply List.ext_getElem?
    intro k
    rcases Nat.lt_trichotomy k i with h|h|h
    · rw [List.append_assoc,List.getElem?_append_left (by simp;omega),List.getElem?_take,if_pos h]
    · subst h
      rw [List.append_assoc,List.getElem?_append_right (by simp;omega)];simp [List.getD_eq_getElem?_getD,List.getElem?_eq_getElem hi,Nat.min_eq_left (Nat.le_of_lt hi)]
    · rcases Nat.lt_trichotomy k j with h2|h2|h2
      · rw [List.append_assoc,List.getElem?_append_right (by simp;omega),List.length_take,Nat.min_eq_left (by omega),List.cons_append,show k-i=(k-i-1)+1 by omega,List.getElem?_cons_succ,
          List.getElem?_append_left (by simp;omega),List.getElem?_take,if_pos (by omega),List.getElem?_drop]
        congr 1;omega
      · subst h2
        rw [List.getElem?_append_right (by simp;omega)];simp only [List.length_append,List.length_take,List.length_cons,List.length_drop]
        rw [show k-(min i xs.length+(min (k-i-1) (xs.length-(i+1))+1))=0 by omega];simp [List.getD_eq_getElem?_getD,List.getElem?_eq_getElem hj]
      · rw [List.getElem?_append_right (by simp;omega)];simp only [List.length_append,List.length_take,List.length_cons,List.length_drop]
        rw [show k-(min i xs.length+(min (j-i-1) (xs.length-(i+1))+1))=(k-j-1)+1 by omega,List.getElem?_cons_succ,List.getElem?_drop];congr 1;omega
  have e2:ja8 xs i j=xs.take i++xs.getD j 0::(xs.drop (i+1)).take (j-i-1)++xs.getD i 0::xs.drop (j+1):=by
    generalize ha:xs.getD i 0=a at*
    generalize hb:xs.getD j 0=b at*
    unfold ja8
    rw [ha,hb];generalize hl1:xs.take i=l1 at*
    generalize hl2:(xs.drop (i+1)).take (j-i-1)=l2 at*
    generalize hl3:xs.drop (j+1)=l3 at*
    have n1:l1.length=i:=by rw [←hl1,List.length_take];omega
    have n2:l2.length=j-i-1:=by rw [←hl2,List.length_take,List.length_drop];omega
    rw [e];have s1:(l1++a::l2++b::l3).set i b=l1++b::l2++b::l3:=by
      rw [List.append_assoc,List.set_append_right _ _ (by omega),n1,Nat.sub_self];simp
    rw [s1];rw [List.set_append_right _ _ (by simp;omega)];simp only [List.length_append,List.length_cons]
    rw [show j-(l1.length+(l2.length+1))=0 by omega];simp
  rw [e2];conv=>rhs;rw [e]
  exact jhS _ _ _ _ _
theorem jkt (xs:List Int) (i j:Nat):ja8 xs i j=ja8 xs j i:=by
  unfold ja8
  by_cases e:i=j
  · subst e;rfl
  · rw [List.set_comm _ _ e]
theorem jks {xs:List Int} {i j:Nat} (hi:i<xs.length) (hj:j<xs.length):(ja8 xs i j).Perm xs:=by
  rcases Nat.lt_trichotomy i j with h|h|h
  · exact jer h hj
  · subst h
    have:ja8 xs i i=xs:=by
      unfold ja8
      rw [List.set_set];apply List.ext_getElem?
      intro k
      by_cases e:i=k
      · subst e;rw [List.getElem?_set_self hi,List.getD_eq_getElem?_getD,List.getElem?_eq_getElem hi];rfl
      · rw [List.getElem?_set_ne e]
    rw [this]
  · rw [jkt];exact jer h hi
inductive Sw (a b:Nat):List Int→List Int→Prop
  |refl (xs:List Int):Sw a b xs xs
  |step {xs ys:List Int} (i j:Nat) (hi:a≤i∧i<b) (hj:a≤j∧j<b) (s:Sw a b xs ys):Sw a b xs (ja8 ys i j)
theorem Sw.one {a b:Nat} {xs:List Int} (i j:Nat) (hi:a≤i∧i<b) (hj:a≤j∧j<b):Sw a b xs (ja8 xs i j):= .step i j hi hj (.refl _)
theorem Sw.length {a b:Nat} {xs ys:List Int} (s:Sw a b xs ys):ys.length=xs.length:=by
  induction s with
  |refl=>rfl
  |step i j _ _ _ ih=>rw [jcq,ih]
theorem Sw.trans {a b:Nat} {xs ys zs:List Int} (s:Sw a b xs ys) (t:Sw a b ys zs):Sw a b xs zs:=by
  induction t with
  |refl=>exact s
  |step i j hi hj _ ih=>exact .step i j hi hj ih
theorem Sw.mono {a b a' b':Nat} {xs ys:List Int} (s:Sw a b xs ys) (ha:a'≤a) (hb:b≤b'):Sw a' b' xs ys:=by
  induction s with
  |refl=>exact .refl _
  |step i j hi hj _ ih=>exact .step i j ⟨by omega,by omega⟩ ⟨by omega,by omega⟩ ih
theorem Sw.perm {a b:Nat} {xs ys:List Int} (s:Sw a b xs ys) (hb:b≤xs.length):ys.Perm xs:=by
  induction s with
  |refl=>exact List.Perm.refl _
  |step i j hi hj s ih=>exact (jks (by rw [s.length];omega) (by rw [s.length];omega)).trans ih
theorem Sw.out {a b:Nat} {xs ys:List Int} (s:Sw a b xs ys) (hb:b≤xs.length) {k:Nat} (hk:k<a∨b≤k):ys.getD k 0=xs.getD k 0:=by
  induction s with
  |refl=>rfl
  |step i j hi hj s ih=>rw [ja0 (by rw [s.length];omega) (by rw [s.length];omega),if_neg (by omega),if_neg (by omega),ih]
theorem Sw.all {a b:Nat} {xs ys:List Int} (s:Sw a b xs ys) (hb:b≤xs.length) {p:Int→Prop} (h: ∀k,a≤k→k<b→p (xs.getD k 0)): ∀k,a≤k→k<b→p (ys.getD k 0):=by
  induction s with
  |refl=>exact h
  |step i j hi hj s ih=>
    intro k h1 h2
    rw [ja0 (by rw [s.length];omega) (by rw [s.length];omega)];split
    · exact ih i hi.1 hi.2
    · split
      · exact ih j hj.1 hj.2
      · exact ih k h1 h2
def SortR (xs:List Int) (a b:Nat):Prop:= ∀i j,a≤i→i<j→j<b→xs.getD i 0≤xs.getD j 0
theorem setSeg_ints {xs:List Int} {junk:List Value} {v:Int} {i:Int} {k:Nat} (hi:i=k) (hk:k<xs.length):SetSeg (ints xs++junk) (0+i.toNat*1) [.int .i64 v] (ints (xs.set k v)++junk):=⟨by
  subst hi
  rw [Int.toNat_natCast,Nat.mul_one,Nat.zero_add];have h1:ints (xs.set k v)=(ints xs).set k (.int .i64 v):=by simp [ints,List.map_set]
  have h2:k<(ints xs).length:=by simpa using hk
  rw [h1,←List.set_append_left _ _ h2,List.set_eq_take_append_cons_drop,if_pos (by simp;omega)];simp,by simp;omega⟩
abbrev blkC (b:Nat) (xs:List Int) (junk:List Value):Chunk:=⟨true,b,.cells (ints xs++junk).toArray 3 (0,0)⟩
theorem jan {B:Array Obj} {H:Hp} {b t:Nat} {rw:Bool} {f:Nat×Nat} {xs:List Int} {junk:List Value} {j:Int} (i:Nat) [x:Has H b rw (.cells (ints xs++junk).toArray t f)] (hj:j=i) (hi:i<xs.length):Rd B H ⟨b,0+j.toNat*1,none⟩ (.int .i64 (xs.getD i 0)):=by
  subst hj
  rw [Int.toNat_natCast,Nat.mul_one,Nat.zero_add];refine Rd.held x.mem ?_
  rw [List.getElem?_toArray,List.getElem?_append_left (by simpa using hi),List.getElem?_map,List.getD_eq_getElem?_getD,List.getElem?_eq_getElem hi];rfl
section
variable {P:Program} {B:Array Obj} {m:Md P B} {ops:Array Oper} {l l':List Value} {S h h' H:Hp} {C:List Value→Hp→Prop} {i:Nat} {kd:Kd} {r:List (Nat×Kd)}
  {d:Option Tmp} {ty:TypeId} {pos:String} {af:Array Edge} {g:Option (Nat×Bool)}
theorem jbk {s t:TypeId} {x:Operand} {n n':Int} {k k':IntKind} (ho:ops[i]?=some ⟨d,.convert s t x,ty,pos,af,g⟩) (hw:Wt ops l g) [KHeap kd S h H] [ex:OpV l x (.int k n)] (hs:(P.underlying s).isSome=true) [it:IntT P t k'] (hn:k'.wrap n=n') [PutV l d (.int k' n') l'] (q:RegK m S ops r l' h C):RegK m S ops ((i,kd)::r) l h C:=
  RegK.rd (v:= .int k' n') ho hw (by
    obtain ⟨u,hu⟩:=Option.isSome_iff_exists.1 hs
    have:=it.eq
    unfold intB at this
    simp only [execOp,ex.eq]
    refine Reads.value ?_
    unfold convert
    refine Reads.bind (jal hu).reads ?_
    split at this
    · rename_i k2 e
      have:k2=k':=by simpa using this
      subst this
      refine Reads.bind (jal e).reads ?_
      rw [←hn];cases u<;>exact Reads.pure _
    · cases this) q
theorem k_shr {t u:TypeId} {x y:Operand} {a b:Int} {k k':IntKind} (v:Int) (ho:ops[i]?=some ⟨d,.binOp .shr t x y u,ty,pos,af,g⟩) (hw:Wt ops l g) [KHeap kd S h H] [ex:OpV l x (.int k a)] [ey:OpV l y (.int k' b)] (h0:0≤b) (hv:a.fdiv (2^(min b.toNat k.bits))=v) [PutV l d (.int k v) l'] (q:RegK m S ops r l' h C):RegK m S ops ((i,kd)::r) l h C:=
  RegK.rd (v:= .int k v) ho hw (by
    simp only [execOp,ex.eq,ey.eq]
    refine Reads.value (Reads.bind (a:=()) (Reads.pure _) ?_)
    show Reads P B (Op.shift .shr k a k' b) H _
    unfold Op.shift
    rw [if_neg (by omega),←hv];exact Reads.pure _) q
theorem k_ixS {t:TypeId} {x y:Operand} {s:ByteArray} {n:Nat} {j:Int} {k:IntKind} (ho:ops[i]?=some ⟨d,.index t x y,ty,pos,af,g⟩) (hw:Wt ops l g) [KHeap kd S h H] [ex:OpV l x (.string s)] [ey:OpV l y (.int k j)] (ht:P.underlying t=some .string) (hs:s.size=n) (h0:0≤j) (h1:j<n)
    (q: ∀b:UInt8,RegK m S ops r (put l d (.int .u8 b.toNat)) h C):RegK m S ops ((i,kd)::r) l h C:=by
  subst hs
  have hlt:j.toNat<s.size:=by omega
  refine RegK.rd (v:= .int .u8 (s[j.toNat]'hlt).toNat) (l':=put l d _) ho hw ?_ (p:=⟨rfl⟩) (q _)
  simp only [execOp,ex.eq,ey.eq]
  refine Reads.value ?_
  unfold Instr.index
  refine Reads.bind (a:=(k,j)) (Reads.pure _) ?_
  refine Reads.bind (jal ht).reads ?_
  simp only [h0,if_true]
  have:s[j.toNat]?=some (s[j.toNat]'hlt):=by rw [getElem?_pos s j.toNat hlt]
  simp only [this]
  exact Reads.pure _
end
end Go.Lo
namespace Go.Lo
open Go.Conc (G)
theorem jeZ {B:Array Obj} {H:Hp} {b o t:Nat} {rw:Bool} {f:Nat×Nat} {xs:List Int} {junk:List Value} {j:Int} (i:Nat) [x:Has H b rw (.cells (ints xs++junk).toArray t f)] (hj:j=i) (hi:o+i<xs.length):Rd B H ⟨b,o+j.toNat*1,none⟩ (.int .i64 (xs.getD (o+i) 0)):=by
  subst hj
  rw [Int.toNat_natCast,Nat.mul_one];refine Rd.held x.mem ?_
  rw [List.getElem?_toArray,List.getElem?_append_left (by simpa using hi),List.getElem?_map,List.getD_eq_getElem?_getD,List.getElem?_eq_getElem hi];rfl
theorem jjf {b c lo:Nat} (h:lo<c):cutP 1 (some ⟨b,0,none⟩) c lo=some ⟨b,lo,none⟩:=by
  unfold cutP
  rw [if_neg (by omega)];simp [Addr.add_none]
theorem jha (n:Nat):(Builtin.zeroCells #[Value.int .i64 0] n).toList=ints (List.replicate n 0):=by
  unfold Builtin.zeroCells
  apply List.ext_getElem
  · simp
  · intro i h1 h2
    simp [Nat.mod_one]
section
variable {P:Program} {B:Array Obj} {m:Md P B} {ops:Array Oper} {l l':List Value} {S h h' H:Hp} {C:List Value→Hp→Prop} {i:Nat} {kd:Kd} {r:List (Nat×Kd)}
  {d:Option Tmp} {ty:TypeId} {pos:String} {af:Array Edge} {g:Option (Nat×Bool)}
theorem jmy {t e b c k n t':Nat} {x:Operand} {rw:Bool} {ys:List Int} {junk:List Value} (ho:ops[i]?=some ⟨none,.call ⟨.builtin .clear,[x].toArray,#[t]⟩,ty,pos,af,g⟩) (hw:Wt ops l g) [KSub kd S h']
    [ex:OpV l x (.slice (cutP 1 (some ⟨b,0,none⟩) c k) (n-k) (c-k))] [SliceT P t e 1] [zt:ZeroT P e (.int .i64 0)] [q:Has h b rw (.cells (ints ys++junk).toArray t' (0,0))] [up:Upd h b (.cells (ints (ys.take k++List.replicate (n-k) 0)++junk).toArray t' (0,0)) h'] (hl:ys.length=n) (hk:k≤n) (hc:n≤c)
    (nx:RegK m S ops r l h' C):RegK m S ops ((i,kd)::r) l h C:=by
  obtain ⟨o1,g1,g2,e1,e2⟩:=up.ex
  refine RegK.ke (KSub.kind (S:=S) (h:=h')) ho hw ?_
  obtain ⟨hu,hs⟩:=jbj (P:=P) (B:=B) (h:=h) (t:=t)
  rw [jbm (vs:=[.slice (cutP 1 (some ⟨b,0,none⟩) c k) (n-k) (c-k)]) (by simp [ex.eq])];refine jfC q.mem ⟨o1,g1,g2,e1,rfl⟩ ?_
  show Tri P B (Builtin.clear_ #[t] ty #[.slice (cutP 1 (some ⟨b,0,none⟩) c k) (n-k) (c-k)]>>=fun v=>pure (Next.value v)) _ _
  refine Tri.bind ?_
  unfold Builtin.clear_
  refine Tri.bind ((jal hu).reads.tri ?_)
  by_cases e0:n-k=0
  · rw [e0];have e3:ys.take k++List.replicate (n-k) 0=ys:=by rw [e0,List.take_of_length_le (by omega)];simp
    have e4:h'=g1++⟨true,b,.cells (ints ys++junk).toArray t' (0,0)⟩::g2:=by rw [e2,e3]
    have key:Tri P B (Sem.pure (Value.tuple #[])) (g1++⟨true,b,.cells (ints ys++junk).toArray t' (0,0)⟩::g2) (fun a h_1=>Tri P B (pure (Next.value a)) h_1 (upon m ⟨none,.call ⟨.builtin .clear,[x].toArray,#[t]⟩,ty,pos,af,g⟩ l fun l' h'=>(kd= .free∨S.Sublist h')∧RegK m S ops r l' h' C)):=
      Tri.pure' (Tri.pure (by rw [←e4];exact ⟨KSub.sub,nx⟩))
    cases hp:cutP 1 (some ⟨b,0,none⟩) c k with
    |none=>exact key
    |some a=>exact key
  · rw [jjf (by omega)];obtain ⟨n0,hn0⟩: ∃n0,n-k=n0+1:=⟨n-k-1,by omega⟩
    have hgoal: ∀(N:Nat),n-k=N→N≠0→Tri P B (do storeCells ⟨b,k,none⟩ (Builtin.zeroCells (←zeroValue e).cells N).toList;pure (Value.tuple #[])) (g1++⟨true,b,.cells (ints ys++junk).toArray t' (0,0)⟩::g2) (fun a h_1=>Tri P B (pure (Next.value a)) h_1 (upon m ⟨none,.call ⟨.builtin .clear,[x].toArray,#[t]⟩,ty,pos,af,g⟩ l fun l' h'=>(kd= .free∨S.Sublist h')∧RegK m S ops r l' h' C)):=by
      intro N hN hN0
      refine Tri.bind (s:=zeroValue e) ((reads_zero (v:= .int .i64 0)).tri ?_)
      refine Tri.bind ?_
      rw [show (Value.int IntKind.i64 0).cells= #[Value.int .i64 0] from rfl,jha];refine jc3 (ints (List.replicate N 0)) 0 _ (by simp;omega) (jdT _) fun c' hc'=>Tri.pure (Tri.pure ?_)
      have e3:c'=(ints (ys.take k++List.replicate (n-k) 0)++junk).toArray:=by
        apply Array.ext'
        rw [hc',hN];simp only [Nat.add_zero,List.toList_toArray,List.length_map,List.length_replicate]
        rw [List.take_append_of_le_length (by simp;omega),jbg,jdA,show k+N=(ints ys).length by simp;omega,List.drop_left]
      rw [e3,←e2];exact ⟨KSub.sub,nx⟩
    rw [hn0];exact hgoal (n0+1) hn0 (by omega)
end
end Go.Lo
namespace Go.Lo
open Go.Conc (G)
section
variable {P:Program} {B:Array Obj} {m:Md P B} {S:Hp} {ops:Array Oper}
def jgl (ops:Array Oper) (E:List (Nat×Nat)) (i:Nat):List Nat:=(match ops[i]? with|some o=>jbx o|none=>[])++(E.filter (·.2==i)).map (·.1)
def jcU (ops:Array Oper) (E:List (Nat×Nat)):Nat→List Nat
  |0=>[]
  |n+1=>jcU ops E n++[jfg (jcU ops E n) (jgl ops E n)]
theorem jdk (E:List (Nat×Nat)): ∀n,(jcU ops E n).length=n
  |0=>rfl
  |n+1=>by rw [jcU,List.length_append,jdk E n];rfl
theorem jfW (E:List (Nat×Nat)): ∀n i j,((jcU ops E n).getD i 0).testBit j=true→ ∃x∈jgl ops E i,x=j∨(x<i∧((jcU ops E n).getD x 0).testBit j=true)
  |0,i,j,h=>by simp [jcU] at h
  |n+1,i,j,h=>by
    have hlen:=jdk (ops:=ops) E n
    have old: ∀x,x<n→(jcU ops E (n+1)).getD x 0=(jcU ops E n).getD x 0:=fun x hx=>by
      rw [jcU,List.getD_eq_getElem?_getD,List.getD_eq_getElem?_getD,List.getElem?_append_left (by omega)]
    rcases Nat.lt_trichotomy i n with hi|rfl|hi
    · rw [old i hi] at h
      obtain ⟨x,hx,hx'⟩:=jfW E n i j h
      exact ⟨x,hx,hx'.imp id fun ⟨h1,h2⟩=>⟨h1,by rw [old x (by omega)];exact h2⟩⟩
    · have e:(jcU ops E (i+1)).getD i 0=jfg (jcU ops E i) (jgl ops E i):=by
        rw [jcU,List.getD_eq_getElem?_getD,List.getElem?_append_right (by omega),hlen];simp
      rw [e] at h
      obtain ⟨x,hx,hx'⟩:=jd2 _ _ _ h
      refine ⟨x,hx,hx'.imp id fun h2=>?_⟩
      have hxi:x<i:=by
        rcases Nat.lt_or_ge x i with h3|h3
        · exact h3
        · rw [List.getD_eq_getElem?_getD,List.getElem?_eq_none (by omega)] at h2
          simp at h2
      exact ⟨hxi,by rw [old x hxi];exact h2⟩
    · rw [List.getD_eq_getElem?_getD,List.getElem?_eq_none (by rw [jdk];omega)] at h
      simp at h
def Resp (w:Nat→List Nat):List Nat→Prop
  |[]=>True
  |i::L=>(∀p∈w i,p∉i::L)∧Resp w L
theorem mask_done' {ms:List Nat} {w:Nat→List Nat} (hms: ∀i j,(ms.getD i 0).testBit j=true→ ∃x∈w i,x=j∨(x<i∧(ms.getD x 0).testBit j=true)) {L:List Nat} (down: ∀x,x∉L→ ∀p∈w x,p∉L):
    ∀i,(∀p∈w i,p∉L)→ ∀j∈L,(ms.getD i 0).testBit j=false:=by
  intro i
  induction i using Nat.strongRecOn with
  |_ i ih=>
    intro hb j hj
    cases ht:(ms.getD i 0).testBit j with
    |false=>rfl
    |true=>
      exfalso
      obtain ⟨x,hx,e|⟨hlt,h2⟩⟩:=hms i j ht
      · exact hb x hx (e▸hj)
      · have:=ih x hlt (down x (hb x hx)) j hj
        rw [this] at h2
        cases h2
theorem run_any (hn:jaG ops=true) {ms:List Nat} {w:Nat→List Nat} (hms: ∀i j,(ms.getD i 0).testBit j=true→ ∃x∈w i,x=j∨(x<i∧(ms.getD x 0).testBit j=true))
    {b:Frame} {ds:List Deferred} {k:List Item} {cs:List Frame} {K:Goroutine→Hp→Prop}:
    ∀(L:List Nat) (r:List (Nat×Kd)) (l:List Value) (h:Hp),(∀x,x∈L↔ ∃y∈r,y.1=x)→L.Nodup→(r.map (·.1)).Nodup→jci ops ms r=true→jfV P ops r=true→((∃x∈r,x.2= .read∨x.2= .call)→S.Sublist h)→jbW r=true→Resp w L→
      (∀x,x∉L→ ∀p∈w x,p∉L)→
      RegK m S ops r l h (fun l' h'=>m.R K (Gr b l' ds k cs) h')→m.R K (Gr b l ds (.inRegion ops L::k) cs) h:=by
  intro L
  induction L with
  |nil=>
    intro r l h hL _ _ _ _ _ _ _ _ hk
    cases r with
    |nil=>exact jbS hk
    |cons y r=>exact absurd ((hL y.1).2 ⟨y,List.mem_cons_self,rfl⟩) (by simp)
  |cons i L ih=>
    intro r l h hL hLn hnd hp hnw hS hro hresp hd hk
    obtain ⟨⟨i',ki⟩,hmr,rfl⟩:=(hL i).1 List.mem_cons_self
    have hmk':=mask_done' hms hd i' hresp.1
    have hmk: ∀y∈r,(ms.getD i' 0).testBit y.1=false:=fun y hy=>hmk' y.1 ((hL y.1).2 ⟨y,hy,rfl⟩)
    obtain ⟨o',ho',t'⟩:=jgk hn (jfU hnw hmr) WeakR hp hmr hnd hmk hk
    refine jhm ho' (jcs hn ho').1 (fun e=>hS ⟨_,hmr,e⟩) (jcT (fun l' h' x hkeep=>?_) t')
    have hmf: ∀y,y∈r.filter (fun x=>x.1 !=i')↔y∈r∧y.1≠i':=fun y=>by rw [List.mem_filter];simp
    have hLn':=List.nodup_cons.1 hLn
    refine ih _ l' h' (fun z=>?_) hLn'.2 (List.Nodup.sublist (List.Sublist.map _ List.filter_sublist) hnd) (jcZ _ hp) (List.all_eq_true.2 fun y hy=>List.all_eq_true.1 hnw y (List.mem_filter.1 hy).1) (fun hex=>?_) (jcm _ hro) hresp.2 (fun z hz p hpz hpL=>?_) x
    · constructor
      · intro hz
        obtain ⟨y,hy,e⟩:=(hL z).1 (List.mem_cons_of_mem _ hz)
        exact ⟨y,(hmf y).2 ⟨hy,fun e'=>hLn'.1 (by rw [←e',e];exact hz)⟩,e⟩
      · rintro ⟨y,hy,rfl⟩;obtain ⟨h1,h2⟩:=(hmf y).1 hy
        rcases List.mem_cons.1 ((hL y.1).2 ⟨y,h1,rfl⟩) with e|e
        · exact absurd e h2
        · exact e
    · obtain ⟨y,hy,e⟩:=hex
      have hy':=(List.mem_filter.1 hy).1
      refine hkeep (fun ek=>?_) (hS ⟨y,hy',e⟩)
      subst ek
      exact jf6 hp hro hmr hmk y hy' e
    · by_cases ez:z=i'
      · subst ez;exact hresp.1 p hpz (List.mem_cons_of_mem _ hpL)
      · exact hd z (fun hm=>(List.mem_cons.1 hm).elim ez hz) p hpz (List.mem_cons_of_mem _ hpL)
theorem go_spec: ∀(fuel t:Nat) (listed:Array Bool) (r:List (Nat×Kd)),r.length≤fuel→listed.size=ops.size→
      (∀x,x<ops.size→(listed.getD x true=true↔ ∀y∈r,y.1≠x))→(r.map (·.1)).Nodup→Topo ops r→
      (∀x,x∈Region.linearise.go .any ops fuel t listed []↔ ∃y∈r,y.1=x)∧(Region.linearise.go .any ops fuel t listed []).Nodup∧Resp (jgl ops []) (Region.linearise.go .any ops fuel t listed []):=by
  intro fuel
  induction fuel with
  |zero=>
    intro t listed r hr _ _ _ _
    have:r=[]:=List.length_eq_zero_iff.1 (by omega)
    subst this
    simp [Region.linearise.go,Resp]
  |succ fuel ih=>
    intro t listed r hr hsz hl hnd ht
    simp only [Region.linearise.go]
    split
    · rename_i i hi
      have hmem:=List.mem_of_getElem? hi
      simp only [List.mem_filter,List.mem_range,Bool.and_eq_true,Bool.not_eq_true'] at hmem
      obtain ⟨hin,hnl,hrd⟩:=hmem
      cases ho:ops[i]? with
      |none=>rw [ho] at hrd;simp at hrd
      |some o=>
        rw [ho] at hrd
        simp only [Option.map_some,Option.getD_some,Array.all_eq_true_iff_forall_mem] at hrd
        have hir: ∃y∈r,y.1=i:=by
          apply Classical.byContradiction
          intro hne
          have:=(hl i hin).2 fun y hy e=>hne ⟨y,hy,e⟩
          rw [this] at hnl
          cases hnl
        obtain ⟨⟨i',ki⟩,hmr,rfl⟩:=hir
        have hbn: ∀p∈jbx o,∀y∈r,y.1≠p:=by
          intro p hp'
          obtain ⟨e,he,rfl⟩:=List.mem_map.1 hp'
          obtain ⟨he1,he2⟩:=List.mem_filter.1 he
          have:=hrd e (by simpa using he1)
          rw [he2] at this
          simp only [Bool.not_true,Bool.false_or] at this
          have hlt:e.on<ops.size:=by
            rcases Nat.lt_or_ge e.on ops.size with h3|h3
            · exact h3
            · rw [Array.getD_eq_getD_getElem?,Array.getElem?_eq_none (by omega)] at this
              simp at this
          refine (hl e.on hlt).1 ?_
          rw [Array.getD_eq_getD_getElem?,Array.getElem?_eq_getElem (by omega)] at this⊢
          exact this
        have hmf: ∀y,y∈r.filter (fun x=>x.1 !=i')↔y∈r∧y.1≠i':=fun y=>by rw [List.mem_filter];simp
        rw [linearise_go_acc,List.reverse_singleton,List.singleton_append];obtain ⟨g1,g2,g3⟩:=ih (t/((List.range ops.size).filter fun i=>!listed.getD i true&&((ops[i]?).map (·.after.all fun e=>!Region.binds .any e||listed.getD e.on false)).getD false).length) (listed.setIfInBounds i' true) (r.filter fun x=>x.1 !=i')
          (by
            have:(r.filter fun x=>x.1 !=i').length<r.length:=by
              exact List.length_filter_lt_length_iff_exists.2 ⟨_,hmr,by simp⟩
            omega) (by simpa using hsz) (fun x hx=>by
            by_cases e:x=i'
            · subst e
              refine ⟨fun _ y hy=>((hmf y).1 hy).2,fun _=>?_⟩
              rw [Array.getD_eq_getD_getElem?,Array.getElem?_setIfInBounds_self_of_lt (by omega)];rfl
            · have:(listed.setIfInBounds i' true).getD x true=listed.getD x true:=by
                rw [Array.getD_eq_getD_getElem?,Array.getElem?_setIfInBounds_ne (fun e'=>e e'.symm),←Array.getD_eq_getD_getElem?]
              rw [this,hl x hx];refine ⟨fun hh y hy=>hh y ((hmf y).1 hy).1,fun hh y hy=>?_⟩
              by_cases ey:y.1=i'
              · rw [ey];exact fun e'=>e e'.symm
              · exact hh y ((hmf y).2 ⟨hy,ey⟩)) (List.Nodup.sublist (List.Sublist.map _ List.filter_sublist) hnd) (ht.filter _)
        refine ⟨fun x=>?_,List.nodup_cons.2 ⟨fun hm=>?_,g2⟩,fun p hp hm=>?_,g3⟩
        · rw [List.mem_cons,g1];constructor
          · rintro (rfl|⟨y,hy,e⟩)
            · exact ⟨_,hmr,rfl⟩
            · exact ⟨y,((hmf y).1 hy).1,e⟩
          · rintro ⟨y,hy,rfl⟩;by_cases e:y.1=i'
            · exact .inl e
            · exact .inr ⟨y,(hmf y).2 ⟨hy,e⟩,rfl⟩
        · obtain ⟨y,hy,e⟩:=(g1 i').1 hm
          exact ((hmf y).1 hy).2 e
        · have hp':p∈jbx o:=by simpa [jgl,ho] using hp
          rcases List.mem_cons.1 hm with rfl|hm
          · exact hbn _ hp' _ hmr rfl
          · obtain ⟨y,hy,e⟩:=(g1 p).1 hm
            exact hbn _ hp' y ((hmf y).1 hy).1 e
    · rename_i hnone
      cases r with
      |nil=>simp [Resp]
      |cons x r=>
        exfalso
        obtain ⟨i,ki⟩:=x
        obtain ⟨⟨o,ho,hb⟩,_⟩:=ht
        have hin:i<ops.size:=(Array.getElem?_eq_some_iff.1 ho).1
        have:i∈(List.range ops.size).filter (fun i=>!listed.getD i true&&((ops[i]?).map (·.after.all fun e=>!Region.binds .any e||listed.getD e.on false)).getD false):=by
          rw [List.mem_filter];refine ⟨List.mem_range.2 hin,?_⟩
          have h1:listed.getD i true=false:=by
            cases hc:listed.getD i true with
            |false=>rfl
            |true=>exact absurd rfl ((hl i hin).1 hc _ List.mem_cons_self)
          rw [h1,ho];simp only [Bool.not_false,Bool.true_and,Option.map_some,Option.getD_some,Array.all_eq_true_iff_forall_mem]
          intro e he
          cases hbe:Region.binds .any e with
          |false=>rfl
          |true=>
            simp only [Bool.not_true,Bool.false_or]
            have hm:e.on∈jbx o:=List.mem_map.2 ⟨e,List.mem_filter.2 ⟨by simpa using he,hbe⟩,rfl⟩
            obtain ⟨h3,h4⟩:=hb _ hm
            have:=(hl e.on h3).2 h4
            rw [Array.getD_eq_getD_getElem?,Array.getElem?_eq_getElem (by omega)] at this⊢
            exact this
        have hpos:=List.length_pos_of_mem this
        rw [List.getElem?_eq_none_iff] at hnone
        exact absurd (Nat.mod_lt t hpos) (by omega)
def Bef (a b:Nat):List Nat→Prop
  |[]=>True
  |i::L=>(i=b→a∉i::L)∧Bef a b L
theorem Bef.gone {a b:Nat}: ∀{L:List Nat},a∉L→Bef a b L
  |[],_=>trivial
  |_::_,h=>⟨fun _=>h,Bef.gone fun x=>h (List.mem_cons_of_mem _ x)⟩
theorem bef_or {a b:Nat} (hab:a≠b): ∀{L:List Nat},L.Nodup→Bef a b L∨Bef b a L
  |[],_=> .inl trivial
  |i::L,h=>by
    obtain ⟨h1,h2⟩:=List.nodup_cons.1 h
    by_cases ea:i=a
    · subst ea;exact .inl ⟨fun e=>absurd e hab,Bef.gone h1⟩
    · by_cases eb:i=b
      · subst eb;exact .inr ⟨fun e=>absurd e.symm hab,Bef.gone h1⟩
      · exact (bef_or hab h2).imp (fun x=>⟨fun e=>absurd e eb,x⟩) fun x=>⟨fun e=>absurd e ea,x⟩
theorem Resp.add {E:List (Nat×Nat)} {a b:Nat}: ∀{L:List Nat},Resp (jgl ops E) L→Bef a b L→Resp (jgl ops ((a,b)::E)) L
  |[],_,_=>trivial
  |i::L,⟨h1,h2⟩,⟨h3,h4⟩=>by
    refine ⟨fun p hp=>?_,Resp.add h2 h4⟩
    simp only [jgl,List.filter_cons,List.mem_append] at hp
    rcases hp with hp|hp
    · exact h1 p (List.mem_append_left _ hp)
    · split at hp
      · rename_i e
        rcases List.mem_cons.1 hp with rfl|hp
        · exact h3 (by have:b=i:=(by simpa using e);exact this.symm)
        · exact h1 p (List.mem_append_right _ hp)
      · exact h1 p (List.mem_append_right _ hp)
def okE (P:Program) (ops:Array Oper) (E:List (Nat×Nat)) (r:List (Nat×Kd)):Bool:=
  jaG ops&&jbW r&&jci ops (jcU ops E ops.size) r&&jfV P ops r&&(r.all fun x=>decide (x.1<ops.size))&&decide (r.map (·.1)).Nodup&&((List.range ops.size).all fun i=>r.any (·.1==i))&&E.all fun e=>decide (e.2<ops.size)
inductive DrawT (m:Md P B) (S:Hp) (ops:Array Oper) (l:List Value) (h:Hp) (C:List Value→Hp→Prop):List (Nat×Nat)→Prop
  |leaf {E} (r:List (Nat×Kd)) (hok:okE P ops E r=true) (t:RegK m S ops r l h C):DrawT m S ops l h C E
  |split {E} (a b:Nat) (hab:a≠b) (t1:DrawT m S ops l h C ((a,b)::E)) (t2:DrawT m S ops l h C ((b,a)::E)):DrawT m S ops l h C E
theorem run_list {b:Frame} {ds:List Deferred} {k:List Item} {cs:List Frame} {K:Goroutine→Hp→Prop} {l:List Value} {h:Hp} (hS:S.Sublist h) {L:List Nat} (hL: ∀x,x∈L↔x<ops.size) (hLn:L.Nodup) {E:List (Nat×Nat)}
    (t:DrawT m S ops l h (fun l' h'=>m.R K (Gr b l' ds k cs) h') E):Resp (jgl ops E) L→m.R K (Gr b l ds (.inRegion ops L::k) cs) h:=by
  induction t with
  | @leaf E r hok t=>
    intro hr
    simp only [okE,Bool.and_eq_true,List.all_eq_true,List.mem_range,List.any_eq_true,beq_iff_eq,decide_eq_true_eq] at hok
    obtain ⟨⟨⟨⟨⟨⟨⟨h1,h2⟩,h3⟩,h4⟩,h5⟩,h6⟩,h7⟩,h8⟩:=hok
    refine run_any h1 (jfW E ops.size) L r l h (fun x=>?_) hLn h6 h3 h4 (fun _=>hS) h2 hr (fun x hx p hp _=>?_) t
    · rw [hL];exact ⟨fun hx=>h7 x hx,fun ⟨y,hy,e⟩=>e▸h5 y hy⟩
    · have hx':ops.size≤x:=Nat.le_of_not_lt fun e=>hx ((hL x).2 e)
      simp only [jgl,Array.getElem?_eq_none hx',List.nil_append,List.mem_map,List.mem_filter,beq_iff_eq] at hp
      obtain ⟨e,⟨he1,he2⟩,_⟩:=hp
      have:=h8 e he1
      omega
  |split a b hab _ _ ih1 ih2=>
    intro hr
    rcases bef_or hab hLn with h1|h1
    · exact ih1 (hr.add h1)
    · exact ih2 (hr.add h1)
theorem jc7 {b:Frame} {ds:List Deferred} {k:List Item} {cs:List Frame} {K:Goroutine→Hp→Prop} {id:Nat} {l:List Value} {h:Hp} (r0:List Nat) (hm:(P.follows .mixedOrders||!Region.departs ops)=true)
    (hok:(jhM ops [] (r0.map fun i=>(i,Kd.free))&&(List.range ops.size).all fun i=>r0.contains i)=true) (hS:S.Sublist h) (t:DrawT m S ops l h (fun l' h'=>m.R K (Gr b l' ds k cs) h') []):m.R K (Gr b l ds (.code (.region id ops true)::k) cs) h:=by
  refine jdo fun t'=>?_;simp only [Bool.and_eq_true,List.all_eq_true,List.mem_range,List.contains_iff_mem] at hok
  obtain ⟨h3,h4⟩:=hok
  generalize hr:(r0.map fun i=>(i,Kd.free))=r at h3
  obtain ⟨t1,_,t3⟩:=jiO r [] h3 (by simp)
  have hlt: ∀y∈r,y.1<ops.size:=by
    have: ∀(r:List (Nat×Kd)),Topo ops r→ ∀y∈r,y.1<ops.size:=by
      intro r
      induction r with
      |nil=>intro _ y hy;simp at hy
      |cons z r ih=>
        intro ⟨⟨o,ho,_⟩,h5⟩ y hy
        rcases List.mem_cons.1 hy with rfl|hy
        · exact (Array.getElem?_eq_some_iff.1 ho).1
        · exact ih h5 y hy
    exact this r t1
  have hin: ∀x,x<ops.size→ ∃y∈r,y.1=x:=fun x hx=>⟨(x,.free),by rw [←hr];exact List.mem_map.2 ⟨x,h4 x hx,rfl⟩,rfl⟩
  have hlen:r.length≤ops.size:=by
    have:=List.Nodup.length_le_of_subset t3 (l₂:=List.range ops.size) fun x hx=>by
      obtain ⟨y,hy,rfl⟩:=List.mem_map.1 hx
      exact List.mem_range.2 (hlt y hy)
    simpa using this
  simp only [Region.schedule,hm,if_true]
  obtain ⟨g1,g2,g3⟩:=go_spec (ops:=ops) ops.size t' (Array.replicate ops.size false) r hlen (by simp) (fun x hx=>by
    rw [Array.getD_eq_getD_getElem?,Array.getElem?_eq_getElem (by simpa using hx)];obtain ⟨y,hy,e⟩:=hin x hx
    simp only [Array.getElem_replicate,Option.getD_some,Bool.false_eq_true,false_iff]
    exact fun hh=>hh y hy e) t3 t1
  refine run_list hS (fun x=>?_) g2 t g3
  exact (g1 x).trans ⟨fun ⟨y,hy,e⟩=>e▸hlt y hy,fun hx=>hin x hx⟩
end
end Go.Lo
namespace Go.Lo
open Go.Conc (G)
section
variable {P:Program} {B:Array Obj} {h:Hp}
theorem jaI {e:TypeId} {cs:Array Value} {o:Nat} {v:Value} [Scal P e] (hv:cs[o]?=some v):Reads P B (part e cs o) h v:=by
  unfold part
  refine Reads.bind jfu ?_
  simp only [hv]
  exact Reads.pure _
def keyB (P:Program) (t:TypeId):Bool:=match P.underlying t with
  |some (.struct fs)=>(match fs.toList with
    |[f,g]=>f.offset==0&&g.offset==1&&f.name != "_" &&g.name != "_" &&jfp P f.type&&jfp P g.type&&(match P.underlying f.type with|some (.int .i64)=>true|_=>false)&&(match P.underlying g.type with|some (.int .i64)=>true|_=>false)
    |_=>false)&&!P.stoodInHeld t
  |_=>false
class KeyT (P:Program) (t:TypeId):Prop where
  eq:keyB P t=true
theorem KeyT.spec {t:TypeId} [k:KeyT P t]: ∃f g:Field,P.underlying t=some (.struct #[f,g])∧f.offset=0∧g.offset=1∧f.name≠ "_" ∧g.name≠ "_" ∧Scal P f.type∧Scal P g.type∧P.underlying f.type=some (.int .i64)∧P.underlying g.type=some (.int .i64)∧P.stoodInHeld t=false:=by
  have:=k.eq
  unfold keyB at this
  split at this
  · rename_i fs hu
    rw [Bool.and_eq_true] at this
    obtain ⟨h1,h2⟩:=this
    split at h1
    · rename_i f g hfs
      simp only [Bool.and_eq_true,beq_iff_eq,bne_iff_ne,ne_eq] at h1
      obtain ⟨⟨⟨⟨⟨⟨⟨a1,a2⟩,a3⟩,a4⟩,a5⟩,a6⟩,a7⟩,a8⟩:=h1
      refine ⟨f,g,?_,a1,a2,a3,a4,⟨a5⟩,⟨a6⟩,?_,?_,by simpa using h2⟩
      · rw [hu];congr 2;exact Array.ext' (by rw [hfs])
      · split at a7
        · assumption
        · cases a7
      · split at a8
        · assumption
        · cases a8
    · cases h1
  · cases this
def keyV (s x:Int):Value:= .agg [.int .i64 s,.int .i64 x].toArray
theorem jeA (dd:Nat) {t:TypeId} [KeyT P t] (a b c d:Int):Reads P B (Op.equalIn (dd+2) t (keyV a b) (keyV c d)) h (a==c&&b==d):=by
  obtain ⟨f,g,hu,o1,o2,n1,n2,s1,s2,u1,u2,hs⟩:=KeyT.spec (P:=P) (t:=t)
  unfold Op.equalIn
  refine Reads.bind (jal hu).reads ?_
  simp only [keyV]
  refine Reads.bind Reads.program' ?_
  simp only [hs,Bool.false_eq_true,if_false,pure_bind]
  rw [←Array.forIn_toList];simp only [List.forIn_cons,List.forIn_nil,n1,n2,ne_eq,not_false_eq_true,if_true,o1,o2,bind_assoc]
  refine Reads.bind (jaI (v:= .int .i64 a) rfl) (Reads.bind (jaI (v:= .int .i64 c) rfl) (Reads.bind (jcr dd u1 a c) ?_))
  cases hab:(a==c)
  · simp only [Bool.not_false,if_true,pure_bind,Bool.false_and];exact Reads.pure _
  · simp only [Bool.not_true,Bool.false_eq_true,if_false,pure_bind,Bool.true_and,bind_assoc]
    refine Reads.bind (jaI (v:= .int .i64 b) rfl) (Reads.bind (jaI (v:= .int .i64 d) rfl) (Reads.bind (jcr dd u2 b d) ?_))
    cases hbd:(b==d)
    · simp only [Bool.not_false,if_true,pure_bind];exact Reads.pure _
    · simp only [Bool.not_true,Bool.false_eq_true,if_false,pure_bind];exact Reads.pure _
theorem jfO (dd:Nat) {e:Bool} {t:TypeId} [KeyT P t] (a b:Int):Reads P B (Instr.checkKey e (dd+2) t (keyV a b)) h ():=by
  obtain ⟨f,g,hu,o1,o2,n1,n2,s1,s2,u1,u2,hs⟩:=KeyT.spec (P:=P) (t:=t)
  have one: ∀(t:TypeId) (n:Int),P.underlying t=some (.int .i64)→Reads P B (Instr.checkKey e (dd+1) t (.int .i64 n)) h ():=fun t n ht=>by
    unfold Instr.checkKey
    refine Reads.bind (jal ht).reads ?_
    exact Reads.pure _
  unfold Instr.checkKey
  refine Reads.bind (jal hu).reads ?_
  simp only [keyV]
  rw [←Array.forIn_toList];simp only [List.forIn_cons,List.forIn_nil,n1,n2,ne_eq,not_false_eq_true,if_true,o1,o2,bind_assoc,pure_bind]
  refine Reads.bind (jaI (v:= .int .i64 a) rfl) (Reads.bind (one _ _ u1) ?_)
  refine Reads.bind (jaI (v:= .int .i64 b) rfl) (Reads.bind (one _ _ u2) ?_)
  exact Reads.pure _
def jd1:List (Int×Int×Int)→Nat→List MapEntry
  |[],_=>[]
  |e::r,b=>⟨keyV e.1 e.2.1,.int .i64 e.2.2,b⟩::jd1 r (b+1)
def mapO (l:List (Int×Int×Int)):Obj:= .map (jd1 l 0).toArray l.length
def jdC (s x:Int):List (Int×Int×Int)→Nat→Option (Nat×Int)
  |[],_=>none
  |e::r,i=>if e.1=s∧e.2.1=x then some (i,e.2.2) else jdC s x r (i+1)
def cntE (l:List (Int×Int×Int)) (s x:Int):Int:=match jdC s x l 0 with|some (_,n)=>n|none=>0
theorem jgJ {t:TypeId} [KeyT P t] (s x:Int): ∀(l:List (Int×Int×Int)) (b i:Nat),Reads P B (Instr.findAsking t (keyV s x) (jd1 l b) i) h ((jdC s x l i).map fun p=>(p.1,.int .i64 p.2))
  |[],_,_=>Reads.pure _
  |e::r,b,i=>by
    unfold jd1 Instr.findAsking jdC
    refine Reads.bind (jeA 9998 s x e.1 e.2.1) ?_
    by_cases hk:e.1=s∧e.2.1=x
    · rw [if_pos hk,if_pos (by simp [hk.1,hk.2])];exact Reads.pure _
    · rw [if_neg hk,if_neg (by simp;exact fun a b=>hk ⟨a.symm,b.symm⟩)];exact jgJ s x r (b+1) (i+1)
theorem jey {t:TypeId} [KeyT P t] (s x:Int) (l:List (Int×Int×Int)):Reads P B (Instr.findKey t (keyV s x) (jd1 l 0)) h ((jdC s x l 0).map fun p=>(p.1,.int .i64 p.2)):=by
  obtain ⟨f,g,hu,_⟩:=KeyT.spec (P:=P) (t:=t)
  unfold Instr.findKey
  refine Reads.bind (jal hu).reads ?_
  cases l with
  |nil=>exact Reads.pure _
  |cons e r=>
    show Reads P B (match Instr.findNow (.struct #[f,g]) (keyV s x) (jd1 (e::r) 0) 0 with|some r=>pure r|none=>_) h _
    have:Instr.findNow (.struct #[f,g]) (keyV s x) (jd1 (e::r) 0) 0=none:=by
      unfold jd1 Instr.findNow
      simp [Instr.sameNow]
    rw [this];exact jgJ s x _ _ _
theorem jfm: ∀(l r:List (Int×Int×Int)) (b:Nat),jd1 (l++r) b=jd1 l b++jd1 r (b+l.length)
  |[],r,b=>by simp [jd1]
  |e::l,r,b=>by simp [jd1,jfm l r (b+1),Nat.add_assoc,Nat.add_comm 1]
theorem jg2 (s x:Int): ∀(l:List (Int×Int×Int)) (i j:Nat) (n:Int),jdC s x l i=some (j,n)→ ∃p,j=i+p∧l[p]?=some (s,x,n)
  |[],_,_,_,h=>by simp [jdC] at h
  |e::r,i,j,n,h=>by
    unfold jdC at h
    split at h
    · rename_i hk
      obtain ⟨rfl,rfl⟩:=Prod.mk.inj (Option.some.inj h)
      obtain ⟨e1,e2,e3⟩:=e
      obtain ⟨rfl,rfl⟩:=hk
      exact ⟨0,rfl,rfl⟩
    · obtain ⟨p,rfl,hp⟩:=jg2 s x r (i+1) j n h
      exact ⟨p+1,by omega,by simpa using hp⟩
end
section
variable {P:Program} {B:Array Obj} {m:Md P B} {ops:Array Oper} {l l':List Value} {S h h' H:Hp} {C:List Value→Hp→Prop} {i:Nat} {kd:Kd} {r:List (Nat×Kd)}
  {d:Option Tmp} {ty:TypeId} {pos:String} {af:Array Edge} {g:Option (Nat×Bool)}
theorem jf0 {t:TypeId} (ho:ops[i]?=some ⟨d,.makeMap t none,ty,pos,af,g⟩) (hw:Wt ops l g) (n: ∀q,RegK m S ops r (put l d (.map (some q))) (h++[⟨true,q,mapO []⟩]) C):RegK m S ops ((i,.free)::r) l h C:=by
  refine RegK.ke (.inr rfl) ho hw ?_
  simp only [execOp]
  refine Tri.bind ?_
  unfold Instr.makeMap
  simp only [Option.map_none]
  refine Tri.bind (jlr fun q _ _=>Tri.pure (Tri.pure ⟨.inl (by trivial),n q⟩))
end
end Go.Lo
namespace Go.Lo
open Go.Conc (G)
section
variable {P:Program} {B:Array Obj} {h:Hp}
theorem jdi {e n:Nat} {cs:Array Value} {o:Nat} [AggT P e n]:Reads P B (part e cs o) h (.agg (cs.extract o (o+n))):=by
  unfold part
  refine Reads.bind jlo ?_
  exact Reads.bind (jhg (P:=P) (n:=n)) (Reads.pure _)
def key4B (P:Program) (t:TypeId):Bool:=match P.underlying t with
  |some (.struct fs)=>(match fs.toList with
    |[f,g,s]=>f.offset==0&&g.offset==1&&s.offset==2&&f.name != "_" &&g.name != "_" &&s.name != "_" &&jfp P f.type&&jfp P g.type&&aggB P s.type 2&&keyB P s.type&&(match P.underlying f.type with|some (.int .i64)=>true|_=>false)&&(match P.underlying g.type with|some (.int .i64)=>true|_=>false)
    |_=>false)&&!P.stoodInHeld t
  |_=>false
class Key4T (P:Program) (t:TypeId):Prop where
  eq:key4B P t=true
theorem Key4T.spec {t:TypeId} [k:Key4T P t]: ∃f g s:Field,P.underlying t=some (.struct #[f,g,s])∧f.offset=0∧g.offset=1∧s.offset=2∧f.name≠ "_" ∧g.name≠ "_" ∧s.name≠ "_" ∧Scal P f.type∧Scal P g.type∧AggT P s.type 2∧KeyT P s.type∧P.underlying f.type=some (.int .i64)∧P.underlying g.type=some (.int .i64)∧P.stoodInHeld t=false:=by
  have:=k.eq
  unfold key4B at this
  split at this
  · rename_i fs hu
    rw [Bool.and_eq_true] at this
    obtain ⟨h1,h2⟩:=this
    split at h1
    · rename_i f g s hfs
      simp only [Bool.and_eq_true,beq_iff_eq,bne_iff_ne,ne_eq] at h1
      obtain ⟨⟨⟨⟨⟨⟨⟨⟨⟨⟨⟨a1,a2⟩,a3⟩,b1⟩,b2⟩,b3⟩,c1⟩,c2⟩,c3⟩,c4⟩,a7⟩,a8⟩:=h1
      refine ⟨f,g,s,?_,a1,a2,a3,b1,b2,b3,⟨c1⟩,⟨c2⟩,⟨c3⟩,⟨c4⟩,?_,?_,by simpa using h2⟩
      · rw [hu];congr 2;exact Array.ext' (by rw [hfs])
      · split at a7
        · assumption
        · cases a7
      · split at a8
        · assumption
        · cases a8
    · cases h1
  · cases this
theorem jlY (dd:Nat) {t:TypeId} [Key4T P t] (a b c d a' b' c' d':Int):Reads P B (Op.equalIn (dd+3) t (.agg [.int .i64 a,.int .i64 b,.int .i64 c,.int .i64 d].toArray) (.agg [.int .i64 a',.int .i64 b',.int .i64 c',.int .i64 d'].toArray)) h (a==a'&&(b==b'&&(c==c'&&d==d'))):=by
  obtain ⟨f,g,s,hu,o1,o2,o3,n1,n2,n3,s1,s2,s3,s4,u1,u2,hs⟩:=Key4T.spec (P:=P) (t:=t)
  unfold Op.equalIn
  refine Reads.bind (jal hu).reads ?_
  refine Reads.bind Reads.program' ?_
  simp only [hs,Bool.false_eq_true,if_false,pure_bind]
  rw [←Array.forIn_toList];simp only [List.forIn_cons,List.forIn_nil,n1,n2,n3,ne_eq,not_false_eq_true,if_true,o1,o2,o3,bind_assoc]
  refine Reads.bind (jaI (v:= .int .i64 a) rfl) (Reads.bind (jaI (v:= .int .i64 a') rfl) (Reads.bind (jcr (dd+1) u1 a a') ?_))
  cases h1:(a==a')
  · simp only [Bool.not_false,if_true,pure_bind,Bool.false_and];exact Reads.pure _
  · simp only [Bool.not_true,Bool.false_eq_true,if_false,pure_bind,Bool.true_and,bind_assoc]
    refine Reads.bind (jaI (v:= .int .i64 b) rfl) (Reads.bind (jaI (v:= .int .i64 b') rfl) (Reads.bind (jcr (dd+1) u2 b b') ?_))
    cases h2:(b==b')
    · simp only [Bool.not_false,if_true,pure_bind,Bool.false_and];exact Reads.pure _
    · simp only [Bool.not_true,Bool.false_eq_true,if_false,pure_bind,Bool.true_and,bind_assoc]
      refine Reads.bind (jdi (n:=2)) (Reads.bind (jdi (n:=2)) (Reads.bind (jeA dd (t:=s.type) c d c' d') ?_))
      cases h3:(c==c'&&d==d')
      · simp only [Bool.not_false,if_true,pure_bind];exact Reads.pure _
      · simp only [Bool.not_true,Bool.false_eq_true,if_false,pure_bind];exact Reads.pure _
end
section
variable {P:Program} {B:Array Obj} {m:Md P B} {ops:Array Oper} {l l' l'':List Value} {S h h' H:Hp} {C:List Value→Hp→Prop} {i:Nat} {kd:Kd} {r:List (Nat×Kd)}
  {d:Option Tmp} {ty:TypeId} {pos:String} {af:Array Edge} {g:Option (Nat×Bool)}
theorem jfZ {t u:TypeId} {x y:Operand} {vs ws:List Value} {e:Bool} (ho:ops[i]?=some ⟨d,.binOp .neq t x y u,ty,pos,af,g⟩) (hw:Wt ops l g) [KHeap kd S h H] [ex:OpV l x (.agg vs.toArray)] [ey:OpV l y (.agg ws.toArray)]
    (hg:P.eqGuardType P.depth t=false) (he:Reads P B (Op.equalIn 10000 t (.agg vs.toArray) (.agg ws.toArray)) H e) [PutV l d (.bool !e) l'] (q:RegK m S ops r l' h C):RegK m S ops ((i,kd)::r) l h C:=
  RegK.rd (v:= .bool !e) ho hw (by
    simp only [execOp,ex.eq,ey.eq]
    refine Reads.value (Reads.bind (a:=()) ?_ ?_)
    · unfold eqGuard
      refine Reads.bind Reads.program' (Reads.bind Reads.program' ?_)
      rw [if_pos (by simp [hg])];exact Reads.pure _
    · show Reads P B (Op.equal t (.agg vs.toArray) (.agg ws.toArray)>>=fun b=>pure (Value.bool !b)) H _
      exact Reads.bind he (Reads.pure _)) q
theorem k_neq4 {t u:TypeId} {x y:Operand} {a b c e a' b' c' e':Int} (ho:ops[i]?=some ⟨d,.binOp .neq t x y u,ty,pos,af,g⟩) (hw:Wt ops l g) [kh:KHeap kd S h H] [ex:OpV l x (.agg [.int .i64 a,.int .i64 b,.int .i64 c,.int .i64 e].toArray)] [ey:OpV l y (.agg [.int .i64 a',.int .i64 b',.int .i64 c',.int .i64 e'].toArray)] [Key4T P t]
    (hg:P.eqGuardType P.depth t=false) [pt:PutV l d (.bool true) l'] [pf:PutV l d (.bool false) l''] (yes: ¬(a=a'∧b=b'∧c=c'∧e=e')→RegK m S ops r l' h C) (no:a=a'∧b=b'∧c=c'∧e=e'→RegK m S ops r l'' h C):RegK m S ops ((i,kd)::r) l h C:=by
  have he:=jlY (P:=P) (B:=B) (h:=H) 9997 (t:=t) a b c e a' b' c' e'
  by_cases hx:a=a'∧b=b'∧c=c'∧e=e'
  · have e2:(a==a'&&(b==b'&&(c==c'&&e==e')))=true:=by simp [hx]
    rw [e2] at he
    haveI:PutV l d (.bool !true) l'':=pf
    exact jfZ ho hw hg he (no hx)
  · have e2:(a==a'&&(b==b'&&(c==c'&&e==e')))=false:=by simpa using hx
    rw [e2] at he
    haveI:PutV l d (.bool !false) l':=pt
    exact jfZ ho hw hg he (yes hx)
end
end Go.Lo
namespace Go.Lo
def HeapF (ys:List Int) (f lo hi:Nat):Prop:= ∀k c,lo≤k→(c=2*k+1∨c=2*k+2)→c<hi→ys.getD (f+c) 0≤ys.getD (f+k) 0
def HeapR (ys:List Int) (f lo hi root:Nat):Prop:=(∀k c,lo≤k→k≠root→(c=2*k+1∨c=2*k+2)→c<hi→ys.getD (f+c) 0≤ys.getD (f+k) 0)∧
  ∀p c,lo≤p→(root=2*p+1∨root=2*p+2)→(c=2*root+1∨c=2*root+2)→c<hi→ys.getD (f+c) 0≤ys.getD (f+p) 0
theorem HeapR.start {ys:List Int} {f lo hi:Nat} (h:HeapF ys f (lo+1) hi):HeapR ys f lo hi lo:=⟨fun k c h1 h2=>h k c (by omega),fun p c h1 h2=>by omega⟩
theorem HeapR.stop {ys:List Int} {f lo hi root:Nat} (h:HeapR ys f lo hi root) (hc: ∀c,(c=2*root+1∨c=2*root+2)→c<hi→ys.getD (f+c) 0≤ys.getD (f+root) 0):HeapF ys f lo hi:=fun k c h1 h2 h3=>by
  by_cases e:k=root
  · subst e;exact hc c h2 h3
  · exact h.1 k c h1 e h2 h3
theorem HeapR.step {ys:List Int} {f lo hi root ch:Nat} (h:HeapR ys f lo hi root) (hlo:lo≤root) (hch:ch=2*root+1∨ch=2*root+2) (hlt:ch<hi) (hb:f+hi≤ys.length)
    (hmax: ∀c,(c=2*root+1∨c=2*root+2)→c<hi→ys.getD (f+c) 0≤ys.getD (f+ch) 0) (hl:ys.getD (f+root) 0<ys.getD (f+ch) 0):HeapR (ja8 ys (f+root) (f+ch)) f lo hi ch:=by
  have g: ∀k,(ja8 ys (f+root) (f+ch)).getD (f+k) 0=if k=ch then ys.getD (f+root) 0 else if k=root then ys.getD (f+ch) 0 else ys.getD (f+k) 0:=fun k=>by
    rw [ja0 (by omega) (by omega)];by_cases e:k=ch
    · rw [if_pos (by omega),if_pos e]
    · rw [if_neg (by omega),if_neg e];by_cases e2:k=root
      · rw [if_pos (by omega),if_pos e2]
      · rw [if_neg (by omega),if_neg e2]
  refine ⟨fun k c h1 h2 h3 h4=>?_,fun p c h1 h2 h3 h4=>?_⟩
  · rw [g,g,if_neg h2];by_cases e:k=root
    · subst e
      rw [if_pos rfl];by_cases e2:c=ch
      · rw [if_pos e2];omega
      · rw [if_neg e2,if_neg (by omega)];exact hmax c h3 h4
    · rw [if_neg e,if_neg (by omega)];by_cases e2:c=root
      · rw [if_pos e2];subst e2;exact h.2 k ch h1 h3 hch hlt
      · rw [if_neg e2];exact h.1 k c h1 e h3 h4
  · have e:p=root:=by omega
    subst e
    rw [g,g,if_neg (by omega),if_neg (by omega),if_neg (by omega),if_pos rfl];exact h.1 ch c (by omega) (by omega) h3 h4
theorem HeapF.top {ys:List Int} {f hi:Nat} (h:HeapF ys f 0 hi): ∀k,k<hi→ys.getD (f+k) 0≤ys.getD (f+0) 0
  |0,_=>by omega
  |k+1,hk=>by
    have h1:=h (k/2) (k+1) (by omega) (by omega) hk
    have h2:=HeapF.top h (k/2) (by omega)
    omega
theorem HeapF.empty {ys:List Int} {f lo hi:Nat} (h:hi≤2*lo+1):HeapF ys f lo hi:=fun k c h1 h2 h3=>by omega
theorem HeapF.cut {ys:List Int} {f i:Nat} (h:HeapF ys f 0 (i+1)) (hb:f+i<ys.length):HeapF (ja8 ys (f+0) (f+i)) f 1 i:=fun k c h1 h2 h3=>by
  rw [ja0 (by omega) (by omega),ja0 (by omega) (by omega),if_neg (by omega),if_neg (by omega),if_neg (by omega),if_neg (by omega)];exact h k c (by omega) h2 (by omega)
def Pop (ys:List Int) (a b i:Nat):Prop:=HeapF ys a 0 i∧SortR ys (a+i) b∧ ∀p q,p<i→a+i≤q→q<b→ys.getD (a+p) 0≤ys.getD q 0
theorem Pop.start {ys:List Int} {a b:Nat} (h:HeapF ys a 0 (b-a)) (hab:a≤b):Pop ys a b (b-a):=⟨h,fun p q h1 h2 h3=>by omega,fun p q h1 h2 h3=>by omega⟩
theorem Pop.step {ys zs:List Int} {a b i:Nat} (h:Pop ys a b (i+1)) (hb:a+i<b) (hl:b≤ys.length) (s:Sw (a+0) (a+i) (ja8 ys (a+0) (a+i)) zs) (hz:HeapF zs a 0 i):Pop zs a b i:=by
  obtain ⟨h1,h2,h3⟩:=h
  have hlen:=s.length
  rw [jcq] at hlen
  have top:=h1.top
  have o: ∀k,a+i≤k→zs.getD k 0=if k=a+i then ys.getD (a+0) 0 else ys.getD k 0:=fun k hk=>by
    rw [s.out (by rw [jcq];omega) (.inr hk),ja0 (by omega) (by omega)];by_cases e:k=a+i
    · rw [if_pos e,if_pos e]
    · rw [if_neg e,if_neg e,if_neg (by omega)]
  have up: ∀q,a+i≤q→q<b→ys.getD (a+0) 0≤zs.getD q 0:=fun q hq1 hq2=>by
    rw [o q hq1];by_cases e:q=a+i
    · rw [if_pos e];omega
    · rw [if_neg e];exact h3 0 q (by omega) (by omega) hq2
  have dn: ∀k,a+0≤k→k<a+i→zs.getD k 0≤ys.getD (a+0) 0:=s.all (p:=fun v=>v≤ys.getD (a+0) 0) (by rw [jcq];omega) fun k hk1 hk2=>by
    rw [ja0 (by omega) (by omega),if_neg (by omega)];by_cases e:k=a+0
    · rw [if_pos e];exact top i (by omega)
    · rw [if_neg e];have:=top (k-a) (by omega);rw [show a+(k-a)=k by omega] at this;exact this
  refine ⟨hz,fun p q hp hq hqb=>?_,fun p q hp hq hqb=>?_⟩
  · rw [o p (by omega),o q (by omega),if_neg (show q≠a+i by omega)];by_cases e:p=a+i
    · rw [if_pos e];exact h3 0 q (by omega) (by omega) hqb
    · rw [if_neg e];exact h2 p q (by omega) hq hqb
  · have:=dn (a+p) (by omega) (by omega);have:=up q hq hqb;omega
def Part (ys:List Int) (a b i j:Nat):Prop:=(∀k,a<k→k<i→ys.getD k 0<ys.getD a 0)∧ ∀k,j<k→k<b→ys.getD a 0≤ys.getD k 0
theorem Part.swap {ys:List Int} {a b i j:Nat} (h:Part ys a b i j) (ha:a<i) (hij:i≤j) (hj:j<b) (hb:b≤ys.length) (h1:ys.getD a 0≤ys.getD i 0) (h2:ys.getD j 0<ys.getD a 0):Part (ja8 ys i j) a b (i+1) (j-1):=by
  have g: ∀k,(ja8 ys i j).getD k 0=if k=j then ys.getD i 0 else if k=i then ys.getD j 0 else ys.getD k 0:=fun k=>ja0 (by omega) (by omega)
  have hne:i≠j:=fun e=>by subst e;omega
  refine ⟨fun k hk1 hk2=>?_,fun k hk1 hk2=>?_⟩
  · rw [g,g,if_neg (show a≠j by omega),if_neg (show a≠i by omega),if_neg (by omega)];by_cases e:k=i
    · rw [if_pos e];exact h2
    · rw [if_neg e];exact h.1 k hk1 (by omega)
  · rw [g,g,if_neg (show a≠j by omega),if_neg (show a≠i by omega)];by_cases e:k=j
    · rw [if_pos e];exact h1
    · rw [if_neg e,if_neg (by omega)];exact h.2 k (by omega) hk2
def Cut (ys:List Int) (a b j:Nat):Prop:=(∀k,a≤k→k<j→ys.getD k 0≤ys.getD j 0)∧ ∀k,j<k→k<b→ys.getD j 0≤ys.getD k 0
theorem Part.cut {ys:List Int} {a b i j:Nat} (h:Part ys a b i j) (ha:a≤j) (hij:i=j+1) (hj:j<b) (hb:b≤ys.length):Cut (ja8 ys j a) a b j:=by
  have g: ∀k,(ja8 ys j a).getD k 0=if k=a then ys.getD j 0 else if k=j then ys.getD a 0 else ys.getD k 0:=fun k=>ja0 (by omega) (by omega)
  have hjv:(ja8 ys j a).getD j 0=ys.getD a 0:=by
    rw [g];by_cases e:j=a
    · rw [if_pos e,e]
    · rw [if_neg e,if_pos rfl]
  refine ⟨fun k hk1 hk2=>?_,fun k hk1 hk2=>?_⟩
  · rw [hjv,g];by_cases e:k=a
    · rw [if_pos e];have:=h.1 j (by omega) (by omega);omega
    · rw [if_neg e,if_neg (by omega)];have:=h.1 k (by omega) (by omega);omega
  · rw [hjv,g,if_neg (by omega),if_neg (by omega)];exact h.2 k hk1 hk2
def Pare (ys:List Int) (a b i j:Nat):Prop:=(∀k,a≤k→k<i→ys.getD k 0≤ys.getD a 0)∧ ∀k,j<k→k<b→ys.getD a 0<ys.getD k 0
theorem Pare.start (ys:List Int) (a b:Nat):Pare ys a b (a+1) (b-1):=⟨fun k h1 h2=>by rw [show k=a by omega];omega,fun k h1 h2=>by omega⟩
theorem Pare.swap {ys:List Int} {a b i j:Nat} (h:Pare ys a b i j) (ha:a<i) (hij:i≤j) (hj:j<b) (hb:b≤ys.length) (h1:ys.getD a 0<ys.getD i 0) (h2:ys.getD j 0≤ys.getD a 0):Pare (ja8 ys i j) a b (i+1) (j-1):=by
  have g: ∀k,(ja8 ys i j).getD k 0=if k=j then ys.getD i 0 else if k=i then ys.getD j 0 else ys.getD k 0:=fun k=>ja0 (by omega) (by omega)
  have hne:i≠j:=fun e=>by subst e;omega
  refine ⟨fun k hk1 hk2=>?_,fun k hk1 hk2=>?_⟩
  · rw [g,g,if_neg (show a≠j by omega),if_neg (show a≠i by omega),if_neg (by omega)];by_cases e:k=i
    · rw [if_pos e];exact h2
    · rw [if_neg e];exact h.1 k hk1 (by omega)
  · rw [g,g,if_neg (show a≠j by omega),if_neg (show a≠i by omega)];by_cases e:k=j
    · rw [if_pos e];exact h1
    · rw [if_neg e,if_neg (by omega)];exact h.2 k (by omega) hk2
def Low (ys:List Int) (a b:Nat):Prop:=a=0∨ ∀k,a≤k→k<b→ys.getD (a-1) 0≤ys.getD k 0
theorem Low.sw {xs ys:List Int} {a b:Nat} (h:Low xs a b) (s:Sw a b xs ys) (hb:b≤xs.length):Low ys a b:=by
  rcases h with h|h
  · exact .inl h
  · by_cases e:a=0
    · exact .inl e
    · refine .inr ?_
      rw [s.out hb (.inl (by omega))];exact s.all (p:=fun v=>xs.getD (a-1) 0≤v) hb h
theorem Cut.swL {xs ys:List Int} {a b j:Nat} (h:Cut xs a b j) (s:Sw a j xs ys) (hj:j<b) (hb:b≤xs.length):Cut ys a b j:=⟨by
  rw [s.out (by omega) (.inr (Nat.le_refl j))];exact s.all (p:=fun v=>v≤xs.getD j 0) (by omega) h.1,fun k h1 h2=>by
  rw [s.out (by omega) (.inr (Nat.le_refl j)),s.out (by omega) (.inr (by omega))];exact h.2 k h1 h2⟩
theorem Cut.swR {xs ys:List Int} {a b j:Nat} (h:Cut xs a b j) (s:Sw (j+1) b xs ys) (hb:b≤xs.length):Cut ys a b j:=⟨fun k h1 h2=>by
  rw [s.out (by omega) (.inl (by omega)),s.out (by omega) (.inl (by omega))];exact h.1 k h1 h2,fun k h1 h2=>by
  rw [s.out (by omega) (.inl (by omega))];exact s.all (p:=fun v=>xs.getD j 0≤v) (by omega) (fun k h1 h2=>h.2 k (by omega) h2) k (by omega) h2⟩
end Go.Lo
namespace Go.Lo
open Go.Conc (G)
structure Pt where
  h:Int
  lo:Int
  hi:Int
  deriving DecidableEq,Inhabited
structure Tp where
  f:Int
  t:Int
  lo:Int
  hi:Int
  deriving DecidableEq,Inhabited
structure Sk where
  h:Int
  long:Int
  fits:Bool
  deriving DecidableEq,Inhabited
structure Fb where
  plank:Int
  pts:List Pt
  tapes:List Tp
  sticks:List Sk
  deriving DecidableEq,Inhabited
abbrev ptL (x:Pt):List Value:=[.int .i64 x.h,.int .i64 x.lo,.int .i64 x.hi]
abbrev tpL (x:Tp):List Value:=[.int .i64 x.f,.int .i64 x.t,.int .i64 x.lo,.int .i64 x.hi]
abbrev skL (x:Sk):List Value:=[.int .i64 x.h,.int .i64 x.long,.bool x.fits]
instance:Enc Pt 3 where
  enc:=ptL
  len:=fun _=>rfl
  one:=fun _=>jcF rfl
instance:Enc Tp 4 where
  enc:=tpL
  len:=fun _=>rfl
  one:=fun _=>jcF rfl
instance:Enc Sk 3 where
  enc:=skL
  len:=fun _=>rfl
  one:=fun _=>jcF rfl
abbrev tpV (x:Tp):Value:= .agg (tpL x).toArray
abbrev skV (x:Sk):Value:= .agg (skL x).toArray
abbrev fbL (b:Fb) (pp:Option Addr) (np cp:Nat) (pt:Option Addr) (nt ct:Nat) (pk:Option Addr) (nk ck:Nat):List Value:=[.int .i64 b.plank,.slice pp np cp,.slice pt nt ct,.slice pk nk ck]
abbrev fbV (b:Fb) (pp:Option Addr) (np cp:Nat) (pt:Option Addr) (nt ct:Nat) (pk:Option Addr) (nk ck:Nat):Value:= .agg (fbL b pp np cp pt nt ct pk nk ck).toArray
def jcA:Nat→Nat
  |0=>0
  |n+1=>if (jcA n+1)*(jcA n+1)≤n+1 then jcA n+1 else jcA n
theorem jdO: ∀n,jcA n*jcA n≤n∧n<(jcA n+1)*(jcA n+1)
  |0=>by simp [jcA]
  |n+1=>by
    obtain ⟨h1,h2⟩:=jdO n
    unfold jcA
    split
    · rename_i h
      refine ⟨h,?_⟩
      have:(jcA n+1+1)*(jcA n+1+1)=(jcA n+1)*(jcA n+1)+2*(jcA n+1)+1:=by
        rw [Nat.add_mul,Nat.mul_add];omega
      omega
    · exact ⟨by omega,by omega⟩
theorem jiS {a b:Nat} (h:a≤b):a*a≤b*b:=Nat.mul_le_mul h h
theorem jlT {n a b:Nat} (ha:a*a≤n) (ha':n<(a+1)*(a+1)) (hb:b*b≤n) (hb':n<(b+1)*(b+1)):a=b:=by
  rcases Nat.lt_trichotomy a b with h|h|h
  · have:=jiS (show a+1≤b by omega);omega
  · exact h
  · have:=jiS (show b+1≤a by omega);omega
theorem jjE {n k:Nat} (h:k*k≤n) (h':n<(k+1)*(k+1)):jcA n=k:=jlT (jdO n).1 (jdO n).2 h h'
theorem rootN_lt {n k:Nat} (h:n<k*k):jcA n<k:=by
  rcases Nat.lt_or_ge (jcA n) k with h1|h1
  · exact h1
  · have:=jiS h1;have:=(jdO n).1;omega
def jdY (n:Int):Int:=jcA n.toNat
def jje (n by':Int):Int:=n/by'
def segN (pts:List Pt) (hh:Int):Nat:=((pts.drop 1).takeWhile fun p=>decide (p.h<hh)).length
theorem jeq {α:Type} (p:α→Bool): ∀(l:List α) (i:Nat),(∀k x,k<i→l[k]?=some x→p x=true)→i≤l.length→(∀x,l[i]?=some x→p x=false)→(l.takeWhile p).length=i
  |[],i,_,h2,_=>by simp at h2⊢;omega
  |a::r,0,_,_,h3=>by
    have:=h3 a (by simp)
    simp [List.takeWhile_cons,this]
  |a::r,i+1,h1,h2,h3=>by
    have:=h1 0 a (by omega) (by simp)
    simp only [List.takeWhile_cons,this,if_true,List.length_cons]
    rw [jeq p r i (fun k x hk hx=>h1 (k+1) x (by omega) (by simpa using hx)) (by simpa using h2) fun x hx=>h3 x (by simpa using hx)]
theorem jlD {pts:List Pt} {hh:Int} {i:Nat} (hi:i+1<pts.length) (h1: ∀k,k<i→(pts.getD (k+1) default).h<hh) (h2:hh≤(pts.getD (i+1) default).h):segN pts hh=i:=by
  have get: ∀k x,(pts.drop 1)[k]?=some x→pts.getD (k+1) default=x:=fun k x hx=>by
    rw [List.getElem?_drop,Nat.add_comm] at hx
    rw [List.getD_eq_getElem?_getD,hx];rfl
  refine jeq _ _ i (fun k x hk hx=>?_) (by simp;omega) fun x hx=>?_
  · have:=h1 k hk
    rw [get k x hx] at this
    exact decide_eq_true this
  · rw [get i x hx] at h2
    exact decide_eq_false (by omega)
def atI (pts:List Pt) (l:List Int) (hh:Int):Int:=
  let i:=segN pts hh
  l.getD i 0+jje ((l.getD (i+1) 0-l.getD i 0)*(hh-(pts.getD i default).h)) ((pts.getD (i+1) default).h-(pts.getD i default).h)
def jlx (pts:List Pt) (l:List Int) (i:Nat):Int:=jdY (((pts.getD (i+1) default).h-(pts.getD i default).h)*((pts.getD (i+1) default).h-(pts.getD i default).h)+(l.getD (i+1) 0-l.getD i 0)*(l.getD (i+1) 0-l.getD i 0))
def jg0 (pts:List Pt) (l:List Int) (f:Nat):Nat→Int
  |0=>0
  |k+1=>jg0 pts l f k+jlx pts l (f+k)
def jcy (pts:List Pt) (l:List Int) (f t:Int):Int:=jg0 pts l f.toNat (t-f).toNat
def jiF (pts:List Pt) (l:List Int):Nat→Int
  |0=>0
  |k+1=>jiF pts l k+(l.getD k 0+l.getD (k+1) 0)*((pts.getD (k+1) default).h-(pts.getD k default).h)
def jcN (pts:List Pt) (l:List Int):Int:=jiF pts l (pts.length-1)
def okPt (x:Pt):Prop:=(0≤x.h∧x.h≤959)∧(0≤x.lo∧x.lo≤x.hi∧x.hi≤959)∧x.hi-x.lo<3
def okTp (n:Nat) (x:Tp):Prop:=0≤x.f∧x.f<x.t∧x.t≤(n:Int)-1∧0≤x.lo∧x.lo≤x.hi∧x.hi≤9999
def okSk (pts:List Pt) (x:Sk):Prop:=((pts.getD 0 default).h≤x.h∧x.h≤(pts.getD (pts.length-1) default).h)∧0≤x.long∧x.long≤959
structure PtsOk (pts:List Pt):Prop where
  two:2≤pts.length
  five:pts.length≤5
  ok: ∀x∈pts,okPt x
  up: ∀i,i+1<pts.length→(pts.getD i default).h<(pts.getD (i+1) default).h
structure FOk (b:Fb):Prop where
  plank:0≤b.plank∧b.plank≤20
  pts:PtsOk b.pts
  few:b.tapes.length≤3
  tapes: ∀x∈b.tapes,okTp b.pts.length x
  few':b.sticks.length≤3
  sticks: ∀x∈b.sticks,okSk b.pts x
def SmL (l:List Int):Prop:= ∀j,0≤l.getD j 0∧l.getD j 0≤959
theorem PtsOk.at {pts:List Pt} (k:PtsOk pts) {i:Nat} (hi:i<pts.length):0≤(pts.getD i default).h∧(pts.getD i default).h≤959:=(k.ok _ (jai.2 ⟨i,hi,rfl⟩)).1
theorem FOk.tape {b:Fb} (v:FOk b) {t:Tp} (h:t∈b.tapes): ∃f e:Nat,t.f=f∧t.t=e∧f≤e∧e<b.pts.length:=by
  obtain ⟨h1,h2,h3,_⟩:=v.tapes t h
  have:=v.pts.two
  obtain ⟨f,hf⟩:=Int.eq_ofNat_of_zero_le h1
  obtain ⟨e,he⟩:=Int.eq_ofNat_of_zero_le (show 0≤t.t by omega)
  exact ⟨f,e,hf,he,by omega,by omega⟩
abbrev Rp (B:Array Obj) (h:Hp) (b:Fb) (p:Option Addr) (n c:Nat):Prop:=RdS B h 3 (.slice p n c) n (encs b.pts)
abbrev Rk (B:Array Obj) (h:Hp) (b:Fb) (p:Option Addr) (n c:Nat):Prop:=RdS B h 3 (.slice p n c) n (encs b.sticks)
abbrev Rt (B:Array Obj) (h:Hp) (b:Fb) (p:Option Addr) (n c:Nat):Prop:=RdS B h 4 (.slice p n c) n (encs b.tapes)
end Go.Lo
namespace Go.Lo
open Go.Conc (G)
class MapPos (h:Hp) (q:Nat) (es:outParam (List (Int×Int×Int))) (F:outParam Hp) (hf:outParam (List (Int×Int×Int)→Hp)):Prop where
  eq: ∃h1 h2,h=h1++⟨true,q,mapO es⟩::h2∧F=h1++h2∧ ∀e,hf e=h1++⟨true,q,mapO e⟩::h2
instance {q:Nat} {es:List (Int×Int×Int)} {l:Hp}:MapPos (⟨true,q,mapO es⟩::l) q es l (fun e=>Chunk.mk true q (mapO e)::l):=⟨[],l,rfl,rfl,fun _=>rfl⟩
instance (priority:=low) {q:Nat} {es:List (Int×Int×Int)} {x:Chunk} {l F:Hp} {hf:List (Int×Int×Int)→Hp} [s:MapPos l q es F hf]:MapPos (x::l) q es (x::F) (fun e=>x::hf e):=⟨by
  obtain ⟨h1,h2,e1,e2,e3⟩:=s.eq
  exact ⟨x::h1,h2,by rw [e1];rfl,by rw [e2];rfl,fun e=>by rw [e3];rfl⟩⟩
instance {q:Nat} {es:List (Int×Int×Int)} {A l F:Hp} {hf:List (Int×Int×Int)→Hp} [s:MapPos l q es F hf]:MapPos (A++l) q es (A++F) (fun e=>A++hf e):=⟨by
  obtain ⟨h1,h2,e1,e2,e3⟩:=s.eq
  exact ⟨A++h1,h2,by rw [e1,List.append_assoc],by rw [e2,List.append_assoc],fun e=>by rw [e3,List.append_assoc]⟩⟩
theorem MapPos.perm {h F:Hp} {q:Nat} {es:List (Int×Int×Int)} {hf:List (Int×Int×Int)→Hp} (s:MapPos h q es F hf):h.Perm (F++[Chunk.mk true q (mapO es)])∧ ∀e,List.Perm (F++[Chunk.mk true q (mapO e)]) (hf e):=by
  obtain ⟨h1,h2,e1,e2,e3⟩:=s.eq
  have gen: ∀c:Chunk,(h1++c::h2).Perm (h1++h2++[c]):=fun c=>by
    rw [List.append_assoc];exact List.Perm.append_left h1 (List.perm_append_comm (l₁:=[c]) (l₂:=h2))
  exact ⟨by rw [e1,e2];exact gen _,fun e=>by rw [e2,e3];exact (gen _).symm⟩
section
variable {P:Program} {B:Array Obj} {m:Md P B} {ops:Array Oper} {l l':List Value} {S h h' H F:Hp} {C:List Value→Hp→Prop} {i:Nat} {kd:Kd} {r:List (Nat×Kd)}
  {d:Option Tmp} {ty:TypeId} {pos:String} {af:Array Edge} {g:Option (Nat×Bool)} {hf:List (Int×Int×Int)→Hp}
theorem jmu {t k e q:Nat} {x y:Operand} {rw:Bool} {s v:Int} {es:List (Int×Int×Int)} (ht:P.underlying t=some (.map k e)) (ho:ops[i]?=some ⟨d,.lookup t x y true,ty,pos,af,g⟩) (hw:Wt ops l g) [KHeap kd S h H] [ex:OpV l x (.map (some q))] [ey:OpV l y (.agg [.int .i64 s,.int .i64 v].toArray)]
    [hq:Has H q rw (mapO es)] [KeyT P k] [ZeroT P e (.int .i64 0)] (n:RegK m S ops r (put l d (.tuple [.int .i64 (cntE es s v),.bool (jdC s v es 0).isSome].toArray)) h C):RegK m S ops ((i,kd)::r) l h C:=
  haveI:PutV l d (.tuple [.int .i64 (cntE es s v),.bool (jdC s v es 0).isSome].toArray) (put l d (.tuple [.int .i64 (cntE es s v),.bool (jdC s v es 0).isSome].toArray)):=⟨rfl⟩
  RegK.rd (v:= .tuple [.int .i64 (cntE es s v),.bool (jdC s v es 0).isSome].toArray) ho hw (by
    simp only [execOp,ex.eq,ey.eq]
    refine Reads.value ?_
    unfold Instr.lookup
    refine Reads.bind (jal ht).reads ?_
    dsimp only
    refine Reads.bind (jbF hq.mem rfl) ?_
    dsimp only [mapO]
    refine Reads.bind (Reads.pure _) ?_
    refine Reads.bind (jfO 9998 s v) ?_
    refine Reads.bind (jey (t:=k) s v es) ?_
    unfold cntE
    cases jdC s v es 0 with
    |none=>exact Reads.bind reads_zero (Reads.pure _)
    |some p=>exact Reads.pure _) n
theorem k_mapNew {t k e q:Nat} {x y z:Operand} {rw:Bool} {s v w:Int} {es:List (Int×Int×Int)} (ht:P.underlying t=some (.map k e)) (ho:ops[i]?=some ⟨none,.mapUpdate t x y z,ty,pos,af,g⟩) (hw:Wt ops l g) [ex:OpV l x (.map (some q))] [ey:OpV l y (.agg [.int .i64 s,.int .i64 v].toArray)] [ez:OpV l z (.int .i64 w)]
    [hq:Has h q rw (mapO es)] (hn:jdC s v es 0=none) [KeyT P k] [u:Upd h q (mapO (es++[(s,v,w)])) h'] (n:RegK m S ops r l h' C):RegK m S ops ((i,.free)::r) l h C:=by
  obtain ⟨o1,h1,h2,e1,e2⟩:=u.ex
  refine RegK.ke (.inr rfl) ho hw ?_
  refine jfC hq.mem ⟨o1,h1,h2,e1,rfl⟩ ?_
  simp only [execOp,ex.eq,ey.eq,ez.eq]
  refine Tri.bind ?_
  unfold Instr.mapUpdate
  refine Tri.bind ((jal ht).reads.tri ?_)
  refine Tri.bind ((jbF (o:=mapO es) (rw:=true) (by simp) rfl).tri ?_)
  refine Tri.bind ((jfO 9998 s v).tri ?_)
  refine Tri.bind ((jey (t:=k) s v es).tri ?_)
  rw [hn];simp only [Option.map_none]
  refine jbK rfl rfl ?_
  refine Tri.pure ⟨.inl (by trivial),?_⟩
  have:(Obj.map ((jd1 es 0).toArray.push {key:=keyV s v,val:= .int .i64 w,born:=es.length}) (es.length+1))=mapO (es++[(s,v,w)]):=by
    rw [mapO,jfm];simp [jd1]
  show RegK m S ops r _ (h1++⟨true,q,Obj.map ((jd1 es 0).toArray.push {key:=keyV s v,val:= .int .i64 w,born:=es.length}) (es.length+1)⟩::h2) C
  rw [this,←e2];exact n
theorem jjW {args:List Operand} {ats:Array TypeId} {f:FuncId} {vs:List Value} {Post:Value→List (Int×Int×Int)→Prop} (q:Nat) {es:List (Int×Int×Int)} (ho:ops[i]?=some ⟨d,.call ⟨.value (.func f),args.toArray,ats⟩,ty,pos,af,g⟩) (hw:Wt ops l g)
    [ea:ArgsV l args vs] (hfn:ja4 P f=true) [o:MapPos h q es F hf] (c:FnC m f vs.toArray (F++[⟨true,q,mapO es⟩]) fun v h'=> ∃es',h'=F++[⟨true,q,mapO es'⟩]∧Post v es') (n: ∀v es',Post v es'→RegK m S ops r (put l d v) (hf es') C):RegK m S ops ((i,.free)::r) l h C:=
  jaZ (Post:=fun v h'=> ∃es',h'=hf es'∧Post v es') ho hw hfn (fun c' cs' K n'=>m.weak (Weak.perm o.perm.1) (c c' cs' K fun v h' ⟨es',e,p⟩=>m.weak (by rw [e];exact Weak.perm (o.perm.2 es')) (n' v _ ⟨es',rfl,p⟩))) fun v h' ⟨es',e,p⟩=>by subst e;exact n v es' p
theorem jmA {args:List Operand} {ats:Array TypeId} {f:FuncId} {vs:List Value} {Post:Value→List (Int×Int×Int)→Prop} (q:Nat) {es:List (Int×Int×Int)} (ho:ops[i]?=some ⟨d,.call ⟨.value (.func f),args.toArray,ats⟩,ty,pos,af,g⟩) (hw:Wt ops l g)
    [ea:ArgsV l args vs] (hfn:ja4 P f=true) [o:MapPos h q es F hf] [sb: ∀e,SubH S (hf e)] (c:FnC m f vs.toArray (F++[⟨true,q,mapO es⟩]) fun v h'=> ∃es',h'=F++[⟨true,q,mapO es'⟩]∧Post v es') (n: ∀v es',Post v es'→RegK m S ops r (put l d v) (hf es') C):RegK m S ops ((i,.keep)::r) l h C:=
  k_calK (Post:=fun v h'=> ∃es',h'=hf es'∧Post v es') ho hw hfn (fun c' cs' K n'=>m.weak (Weak.perm o.perm.1) (c c' cs' K fun v h' ⟨es',e,p⟩=>m.weak (by rw [e];exact Weak.perm (o.perm.2 es')) (n' v _ ⟨es',rfl,p⟩))) fun v h' ⟨es',e,p⟩=>by subst e;exact ⟨(sb es').sub,n v es' p⟩
end
end Go.Lo
namespace Go.Lo
open Go.Conc (G)
def jkQ (fn:FuncId) (l:List Value) (ps:Array Tmp) (a c:Code) (q1:Nat):Obj:= .loop {state:= .done,pending:=some .ret,fn,tmps:=l.toArray,params:=ps,assign:=a,body:=c,defers:=q1}
section
variable {P:Program} {B:Array Obj} {m:Md P B} {K:Goroutine→Hp→Prop} {b:Frame} {l:List Value} {ds:List Deferred} {k:List Item} {cs:List Frame} {h:Hp}
theorem jhX {f:FuncId} {q q1:Nat} {fn:FuncId} {l0:List Value} {ps:Array Tmp} {a c:Code} {fr:Frame} {F E:Hp} (hh:h=F++⟨true,q,lrec fn l0 ps a c q1 .busy⟩::E) (n:m.R K (G (fr.finish (.bool false)) cs) (F++⟨true,q,jkQ fn l0 ps a c q1⟩::E)):
    m.R K (Gr (bR f q) l ds (.code .ret::k) (fr::cs)) h:=by
  subst hh
  have key:Tri P B (Instr.endRound q (some .ret)) (F++⟨true,q,lrec fn l0 ps a c q1 .busy⟩::E) fun j h'=>j= .bool false∧m.R K (G (fr.finish (.bool false)) cs) h':=by
    unfold Instr.endRound
    refine Tri.bind (Reads.tri (a:={state:= .busy,pending:=none,fn,tmps:=l0.toArray,params:=ps,assign:=a,body:=c,defers:=q1}) (Reads.bind (jbF (rw:=true) (o:=lrec fn l0 ps a c q1 .busy) (by simp) rfl) (Reads.pure _)) ?_)
    exact Tri.bind (jbK (o':=jkQ fn l0 ps a c q1) rfl rfl (Tri.pure ⟨rfl,n⟩))
  refine m.step (K':=fun g' h'=>m.R K g' h') ⟨rfl,fun w sw=>?_⟩ fun g' h' x=>x
  obtain ⟨j,w',h',hr,st',rfl,n'⟩:=key w sw
  refine ⟨_,w',seen P f ((Instr.endRound q (some .ret)).events P w #[]),h',?_,st'.events fun e he=>jbT _ _ _ e he,n'⟩
  simp [Gr,Fr,G,stepG,stepG.exec,bR,bF,hr,GStep.after,doReturn]
theorem jhi {q q1:Nat} {fn:FuncId} {l0:List Value} {ps:Array Tmp} {a c:Code} {F E:Hp} (hh:h=F++⟨true,q,jkQ fn l0 ps a c q1⟩::E) (n:m.R K (Gr b l ds (.code .ret::k) cs) (F++E)):
    m.R K (Gr b l ds (.endRangeFunc q::k) cs) h:=by
  subst hh
  have key:Tri P B (Instr.endLoop q) (F++⟨true,q,jkQ fn l0 ps a c q1⟩::E) fun j h'=>j=some .ret∧m.R K (Gr b l ds (.code .ret::k) cs) h':=by
    unfold Instr.endLoop
    refine Tri.bind (Reads.tri (a:={state:= .done,pending:=some .ret,fn,tmps:=l0.toArray,params:=ps,assign:=a,body:=c,defers:=q1}) (Reads.bind (jbF (rw:=true) (o:=jkQ fn l0 ps a c q1) (by simp) rfl) (Reads.pure _)) ?_)
    have hb:(LoopState.done==LoopState.busy)=false:=rfl
    simp only [hb,Bool.false_eq_true,if_false]
    refine Tri.bind (jbK rfl rfl (Tri.pure ⟨rfl,m.weak (Weak.sub ?_) n⟩))
    exact List.Sublist.append_left (List.sublist_cons_self _ _) _
  refine m.step (K':=fun g' h'=>m.R K g' h') ⟨rfl,fun w sw=>?_⟩ fun g' h' x=>x
  obtain ⟨j,w',h',hr,st',rfl,n'⟩:=key w sw
  refine ⟨_,w',seen P b.fn ((Instr.endLoop q).events P w #[]),h',?_,st'.events fun e he=>jbT _ _ _ e he,n'⟩
  simp [Gr,Fr,G,stepG,stepG.exec,hr,GStep.after]
end
end Go.Lo
