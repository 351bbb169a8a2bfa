/- A part of the proof of a law. Condition of each theorem: as its statement says. -/
import Derived.Test.YtkaokkedapnfhaaGreatDoorVB1
import Derived.Test.YtkaokkedapnfhaaGreatDoorProg
import Derived.Sort.Walk0
import Derived.Conc.TokenTrace
import Derived.Conc.JoinTrace
import Derived.Conc.CrowdSel
import Derived.Conc.QuitsD
import Derived.Conc.Pipeline3
import Derived.Conc.Holds
set_option linter.all false
variable {v z:Go.Value} {vs cs l zs l' ws l0 junk l'':List Go.Value} {n off b k e q lo q1 n':Nat} {ps:Array Go.Tmp} {s:List UInt8} {pl:List (Nat×Nat)} {P:Go.Program} {B:Array Go.Obj} {ops:Array Go.Oper} {S h h' H Pool Pool' Shp:Go.Lo.Hp} {C:List Go.Value→Go.Lo.Hp→Prop} {kd:Go.Lo.Kd} {r:List (Nat×Go.Lo.Kd)} {d:Option Go.Tmp} {ty t u:Go.TypeId} {pos:String} {af:Array Go.Edge} {g:Option (Nat×Bool)} {parts:List (Nat×Go.Value)} {f:Nat×Nat} {y:Go.Operand} {todo:List Go.Item} {K:Go.Goroutine→Go.Lo.Hp→Prop} {args:List Go.Operand} {ats:Array Go.TypeId} {Post Post':Go.Value→Go.Lo.Hp→Prop} {p:Option Go.Addr} {xs:List Int} {ll:List (List Int)} {ik k':Go.IntKind} {first:Array Go.Value} {ds:List Go.Deferred} {ms L:List Nat} {Sh old:Nat→Prop} {la wa:Go.Addr} {gs:Array Go.Goroutine}
set_option maxRecDepth 100000
namespace Go.Lo
open Go.Conc (G)
class LenIs (vs:List Value) (n:Nat):Prop where
  eq:vs.length=n
instance:LenIs [] 0:=⟨rfl⟩
instance [s:LenIs vs n]:LenIs (v::vs) (n+1):=⟨by simp [s.eq]⟩
theorem jof: ∀(vs:List Value) (j off:Nat) (cs:List Value),off+j+vs.length≤cs.length→
    (vs.zipIdx j).foldl (fun (cs:Array Value) (p:Value×Nat)=>cs.setIfInBounds (off+p.2) p.1) cs.toArray=(cs.take (off+j)++vs++cs.drop (off+j+vs.length)).toArray
  |[],j,off,cs,_=>by simp
  |v::vs,j,off,cs,h=>by
    simp only [gY] at h
    have hlt:off+j<cs.length:=by omega
    rw [List.zipIdx_cons,VX];have e:(cs.toArray.setIfInBounds (off+j) v)=(cs.set (off+j) v).toArray:=by simp
    simp only [e]
    rw [jof vs (j+1) off _ zN];congr 1
    rw [show off+(j+1)=off+j+1 by omega];simp only [gY]
    rw [show off+j+(vs.length+1)=off+j+1+vs.length by omega,List.drop_set_of_lt zO,vu (by simpa using hlt)];simp [VV]
theorem jl7 {place:Nat→Option (Nat×Nat)} {j size:Nat} {ps:List (Nat×Value)} (hp:place j=some (off,size)) (hv:v.cells=vs.toArray) (hs:vs.length=size) (ho:off+vs.length≤cs.length):
    Instr.fill place cs.toArray ((j,v)::ps)=Instr.fill place (cs.take off++vs++cs.drop (off+vs.length)).toArray ps:=by
  simp only [Instr.fill,hp,hv]
  have:(decide (vs.toArray.size≠size)||decide (off+vs.toArray.size>cs.toArray.size))=false:=by simp [hs];omega
  rw [if_neg (by simpa using this)];congr 1
  have:=jof vs 0 off cs (by simpa using ho)
  rw [←Vb];simp only [vg] at this
  rw [←this];simp
class PlAt (pl:List (Nat×Nat)) (j:Nat) (off size:outParam Nat):Prop where
  eq:pl[j]?=some (off,size)
instance {o s:Nat} {l:List (Nat×Nat)}:PlAt ((o,s)::l) 0 o s:=⟨rfl⟩
instance {o s j:Nat} {x:Nat×Nat} {l:List (Nat×Nat)} [p:PlAt l j o s]:PlAt (x::l) (j+1) o s:=⟨by simpa using p.eq⟩
class FillS (pl:List (Nat×Nat)) (zs:List Value) (parts:List (Nat×Value)) (out:outParam (List Value)):Prop where
  eq:jrD pl zs parts=some out.toArray
instance:FillS pl zs [] zs:=⟨rfl⟩
instance {zs' out:List Value} {j size:Nat} {ps:List (Nat×Value)} [p:PlAt pl j off size] [c:CellsV v vs] [n:LenIs vs size] [s:SetSeg zs off vs zs'] [f:FillS pl zs' ps out]:FillS pl zs ((j,v)::ps) out:=⟨by
  have:=f.eq
  unfold jrD at this⊢
  rw [jl7 p.eq c.eq n.eq s.eq.2,←s.eq.1];exact this⟩
class AppL (a b:List Value) (c:outParam (List Value)):Prop where
  eq:a++b=c
instance {b:List Value}:AppL [] b b:=⟨rfl⟩
instance {x:Value} {a b c:List Value} [s:AppL a b c]:AppL (x::a) b (x::c):=⟨by simp [s.eq]⟩
class PartsL (k s:Nat) (parts:List (Nat×Value)) (cs:outParam (List Value)):Prop where
  eq: ∀pre rest:List Value,pre.length=s*k→rest.length=parts.length*k→Instr.fill (fun j=>some (j*k,k)) (pre++rest).toArray parts=some (pre++cs).toArray
instance {s:Nat}:PartsL k s [] []:=⟨fun pre rest _ hr=>by
  have:rest=[]:=GO.1 (by simpa using hr)
  subst this;rfl⟩
instance {s:Nat} {ps:List (Nat×Value)} {out:List Value} [c:CellsV v vs] [n:LenIs vs k] [f:PartsL k (s+1) ps cs] [a:AppL vs cs out]:PartsL k s ((s,v)::ps) out:=⟨fun pre rest hp hr=>by
  have hn:=n.eq
  simp only [gY,Gc,xU] at hr
  rw [jl7 rfl c.eq hn zN];have e:(pre++rest).take (s*k)++vs++(pre++rest).drop (s*k+vs.length)=(pre++vs)++rest.drop k:=by
    rw [←hp,List.take_left,List.drop_append];simp [hn]
  rw [e,f.eq (pre++vs) (rest.drop k) (by simp [hp,hn,Gc]) zN,gG,a.eq]⟩
section
variable {m:Md P B} {i:Nat}
theorem k_bld {ps:List (Nat×Operand)} (ho:ops[i]?=some ⟨d,.build t ps.toArray,ty,pos,af,g⟩) (hw:Wt ops l g) [KHeap kd S h H] [a:PartsV l ps parts] [StructT P t pl] [ZeroT P t (.agg zs.toArray)]
    [f:FillS pl zs parts cs] [PutV l d (.agg cs.toArray) l'] (n:RegK m S ops r l' h C):RegK m S ops ((i,kd)::r) l h C:=k_build ho hw f.eq n
theorem jcb {t len:Nat} {ps:List (Nat×Operand)} (hk:kd= .free∨(kd= .keep∧S.Sublist h)) (ho:ops[i]?=some ⟨d,.buildSlice t len ps.toArray,ty,pos,af,g⟩) (hw:Wt ops l g) [a:PartsV l ps parts] [SliceT P t e k] [zt:ZeroT P e z] [f:PartsL k 0 parts cs]
    (hs:len*k≤2^24) (h0:len*k≠0) (hp:parts.length=len) (n: ∀q,RegK m S ops r (put l d (.slice (some ⟨q,0,none⟩) len len)) (h++[⟨true,q,.cells cs.toArray e (0,0)⟩]) C):RegK m S ops ((i,kd)::r) l h C:=by
  refine k_bsl hk ho hw hs ?_ n
  rw [if_neg h0];have:=f.eq [] (zrep z.cells (len*k)).toList zS (by simp [zrep,hp])
  simpa using this
theorem jfa {t:Nat} (hk:kd= .free∨(kd= .keep∧S.Sublist h)) (ho:ops[i]?=some ⟨d,.buildSlice t 0 #[],ty,pos,af,g⟩) (hw:Wt ops l g) [SliceT P t e k] [zt:ZeroT P e z]
    (n: ∀q,RegK m S ops r (put l d (.slice (some ⟨q,0,none⟩) 0 0)) (h++[⟨true,q,.cells ([]:List Value).toArray e (0,0)⟩]) C):RegK m S ops ((i,kd)::r) l h C:=
  k_bsl (ps:=[]) (parts:=[]) (cs:=[]) hk ho hw (a:=⟨rfl⟩) zS (by simp [Instr.fill]) n
end
class AppH (a b:Hp) (c:outParam Hp):Prop where
  eq:a++b=c
instance (priority:=low) {f b:Hp}:AppH f b (f++b):=⟨rfl⟩
instance [s:SubH S h]:KSub .keep S h:=⟨.inl ⟨rfl,s.sub⟩⟩
theorem jaa {a b:Hp} [s:SubH a b]:Weak B b a:=Weak.sub s.sub
theorem OwnS.rd' {t:Nat} {new:Hp} (o:OwnS t k v n cs new) [s:SubH new h]:RdS B h k v n cs:=o.rd s.sub
theorem jeH {c t:Nat} {rw:Bool} {ys:List Value} [x:Has h q rw (.cells ys.toArray t f)] (hl:ys.length=n*k):RdS B h k (.slice (some ⟨q,0,none⟩) n c) n ys:=
  ⟨_,c,rfl,hl,.inr ⟨q,0,rfl,fun j hj=>by
    rw [GD];refine Rd.held x.mem ?_
    rw [gZ,gC,gD hj];rfl⟩⟩
section
variable {m:Md P B} {i:Nat}
theorem jaG {a b:Hp} [s:AppH a b h'] (n:RegK m S ops r l h' C):RegK m S ops r l (a++b) C:=by rw [s.eq];exact n
theorem k_app1 {t t2 t3 by' c:Nat} {x:Operand} {s:Value} {mm:Nat} {rw:Bool} {ys:List Value} {F new:Hp} (ho:ops[i]?=some ⟨d,.call ⟨.builtin .append,[x,y].toArray,#[t,t2]⟩,ty,pos,af,g⟩) (hg:Wt ops l g)
    [ex:OpV l x s] [ey:OpV l y (.slice (some ⟨q,0,none⟩) mm c)] [SliceT P t e k] [SliceT P t2 e k] [ElemT P e k by'] [hh:Has h q rw (.cells ys.toArray t3 f)] [on:Ones ys] (hy:ys.length=mm*k) (o:OwnS e k s n cs new) [w:SubH (F++new) h] (hk:kd= .free∨(kd= .keep∧S.Sublist F)) (hb:2*(n+mm)*by'≤2^48) (hmax:n+mm≤2^62)
    (cc: ∀v' new',OwnS e k v' (n+mm) (cs++ys) new'→RegK m S ops r (put l d v') (F++new') C):RegK m S ops ((i,kd)::r) l h C:=
  jgQ ho hg jaa o (jeH hy) on.one hk hb hmax cc
end
theorem sq {a b c:Hp} [s:SubH a b] (h:b.Sublist c):a.Sublist c:=s.sub.trans h
class HK (kd:Kd) (S h:Hp):Prop where
  eq:kd= .free∨(kd= .keep∧S.Sublist h)
instance:HK .free S h:=⟨.inl rfl⟩
instance [s:SubH S h]:HK .keep S h:=⟨.inr ⟨rfl,s.sub⟩⟩
theorem kdq [k:HK kd S h]:kd= .free∨(kd= .keep∧S.Sublist h):=k.eq
section
variable {m:Md P B} {i:Nat} {x:Operand}
theorem mq (ho:ops[i]?=some ⟨d,.move x,ty,pos,af,none⟩) [KHeap kd S h H] [e:OpV l x v] [PutV l d v l'] (n:RegK m S ops r l' h C):RegK m S ops ((i,kd)::r) l h C:=k_mv ho trivial n
theorem aq (ho:ops[i]?=some ⟨d,.assign x,ty,pos,af,none⟩) [KHeap kd S h H] [e:OpV l x v] [PutV l d v l'] (n:C l' h):RegK m S ops [(i,kd)] l h C:=k_as ho trivial (k_nil n)
end
abbrev uu6:List Value:=undef::undef::undef::undef::undef::undef::[]
abbrev uu7:List Value:=undef::uu6
abbrev uu8:List Value:=undef::uu7
abbrev uu9:List Value:=undef::uu8
abbrev uu10:List Value:=undef::uu9
abbrev uu11:List Value:=undef::uu10
abbrev uu12:List Value:=undef::uu11
abbrev uu13:List Value:=undef::uu12
abbrev uu14:List Value:=undef::uu13
abbrev uu15:List Value:=undef::uu14
abbrev uu16:List Value:=undef::uu15
abbrev uu17:List Value:=undef::uu16
abbrev uu18:List Value:=undef::uu17
abbrev uu19:List Value:=undef::uu18
abbrev uu20:List Value:=undef::uu19
abbrev uu21:List Value:=undef::uu20
abbrev uu22:List Value:=undef::uu21
abbrev uu23:List Value:=undef::uu22
abbrev uu24:List Value:=undef::uu23
abbrev uu26:List Value:=undef::undef::uu24
abbrev uu27:List Value:=undef::uu26
abbrev uu28:List Value:=undef::uu27
abbrev uu29:List Value:=undef::uu28
abbrev uu30:List Value:=undef::uu29
abbrev uu31:List Value:=undef::uu30
abbrev uu32:List Value:=undef::uu31
abbrev uu33:List Value:=undef::uu32
abbrev uu34:List Value:=undef::uu33
abbrev uu37:List Value:=undef::undef::undef::uu34
abbrev uu38:List Value:=undef::uu37
abbrev uu39:List Value:=undef::uu38
abbrev uu40:List Value:=undef::uu39
abbrev uu41:List Value:=undef::uu40
abbrev uu45:List Value:=undef::undef::undef::undef::uu41
abbrev uu46:List Value:=undef::uu45
abbrev uu47:List Value:=undef::uu46
abbrev uu51:List Value:=undef::undef::undef::undef::uu47
abbrev uu52:List Value:=undef::uu51
abbrev uu53:List Value:=undef::uu52
abbrev uu54:List Value:=undef::uu53
abbrev uu56:List Value:=undef::undef::uu54
abbrev uu57:List Value:=undef::uu56
abbrev uu58:List Value:=undef::uu57
abbrev uu60:List Value:=undef::undef::uu58
abbrev uu62:List Value:=undef::undef::uu60
abbrev uu64:List Value:=undef::undef::uu62
abbrev uu67:List Value:=undef::undef::undef::uu64
abbrev uu71:List Value:=undef::undef::undef::undef::uu67
abbrev uu72:List Value:=undef::uu71
abbrev uu73:List Value:=undef::uu72
abbrev uu76:List Value:=undef::undef::undef::uu73
abbrev uu77:List Value:=undef::uu76
abbrev uu80:List Value:=undef::undef::undef::uu77
abbrev uu81:List Value:=undef::uu80
abbrev uu83:List Value:=undef::undef::uu81
abbrev uu93:List Value:=undef::undef::undef::undef::undef::undef::undef::undef::undef::undef::uu83
abbrev uu94:List Value:=undef::uu93
abbrev uu115:List Value:=undef::undef::undef::undef::undef::undef::undef::undef::undef::undef::undef::undef::undef::undef::undef::undef::undef::undef::undef::undef::undef::uu94
abbrev uu119:List Value:=undef::undef::undef::undef::uu115
abbrev jpO:List Value:=undef::undef::undef::undef::undef::undef::undef::undef::undef::undef::undef::uu119
abbrev uu164:List Value:=undef::undef::undef::undef::undef::undef::undef::undef::undef::undef::undef::undef::undef::undef::undef::undef::undef::undef::undef::undef::undef::undef::undef::undef::undef::undef::undef::undef::undef::undef::undef::undef::undef::undef::jpO
abbrev uu320:List Value:=undef::undef::undef::undef::undef::undef::undef::undef::undef::undef::undef::undef::undef::undef::undef::undef::undef::undef::undef::undef::undef::undef::undef::undef::undef::undef::undef::undef::undef::undef::undef::undef::undef::undef::undef::undef::undef::undef::undef::undef::undef::undef::undef::undef::undef::undef::undef::undef::undef::undef::undef::undef::undef::undef::undef::undef::undef::undef::undef::undef::undef::undef::undef::undef::undef::undef::undef::undef::undef::undef::undef::undef::undef::undef::undef::undef::undef::undef::undef::undef::undef::undef::undef::undef::undef::undef::undef::undef::undef::undef::undef::undef::undef::undef::undef::undef::undef::undef::undef::undef::undef::undef::undef::undef::undef::undef::undef::undef::undef::undef::undef::undef::undef::undef::undef::undef::undef::undef::undef::undef::undef::undef::undef::undef::undef::undef::undef::undef::undef::undef::undef::undef::undef::undef::undef::undef::undef::undef::undef::undef::undef::undef::undef::undef::undef::undef::undef::undef::undef::undef::undef::undef::undef::undef::undef::undef::uu164
class ResL (P:Program) (h:Hp) (l:List Value) (rs:List ResultVar) (vs:outParam (List Value)):Prop where
  eq: ∀B,Reads P B (rs.mapM (m:=Sem) fun| .tmp t=>pure (l.toArray.getD t undef)| .cell a t=>do loadVar t (←asAddr (l.toArray.getD a undef))) h vs
instance:ResL P h l [] []:=⟨fun _=>Reads.pure _⟩
theorem jiH {t:Nat} (s:l.getD t undef=v):l.toArray.getD t undef=v:=by
  rw [←s,gf,gZ,←gC]
instance {t:Nat} {rs:List ResultVar} [s:Slot l t v] [r:ResL P h l rs vs]:ResL P h l (.tmp t::rs) (v::vs):=⟨fun B=>by
  rw [xR];refine Reads.bind (a:=v) (by simp only [jiH s.eq];exact Reads.pure _) ?_
  exact Reads.bind (r.eq B) (Reads.pure _)⟩
instance {a t o t':Nat} {rw:Bool} {rs:List ResultVar} [s:Slot l a (.pointer (some ⟨b,o,none⟩))] [AggT P t n] [q:Has h b rw (.cells cs.toArray t' f)] [g:Seg cs o n ws] [r:ResL P h l rs vs]:
    ResL P h l (.cell a t::rs) (.agg ws.toArray::vs):=⟨fun B=>by
  rw [xR];refine Reads.bind (a:= .agg ws.toArray) ?_ ?_
  · simp only [jiH s.eq]
    exact Reads.bind (a:=⟨b,o,none⟩) (Reads.pure _) (jjJ g.eq.2 (jlI q.mem g.eq))
  · exact Reads.bind (r.eq B) (Reads.pure _)⟩
instance {a t o t':Nat} {rw:Bool} {rs:List ResultVar} [s:Slot l a (.pointer (some ⟨b,o,none⟩))] [Scal P t] [q:Has h b rw (.cells cs.toArray t' f)] [g:At cs o v] [r:ResL P h l rs vs]:
    ResL P h l (.cell a t::rs) (v::vs):=⟨fun B=>by
  rw [xR];refine Reads.bind (a:=v) ?_ ?_
  · simp only [jiH s.eq]
    exact Reads.bind (a:=⟨b,o,none⟩) (Reads.pure _) (jjK (Rd.held q.mem (by simpa using g.eq)))
  · exact Reads.bind (r.eq B) (Reads.pure _)⟩
class ResV (vs:List Value) (v:outParam Value):Prop where
  eq:(if h:vs.toArray.size=1 then vs.toArray[0] else .tuple vs.toArray)=v
instance:ResV [v] v:=⟨rfl⟩
instance:ResV [] (.tuple [].toArray):=⟨rfl⟩
instance {w:Value}:ResV (v::w::vs) (.tuple (v::w::vs).toArray):=⟨by simp⟩
theorem jlD {fn:Func} {rs:List ResultVar} (hr:fn.results=rs.toArray) [r:ResL P h l rs vs] [e:ResV vs v]:Reads P B (results fn l.toArray) h v:=by
  unfold results
  rw [hr,Array.mapM_eq_mapM_toList,map_eq_pure_bind];refine Reads.bind (Reads.bind (r.eq B) (Reads.pure _)) ?_
  rw [e.eq];exact Reads.pure _
section
variable {m:Md P B} {i:Nat}
theorem jac {b:Frame} {c:Frame} {cs:List Frame} {fn:Func} {rs:List ResultVar} (h':Hp) (hk:b.kind= .normal) (hf:P.funcs[b.fn]?=some fn) (hr:fn.results=rs.toArray) [ResL P h l rs vs] [ResV vs v] (w:Weak B h h')
    (n:m.R K (G (c.finish v) cs) h'):m.R K (jeV b l [] todo (c::cs)) h:=joN hk hf (jlD hr) (m.weak w n)
theorem jbt {f:FuncId} (ho:ops[i]?=some ⟨d,.call ⟨.value (.func f),args.toArray,ats⟩,ty,pos,af,g⟩) (hw:Wt ops l g)
    [ea:ArgsV l args vs] (hf:jbM P f=true) (c:FnC m f vs.toArray h Post) (n: ∀v h',Post v h'→RegK m S ops r (put l d v) h' C):RegK m S ops ((i,.free)::r) l h C:=
  k_call (ex:=(⟨rfl⟩:OpV l (.func f) (.func (.func f) #[] #[]))) ho hw hf (by simpa using c) n
theorem jaJ {f:FuncId} (ho:ops[i]?=some ⟨d,.call ⟨.value (.func f),args.toArray,ats⟩,ty,pos,af,g⟩) (hw:Wt ops l g) [kb:KBase kd S h H]
    [ea:ArgsV l args vs] (hf:jbM P f=true) (c: ∀H':Hp,H.Sublist H'→FnC m f vs.toArray H' fun v h'=> ∃new,h'=H'++new∧Post v new) (n: ∀v new,Post v new→RegK m S ops r (put l d v) (h++new) C):RegK m S ops ((i,kd)::r) l h C:=
  jrj (ex:=(⟨rfl⟩:OpV l (.func f) (.func (.func f) #[] #[]))) ho hw hf (by simpa using c) n
theorem jag {f:FuncId} {Post:Value→Prop} (ho:ops[i]?=some ⟨d,.call ⟨.value (.func f),args.toArray,ats⟩,ty,pos,af,g⟩) (hw:Wt ops l g) [kb:KBase kd S h H]
    [ea:ArgsV l args vs] (hf:jbM P f=true) (c: ∀H':Hp,H.Sublist H'→FnC m f vs.toArray H' fun v h'=>h'=H'∧Post v) (n: ∀v,Post v→RegK m S ops r (put l d v) h C):RegK m S ops ((i,kd)::r) l h C:=
  jaJ (Post:=fun v new=>new=[]∧Post v) ho hw hf (fun H' hs=>CallF.mono (c H' hs) fun v h' ⟨e,p⟩=>⟨[],by simp [e],rfl,p⟩) fun v new ⟨e,p⟩=>by subst e;simpa using n v p
end
theorem exU {f:(Nat→Value)→List Value} (h:l=f fun i=>l.getD i undef): ∃U,l=f U:=⟨_,h⟩
def IsB (p:Prop) (v:Value):Prop:=(p∧v= .bool true)∨(¬p∧v= .bool false)
theorem IsB.iff {p q:Prop} (e:p↔q) (h:IsB p v):IsB q v:=h.imp (fun ⟨a,b⟩=>⟨e.1 a,b⟩) fun ⟨a,b⟩=>⟨fun x=>a (e.2 x),b⟩
theorem IsB.yes {p:Prop} (h:p):IsB p (.bool true):= .inl ⟨h,rfl⟩
theorem IsB.no {p:Prop} (h: ¬p):IsB p (.bool false):= .inr ⟨h,rfl⟩
end Go.Lo
namespace Go.Proofs
open Go.Lo
instance:Scal Tryz.prog 3:=⟨by kernel_rfl⟩
instance:ZeroT Tryz.prog 3 (.int .i64 0):=⟨by kernel_rfl⟩
instance:ElemT Tryz.prog 3 1 8:=⟨by kernel_rfl⟩
instance:IntT Tryz.prog 3 .i64:=⟨by kernel_rfl⟩
instance:Scal Tryz.prog 4:=⟨by kernel_rfl⟩
instance:ZeroT Tryz.prog 4 (.bool false):=⟨by kernel_rfl⟩
instance:Scal Tryz.prog 5:=⟨by kernel_rfl⟩
instance:ElemT Tryz.prog 5 1 1:=⟨by kernel_rfl⟩
instance:IntT Tryz.prog 5 .u8:=⟨by kernel_rfl⟩
instance:Scal Tryz.prog 9:=⟨by kernel_rfl⟩
instance:ZeroT Tryz.prog 9 (.string ⟨#[]⟩):=⟨by kernel_rfl⟩
instance:ElemT Tryz.prog 9 1 16:=⟨by kernel_rfl⟩
instance:IntT Tryz.prog 21 .i32:=⟨by kernel_rfl⟩
instance:Scal Tryz.prog 22:=⟨by kernel_rfl⟩
instance:SliceT Tryz.prog 22 9 1:=⟨by kernel_rfl⟩
instance:Scal Tryz.prog 23:=⟨by kernel_rfl⟩
instance:SliceT Tryz.prog 23 114 2:=⟨by kernel_rfl⟩
instance:AggT Tryz.prog 25 4:=⟨by kernel_rfl⟩
instance:ZeroT Tryz.prog 25 (.agg [.int .i64 0,.slice none 0 0,.slice none 0 0,.slice none 0 0].toArray):=⟨by kernel_rfl⟩
instance:StructT Tryz.prog 25 [(0,1),(1,1),(2,1),(3,1)]:=⟨by kernel_rfl⟩
instance:FieldT Tryz.prog 25 0 0 3:=⟨by kernel_rfl⟩
instance:FieldT Tryz.prog 25 1 1 22:=⟨by kernel_rfl⟩
instance:FieldT Tryz.prog 25 2 2 23:=⟨by kernel_rfl⟩
instance:FieldT Tryz.prog 25 3 3 23:=⟨by kernel_rfl⟩
instance:Scal Tryz.prog 26:=⟨by kernel_rfl⟩
instance:ZeroT Tryz.prog 26 (.slice none 0 0):=⟨by kernel_rfl⟩
instance:ElemT Tryz.prog 26 1 24:=⟨by kernel_rfl⟩
instance:SliceT Tryz.prog 26 3 1:=⟨by kernel_rfl⟩
instance:AggT Tryz.prog 28 3:=⟨by kernel_rfl⟩
instance:ZeroT Tryz.prog 28 (.agg [.bool false,.int .i64 0,.int .i64 0].toArray):=⟨by kernel_rfl⟩
instance:ElemT Tryz.prog 28 3 24:=⟨by kernel_rfl⟩
instance:StructT Tryz.prog 28 [(0,1),(1,1),(2,1)]:=⟨by kernel_rfl⟩
instance:FieldT Tryz.prog 28 0 0 4:=⟨by kernel_rfl⟩
instance:FieldT Tryz.prog 28 1 1 3:=⟨by kernel_rfl⟩
instance:FieldT Tryz.prog 28 2 2 3:=⟨by kernel_rfl⟩
instance:AggT Tryz.prog 53 2:=⟨by kernel_rfl⟩
instance:ZeroT Tryz.prog 53 (.agg [.int .i64 0,.int .i64 0].toArray):=⟨by kernel_rfl⟩
instance:StructT Tryz.prog 53 [(0,1),(1,1)]:=⟨by kernel_rfl⟩
instance:FieldT Tryz.prog 53 0 0 3:=⟨by kernel_rfl⟩
instance:FieldT Tryz.prog 53 1 1 3:=⟨by kernel_rfl⟩
instance:Scal Tryz.prog 62:=⟨by kernel_rfl⟩
instance:ZeroT Tryz.prog 62 (.pointer none):=⟨by kernel_rfl⟩
instance:IntT Tryz.prog 64 .u64:=⟨by kernel_rfl⟩
instance:Scal Tryz.prog 65:=⟨by kernel_rfl⟩
instance:ZeroT Tryz.prog 65 (.int .u64 0):=⟨by kernel_rfl⟩
instance:ArrayT Tryz.prog 66 12 3 1:=⟨by kernel_rfl⟩
instance:AggT Tryz.prog 68 13:=⟨by kernel_rfl⟩
instance:ZeroT Tryz.prog 68 (.agg [.int .u64 0,.int .i64 0,.int .i64 0,.int .i64 0,.int .i64 0,.int .i64 0,.int .i64 0,.int .i64 0,.int .i64 0,.int .i64 0,.int .i64 0,.int .i64 0,.int .i64 0].toArray):=⟨by kernel_rfl⟩
instance:ElemT Tryz.prog 68 13 104:=⟨by kernel_rfl⟩
instance:StructT Tryz.prog 68 [(0,1),(1,12)]:=⟨by kernel_rfl⟩
instance:FieldT Tryz.prog 68 0 0 65:=⟨by kernel_rfl⟩
instance:FieldT Tryz.prog 68 1 1 66:=⟨by kernel_rfl⟩
instance:AggT Tryz.prog 71 4:=⟨by kernel_rfl⟩
instance:ZeroT Tryz.prog 71 (.agg [.int .i64 0,.slice none 0 0,.slice none 0 0,.slice none 0 0].toArray):=⟨by kernel_rfl⟩
instance:StructT Tryz.prog 71 [(0,4)]:=⟨by kernel_rfl⟩
instance:FieldT Tryz.prog 71 0 0 25:=⟨by kernel_rfl⟩
instance:Scal Tryz.prog 72:=⟨by kernel_rfl⟩
instance:SliceT Tryz.prog 72 28 3:=⟨by kernel_rfl⟩
instance:Scal Tryz.prog 73:=⟨by kernel_rfl⟩
instance:ArrayT Tryz.prog 74 12 26 1:=⟨by kernel_rfl⟩
instance:ZeroT Tryz.prog 76 (.agg [.int .i64 0,.slice none 0 0,.slice none 0 0,.slice none 0 0,.slice none 0 0,.map none,.int .i64 0,.int .i64 0,.int .i64 0,.int .i64 0,.int .i64 0,.int .i64 0,.int .i64 0,.int .i64 0,.int .i64 0,.int .i64 0,.int .i64 0,.int .i64 0,.slice none 0 0,.slice none 0 0,.slice none 0 0,.slice none 0 0,.slice none 0 0,.slice none 0 0,.slice none 0 0,.slice none 0 0,.slice none 0 0,.slice none 0 0,.slice none 0 0,.slice none 0 0].toArray):=⟨by kernel_rfl⟩
instance:StructT Tryz.prog 76 [(0,4),(4,1),(5,1),(6,12),(18,12)]:=⟨by kernel_rfl⟩
instance:FieldT Tryz.prog 76 0 0 71:=⟨by kernel_rfl⟩
instance:FieldT Tryz.prog 76 1 4 72:=⟨by kernel_rfl⟩
instance:FieldT Tryz.prog 76 2 5 73:=⟨by kernel_rfl⟩
instance:FieldT Tryz.prog 76 3 6 66:=⟨by kernel_rfl⟩
instance:FieldT Tryz.prog 76 4 18 74:=⟨by kernel_rfl⟩
instance:Scal Tryz.prog 88:=⟨by kernel_rfl⟩
instance:ZeroT Tryz.prog 88 (.slice none 0 0):=⟨by kernel_rfl⟩
instance:SliceT Tryz.prog 88 68 13:=⟨by kernel_rfl⟩
instance:SliceT Tryz.prog 90 105 2:=⟨by kernel_rfl⟩
instance:AggT Tryz.prog 93 2:=⟨by kernel_rfl⟩
instance:ZeroT Tryz.prog 93 (.agg [.pointer none,.slice none 0 0].toArray):=⟨by kernel_rfl⟩
instance:StructT Tryz.prog 93 [(0,1),(1,1)]:=⟨by kernel_rfl⟩
instance:FieldT Tryz.prog 93 0 0 62:=⟨by kernel_rfl⟩
instance:FieldT Tryz.prog 93 1 1 88:=⟨by kernel_rfl⟩
instance:ZeroT Tryz.prog 105 (.agg [.slice none 0 0,.slice none 0 0].toArray):=⟨by kernel_rfl⟩
instance:ElemT Tryz.prog 105 2 48:=⟨by kernel_rfl⟩
instance:StructT Tryz.prog 105 [(0,1),(1,1)]:=⟨by kernel_rfl⟩
instance:FieldT Tryz.prog 105 0 0 26:=⟨by kernel_rfl⟩
instance:FieldT Tryz.prog 105 1 1 26:=⟨by kernel_rfl⟩
instance:Scal Tryz.prog 107:=⟨by kernel_rfl⟩
instance:SliceT Tryz.prog 110 26 1:=⟨by kernel_rfl⟩
instance:AggT Tryz.prog 114 2:=⟨by kernel_rfl⟩
instance:ZeroT Tryz.prog 114 (.agg [.int .i64 0,.slice none 0 0].toArray):=⟨by kernel_rfl⟩
instance:ElemT Tryz.prog 114 2 32:=⟨by kernel_rfl⟩
instance:StructT Tryz.prog 114 [(0,1),(1,1)]:=⟨by kernel_rfl⟩
instance:FieldT Tryz.prog 114 0 0 3:=⟨by kernel_rfl⟩
instance:FieldT Tryz.prog 114 1 1 22:=⟨by kernel_rfl⟩
instance:AggT Tryz.prog 117 3:=⟨by kernel_rfl⟩
instance:ZeroT Tryz.prog 117 (.agg [.int .i64 0,.int .i64 0,.int .i64 0].toArray):=⟨by kernel_rfl⟩
instance:ArrayT Tryz.prog 117 3 3 1:=⟨by kernel_rfl⟩
instance:Scal Tryz.prog 131:=⟨by kernel_rfl⟩
instance:ZeroT Tryz.prog 131 (.nilFunc):=⟨by kernel_rfl⟩
instance:SliceT Tryz.prog 132 131 1:=⟨by kernel_rfl⟩
instance:Scal Tryz.prog 133:=⟨by kernel_rfl⟩
instance:AggT Tryz.prog 135 3:=⟨by kernel_rfl⟩
instance:ZeroT Tryz.prog 135 (.agg [.string ⟨#[]⟩,.bool false,.nilFunc].toArray):=⟨by kernel_rfl⟩
instance:FieldT Tryz.prog 135 1 1 4:=⟨by kernel_rfl⟩
instance:FieldT Tryz.prog 135 2 2 133:=⟨by kernel_rfl⟩
instance:AggT Tryz.prog 136 6:=⟨by kernel_rfl⟩
instance:ArrayT Tryz.prog 136 2 135 3:=⟨by kernel_rfl⟩
instance:Scal Tryz.prog 154:=⟨by kernel_rfl⟩
instance:ZeroT Tryz.prog 154 (.chan none):=⟨by kernel_rfl⟩
instance:IntT Tryz.prog 159 .u64:=⟨by kernel_rfl⟩
instance:FieldT Tryz.prog 161 2 0 159:=⟨by kernel_rfl⟩
instance:IntT Tryz.prog 162 .u32:=⟨by kernel_rfl⟩
instance:ZeroT Tryz.prog 164 (.agg [.int .u64 0,.int .u32 0].toArray):=⟨by kernel_rfl⟩
instance:FieldT Tryz.prog 164 1 0 161:=⟨by kernel_rfl⟩
instance:FieldT Tryz.prog 164 2 1 162:=⟨by kernel_rfl⟩
instance:Scal Tryz.prog 180:=⟨by kernel_rfl⟩
instance:Scal Tryz.prog 181:=⟨by kernel_rfl⟩
instance:ZeroT Tryz.prog 181 (.nilFunc):=⟨by kernel_rfl⟩
instance:Scal Tryz.prog 208:=⟨by kernel_rfl⟩
instance:Scal Tryz.prog 209:=⟨by kernel_rfl⟩
instance:SliceT Tryz.prog 209 5 1:=⟨by kernel_rfl⟩
instance:ZeroT Tryz.prog 211 (.agg [.pointer none,.slice none 0 0].toArray):=⟨by kernel_rfl⟩
instance:FieldT Tryz.prog 211 0 0 208:=⟨by kernel_rfl⟩
instance:FieldT Tryz.prog 211 1 1 209:=⟨by kernel_rfl⟩
instance:Scal Tryz.prog 218:=⟨by kernel_rfl⟩
instance:ZeroT Tryz.prog 218 (.int .u64 0):=⟨by kernel_rfl⟩
instance:IntT Tryz.prog 218 .u64:=⟨by kernel_rfl⟩
end Go.Proofs
namespace Go.Lo
open Go.Conc (G)
class Enc (α:Type) (k:outParam Nat) where
  enc:α→List Value
  len: ∀a,(enc a).length=k
  one: ∀a,∀u∈enc a,u.oneCell'=true
abbrev enc {α:Type} {k:Nat} [Enc α k]:α→List Value:=Enc.enc
def jay {α:Type} {k:Nat} [Enc α k]:List α→List Value
  |[]=>[]
  |a::r=>Enc.enc a++jay r
section
variable {α:Type} [Enc α k]
theorem jaW: ∀(xs:List α),(jay xs).length=xs.length*k
  |[]=>by simp [jay]
  |a::r=>by
    have:=jaW r
    simp only [jay,gJ,Enc.len,this,gY,Gc,xU]
    omega
theorem jaX: ∀(xs ys:List α),jay (xs++ys)=jay xs++jay ys
  |[],ys=>rfl
  |a::r,ys=>by simp [jay,jaX r ys]
theorem jdJ: ∀(xs:List α),∀u∈jay xs,u.oneCell'=true
  |[],u,h=>by simp [jay] at h
  |a::r,u,h=>by
    rcases gQ.1 h with h|h
    · exact Enc.one a u h
    · exact jdJ r u h
theorem jm5 [Inhabited α]: ∀(xs:List α) (i j:Nat),i<xs.length→j<k→(jay xs)[i*k+j]?=(Enc.enc (xs.getD i default))[j]?
  |[],i,j,h,_=>by simp at h
  |a::r,0,j,_,hj=>by
    simp only [jay,Nat.zero_mul,GD]
    rw [ge (by rw [Enc.len];exact hj)];rfl
  |a::r,i+1,j,h,hj=>by
    have:=jm5 r i j (by simpa using h) hj
    simp only [jay]
    rw [gm (by rw [Enc.len,Gc];omega),Enc.len];rw [show (i+1)*k+j-k=i*k+j by rw [Gc];omega,this];rfl
theorem jkW: ∀(xs:List α) (i:Nat),(jay xs).take (i*k)=jay (xs.take i)∧(jay xs).drop (i*k)=jay (xs.drop i)
  |[],i=>by simp [jay]
  |a::r,0=>by simp [jay]
  |a::r,i+1=>by
    obtain ⟨h1,h2⟩:=jkW r i
    have hl:(Enc.enc a).length=k:=Enc.len a
    have e:(i+1)*k=(Enc.enc a).length+i*k:=by rw [hl,Gc];omega
    refine ⟨?_,?_⟩
    · show (Enc.enc a++jay r).take ((i+1)*k)=Enc.enc a++jay (r.take i)
      rw [e,List.take_length_add_append,h1]
    · show (Enc.enc a++jay r).drop ((i+1)*k)=jay (r.drop i)
      rw [e,List.drop_length_add_append,h2]
theorem jmd (xs:List α) (i:Nat):jay (xs.take i)=(jay xs).take (i*k):=(jkW xs i).1.symm
theorem jiR (xs:List α) (i:Nat):jay (xs.drop i)=(jay xs).drop (i*k):=(jkW xs i).2.symm
theorem ja5 [Inhabited α] (xs:List α) (i:Nat) (h:i<xs.length):xs.take (i+1)=xs.take i++[xs.getD i default]:=by
  rw [Gg,gD h,gC,gD h];rfl
end
theorem take_snoc' (xs:List Int) (i:Nat) (h:i<xs.length):xs.take (i+1)=xs.take i++[xs.getD i 0]:=ja5 xs i h
theorem jaZ (xs ys:List Int):jaq (xs++ys)=jaq xs++jaq ys:=GA
theorem jdy (xs:List Int) (i:Nat):jaq (xs.take i)=(jaq xs).take i:=List.map_take
theorem jcy (xs:List Int) (i:Nat):jaq (xs.drop i)=(jaq xs).drop i:=List.map_drop
section
theorem RdS.up {ys:List Value} (r:RdS B h k v n ys) [s:SubH h H]:RdS B H k v n ys:=r.keeps s.sub
theorem RdS.len {c:Nat} {ys:List Value} (r:RdS B h k (.slice p n c) n ys):ys.length=n*k:=by
  obtain ⟨_,_,e,hl,_⟩:=r;exact hl
theorem RdS.ilen {c:Nat} (r:RdS B h 1 (.slice p n c) n (jaq xs)):xs.length=n:=by
  have:=r.len;simpa using this
theorem RdS.elen {α:Type} [Enc α k] {c:Nat} {xs:List α} (r:RdS B h k (.slice p n c) n (jay xs)) (hk:0<k):xs.length=n:=by
  have:=r.len
  rw [jaW] at this
  exact Nat.eq_of_mul_eq_mul_right hk this
theorem RdS.rdN {c:Nat} {o:Nat} {ys:List Value} (r:RdS B h k (.slice (some ⟨b,o,none⟩) n c) n ys):RdN B h b o ys:=by
  obtain ⟨p',c',e,hl,⟨rfl,e''⟩|⟨b',o',e',rd⟩⟩:=r
  · cases e
  · obtain ⟨rfl,_,rfl⟩:=Value.slice.inj e
    obtain ⟨rfl,rfl,_⟩:=Addr.mk.inj (gF e')
    exact rd
theorem RdS.iat {c o:Nat} (rd:RdS B h 1 (.slice (some ⟨b,o,none⟩) n c) n (jaq xs)) [s:SubH h H] {j:Int} (i:Nat) (hj:j=i) (hi:i<n):Rd B H ⟨b,o+j.toNat*1,none⟩ (.int .i64 (xs.getD i 0)):=by
  have hl:=rd.ilen
  have:=rd.rdN i (by simpa [hl] using hi)
  rw [hj,gb,GK];rw [gC,ga,gD zO] at this
  rw [gC,gD zO];exact this.keeps s.sub
theorem RdS.fat {α:Type} [Enc α k] [Inhabited α] {c o:Nat} {xs:List α} (rd:RdS B h k (.slice (some ⟨b,o,none⟩) n c) n (jay xs)) [s:SubH h H] {j:Int} (i:Nat) (f:Nat) (hj:j=i) (hi:i<n) (hv:(Enc.enc (xs.getD i default))[f]?=some v):Rd B H ⟨b,o+j.toNat*k+f,none⟩ v:=by
  have hf:f<k:=by
    have:=(vH.1 hv).1
    rwa [Enc.len] at this
  have hl:=rd.elen zO
  have hlt:i*k+f<(jay xs).length:=by
    rw [jaW,hl];have:(i+1)*k≤n*k:=GP k hi
    rw [Gc] at this
    omega
  have:=rd.rdN (i*k+f) hlt
  rw [gC,jm5 xs i f zO hf,hv] at this
  rw [hj,gb,VA];exact this.keeps s.sub
theorem RdS.eat {α:Type} [Enc α k] [Inhabited α] {c o:Nat} {xs:List α} (rd:RdS B h k (.slice (some ⟨b,o,none⟩) n c) n (jay xs)) [s:SubH h H] {j:Int} (i:Nat) (hj:j=i) (hi:i<n):RdN B H b (o+j.toNat*k) (Enc.enc (xs.getD i default)):=fun f hf=>by
  refine rd.fat i f hj hi ?_
  have: ∀(l:List Value),f<l.length→l[f]?=some (l.getD f undef):=fun l hl=>by
    rw [gC,gD hl];rfl
  exact this _ hf
end
theorem jqX {α:Type} [Inhabited α] {xs:List α} {x:α}:x∈xs↔ ∃i,i<xs.length∧xs.getD i default=x:=by
  rw [GE];constructor
  · rintro ⟨i,h,e⟩;exact ⟨i,h,by rw [gC,gD h];exact e⟩
  · rintro ⟨i,h,e⟩;exact ⟨i,h,by rw [gC,gD h] at e;exact e⟩
section
theorem RdS.vat {c o:Nat} {ys:List Value} (rd:RdS B h 1 (.slice (some ⟨b,o,none⟩) n c) n ys) [s:SubH h H] {j:Int} (i:Nat) (hj:j=i) (hi:i<n):Rd B H ⟨b,o+j.toNat*1,none⟩ (ys.getD i undef):=by
  have hl:=rd.len
  have:=rd.rdN i zO
  rw [hj,gb,GK];exact this.keeps s.sub
def CapV (u:Value):Prop:= ∀p n c,u= .slice p n c→n≤c
def RdE (B:Array Obj) (h:Hp) (vs:List Value) (ll:List (List Int)):Prop:=
  (vs.length=ll.length∧ ∀u∈vs,CapV u)∧ ∀i,i<ll.length→ ∃p c,vs.getD i undef= .slice p (ll.getD i []).length c∧RdS B h 1 (.slice p (ll.getD i []).length c) (ll.getD i []).length (jaq (ll.getD i []))
theorem RdE.keeps (r:RdE B h vs ll) (s:h.Sublist H):RdE B H vs ll:=
  ⟨r.1,fun i hi=>by obtain ⟨p,c,e,rd⟩:=r.2 i hi;exact ⟨p,c,e,rd.keeps s⟩⟩
theorem RdE.nil:RdE B h [] []:=⟨⟨rfl,fun u hu=>by simp at hu⟩,fun i hi=>by simp at hi⟩
theorem RdE.snoc {vs:List Value} {ll:List (List Int)} {p:Option Addr} {c n:Nat} {xs:List Int} (r:RdE B h vs ll) (hn:n=xs.length) (rd:RdS B h 1 (.slice p n c) n (jaq xs)) (hc:n≤c):RdE B h (vs++[.slice p n c]) (ll++[xs]):=by
  subst hn
  refine ⟨⟨by simp [r.1.1],fun u hu=>?_⟩,fun i hi=>?_⟩
  · rcases gQ.1 hu with hu|hu
    · exact r.1.2 u hu
    · rw [gr.1 hu];intro p' n' c' e
      obtain ⟨_,rfl,rfl⟩:=Value.slice.inj e
      exact hc
  have hl:=r.1.1
  simp only [gJ,gY,vk] at hi
  rcases Gf i ll.length with h1|h1
  · obtain ⟨p',c',e,rd'⟩:=r.2 i h1
    refine ⟨p',c',?_,?_⟩<;>simp only [gC] at e rd'⊢ <;>rw [ge h1]
    · rw [ge zO];exact e
    · exact rd'
  · obtain rfl:i=ll.length:=by omega
    refine ⟨p,c,?_,?_⟩<;>simp only [gC]<;>rw [gm (gL _),VM]
    · rw [←hl,gm (gL _),VM];rfl
    · exact rd
theorem RdE.cap (r:RdE B h vs ll) {i:Nat} (hi:i<ll.length) {c:Nat} (e:vs.getD i undef= .slice p n c):n≤c:=by
  have hl:=r.1.1
  refine r.1.2 (vs.getD i undef) ?_ p n c e
  rw [gC,gD zO];exact Gn _
theorem RdE.ones (r:RdE B h vs ll): ∀u∈vs,u.oneCell'=true:=by
  intro u hu
  obtain ⟨i,hi,rfl⟩:=GE.1 hu
  obtain ⟨p,c,e,_⟩:=r.2 i (by rw [←r.1.1];exact hi)
  rw [gC,gD hi] at e
  have e':vs[i]= .slice p _ c:=e
  rw [e'];rfl
end
theorem OwnS.zero {t:Nat}:OwnS t k (.slice (some ⟨q,0,none⟩) 0 0) 0 [] [⟨true,q,.cells ([]:List Value).toArray t (0,0)⟩]:=
  .blk (cs:=[]) (junk:=[]) zS zS (gL _)
theorem Weak.mid (A w C:Hp):Weak B ((A++w)++C) ((A++C)++w):=Weak.perm (by
  rw [gG,gG];exact Gz A vI)
section
variable {i:Nat}
end
def jmt (k:Nat) (p:Option Addr) (c lo:Nat):Option Addr:=if c=lo then p else p.map fun a=>a.add (lo*k)
def OkP (p:Option Addr):Prop:=p=none∨ ∃b o,p=some ⟨b,o,none⟩
section
theorem RdS.okp {c:Nat} {ys:List Value} (rd:RdS B h k (.slice p n c) n ys):OkP p:=by
  obtain ⟨p',c',e,_,⟨rfl,_⟩|⟨b,o,rfl,_⟩⟩:=rd
  · exact .inl (Value.slice.inj e).1
  · exact .inr ⟨b,o,(Value.slice.inj e).1⟩
theorem jrQ {c:Nat} (hp:OkP p):jmt k p c 0=p:=by
  unfold jmt
  split
  · rfl
  · rcases hp with rfl|⟨b,o,rfl⟩
    · rfl
    · simp [Addr.add_none]
theorem RdS.pre {c:Nat} {ys:List Value} (rd:RdS B h k (.slice p n c) n ys) {m:Nat} (hm:m≤n):RdS B h k (.slice p m c) m (ys.take (m*k)):=by
  obtain ⟨p',c',e,hl,hr⟩:=rd
  obtain ⟨rfl,_,rfl⟩:=Value.slice.inj e
  have hmk:m*k≤n*k:=GP k hm
  refine ⟨_,_,rfl,by rw [GH,hl];omega,?_⟩
  rcases hr with ⟨rfl,rfl⟩|⟨b,o,rfl,rd⟩
  · exact .inl ⟨rfl,by omega⟩
  · refine .inr ⟨b,o,rfl,fun j hj=>?_⟩
    rw [GH] at hj
    have:=rd j zO
    rw [gC] at this⊢
    rw [GZ,if_pos zO];exact this
theorem RdS.cut {c:Nat} {ys:List Value} (rd:RdS B h k (.slice p n c) n ys) (hlo:lo≤n) (hc:n≤c):RdS B h k (.slice (jmt k p c lo) (n-lo) (c-lo)) (n-lo) (ys.drop (lo*k)):=by
  obtain ⟨p',c',e,hl,hr⟩:=rd
  obtain ⟨rfl,_,rfl⟩:=Value.slice.inj e
  refine ⟨_,_,rfl,by rw [Gw,hl,Nat.sub_mul],?_⟩
  rcases hr with ⟨rfl,rfl⟩|⟨b,o,rfl,rd⟩
  · refine .inl ⟨?_,by omega⟩
    unfold jmt;split<;>rfl
  · have out: ∀o',(c=lo→o'=o)→(c≠lo→o'=o+lo*k)→RdN B h b o' (ys.drop (lo*k)):=fun o' h1 h2 j hj=>by
      rw [Gw,hl] at hj
      have hne:c≠lo:=by
        rintro rfl;have:n=c:=by omega
        subst this
        omega
      have:=rd (lo*k+j) zO
      rw [gC] at this⊢
      rw [vK,h2 hne,VA];exact this
    unfold jmt
    split
    · rename_i e1
      exact .inr ⟨b,o,rfl,out o (fun _=>rfl) (fun e=>absurd e1 e)⟩
    · rename_i e1
      exact .inr ⟨b,o+lo*k,by simp [Addr.add_none],out _ (fun e=>absurd e e1) (fun _=>rfl)⟩
theorem OwnS.pre {t c:Nat} {new:Hp} (o:OwnS t k (.slice p n c) n cs new) {m:Nat} (hm:m≤n):OwnS t k (.slice p m c) m (cs.take (m*k)) new:=by
  have hmk:m*k≤n*k:=GP k hm
  cases o with
  |nil=>
    obtain rfl:m=0:=by omega
    simp only [List.take_nil]
    exact .nil
  |blk hl hc hn=>
    rename_i b junk
    have e:cs++junk=cs.take (m*k)++(cs.drop (m*k)++junk):=by rw [←gG,vA]
    rw [e];exact .blk (by rw [GH,hl];omega) (by rw [←gJ,←e,gJ];exact hc) zO
theorem OwnS.cap {t c:Nat} {new:Hp} (o:OwnS t k (.slice p n c) n cs new):n≤c:=by
  cases o with
  |nil=>exact gL _
  |blk hl hc hn=>exact hn
end
section
variable {m:Md P B} {i:Nat}
theorem jlH {c:Nat} {lo hi:Option Value} {a:Nat} (hh:(hi=none∧b=n)∨ ∃ik,hi=some (.int ik (b:Int))∧b≤c) (hl:(lo=none∧a=0)∨ ∃ik,lo=some (.int ik (a:Int))∧a≤b):
    Reads P B (Instr.sliceBounds true n c lo hi none) h (a,b,c):=by
  unfold Instr.sliceBounds
  refine Reads.bind (Reads.pure c) ?_
  rcases hh with ⟨rfl,rfl⟩|⟨ik,rfl,hb⟩<;>rcases hl with ⟨rfl,rfl⟩|⟨ik',rfl,ha⟩
  · exact Reads.pure _
  · exact Reads.bind (Reads.pure b) (Reads.bind (jed (i:=(a:Int)) zO zO) (Reads.pure _))
  · exact Reads.bind (jed (i:=(b:Int)) zO zO) (Reads.pure _)
  · exact Reads.bind (jed (i:=(b:Int)) zO zO) (Reads.bind (jed (i:=(a:Int)) zO zO) (Reads.pure _))
theorem jlF {t c:Nat} {lo hi:Option Value} {a:Nat} [SliceT P t e k] (hh:(hi=none∧b=n)∨ ∃ik,hi=some (.int ik (b:Int))∧b≤c) (hl:(lo=none∧a=0)∨ ∃ik,lo=some (.int ik (a:Int))∧a≤b):
    Reads P B (Instr.sliceAt t (.slice p n c) lo hi none) h (.slice (jmt k p c a) (b-a) (c-a)):=by
  obtain ⟨hu,hs⟩:=jb6 (P:=P) (B:=B) (h:=h) (t:=t)
  unfold Instr.sliceAt
  refine Reads.bind (jai hu).reads ?_
  unfold Instr.slice
  refine Reads.bind (jai hu).reads ?_
  refine Reads.bind (jlH hh hl) ?_
  exact Reads.bind hs (Reads.pure _)
theorem jlQ {t c:Nat} {x z:Operand} {j:Int} (ho:ops[i]?=some ⟨d,.slice t x none (some z) none,ty,pos,af,g⟩) (hw:Wt ops l g) [KHeap kd S h H] [ex:OpV l x (.slice p n c)] [ez:OpV l z (.int ik j)] [SliceT P t e k]
    (hp:OkP p) (hj:j=(b:Int)) (hb:b≤c) [PutV l d (.slice p b c) l'] (q:RegK m S ops r l' h C):RegK m S ops ((i,kd)::r) l h C:=
  RegK.rd (v:= .slice p b c) ho hw (by
    simp only [execOp,ex.eq,Gl,ez.eq,vl,hj]
    have:=jlF (P:=P) (B:=B) (h:=H) (t:=t) (n:=n) (c:=c) (p:=p) (lo:=none) (hi:=some (.int ik (b:Int))) (a:=0) (b:=b) (.inr ⟨ik,rfl,hb⟩) (.inl ⟨rfl,rfl⟩)
    rw [jrQ hp,Nat.sub_zero,Nat.sub_zero] at this
    exact Reads.value this) q
theorem jgc {t c a:Nat} {x:Operand} {j:Int} (ho:ops[i]?=some ⟨d,.slice t x (some y) none none,ty,pos,af,g⟩) (hw:Wt ops l g) [KHeap kd S h H] [ex:OpV l x (.slice p n c)] [ey:OpV l y (.int ik j)] [SliceT P t e k]
    (hj:j=(a:Int)) (ha:a≤n) [PutV l d (.slice (jmt k p c a) (n-a) (c-a)) l'] (q:RegK m S ops r l' h C):RegK m S ops ((i,kd)::r) l h C:=
  RegK.rd (v:= .slice (jmt k p c a) (n-a) (c-a)) ho hw (by
    simp only [execOp,ex.eq,Gl,ey.eq,vl,hj]
    exact Reads.value (jlF (.inl ⟨rfl,rfl⟩) (.inr ⟨ik,rfl,ha⟩))) q
end
def padL (l:List Int):List Int:=(l++List.replicate 7 0).take 7
def hts (l:List Int):List Value:=jaq (padL l)
instance:Ones (jaq xs):=⟨jbf xs⟩
section
end
section
variable {m:Md P B} {i:Nat}
theorem jfi {x:Operand} {f:FuncId} {cap:Array Value} {Post:Value→Prop} (ho:ops[i]?=some ⟨d,.call ⟨.value x,args.toArray,ats⟩,ty,pos,af,g⟩) (hw:Wt ops l g) [kb:KBase kd S h H]
    [ex:OpV l x (.func (.func f) first cap)] [ea:ArgsV l args vs] (hf:jbM P f=true) (c: ∀H':Hp,H.Sublist H'→FnC m f (first++vs.toArray++cap) H' fun v h'=>h'=H'∧Post v)
    (n: ∀v,Post v→RegK m S ops r (put l d v) h C):RegK m S ops ((i,kd)::r) l h C:=
  jrj (Post:=fun v new=>new=[]∧Post v) ho hw hf (fun H' hs=>CallF.mono (c H' hs) fun v h' ⟨e,p⟩=>⟨[],by simp [e],rfl,p⟩) fun v new ⟨e,p⟩=>by subst e;simpa using n v p
theorem jds (dd:Nat) {e:TypeId} (he:P.underlying e=some (.int .i64)) (a b:Int):Reads P B (Op.equalIn (dd+1) e (.int .i64 a) (.int .i64 b)) h (a==b):=by
  unfold Op.equalIn
  refine Reads.bind (jai he).reads ?_
  simp only [if_true]
  exact Reads.pure _
end
section
variable {m:Md P B} {i:Nat}
theorem k_bldZ {t:Nat} (ho:ops[i]?=some ⟨d,.build t #[],ty,pos,af,g⟩) (hw:Wt ops l g) [KHeap kd S h H] [ArrayT P t n e k] [ZeroT P t (.agg zs.toArray)] [PutV l d (.agg zs.toArray) l'] (q:RegK m S ops r l' h C):RegK m S ops ((i,kd)::r) l h C:=
  RegK.rd (v:= .agg zs.toArray) ho hw (by
    obtain ⟨hu,hs⟩:=jd4 (P:=P) (B:=B) (h:=H) (t:=t)
    simp only [execOp,Array.map_empty]
    refine Reads.value ?_
    unfold Instr.build
    refine Reads.bind (reads_zero (v:= .agg zs.toArray)) ?_
    refine Reads.bind (jai hu).reads ?_
    refine Reads.bind hs ?_
    exact Reads.pure _) q
end
def Obj.plain:Obj→Bool
  | .cells .. =>false
  | .chan .. =>false
  |_=>true
section
theorem jbs {rw:Bool} {o:Obj} (hm:(⟨rw,b,o⟩:Chunk)∈h) (ho:Obj.plain o=true):Reads P B (getObj b) h o:=fun w s=>by
  have hb:=(s.mem _ hm).2
  simp only at hb
  have e1:o.isChan=false:=by cases o<;>first|rfl|cases ho
  refine ⟨?_,?_⟩
  · cases o<;>first|(cases ho;done)|simp [getObj,Sem.run,hb]
  · have:(getObj b).events P w #[]= #[⟨.obj b,false,false⟩]:=by
      unfold Sem.events getObj
      simp only [Sem.runT,hb]
      cases o<;>first|(cases ho;done)|rfl
    rw [this];intro e he
    simp at he
    subst he
    exact .inr ⟨rfl,.inr (.inl ⟨_,hm,rfl,fun x=>by cases x⟩)⟩
theorem jbB {h1 h2:Hp} {o o':Obj} {Q:Unit→Hp→Prop} (ho:Obj.plain o=true) (ho':Obj.plain o'=true) (q:Q () (h1++⟨true,b,o'⟩::h2)):Tri P B (setObj b o') (h1++⟨true,b,o⟩::h2) Q:=fun w s=>by
  have hb:=(s.mem ⟨true,b,o⟩ zS).2
  simp only at hb
  have e1:o'.isChan=false:=by cases o'<;>first|rfl|cases ho'
  refine ⟨(),{w with heap:=w.heap.setIfInBounds b o'},_,?_,?_,q⟩
  · cases o<;>first|(cases ho;done)|simp [setObj,Sem.run,hb]
  · refine Stp.turn s ?_
    have:(setObj b o').events P w #[]= #[⟨.obj b,true,false⟩]:=by
      unfold Sem.events setObj
      simp only [Sem.runT,hb,e1]
      cases o<;>first|(cases ho;done)|rfl
    rw [this];intro e he
    simp at he
    subst he
    exact .inr ⟨rfl,.inr (.inl ⟨⟨true,b,o⟩,by simp,rfl,fun _=>rfl⟩)⟩
end
def jfJ (fn:FuncId) (l:List Value) (ps:Array Tmp) (a c:Code) (q1:Nat) (st:LoopState):Obj:= .loop {state:=st,pending:=none,fn,tmps:=l.toArray,params:=ps,assign:=a,body:=c,defers:=q1}
def bR (f:FuncId) (q:Nat):Frame:={bF f with roundOf:=some q}
def CallV {P:Program} {B:Array Obj} (m:Md P B) (v:Value) (args:List Value) (h:Hp) (Post:Value→Hp→Prop):Prop:=
  ∃fn first cap nx fr,v= .func fn first cap∧callee P nx=some fr∧Reads P B (invoke (.fn fn cap) (first++args.toArray)) h nx∧CallF m fr h Post
theorem CallV.mono {m:Md P B} {args:List Value} (t:CallV m v args h Post) (hp: ∀v h',Post v h'→Post' v h'):CallV m v args h Post':=by
  obtain ⟨fn,first,cap,nx,fr,e,hc,hr,c⟩:=t
  exact ⟨fn,first,cap,nx,fr,e,hc,hr,c.mono hp⟩
theorem CallV.fn {m:Md P B} {f:FuncId} {cap:Array Value} {args:List Value} (hf:jbM P f=true) (c:FnC m f (first++args.toArray++cap) h Post):CallV m (.func (.func f) first cap) args h Post:=
  ⟨.func f,first,cap,.enter f (first++args.toArray++cap),_,rfl,rfl,by simp only [invoke];exact jfw hf _,c⟩
section
variable {m:Md P B} {b:Frame} {k:List Item} {cs:List Frame}
theorem CallV.yield {fn:FuncId} {a c:Code} {st:LoopState} {args:List Value} {rw:Bool} (hm:(⟨rw,q,jfJ fn l ps a c q1 st⟩:Chunk)∈h) (hl:args.length=ps.size)
    (hp:(ps.zip args.toArray).foldl (fun tmps (t,a)=>tmps.setIfInBounds t a) l.toArray=l'.toArray) (t:CallF m (Fr (bR fn q) l' [] [.code a,.beginRound,.code c]) h Post):CallV m (.func (.yield q) #[] #[]) args h Post:=by
  refine ⟨.yield q,#[],#[],.round q fn l'.toArray a c,Frame.round q fn l'.toArray a c .normal,rfl,rfl,?_,t⟩
  simp only [invoke,Instr.yield,Instr.getLoop,Vd]
  refine Reads.bind (a:={state:=st,pending:=none,fn,tmps:=l.toArray,params:=ps,assign:=a,body:=c,defers:=q1}) (Reads.bind (jbs hm rfl) (Reads.pure _)) ?_
  rw [if_neg (by simp [hl])];simp only [hp]
  exact Reads.pure _
theorem jfV {α:Type} {s:Sem α} {a:α} {w w':World} (r:s.run P w= .ok a w'):s.runT P w #[]=(.ok a w',s.events P w #[]):=by
  have h1:(s.runT P w #[]).1=s.run P w:=by simp
  have h2:s.events P w #[]=(s.runT P w #[]).2:=rfl
  rw [←r,←h1,h2]
theorem jjF {f:Operand} {fid:FuncId} {cap:Array Value} {a c:Code} [ef:OpV l f (.func (.func fid) first cap)] (hr:b.roundOf=none) (hk:b.kind= .normal) (hcall:jbM P fid=true)
    (t: ∀q1 q2,FnC m fid (first++ #[.func (.yield q2) #[] #[]]++cap) (h++[⟨true,q1,.deferred (some [])⟩,⟨true,q2,jfJ b.fn l ps a c q1 .ready⟩])
      fun v h'=>m.R K (Gr b l (⟨.collected q1,#[]⟩::ds) (.endRangeFunc q2::k) cs) h'):
    m.R K (Gr b l ds (.code (.rangeFunc f ps a c)::k) cs) h:=by
  refine m.step (K':=fun g' h'=>m.R K g' h') ⟨rfl,fun w sw=>?_⟩ fun g' h' x=>x
  have s1:=sw.new (.deferred (some []))
  have s2:=s1.new (jfJ b.fn l ps a c w.heap.size .ready)
  have st:Stp B h ((h++[⟨true,w.heap.size,.deferred (some [])⟩])++[⟨true,(w.heap.push (.deferred (some []))).size,jfJ b.fn l ps a c w.heap.size .ready⟩]) w
      { w with heap:=(w.heap.push (.deferred (some []))).push (jfJ b.fn l ps a c w.heap.size .ready)} #[]:=
    { sat:=s2,size:=by simp;omega,os:=rfl,out:=rfl,tape:=rfl,drawn:=gL _,
      old:=fun x hx _=>by
        show ((w.heap.push _).push _)[x]?=_
        rw [ve zN,Array.getElem_push_lt hx,gR hx]
      key:=fun x hx=>by
        simp only [gQ,gr] at hx
        rcases hx with (hx|rfl)|rfl
        · exact .inr ⟨x,hx,rfl,fun y=>y⟩
        · exact .inl (gL _)
        · exact .inl zS
      evs:=by simp}
  have hsz:(w.heap.push (.deferred (some []))).size=w.heap.size+1:=by simp
  rw [hsz] at st
  have he:=Fr.eval b l (⟨.collected w.heap.size,#[]⟩::ds) (.inRangeFunc (w.heap.size+1)::k)
  have hc: ∀w',(callFunc fid (first++ #[.func (.yield (w.heap.size+1)) #[] #[]]++cap)).run P w'= .ok (.enter fid (first++ #[.func (.yield (w.heap.size+1)) #[] #[]]++cap)) w'∧(callFunc fid (first++ #[.func (.yield (w.heap.size+1)) #[] #[]]++cap)).events P w' #[]= #[]:=by
    intro w'
    unfold jbM at hcall
    split at hcall
    · rename_i fn e
      simp only [gK,vO] at hcall
      have hn:fn.name≠ "runtime.NumGoroutine" :=by simpa using hcall.1
      have hb:fn.body≠none:=fun hx=>by rw [hx] at hcall;simp at hcall
      unfold callFunc
      constructor
      · simp [e,hn,hb]
      · simp [e,hn,hb]
    · cases hcall
  refine ⟨G (Frame.enter P fid (first++ #[.func (.yield (w.heap.size+1)) #[] #[]]++cap) .normal) (Fr b l (⟨.collected w.heap.size,#[]⟩::ds) (.inRangeFunc (w.heap.size+1)::k)::cs),
    { w with heap:=(w.heap.push (.deferred (some []))).push (jfJ b.fn l ps a c w.heap.size .ready)},#[],_,?_,st,?_⟩
  · have hent:(Instr.enterLoop b.fn l.toArray ps a c none).runT P w #[]=(.ok (w.heap.size+1,[⟨.collected w.heap.size,#[]⟩]) {w with heap:=(w.heap.push (.deferred (some []))).push (jfJ b.fn l ps a c w.heap.size .ready)},#[]):=by
      unfold Instr.enterLoop
      simp only [newObj,bind,Sem.bind,pure,jfJ,Sem.runT,hsz]
    have hsem: ∀fr:Frame,fr.eval=ev l→(do let d←resolve fr.eval {callee:= .value f,args:= #[.const (.func (.yield (w.heap.size+1)) #[] #[])],argTypes:= #[]} 0;invoke d.target d.args)=callFunc fid (first++ #[.func (.yield (w.heap.size+1)) #[] #[]]++cap):=by
      intro fr hfr
      rw [hfr];have e:Array.map (ev l) #[Operand.const (.func (.yield (w.heap.size+1)) #[] #[])]= #[.func (.yield (w.heap.size+1)) #[] #[]]:=by simp [ev]
      simp only [resolve,ef.eq,Deferred.ofValue,e]
      rfl
    have h1:stepG P m.main (Gr b l ds (.code (.rangeFunc f ps a c)::k) cs) w=GStep.after (seen P b.fn #[]) (stepG.apply P true (Fr b l (⟨.collected w.heap.size,#[]⟩::ds) (.inRangeFunc (w.heap.size+1)::k)) cs none (callFunc fid (first++ #[.func (.yield (w.heap.size+1)) #[] #[]]++cap)) {w with heap:=(w.heap.push (.deferred (some []))).push (jfJ b.fn l ps a c w.heap.size .ready)}):=by
      rw [←hsem _ he];simp only [Gr,Fr,G,stepG,stepG.exec,hr,hent]
      rfl
    rw [h1];obtain ⟨c1,c2⟩:=hc {w with heap:=(w.heap.push (.deferred (some []))).push (jfJ b.fn l ps a c w.heap.size .ready)}
    have hseen: ∀fn,seen P fn #[]= #[]:=fun fn=>by
      apply Array.eq_empty_of_size_eq_zero
      cases hs:(seen P fn #[]).size with
      |zero=>rfl
      |succ x=>
        have hm:(seen P fn #[])[0]'(by omega)∈seen P fn #[]:=Array.getElem_mem _
        have:=jct P fn #[] _ hm
        simp at this
    have hfn:(Fr b l (⟨.collected w.heap.size,#[]⟩::ds) (.inRangeFunc (w.heap.size+1)::k)).fn=b.fn:=rfl
    have e2:=jfV c1
    rw [c2] at e2
    simp only [stepG.apply,e2,if_true,hfn,hseen,ite_self,GStep.after]
    rfl
  · rw [gG];refine t w.heap.size (w.heap.size+1) _ _ K fun v h' hv=>?_
    have:(Fr b l (⟨.collected w.heap.size,#[]⟩::ds) (.inRangeFunc (w.heap.size+1)::k)).finish v=Fr b l (⟨.collected w.heap.size,#[]⟩::ds) (.endRangeFunc (w.heap.size+1)::k):=rfl
    rw [this];exact hv
theorem jg8 {fn:FuncId} {a c:Code} {st:LoopState} {F E:Hp} (hh:h=F++⟨true,q,jfJ fn l0 ps a c q1 st⟩::E) (hst:st= .ready∨st= .done) (n:m.R K (Gr b l ds k cs) (F++E)):
    m.R K (Gr b l ds (.endRangeFunc q::k) cs) h:=by
  subst hh
  have key:Tri P B (Instr.endLoop q) (F++⟨true,q,jfJ fn l0 ps a c q1 st⟩::E) fun j h'=>j=none∧m.R K (Gr b l ds k cs) h':=by
    unfold Instr.endLoop
    refine Tri.bind (Reads.tri (a:={state:=st,pending:=none,fn,tmps:=l0.toArray,params:=ps,assign:=a,body:=c,defers:=q1}) (Reads.bind (jbs (rw:=true) (o:=jfJ fn l0 ps a c q1 st) zS rfl) (Reads.pure _)) ?_)
    have hb:(st==LoopState.busy)=false:=by rcases hst with rfl|rfl<;>rfl
    simp only [hb,gx,if_false]
    refine Tri.bind (jbB rfl rfl (Tri.pure ⟨rfl,m.weak (Weak.sub ?_) n⟩))
    exact Ve (Vp _ _) _
  refine m.step (K':=fun g' h'=>m.R K g' h') ⟨rfl,fun w sw=>?_⟩ fun g' h' x=>x
  obtain ⟨j,w',h',hr,st',rfl,n'⟩:=key w sw
  refine ⟨_,w',seen P b.fn ((Instr.endLoop q).events P w #[]),h',?_,st'.events fun e he=>jct _ _ _ e he,n'⟩
  simp [Gr,Fr,G,stepG,stepG.exec,hr,GStep.after]
theorem jea {F E:Hp} (hh:h=F++⟨true,q1,.deferred (some [])⟩::E) (n:m.R K (jeV b l ds todo cs) (F++E)):m.R K (jeV b l (⟨.collected q1,#[]⟩::ds) todo cs) h:=by
  subst hh
  have key:Tri P B (Instr.takeDeferred q1) (F++⟨true,q1,.deferred (some [])⟩::E) fun j h'=>j=[]∧m.R K (jeV b l ds todo cs) h':=by
    unfold Instr.takeDeferred
    refine Tri.bind (Reads.tri (jbs (rw:=true) (o:= .deferred (some [])) zS rfl) ?_)
    refine Tri.bind (jbB rfl rfl (Tri.pure ⟨rfl,m.weak (Weak.sub ?_) n⟩))
    exact Ve (Vp _ _) _
  refine m.step (K':=fun g' h'=>m.R K g' h') ⟨rfl,fun w sw=>?_⟩ fun g' h' x=>x
  obtain ⟨j,w',h',hr,st',rfl,n'⟩:=key w sw
  refine ⟨_,w',seen P b.fn ((Instr.takeDeferred q1).events P w #[]),h',?_,st'.events fun e he=>jct _ _ _ e he,n'⟩
  simp [jeV,Fr,G,stepG,unwind,hr,GStep.after]
theorem jff {f:FuncId} {fn:FuncId} {a c:Code} {F E:Hp} (hh:h=F++⟨true,q,jfJ fn l0 ps a c q1 .ready⟩::E) (n:m.R K (Gr (bR f q) l ds k cs) (F++⟨true,q,jfJ fn l0 ps a c q1 .busy⟩::E)):
    m.R K (Gr (bR f q) l ds (.beginRound::k) cs) h:=by
  subst hh
  have key:Tri P B (do Instr.beginRound q;pure Next.skip) (F++⟨true,q,jfJ fn l0 ps a c q1 .ready⟩::E) fun j h'=>j=Next.skip∧m.R K (Gr (bR f q) l ds k cs) h':=by
    unfold Instr.beginRound
    refine Tri.bind ?_
    refine Tri.bind (Reads.tri (a:={state:= .ready,pending:=none,fn,tmps:=l0.toArray,params:=ps,assign:=a,body:=c,defers:=q1}) (Reads.bind (jbs (rw:=true) (o:=jfJ fn l0 ps a c q1 .ready) zS rfl) (Reads.pure _)) ?_)
    exact Tri.bind (jbB (o':=jfJ fn l0 ps a c q1 .busy) rfl rfl (Tri.pure (Tri.pure ⟨rfl,n⟩)))
  refine m.step (K':=fun g' h'=>m.R K g' h') ⟨rfl,fun w sw=>?_⟩ fun g' h' x=>x
  obtain ⟨j,w',h',hr,st',rfl,n'⟩:=key w sw
  refine ⟨_,w',seen P f ((do Instr.beginRound q;pure Next.skip:Sem Next).events P w #[]),h',?_,st'.events fun e he=>jct _ _ _ e he,n'⟩
  have hfin:(Fr (bR f q) l ds (.beginRound::k)).finish undef=Fr (bR f q) l ds k:=rfl
  have hst:stepG P m.main (Gr (bR f q) l ds (.beginRound::k) cs) w=stepG.apply P true (Fr (bR f q) l ds (.beginRound::k)) cs none (do Instr.beginRound q;pure Next.skip) w:=by
    simp [Gr,Fr,G,stepG,stepG.exec,bR]
  rw [hst];have e2:=jfV hr
  have hkd:(Fr (bR f q) l ds (.beginRound::k)).kind= .normal:=rfl
  have hfn:(Fr (bR f q) l ds (.beginRound::k)).fn=f:=rfl
  simp only [stepG.apply,e2,if_true,hkd,hfn,hfin]
  rfl
theorem jlA {f:FuncId} {fn:FuncId} {a c:Code} {fr:Frame} {F E:Hp} (hh:h=F++⟨true,q,jfJ fn l0 ps a c q1 .busy⟩::E) (n:m.R K (G (fr.finish (.bool true)) cs) (F++⟨true,q,jfJ fn l0 ps a c q1 .ready⟩::E)):
    m.R K (Gr (bR f q) l ds [] (fr::cs)) h:=by
  subst hh
  have key:Tri P B (Instr.endRound q none) (F++⟨true,q,jfJ fn l0 ps a c q1 .busy⟩::E) fun j h'=>j= .bool true∧m.R K (G (fr.finish (.bool true)) cs) h':=by
    unfold Instr.endRound
    refine Tri.bind (Reads.tri (a:={state:= .busy,pending:=none,fn,tmps:=l0.toArray,params:=ps,assign:=a,body:=c,defers:=q1}) (Reads.bind (jbs (rw:=true) (o:=jfJ fn l0 ps a c q1 .busy) zS rfl) (Reads.pure _)) ?_)
    exact Tri.bind (jbB (o':=jfJ fn l0 ps a c q1 .ready) rfl rfl (Tri.pure ⟨rfl,n⟩))
  refine m.step (K':=fun g' h'=>m.R K g' h') ⟨rfl,fun w sw=>?_⟩ fun g' h' x=>x
  obtain ⟨j,w',h',hr,st',rfl,n'⟩:=key w sw
  refine ⟨_,w',seen P f ((Instr.endRound q none).events P w #[]),h',?_,st'.events fun e he=>jct _ _ _ e he,n'⟩
  simp [Gr,Fr,G,stepG,stepG.exec,bR,bF,hr,GStep.after,doReturn]
end
section
variable {m:Md P B} {i:Nat}
theorem jlO {b:Frame} {k:List Item} {cs:List Frame} (w:Weak B h h') (n:RegK m S ops r l h' fun l' h'=>m.R K (Gr b l' ds k cs) h'):RegK m S ops r l h fun l' h'=>m.R K (Gr b l' ds k cs) h':=
  WeakC.reg WeakR r l h h' w n
theorem jgP {x:Operand} (ho:ops[i]?=some ⟨d,.call ⟨.value x,args.toArray,ats⟩,ty,pos,af,g⟩) (hw:Wt ops l g)
    [ex:OpV l x v] [ea:ArgsV l args vs] (c:CallV m v vs h Post) (n: ∀v h',Post v h'→RegK m S ops r (put l d v) h' C):RegK m S ops ((i,.free)::r) l h C:=by
  obtain ⟨fn,first,cap,nx,fr,rfl,hc,hr,c⟩:=c
  refine RegK.fr ho hw ?_
  have e:(Array.map (ev l) args.toArray)=vs.toArray:=by rw [Gx,ea.eq]
  refine Reads.tri (a:=nx) ?_ (jhU hc (c.mono fun v h' p=>n v h' p))
  simp only [execOp,resolve,e,ex.eq,Deferred.ofValue]
  refine Reads.bind (a:=⟨.fn fn cap,first++vs.toArray⟩) (Reads.pure _) ?_
  exact hr
end
def jbj (xs:List Int) (i j:Nat):List Int:=(xs.set i (xs.getD j 0)).set j (xs.getD i 0)
theorem jcV (xs:List Int) (i j:Nat):(jbj xs i j).length=xs.length:=by simp [jbj]
theorem jkT {i:Nat} {v:Int} (h:i<xs.length):(xs.set i v).getD k 0=if k=i then v else xs.getD k 0:=by
  rw [gC];split
  · rename_i e;subst e;rw [Vq h];rfl
  · rename_i e;rw [vM (fun x=>e x.symm),←gC]
theorem jbd {i j:Nat} (hi:i<xs.length) (hj:j<xs.length):(jbj xs i j).getD k 0=if k=j then xs.getD i 0 else if k=i then xs.getD j 0 else xs.getD k 0:=by
  rw [jbj,jkT (by simpa using hj),jkT hi]
theorem jls (l1 l2 l3:List Int) (a b:Int):(l1++b::l2++a::l3).Perm (l1++a::l2++b::l3):=by
  rw [gG,gG];refine Gz l1 ?_
  rw [gt,gt];have h1:(b::(l2++a::l3)).Perm (b::a::(l2++l3)):=List.Perm.cons b List.perm_middle
  have h2:(a::(l2++b::l3)).Perm (a::b::(l2++l3)):=List.Perm.cons a List.perm_middle
  exact h1.trans ((List.Perm.swap a b _).trans h2.symm)
theorem jfN {i j:Nat} (hij:i<j) (hj:j<xs.length):(jbj xs i j).Perm xs:=by
  have hi:i<xs.length:=by omega
  have e:xs=xs.take i++xs.getD i 0::(xs.drop (i+1)).take (j-i-1)++xs.getD j 0::xs.drop (j+1):=by
    apply List.ext_getElem?
    intro k
    rcases vV k i with h|h|h
    · rw [gG,ge zN,GZ,if_pos h]
    · subst h
      rw [gG,gm zN];simp [gC,gD hi,VY (Nat.le_of_lt hi)]
    · rcases vV k j with h2|h2|h2
      · rw [gG,gm zN,GH,VY zO,gt,show k-i=(k-i-1)+1 by omega,vN,
          ge zN,GZ,if_pos zO,vK]
        congr 1;omega
      · subst h2
        rw [gm zN];simp only [gJ,GH,gY,Gw]
        rw [show k-(min i xs.length+(min (k-i-1) (xs.length-(i+1))+1))=0 by omega];simp [gC,gD hj]
      · rw [gm zN];simp only [gJ,GH,gY,Gw]
        rw [show k-(min i xs.length+(min (j-i-1) (xs.length-(i+1))+1))=(k-j-1)+1 by omega,vN,vK];congr 1;omega
  have e2:jbj xs i j=xs.take i++xs.getD j 0::(xs.drop (i+1)).take (j-i-1)++xs.getD i 0::xs.drop (j+1):=by
    generalize ha:xs.getD i 0=a at*
    generalize hb:xs.getD j 0=b at*
    unfold jbj
    rw [ha,hb];generalize hl1:xs.take i=l1 at*
    generalize hl2:(xs.drop (i+1)).take (j-i-1)=l2 at*
    generalize hl3:xs.drop (j+1)=l3 at*
    have n1:l1.length=i:=by rw [←hl1,GH];omega
    have n2:l2.length=j-i-1:=by rw [←hl2,GH,Gw];omega
    rw [e];have s1:(l1++a::l2++b::l3).set i b=l1++b::l2++b::l3:=by
      rw [gG,vQ _ _ zO,n1,VM];simp
    rw [s1];rw [vQ _ _ zN];simp only [gJ,gY]
    rw [show j-(l1.length+(l2.length+1))=0 by omega];simp
  rw [e2];conv=>rhs;rw [e]
  exact jls _ _ _ _ _
theorem joF (xs:List Int) (i j:Nat):jbj xs i j=jbj xs j i:=by
  unfold jbj
  by_cases e:i=j
  · subst e;rfl
  · rw [List.set_comm _ _ e]
theorem joE {i j:Nat} (hi:i<xs.length) (hj:j<xs.length):(jbj xs i j).Perm xs:=by
  rcases vV i j with h|h|h
  · exact jfN h hj
  · subst h
    have:jbj xs i i=xs:=by
      unfold jbj
      rw [List.set_set];apply List.ext_getElem?
      intro k
      by_cases e:i=k
      · subst e;rw [Vq hi,gC,gD hi];rfl
      · rw [vM e]
    rw [this]
  · rw [joF];exact jfN h hi
inductive Sw (a b:Nat):List Int→List Int→Prop
  |refl (xs:List Int):Sw a b xs xs
  |step {xs ys:List Int} (i j:Nat) (hi:a≤i∧i<b) (hj:a≤j∧j<b) (s:Sw a b xs ys):Sw a b xs (jbj ys i j)
theorem Sw.one {a:Nat} (i j:Nat) (hi:a≤i∧i<b) (hj:a≤j∧j<b):Sw a b xs (jbj xs i j):= .step i j hi hj (.refl _)
theorem Sw.length {a:Nat} {ys:List Int} (s:Sw a b xs ys):ys.length=xs.length:=by
  induction s with
  |refl=>rfl
  |step i j _ _ _ ih=>rw [jcV,ih]
theorem Sw.trans {a:Nat} {ys zs:List Int} (s:Sw a b xs ys) (t:Sw a b ys zs):Sw a b xs zs:=by
  induction t with
  |refl=>exact s
  |step i j hi hj _ ih=>exact .step i j hi hj ih
theorem Sw.mono {a a' b':Nat} {ys:List Int} (s:Sw a b xs ys) (ha:a'≤a) (hb:b≤b'):Sw a' b' xs ys:=by
  induction s with
  |refl=>exact .refl _
  |step i j hi hj _ ih=>exact .step i j ⟨by omega,by omega⟩ ⟨by omega,by omega⟩ ih
theorem Sw.perm {a:Nat} {ys:List Int} (s:Sw a b xs ys) (hb:b≤xs.length):ys.Perm xs:=by
  induction s with
  |refl=>exact List.Perm.refl _
  |step i j hi hj s ih=>exact (joE (by rw [s.length];omega) (by rw [s.length];omega)).trans ih
theorem Sw.out {a:Nat} {ys:List Int} (s:Sw a b xs ys) (hb:b≤xs.length) (hk:k<a∨b≤k):ys.getD k 0=xs.getD k 0:=by
  induction s with
  |refl=>rfl
  |step i j hi hj s ih=>rw [jbd (by rw [s.length];omega) (by rw [s.length];omega),if_neg zO,if_neg zO,ih]
theorem Sw.all {a:Nat} {ys:List Int} (s:Sw a b xs ys) (hb:b≤xs.length) {p:Int→Prop} (h: ∀k,a≤k→k<b→p (xs.getD k 0)): ∀k,a≤k→k<b→p (ys.getD k 0):=by
  induction s with
  |refl=>exact h
  |step i j hi hj s ih=>
    intro k h1 h2
    rw [jbd (by rw [s.length];omega) (by rw [s.length];omega)];split
    · exact ih i hi.1 hi.2
    · split
      · exact ih j hj.1 hj.2
      · exact ih k h1 h2
def SortR (xs:List Int) (a b:Nat):Prop:= ∀i j,a≤i→i<j→j<b→xs.getD i 0≤xs.getD j 0
theorem setSeg_ints {v:Int} {i:Int} (hi:i=k) (hk:k<xs.length):SetSeg (jaq xs++junk) (0+i.toNat*1) [.int .i64 v] (jaq (xs.set k v)++junk):=⟨by
  subst hi
  rw [gb,GK,GD];have h1:jaq (xs.set k v)=(jaq xs).set k (.int .i64 v):=by simp [jaq,Vf]
  have h2:k<(jaq xs).length:=by simpa using hk
  rw [h1,←vq _ _ h2,Gi,if_pos zN];simp,by simp;omega⟩
abbrev jbl (b:Nat) (xs:List Int) (junk:List Value):Chunk:=⟨true,b,.cells (jaq xs++junk).toArray 3 (0,0)⟩
theorem jaC {t:Nat} {rw:Bool} {j:Int} (i:Nat) [x:Has H b rw (.cells (jaq xs++junk).toArray t f)] (hj:j=i) (hi:i<xs.length):Rd B H ⟨b,0+j.toNat*1,none⟩ (.int .i64 (xs.getD i 0)):=by
  subst hj
  rw [gb,GK,GD];refine Rd.held x.mem ?_
  rw [gZ,ge (by simpa using hi),ga,gC,gD hi];rfl
section
variable {m:Md P B} {i:Nat}
theorem jdd {s:TypeId} {x:Operand} {n n':Int} {k:IntKind} (ho:ops[i]?=some ⟨d,.convert s t x,ty,pos,af,g⟩) (hw:Wt ops l g) [KHeap kd S h H] [ex:OpV l x (.int k n)] (hs:(P.underlying s).isSome=true) [it:IntT P t k'] (hn:k'.wrap n=n') [PutV l d (.int k' n') l'] (q:RegK m S ops r l' h C):RegK m S ops ((i,kd)::r) l h C:=
  RegK.rd (v:= .int k' n') ho hw (by
    obtain ⟨u,hu⟩:=Vg.1 hs
    have:=it.eq
    unfold intB at this
    simp only [execOp,ex.eq]
    refine Reads.value ?_
    unfold convert
    refine Reads.bind (jai hu).reads ?_
    split at this
    · rename_i k2 e
      have:k2=k':=by simpa using this
      subst this
      refine Reads.bind (jai e).reads ?_
      rw [←hn];cases u<;>exact Reads.pure _
    · cases this) q
theorem k_shr {x:Operand} {a b:Int} {k:IntKind} (v:Int) (ho:ops[i]?=some ⟨d,.binOp .shr t x y u,ty,pos,af,g⟩) (hw:Wt ops l g) [KHeap kd S h H] [ex:OpV l x (.int k a)] [ey:OpV l y (.int k' b)] (h0:0≤b) (hv:a.fdiv (2^(min b.toNat k.bits))=v) [PutV l d (.int k v) l'] (q:RegK m S ops r l' h C):RegK m S ops ((i,kd)::r) l h C:=
  RegK.rd (v:= .int k v) ho hw (by
    simp only [execOp,ex.eq,ey.eq]
    refine Reads.value (Reads.bind (a:=()) (Reads.pure _) ?_)
    show Reads P B (Op.shift .shr k a k' b) H _
    unfold Op.shift
    rw [if_neg zO,←hv];exact Reads.pure _) q
theorem k_ixS {x:Operand} {s:ByteArray} {j:Int} {k:IntKind} (ho:ops[i]?=some ⟨d,.index t x y,ty,pos,af,g⟩) (hw:Wt ops l g) [KHeap kd S h H] [ex:OpV l x (.string s)] [ey:OpV l y (.int k j)] (ht:P.underlying t=some .string) (hs:s.size=n) (h0:0≤j) (h1:j<n)
    (q: ∀b:UInt8,RegK m S ops r (put l d (.int .u8 b.toNat)) h C):RegK m S ops ((i,kd)::r) l h C:=by
  subst hs
  have hlt:j.toNat<s.size:=by omega
  refine RegK.rd (v:= .int .u8 (s[j.toNat]'hlt).toNat) (l':=put l d _) ho hw ?_ (p:=⟨rfl⟩) (q _)
  simp only [execOp,ex.eq,ey.eq]
  refine Reads.value ?_
  unfold Instr.index
  refine Reads.bind (a:=(k,j)) (Reads.pure _) ?_
  refine Reads.bind (jai ht).reads ?_
  simp only [h0,if_true]
  have:s[j.toNat]?=some (s[j.toNat]'hlt):=by rw [getElem?_pos s j.toNat hlt]
  simp only [this]
  exact Reads.pure _
end
theorem jmL {o t:Nat} {rw:Bool} {j:Int} (i:Nat) [x:Has H b rw (.cells (jaq xs++junk).toArray t f)] (hj:j=i) (hi:o+i<xs.length):Rd B H ⟨b,o+j.toNat*1,none⟩ (.int .i64 (xs.getD (o+i) 0)):=by
  subst hj
  rw [gb,GK];refine Rd.held x.mem ?_
  rw [gZ,ge (by simpa using hi),ga,gC,gD hi];rfl
theorem jrR {c:Nat} (h:lo<c):jmt 1 (some ⟨b,0,none⟩) c lo=some ⟨b,lo,none⟩:=by
  unfold jmt
  rw [if_neg zO];simp [Addr.add_none]
theorem jka (n:Nat):(Builtin.zeroCells #[Value.int .i64 0] n).toList=jaq (List.replicate n 0):=by
  unfold Builtin.zeroCells
  apply vE
  · simp
  · intro i h1 h2
    simp [Nat.mod_one]
section
variable {m:Md P B} {i:Nat}
theorem k_clear {t c t':Nat} {x:Operand} {rw:Bool} {ys:List Int} (ho:ops[i]?=some ⟨none,.call ⟨.builtin .clear,[x].toArray,#[t]⟩,ty,pos,af,g⟩) (hw:Wt ops l g) [KSub kd S h']
    [ex:OpV l x (.slice (jmt 1 (some ⟨b,0,none⟩) c k) (n-k) (c-k))] [SliceT P t e 1] [zt:ZeroT P e (.int .i64 0)] [q:Has h b rw (.cells (jaq ys++junk).toArray t' (0,0))] [up:Upd h b (.cells (jaq (ys.take k++List.replicate (n-k) 0)++junk).toArray t' (0,0)) h'] (hl:ys.length=n) (hk:k≤n) (hc:n≤c)
    (nx:RegK m S ops r l h' C):RegK m S ops ((i,kd)::r) l h C:=by
  obtain ⟨o1,g1,g2,e1,e2⟩:=up.ex
  refine RegK.ke (KSub.kind (S:=S) (h:=h')) ho hw ?_
  obtain ⟨hu,hs⟩:=jb6 (P:=P) (B:=B) (h:=h) (t:=t)
  rw [jbh (vs:=[.slice (jmt 1 (some ⟨b,0,none⟩) c k) (n-k) (c-k)]) (by simp [ex.eq])];refine jgy q.mem ⟨o1,g1,g2,e1,rfl⟩ ?_
  show Tri P B (Builtin.clear_ #[t] ty #[.slice (jmt 1 (some ⟨b,0,none⟩) c k) (n-k) (c-k)]>>=fun v=>pure (Next.value v)) _ _
  refine Tri.bind ?_
  unfold Builtin.clear_
  refine Tri.bind ((jai hu).reads.tri ?_)
  by_cases e0:n-k=0
  · rw [e0];have e3:ys.take k++List.replicate (n-k) 0=ys:=by rw [e0,gh zO];simp
    have e4:h'=g1++⟨true,b,.cells (jaq ys++junk).toArray t' (0,0)⟩::g2:=by rw [e2,e3]
    have key:Tri P B (Sem.pure (Value.tuple #[])) (g1++⟨true,b,.cells (jaq ys++junk).toArray t' (0,0)⟩::g2) (fun a h_1=>Tri P B (pure (Next.value a)) h_1 (jnp m ⟨none,.call ⟨.builtin .clear,[x].toArray,#[t]⟩,ty,pos,af,g⟩ l fun l' h'=>(kd= .free∨S.Sublist h')∧RegK m S ops r l' h' C)):=
      Tri.pure' (Tri.pure (by rw [←e4];exact ⟨KSub.sub,nx⟩))
    cases hp:jmt 1 (some ⟨b,0,none⟩) c k with
    |none=>exact key
    |some a=>exact key
  · rw [jrR zO];obtain ⟨n0,hn0⟩: ∃n0,n-k=n0+1:=⟨n-k-1,by omega⟩
    have hgoal: ∀(N:Nat),n-k=N→N≠0→Tri P B (do storeCells ⟨b,k,none⟩ (Builtin.zeroCells (←zeroValue e).cells N).toList;pure (Value.tuple #[])) (g1++⟨true,b,.cells (jaq ys++junk).toArray t' (0,0)⟩::g2) (fun a h_1=>Tri P B (pure (Next.value a)) h_1 (jnp m ⟨none,.call ⟨.builtin .clear,[x].toArray,#[t]⟩,ty,pos,af,g⟩ l fun l' h'=>(kd= .free∨S.Sublist h')∧RegK m S ops r l' h' C)):=by
      intro N hN hN0
      refine Tri.bind (s:=zeroValue e) ((reads_zero (v:= .int .i64 0)).tri ?_)
      refine Tri.bind ?_
      rw [show (Value.int IntKind.i64 0).cells= #[Value.int .i64 0] from rfl,jka];refine jeC (jaq (List.replicate N 0)) 0 _ zN (jbf _) fun c' hc'=>Tri.pure (Tri.pure ?_)
      have e3:c'=(jaq (ys.take k++List.replicate (n-k) 0)++junk).toArray:=by
        apply vG
        rw [hc',hN];simp only [vg,xK,gU,List.length_replicate]
        rw [VH zN,jaZ,jdy,show k+N=(jaq ys).length by simp;omega,List.drop_left]
      rw [e3,←e2];exact ⟨KSub.sub,nx⟩
    rw [hn0];exact hgoal (n0+1) hn0 zO
end
section
variable {m:Md P B}
def jfl (ops:Array Oper) (E:List (Nat×Nat)) (i:Nat):List Nat:=(match ops[i]? with|some o=>jbN o|none=>[])++(E.filter (·.2==i)).map (·.1)
def jdb (ops:Array Oper) (E:List (Nat×Nat)):Nat→List Nat
  |0=>[]
  |n+1=>jdb ops E n++[jhh (jdb ops E n) (jfl ops E n)]
theorem jeh (E:List (Nat×Nat)): ∀n,(jdb ops E n).length=n
  |0=>rfl
  |n+1=>by rw [jdb,gJ,jeh E n];rfl
theorem jeg (E:List (Nat×Nat)): ∀n i j,((jdb ops E n).getD i 0).testBit j=true→ ∃x∈jfl ops E i,x=j∨(x<i∧((jdb ops E n).getD x 0).testBit j=true)
  |0,i,j,h=>by simp [jdb] at h
  |n+1,i,j,h=>by
    have hlen:=jeh (ops:=ops) E n
    have old: ∀x,x<n→(jdb ops E (n+1)).getD x 0=(jdb ops E n).getD x 0:=fun x hx=>by
      rw [jdb,gC,gC,ge zO]
    rcases vV i n with hi|rfl|hi
    · rw [old i hi] at h
      obtain ⟨x,hx,hx'⟩:=jeg E n i j h
      exact ⟨x,hx,hx'.imp id fun ⟨h1,h2⟩=>⟨h1,by rw [old x zO];exact h2⟩⟩
    · have e:(jdb ops E (i+1)).getD i 0=jhh (jdb ops E i) (jfl ops E i):=by
        rw [jdb,gC,gm zO,hlen];simp
      rw [e] at h
      obtain ⟨x,hx,hx'⟩:=jfd _ _ _ h
      refine ⟨x,hx,hx'.imp id fun h2=>?_⟩
      have hxi:x<i:=by
        rcases Gf x i with h3|h3
        · exact h3
        · rw [gC,gl zO] at h2
          simp at h2
      exact ⟨hxi,by rw [old x hxi];exact h2⟩
    · rw [gC,gl (by rw [jeh];omega)] at h
      simp at h
def Resp (w:Nat→List Nat):List Nat→Prop
  |[]=>True
  |i::L=>(∀p∈w i,p∉i::L)∧Resp w L
theorem mask_done' {w:Nat→List Nat} (hms: ∀i j,(ms.getD i 0).testBit j=true→ ∃x∈w i,x=j∨(x<i∧(ms.getD x 0).testBit j=true)) (down: ∀x,x∉L→ ∀p∈w x,p∉L):
    ∀i,(∀p∈w i,p∉L)→ ∀j∈L,(ms.getD i 0).testBit j=false:=by
  intro i
  induction i using Nat.strongRecOn with
  |_ i ih=>
    intro hb j hj
    cases ht:(ms.getD i 0).testBit j with
    |false=>rfl
    |true=>
      exfalso
      obtain ⟨x,hx,e|⟨hlt,h2⟩⟩:=hms i j ht
      · exact hb x hx (e▸hj)
      · have:=ih x hlt (down x (hb x hx)) j hj
        rw [this] at h2
        cases h2
theorem run_any (hn:jaK ops=true) {w:Nat→List Nat} (hms: ∀i j,(ms.getD i 0).testBit j=true→ ∃x∈w i,x=j∨(x<i∧(ms.getD x 0).testBit j=true))
    {b:Frame} {k:List Item} {cs:List Frame}:
    ∀(L:List Nat) (r:List (Nat×Kd)) (l:List Value) (h:Hp),(∀x,x∈L↔ ∃y∈r,y.1=x)→L.Nodup→(r.map (·.1)).Nodup→jcf ops ms r=true→jf4 P ops r=true→((∃x∈r,x.2= .read∨x.2= .call)→S.Sublist h)→jbS r=true→Resp w L→
      (∀x,x∉L→ ∀p∈w x,p∉L)→
      RegK m S ops r l h (fun l' h'=>m.R K (Gr b l' ds k cs) h')→m.R K (Gr b l ds (.inRegion ops L::k) cs) h:=by
  intro L
  induction L with
  |nil=>
    intro r l h hL _ _ _ _ _ _ _ _ hk
    cases r with
    |nil=>exact jbv hk
    |cons y r=>exact absurd ((hL y.1).2 ⟨y,gk,rfl⟩) zS
  |cons i L ih=>
    intro r l h hL hLn hnd hp hnw hS hro hresp hd hk
    obtain ⟨⟨i',ki⟩,hmr,rfl⟩:=(hL i).1 gk
    have hmk':=mask_done' hms hd i' hresp.1
    have hmk: ∀y∈r,(ms.getD i' 0).testBit y.1=false:=fun y hy=>hmk' y.1 ((hL y.1).2 ⟨y,hy,rfl⟩)
    obtain ⟨o',ho',t'⟩:=jgu hn (jfA hnw hmr) WeakR hp hmr hnd hmk hk
    refine jiq ho' (jcm hn ho').1 (fun e=>hS ⟨_,hmr,e⟩) (jde (fun l' h' x hkeep=>?_) t')
    have hmf: ∀y,y∈r.filter (fun x=>x.1 !=i')↔y∈r∧y.1≠i':=fun y=>by rw [gV];simp
    have hLn':=vS.1 hLn
    refine ih _ l' h' (fun z=>?_) hLn'.2 (Vc (Vs _ vx) hnd) (jcS _ hp) (gX.2 fun y hy=>gX.1 hnw y (gV.1 hy).1) (fun hex=>?_) (jb8 _ hro) hresp.2 (fun z hz p hpz hpL=>?_) x
    · constructor
      · intro hz
        obtain ⟨y,hy,e⟩:=(hL z).1 (gN _ hz)
        exact ⟨y,(hmf y).2 ⟨hy,fun e'=>hLn'.1 (by rw [←e',e];exact hz)⟩,e⟩
      · rintro ⟨y,hy,rfl⟩;obtain ⟨h1,h2⟩:=(hmf y).1 hy
        rcases gO.1 ((hL y.1).2 ⟨y,h1,rfl⟩) with e|e
        · exact absurd e h2
        · exact e
    · obtain ⟨y,hy,e⟩:=hex
      have hy':=(gV.1 hy).1
      refine hkeep (fun ek=>?_) (hS ⟨y,hy',e⟩)
      subst ek
      exact jgi hp hro hmr hmk y hy' e
    · by_cases ez:z=i'
      · subst ez;exact hresp.1 p hpz (gN _ hpL)
      · exact hd z (fun hm=>(gO.1 hm).elim ez hz) p hpz (gN _ hpL)
theorem jru: ∀(fuel t:Nat) (listed:Array Bool) (r:List (Nat×Kd)),r.length≤fuel→listed.size=ops.size→
      (∀x,x<ops.size→(listed.getD x true=true↔ ∀y∈r,y.1≠x))→(r.map (·.1)).Nodup→Topo ops r→
      (∀x,x∈Region.linearise.go .any ops fuel t listed []↔ ∃y∈r,y.1=x)∧(Region.linearise.go .any ops fuel t listed []).Nodup∧Resp (jfl ops []) (Region.linearise.go .any ops fuel t listed []):=by
  intro fuel
  induction fuel with
  |zero=>
    intro t listed r hr _ _ _ _
    have:r=[]:=GO.1 zO
    subst this
    simp [Region.linearise.go,Resp]
  |succ fuel ih=>
    intro t listed r hr hsz hl hnd ht
    simp only [Region.linearise.go]
    split
    · rename_i i hi
      have hmem:=List.mem_of_getElem? hi
      simp only [gV,gT,gK,vO] at hmem
      obtain ⟨hin,hnl,hrd⟩:=hmem
      cases ho:ops[i]? with
      |none=>rw [ho] at hrd;simp at hrd
      |some o=>
        rw [ho] at hrd
        simp only [Gl,GB,Gm] at hrd
        have hir: ∃y∈r,y.1=i:=by
          apply gw
          intro hne
          have:=(hl i hin).2 fun y hy e=>hne ⟨y,hy,e⟩
          rw [this] at hnl
          cases hnl
        obtain ⟨⟨i',ki⟩,hmr,rfl⟩:=hir
        have hbn: ∀p∈jbN o,∀y∈r,y.1≠p:=by
          intro p hp'
          obtain ⟨e,he,rfl⟩:=gP.1 hp'
          obtain ⟨he1,he2⟩:=gV.1 he
          have:=hrd e (by simpa using he1)
          rw [he2] at this
          simp only [Gt,VR] at this
          have hlt:e.on<ops.size:=by
            rcases Gf e.on ops.size with h3|h3
            · exact h3
            · rw [gf,vF zO] at this
              simp at this
          refine (hl e.on hlt).1 ?_
          rw [gf,gR zO] at this⊢
          exact this
        have hmf: ∀y,y∈r.filter (fun x=>x.1 !=i')↔y∈r∧y.1≠i':=fun y=>by rw [gV];simp
        rw [linearise_go_acc,List.reverse_singleton,Vw];obtain ⟨g1,g2,g3⟩:=ih (t/((List.range ops.size).filter fun i=>!listed.getD i true&&((ops[i]?).map (·.after.all fun e=>!Region.binds .any e||listed.getD e.on false)).getD false).length) (listed.setIfInBounds i' true) (r.filter fun x=>x.1 !=i')
          (by
            have:(r.filter fun x=>x.1 !=i').length<r.length:=by
              exact VS.2 ⟨_,hmr,by simp⟩
            omega) (by simpa using hsz) (fun x hx=>by
            by_cases e:x=i'
            · subst e
              refine ⟨fun _ y hy=>((hmf y).1 hy).2,fun _=>?_⟩
              rw [gf,GL zO];rfl
            · have:(listed.setIfInBounds i' true).getD x true=listed.getD x true:=by
                rw [gf,GC (fun e'=>e e'.symm),←gf]
              rw [this,hl x hx];refine ⟨fun hh y hy=>hh y ((hmf y).1 hy).1,fun hh y hy=>?_⟩
              by_cases ey:y.1=i'
              · rw [ey];exact fun e'=>e e'.symm
              · exact hh y ((hmf y).2 ⟨hy,ey⟩)) (Vc (Vs _ vx) hnd) (ht.filter _)
        refine ⟨fun x=>?_,vS.2 ⟨fun hm=>?_,g2⟩,fun p hp hm=>?_,g3⟩
        · rw [gO,g1];constructor
          · rintro (rfl|⟨y,hy,e⟩)
            · exact ⟨_,hmr,rfl⟩
            · exact ⟨y,((hmf y).1 hy).1,e⟩
          · rintro ⟨y,hy,rfl⟩;by_cases e:y.1=i'
            · exact .inl e
            · exact .inr ⟨y,(hmf y).2 ⟨hy,e⟩,rfl⟩
        · obtain ⟨y,hy,e⟩:=(g1 i').1 hm
          exact ((hmf y).1 hy).2 e
        · have hp':p∈jbN o:=by simpa [jfl,ho] using hp
          rcases gO.1 hm with rfl|hm
          · exact hbn _ hp' _ hmr rfl
          · obtain ⟨y,hy,e⟩:=(g1 p).1 hm
            exact hbn _ hp' y ((hmf y).1 hy).1 e
    · rename_i hnone
      cases r with
      |nil=>simp [Resp]
      |cons x r=>
        exfalso
        obtain ⟨i,ki⟩:=x
        obtain ⟨⟨o,ho,hb⟩,_⟩:=ht
        have hin:i<ops.size:=(gH.1 ho).1
        have:i∈(List.range ops.size).filter (fun i=>!listed.getD i true&&((ops[i]?).map (·.after.all fun e=>!Region.binds .any e||listed.getD e.on false)).getD false):=by
          rw [gV];refine ⟨gT.2 hin,?_⟩
          have h1:listed.getD i true=false:=by
            cases hc:listed.getD i true with
            |false=>rfl
            |true=>exact absurd rfl ((hl i hin).1 hc _ gk)
          rw [h1,ho];simp only [Gk,vm,Gl,GB,Gm]
          intro e he
          cases hbe:Region.binds .any e with
          |false=>rfl
          |true=>
            simp only [Gt,VR]
            have hm:e.on∈jbN o:=gP.2 ⟨e,gV.2 ⟨by simpa using he,hbe⟩,rfl⟩
            obtain ⟨h3,h4⟩:=hb _ hm
            have:=(hl e.on h3).2 h4
            rw [gf,gR zO] at this⊢
            exact this
        have hpos:=Vo this
        rw [List.getElem?_eq_none_iff] at hnone
        exact absurd (Vk t hpos) zO
def Bef (a b:Nat):List Nat→Prop
  |[]=>True
  |i::L=>(i=b→a∉i::L)∧Bef a b L
theorem Bef.gone {a b:Nat}: ∀{L:List Nat},a∉L→Bef a b L
  |[],_=>trivial
  |_::_,h=>⟨fun _=>h,Bef.gone fun x=>h (gN _ x)⟩
theorem bef_or {a b:Nat} (hab:a≠b): ∀{L:List Nat},L.Nodup→Bef a b L∨Bef b a L
  |[],_=> .inl trivial
  |i::L,h=>by
    obtain ⟨h1,h2⟩:=vS.1 h
    by_cases ea:i=a
    · subst ea;exact .inl ⟨fun e=>absurd e hab,Bef.gone h1⟩
    · by_cases eb:i=b
      · subst eb;exact .inr ⟨fun e=>absurd e.symm hab,Bef.gone h1⟩
      · exact (bef_or hab h2).imp (fun x=>⟨fun e=>absurd e eb,x⟩) fun x=>⟨fun e=>absurd e ea,x⟩
theorem Resp.add {E:List (Nat×Nat)} {a b:Nat}: ∀{L:List Nat},Resp (jfl ops E) L→Bef a b L→Resp (jfl ops ((a,b)::E)) L
  |[],_,_=>trivial
  |i::L,⟨h1,h2⟩,⟨h3,h4⟩=>by
    refine ⟨fun p hp=>?_,Resp.add h2 h4⟩
    simp only [jfl,vD,gQ] at hp
    rcases hp with hp|hp
    · exact h1 p (GN _ hp)
    · split at hp
      · rename_i e
        rcases gO.1 hp with rfl|hp
        · exact h3 (by have:b=i:=(by simpa using e);exact this.symm)
        · exact h1 p (GF _ hp)
      · exact h1 p (GF _ hp)
def okE (P:Program) (ops:Array Oper) (E:List (Nat×Nat)) (r:List (Nat×Kd)):Bool:=
  jaK ops&&jbS r&&jcf ops (jdb ops E ops.size) r&&jf4 P ops r&&(r.all fun x=>decide (x.1<ops.size))&&decide (r.map (·.1)).Nodup&&((List.range ops.size).all fun i=>r.any (·.1==i))&&E.all fun e=>decide (e.2<ops.size)
inductive DrawT (m:Md P B) (S:Hp) (ops:Array Oper) (l:List Value) (h:Hp) (C:List Value→Hp→Prop):List (Nat×Nat)→Prop
  |leaf {E} (r:List (Nat×Kd)) (hok:okE P ops E r=true) (t:RegK m S ops r l h C):DrawT m S ops l h C E
  |split {E} (a b:Nat) (hab:a≠b) (t1:DrawT m S ops l h C ((a,b)::E)) (t2:DrawT m S ops l h C ((b,a)::E)):DrawT m S ops l h C E
theorem run_list {b:Frame} {k:List Item} {cs:List Frame} (hS:S.Sublist h) (hL: ∀x,x∈L↔x<ops.size) (hLn:L.Nodup) {E:List (Nat×Nat)}
    (t:DrawT m S ops l h (fun l' h'=>m.R K (Gr b l' ds k cs) h') E):Resp (jfl ops E) L→m.R K (Gr b l ds (.inRegion ops L::k) cs) h:=by
  induction t with
  | @leaf E r hok t=>
    intro hr
    simp only [okE,gK,gX,gT,VP,beq_iff_eq,decide_eq_true_eq] at hok
    obtain ⟨⟨⟨⟨⟨⟨⟨h1,h2⟩,h3⟩,h4⟩,h5⟩,h6⟩,h7⟩,h8⟩:=hok
    refine run_any h1 (jeg E ops.size) L r l h (fun x=>?_) hLn h6 h3 h4 (fun _=>hS) h2 hr (fun x hx p hp _=>?_) t
    · rw [hL];exact ⟨fun hx=>h7 x hx,fun ⟨y,hy,e⟩=>e▸h5 y hy⟩
    · have hx':ops.size≤x:=vZ fun e=>hx ((hL x).2 e)
      simp only [jfl,vF hx',GI,gP,gV,beq_iff_eq] at hp
      obtain ⟨e,⟨he1,he2⟩,_⟩:=hp
      have:=h8 e he1
      omega
  |split a b hab _ _ ih1 ih2=>
    intro hr
    rcases bef_or hab hLn with h1|h1
    · exact ih1 (hr.add h1)
    · exact ih2 (hr.add h1)
theorem jbr {b:Frame} {k:List Item} {cs:List Frame} {id:Nat} (r0:List Nat) (hm:(P.follows .mixedOrders||!Region.departs ops)=true)
    (hok:(jjw ops [] (r0.map fun i=>(i,Kd.free))&&(List.range ops.size).all fun i=>r0.contains i)=true) (hS:S.Sublist h) (t:DrawT m S ops l h (fun l' h'=>m.R K (Gr b l' ds k cs) h') []):m.R K (Gr b l ds (.code (.region id ops true)::k) cs) h:=by
  refine jc3 fun t'=>?_;simp only [gK,gX,gT,List.contains_iff_mem] at hok
  obtain ⟨h3,h4⟩:=hok
  generalize hr:(r0.map fun i=>(i,Kd.free))=r at h3
  obtain ⟨t1,_,t3⟩:=jkh r [] h3 zS
  have hlt: ∀y∈r,y.1<ops.size:=by
    have: ∀(r:List (Nat×Kd)),Topo ops r→ ∀y∈r,y.1<ops.size:=by
      intro r
      induction r with
      |nil=>intro _ y hy;simp at hy
      |cons z r ih=>
        intro ⟨⟨o,ho,_⟩,h5⟩ y hy
        rcases gO.1 hy with rfl|hy
        · exact (gH.1 ho).1
        · exact ih h5 y hy
    exact this r t1
  have hin: ∀x,x<ops.size→ ∃y∈r,y.1=x:=fun x hx=>⟨(x,.free),by rw [←hr];exact gP.2 ⟨x,h4 x hx,rfl⟩,rfl⟩
  have hlen:r.length≤ops.size:=by
    have:=Ga t3 (l₂:=List.range ops.size) fun x hx=>by
      obtain ⟨y,hy,rfl⟩:=gP.1 hx
      exact gT.2 (hlt y hy)
    simpa using this
  simp only [Region.schedule,hm,if_true]
  obtain ⟨g1,g2,g3⟩:=jru (ops:=ops) ops.size t' (Array.replicate ops.size false) r hlen zS (fun x hx=>by
    rw [gf,gR (by simpa using hx)];obtain ⟨y,hy,e⟩:=hin x hx
    simp only [Vm,GB,gx,false_iff]
    exact fun hh=>hh y hy e) t3 t1
  refine run_list hS (fun x=>?_) g2 t g3
  exact (g1 x).trans ⟨fun ⟨y,hy,e⟩=>e▸hlt y hy,fun hx=>hin x hx⟩
end
section
theorem jaM {e:TypeId} {cs:Array Value} {o:Nat} [Scal P e] (hv:cs[o]?=some v):Reads P B (part e cs o) h v:=by
  unfold part
  refine Reads.bind jhB ?_
  simp only [hv]
  exact Reads.pure _
def keyB (P:Program) (t:TypeId):Bool:=match P.underlying t with
  |some (.struct fs)=>(match fs.toList with
    |[f,g]=>f.offset==0&&g.offset==1&&f.name != "_" &&g.name != "_" &&jlw P f.type&&jlw P g.type&&(match P.underlying f.type with|some (.int .i64)=>true|_=>false)&&(match P.underlying g.type with|some (.int .i64)=>true|_=>false)
    |_=>false)&&!P.stoodInHeld t
  |_=>false
class KeyT (P:Program) (t:TypeId):Prop where
  eq:keyB P t=true
theorem KeyT.spec [k:KeyT P t]: ∃f g:Field,P.underlying t=some (.struct #[f,g])∧f.offset=0∧g.offset=1∧f.name≠ "_" ∧g.name≠ "_" ∧Scal P f.type∧Scal P g.type∧P.underlying f.type=some (.int .i64)∧P.underlying g.type=some (.int .i64)∧P.stoodInHeld t=false:=by
  have:=k.eq
  unfold keyB at this
  split at this
  · rename_i fs hu
    rw [gK] at this
    obtain ⟨h1,h2⟩:=this
    split at h1
    · rename_i f g hfs
      simp only [gK,beq_iff_eq,bne_iff_ne,ne_eq] at h1
      obtain ⟨⟨⟨⟨⟨⟨⟨a1,a2⟩,a3⟩,a4⟩,a5⟩,a6⟩,a7⟩,a8⟩:=h1
      refine ⟨f,g,?_,a1,a2,a3,a4,⟨a5⟩,⟨a6⟩,?_,?_,by simpa using h2⟩
      · rw [hu];congr 2;exact vG (by rw [hfs])
      · split at a7
        · assumption
        · cases a7
      · split at a8
        · assumption
        · cases a8
    · cases h1
  · cases this
def keyV (s x:Int):Value:= .agg [.int .i64 s,.int .i64 x].toArray
theorem jqs (dd:Nat) [KeyT P t] (a b c d:Int):Reads P B (Op.equalIn (dd+2) t (keyV a b) (keyV c d)) h (a==c&&b==d):=by
  obtain ⟨f,g,hu,o1,o2,n1,n2,s1,s2,u1,u2,hs⟩:=KeyT.spec (P:=P) (t:=t)
  unfold Op.equalIn
  refine Reads.bind (jai hu).reads ?_
  simp only [keyV]
  refine Reads.bind Reads.program' ?_
  simp only [hs,gx,if_false,pure_bind]
  rw [←Array.forIn_toList];simp only [xD,xS,n1,n2,ne_eq,not_false_eq_true,if_true,o1,o2,bind_assoc]
  refine Reads.bind (jaM (v:= .int .i64 a) rfl) (Reads.bind (jaM (v:= .int .i64 c) rfl) (Reads.bind (jds dd u1 a c) ?_))
  cases hab:(a==c)
  · simp only [Gk,if_true,pure_bind,Vl];exact Reads.pure _
  · simp only [Gt,gx,if_false,pure_bind,vm,bind_assoc]
    refine Reads.bind (jaM (v:= .int .i64 b) rfl) (Reads.bind (jaM (v:= .int .i64 d) rfl) (Reads.bind (jds dd u2 b d) ?_))
    cases hbd:(b==d)
    · simp only [Gk,if_true,pure_bind];exact Reads.pure _
    · simp only [Gt,gx,if_false,pure_bind];exact Reads.pure _
def entsF:List (Int×Int×Int)→Nat→List MapEntry
  |[],_=>[]
  |e::r,b=>⟨keyV e.1 e.2.1,.int .i64 e.2.2,b⟩::entsF r (b+1)
def mapO (l:List (Int×Int×Int)):Obj:= .map (entsF l 0).toArray l.length
end
section
variable {m:Md P B} {i:Nat}
theorem jrb (ho:ops[i]?=some ⟨d,.makeMap t none,ty,pos,af,g⟩) (hw:Wt ops l g) (n: ∀q,RegK m S ops r (put l d (.map (some q))) (h++[⟨true,q,mapO []⟩]) C):RegK m S ops ((i,.free)::r) l h C:=by
  refine RegK.ke (.inr rfl) ho hw ?_
  simp only [execOp]
  refine Tri.bind ?_
  unfold Instr.makeMap
  simp only [vl]
  refine Tri.bind (jkf fun q _ _=>Tri.pure (Tri.pure ⟨.inl (by trivial),n q⟩))
end
section
theorem jmK {cs:Array Value} {o:Nat} [AggT P e n]:Reads P B (part e cs o) h (.agg (cs.extract o (o+n))):=by
  unfold part
  refine Reads.bind jpT ?_
  exact Reads.bind (jkt (P:=P) (n:=n)) (Reads.pure _)
end
section
variable {m:Md P B} {i:Nat}
theorem k_neqG {x:Operand} {e:Bool} (ho:ops[i]?=some ⟨d,.binOp .neq t x y u,ty,pos,af,g⟩) (hw:Wt ops l g) [KHeap kd S h H] [ex:OpV l x (.agg vs.toArray)] [ey:OpV l y (.agg ws.toArray)]
    (hg:P.eqGuardType P.depth t=false) (he:Reads P B (Op.equalIn 10000 t (.agg vs.toArray) (.agg ws.toArray)) H e) [PutV l d (.bool !e) l'] (q:RegK m S ops r l' h C):RegK m S ops ((i,kd)::r) l h C:=
  RegK.rd (v:= .bool !e) ho hw (by
    simp only [execOp,ex.eq,ey.eq]
    refine Reads.value (Reads.bind (a:=()) ?_ ?_)
    · unfold eqGuard
      refine Reads.bind Reads.program' (Reads.bind Reads.program' ?_)
      rw [if_pos (by simp [hg])];exact Reads.pure _
    · show Reads P B (Op.equal t (.agg vs.toArray) (.agg ws.toArray)>>=fun b=>pure (Value.bool !b)) H _
      exact Reads.bind he (Reads.pure _)) q
end
end Go.Lo
namespace Go.Lo
def HeapF (ys:List Int) (f lo hi:Nat):Prop:= ∀k c,lo≤k→(c=2*k+1∨c=2*k+2)→c<hi→ys.getD (f+c) 0≤ys.getD (f+k) 0
def HeapR (ys:List Int) (f lo hi root:Nat):Prop:=(∀k c,lo≤k→k≠root→(c=2*k+1∨c=2*k+2)→c<hi→ys.getD (f+c) 0≤ys.getD (f+k) 0)∧
  ∀p c,lo≤p→(root=2*p+1∨root=2*p+2)→(c=2*root+1∨c=2*root+2)→c<hi→ys.getD (f+c) 0≤ys.getD (f+p) 0
theorem HeapR.start {ys:List Int} {f hi:Nat} (h:HeapF ys f (lo+1) hi):HeapR ys f lo hi lo:=⟨fun k c h1 h2=>h k c zO,fun p c h1 h2=>by omega⟩
theorem HeapR.stop {ys:List Int} {f lo hi root:Nat} (h:HeapR ys f lo hi root) (hc: ∀c,(c=2*root+1∨c=2*root+2)→c<hi→ys.getD (f+c) 0≤ys.getD (f+root) 0):HeapF ys f lo hi:=fun k c h1 h2 h3=>by
  by_cases e:k=root
  · subst e;exact hc c h2 h3
  · exact h.1 k c h1 e h2 h3
theorem HeapR.step {ys:List Int} {f lo hi root ch:Nat} (h:HeapR ys f lo hi root) (hlo:lo≤root) (hch:ch=2*root+1∨ch=2*root+2) (hlt:ch<hi) (hb:f+hi≤ys.length)
    (hmax: ∀c,(c=2*root+1∨c=2*root+2)→c<hi→ys.getD (f+c) 0≤ys.getD (f+ch) 0) (hl:ys.getD (f+root) 0<ys.getD (f+ch) 0):HeapR (jbj ys (f+root) (f+ch)) f lo hi ch:=by
  have g: ∀k,(jbj ys (f+root) (f+ch)).getD (f+k) 0=if k=ch then ys.getD (f+root) 0 else if k=root then ys.getD (f+ch) 0 else ys.getD (f+k) 0:=fun k=>by
    rw [jbd zO zO];by_cases e:k=ch
    · rw [if_pos zO,if_pos e]
    · rw [if_neg zO,if_neg e];by_cases e2:k=root
      · rw [if_pos zO,if_pos e2]
      · rw [if_neg zO,if_neg e2]
  refine ⟨fun k c h1 h2 h3 h4=>?_,fun p c h1 h2 h3 h4=>?_⟩
  · rw [g,g,if_neg h2];by_cases e:k=root
    · subst e
      rw [if_pos rfl];by_cases e2:c=ch
      · rw [if_pos e2];omega
      · rw [if_neg e2,if_neg zO];exact hmax c h3 h4
    · rw [if_neg e,if_neg zO];by_cases e2:c=root
      · rw [if_pos e2];subst e2;exact h.2 k ch h1 h3 hch hlt
      · rw [if_neg e2];exact h.1 k c h1 e h3 h4
  · have e:p=root:=by omega
    subst e
    rw [g,g,if_neg zO,if_neg zO,if_neg zO,if_pos rfl];exact h.1 ch c zO zO h3 h4
theorem HeapF.top {ys:List Int} {f hi:Nat} (h:HeapF ys f 0 hi): ∀k,k<hi→ys.getD (f+k) 0≤ys.getD (f+0) 0
  |0,_=>by omega
  |k+1,hk=>by
    have h1:=h (k/2) (k+1) zO zO hk
    have h2:=HeapF.top h (k/2) zO
    omega
theorem HeapF.empty {ys:List Int} {f hi:Nat} (h:hi≤2*lo+1):HeapF ys f lo hi:=fun k c h1 h2 h3=>by omega
theorem HeapF.cut {ys:List Int} {f i:Nat} (h:HeapF ys f 0 (i+1)) (hb:f+i<ys.length):HeapF (jbj ys (f+0) (f+i)) f 1 i:=fun k c h1 h2 h3=>by
  rw [jbd zO zO,jbd zO zO,if_neg zO,if_neg zO,if_neg zO,if_neg zO];exact h k c zO h2 zO
def Pop (ys:List Int) (a b i:Nat):Prop:=HeapF ys a 0 i∧SortR ys (a+i) b∧ ∀p q,p<i→a+i≤q→q<b→ys.getD (a+p) 0≤ys.getD q 0
theorem Pop.start {ys:List Int} {a:Nat} (h:HeapF ys a 0 (b-a)) (hab:a≤b):Pop ys a b (b-a):=⟨h,fun p q h1 h2 h3=>by omega,fun p q h1 h2 h3=>by omega⟩
theorem Pop.step {ys zs:List Int} {a b i:Nat} (h:Pop ys a b (i+1)) (hb:a+i<b) (hl:b≤ys.length) (s:Sw (a+0) (a+i) (jbj ys (a+0) (a+i)) zs) (hz:HeapF zs a 0 i):Pop zs a b i:=by
  obtain ⟨h1,h2,h3⟩:=h
  have hlen:=s.length
  rw [jcV] at hlen
  have top:=h1.top
  have o: ∀k,a+i≤k→zs.getD k 0=if k=a+i then ys.getD (a+0) 0 else ys.getD k 0:=fun k hk=>by
    rw [s.out (by rw [jcV];omega) (.inr hk),jbd zO zO];by_cases e:k=a+i
    · rw [if_pos e,if_pos e]
    · rw [if_neg e,if_neg e,if_neg zO]
  have up: ∀q,a+i≤q→q<b→ys.getD (a+0) 0≤zs.getD q 0:=fun q hq1 hq2=>by
    rw [o q hq1];by_cases e:q=a+i
    · rw [if_pos e];omega
    · rw [if_neg e];exact h3 0 q zO zO hq2
  have dn: ∀k,a+0≤k→k<a+i→zs.getD k 0≤ys.getD (a+0) 0:=s.all (p:=fun v=>v≤ys.getD (a+0) 0) (by rw [jcV];omega) fun k hk1 hk2=>by
    rw [jbd zO zO,if_neg zO];by_cases e:k=a+0
    · rw [if_pos e];exact top i zO
    · rw [if_neg e];have:=top (k-a) zO;rw [show a+(k-a)=k by omega] at this;exact this
  refine ⟨hz,fun p q hp hq hqb=>?_,fun p q hp hq hqb=>?_⟩
  · rw [o p zO,o q zO,if_neg (show q≠a+i by omega)];by_cases e:p=a+i
    · rw [if_pos e];exact h3 0 q zO zO hqb
    · rw [if_neg e];exact h2 p q zO hq hqb
  · have:=dn (a+p) zO zO;have:=up q hq hqb;omega
def Part (ys:List Int) (a b i j:Nat):Prop:=(∀k,a<k→k<i→ys.getD k 0<ys.getD a 0)∧ ∀k,j<k→k<b→ys.getD a 0≤ys.getD k 0
theorem Part.swap {ys:List Int} {a i j:Nat} (h:Part ys a b i j) (ha:a<i) (hij:i≤j) (hj:j<b) (hb:b≤ys.length) (h1:ys.getD a 0≤ys.getD i 0) (h2:ys.getD j 0<ys.getD a 0):Part (jbj ys i j) a b (i+1) (j-1):=by
  have g: ∀k,(jbj ys i j).getD k 0=if k=j then ys.getD i 0 else if k=i then ys.getD j 0 else ys.getD k 0:=fun k=>jbd zO zO
  have hne:i≠j:=fun e=>by subst e;omega
  refine ⟨fun k hk1 hk2=>?_,fun k hk1 hk2=>?_⟩
  · rw [g,g,if_neg (show a≠j by omega),if_neg (show a≠i by omega),if_neg zO];by_cases e:k=i
    · rw [if_pos e];exact h2
    · rw [if_neg e];exact h.1 k hk1 zO
  · rw [g,g,if_neg (show a≠j by omega),if_neg (show a≠i by omega)];by_cases e:k=j
    · rw [if_pos e];exact h1
    · rw [if_neg e,if_neg zO];exact h.2 k zO hk2
def Cut (ys:List Int) (a b j:Nat):Prop:=(∀k,a≤k→k<j→ys.getD k 0≤ys.getD j 0)∧ ∀k,j<k→k<b→ys.getD j 0≤ys.getD k 0
theorem Part.cut {ys:List Int} {a i j:Nat} (h:Part ys a b i j) (ha:a≤j) (hij:i=j+1) (hj:j<b) (hb:b≤ys.length):Cut (jbj ys j a) a b j:=by
  have g: ∀k,(jbj ys j a).getD k 0=if k=a then ys.getD j 0 else if k=j then ys.getD a 0 else ys.getD k 0:=fun k=>jbd zO zO
  have hjv:(jbj ys j a).getD j 0=ys.getD a 0:=by
    rw [g];by_cases e:j=a
    · rw [if_pos e,e]
    · rw [if_neg e,if_pos rfl]
  refine ⟨fun k hk1 hk2=>?_,fun k hk1 hk2=>?_⟩
  · rw [hjv,g];by_cases e:k=a
    · rw [if_pos e];have:=h.1 j zO zO;omega
    · rw [if_neg e,if_neg zO];have:=h.1 k zO zO;omega
  · rw [hjv,g,if_neg zO,if_neg zO];exact h.2 k hk1 hk2
def Pare (ys:List Int) (a b i j:Nat):Prop:=(∀k,a≤k→k<i→ys.getD k 0≤ys.getD a 0)∧ ∀k,j<k→k<b→ys.getD a 0<ys.getD k 0
theorem Pare.start (ys:List Int) (a b:Nat):Pare ys a b (a+1) (b-1):=⟨fun k h1 h2=>by rw [show k=a by omega];omega,fun k h1 h2=>by omega⟩
theorem Pare.swap {ys:List Int} {a i j:Nat} (h:Pare ys a b i j) (ha:a<i) (hij:i≤j) (hj:j<b) (hb:b≤ys.length) (h1:ys.getD a 0<ys.getD i 0) (h2:ys.getD j 0≤ys.getD a 0):Pare (jbj ys i j) a b (i+1) (j-1):=by
  have g: ∀k,(jbj ys i j).getD k 0=if k=j then ys.getD i 0 else if k=i then ys.getD j 0 else ys.getD k 0:=fun k=>jbd zO zO
  have hne:i≠j:=fun e=>by subst e;omega
  refine ⟨fun k hk1 hk2=>?_,fun k hk1 hk2=>?_⟩
  · rw [g,g,if_neg (show a≠j by omega),if_neg (show a≠i by omega),if_neg zO];by_cases e:k=i
    · rw [if_pos e];exact h2
    · rw [if_neg e];exact h.1 k hk1 zO
  · rw [g,g,if_neg (show a≠j by omega),if_neg (show a≠i by omega)];by_cases e:k=j
    · rw [if_pos e];exact h1
    · rw [if_neg e,if_neg zO];exact h.2 k zO hk2
def Low (ys:List Int) (a b:Nat):Prop:=a=0∨ ∀k,a≤k→k<b→ys.getD (a-1) 0≤ys.getD k 0
theorem Low.sw {ys:List Int} {a:Nat} (h:Low xs a b) (s:Sw a b xs ys) (hb:b≤xs.length):Low ys a b:=by
  rcases h with h|h
  · exact .inl h
  · by_cases e:a=0
    · exact .inl e
    · refine .inr ?_
      rw [s.out hb (.inl zO)];exact s.all (p:=fun v=>xs.getD (a-1) 0≤v) hb h
theorem Cut.swL {ys:List Int} {a j:Nat} (h:Cut xs a b j) (s:Sw a j xs ys) (hj:j<b) (hb:b≤xs.length):Cut ys a b j:=⟨by
  rw [s.out zO (.inr (gL j))];exact s.all (p:=fun v=>v≤xs.getD j 0) zO h.1,fun k h1 h2=>by
  rw [s.out zO (.inr (gL j)),s.out zO (.inr zO)];exact h.2 k h1 h2⟩
theorem Cut.swR {ys:List Int} {a j:Nat} (h:Cut xs a b j) (s:Sw (j+1) b xs ys) (hb:b≤xs.length):Cut ys a b j:=⟨fun k h1 h2=>by
  rw [s.out zO (.inl zO),s.out zO (.inl zO)];exact h.1 k h1 h2,fun k h1 h2=>by
  rw [s.out zO (.inl zO)];exact s.all (p:=fun v=>xs.getD j 0≤v) zO (fun k h1 h2=>h.2 k zO h2) k zO h2⟩
end Go.Lo
namespace Go.Lo
open Go.Conc
abbrev str (s:List UInt8):Value:= .string ⟨s.toArray⟩
class SV (a:ByteArray) (s:outParam (List UInt8)):Prop where
  eq:a=⟨s.toArray⟩
instance:SV ⟨s.toArray⟩ s:=⟨rfl⟩
theorem jjx (s:List UInt8):(⟨s.toArray⟩:ByteArray).toList=s:=by rw [Lib.toList_data]
theorem jmD (s:List UInt8) (i j:Nat):(⟨s.toArray⟩:ByteArray).extract i j=⟨((s.take j).drop i).toArray⟩:=by
  apply ByteArray.ext
  simp [ByteArray.data_extract,List.drop_take]
section
variable {m:Md P B} {i:Nat}
theorem jlC {x:Operand} {a b:ByteArray} {op:BinOp} (hx:ev l x= .string a) (hy:ev l y= .string b) (hs:op≠ .shl∧op≠ .shr)
    (hv:binOp op t (.string a) (.string b)=Sem.pure v):Reads P B (execOp (ev l) ⟨d,.binOp op t x y u,ty,pos,af,g⟩) h (.value v):=by
  simp only [execOp,hx,hy]
  refine Reads.value (Reads.bind (a:=()) ?_ ?_)
  · cases op<;>exact Reads.pure ()
  · rw [hv];exact Reads.pure _
theorem k_seql {x:Operand} {a b:ByteArray} {p q:List UInt8} (ho:ops[i]?=some ⟨d,.binOp .eql t x y u,ty,pos,af,g⟩) (hw:Wt ops l g) [KHeap kd S h H] [ex:OpV l x (.string a)] [ey:OpV l y (.string b)] [pa:SV a p] [pb:SV b q] [PutV l d (.bool (decide (p=q))) l']
    (n:RegK m S ops r l' h C):RegK m S ops ((i,kd)::r) l h C:=
  RegK.rd (v:= .bool (decide (p=q))) ho hw (jlC ex.eq ey.eq zS (by
    rw [pa.eq,pb.eq];show Op.stringOp .eql _ _=_
    unfold Op.stringOp
    simp only [jjx,Vx]
    rfl)) n
theorem k_sneq {x:Operand} {a b:ByteArray} {p q:List UInt8} (ho:ops[i]?=some ⟨d,.binOp .neq t x y u,ty,pos,af,g⟩) (hw:Wt ops l g) [KHeap kd S h H] [ex:OpV l x (.string a)] [ey:OpV l y (.string b)] [pa:SV a p] [pb:SV b q] [PutV l d (.bool (decide (p≠q))) l']
    (n:RegK m S ops r l' h C):RegK m S ops ((i,kd)::r) l h C:=
  RegK.rd (v:= .bool (decide (p≠q))) ho hw (jlC ex.eq ey.eq zS (by
    rw [pa.eq,pb.eq];show Op.stringOp .neq _ _=_
    unfold Op.stringOp
    simp only [jjx]
    rw [show (!(p==q))=decide (p≠q) by by_cases h:p=q<;>simp [h]];rfl)) n
theorem jn1 {t:Nat} {x:Operand} {a:ByteArray} {p:List UInt8} (ho:ops[i]?=some ⟨d,.call ⟨.builtin .len,[x].toArray,#[t]⟩,ty,pos,af,g⟩) (hw:Wt ops l g) [kh:KHeap kd S h H] [ex:OpV l x (.string a)] [pa:SV a p] (hu:P.underlying t=some .string) [PutV l d (.int .i64 p.length) l']
    (q:RegK m S ops r l' h C):RegK m S ops ((i,kd)::r) l h C:=
  RegK.rd (v:= .int .i64 p.length) ho hw (by
    rw [jbh (vs:=[.string a]) (by simp [ex.eq])];refine Reads.value ?_
    unfold Builtin.len_
    simp only [gZ,vC]
    refine Reads.bind (jai hu).reads ?_
    rw [pa.eq];exact Reads.pure _) q
theorem jhj {t:Nat} {x:Operand} {a:ByteArray} {p:List UInt8} {j:Int} {k:IntKind} {c:UInt8} (ho:ops[i]?=some ⟨d,.index t x y,ty,pos,af,g⟩) (hw:Wt ops l g) [kh:KHeap kd S h H] [ex:OpV l x (.string a)] [ey:OpV l y (.int k j)] [pa:SV a p] (hu:P.underlying t=some .string) (h0:0≤j) (hc:p[j.toNat]?=some c) [PutV l d (.int .u8 c.toNat) l']
    (q:RegK m S ops r l' h C):RegK m S ops ((i,kd)::r) l h C:=
  RegK.rd (v:= .int .u8 c.toNat) ho hw (by
    simp only [execOp,ex.eq,ey.eq]
    refine Reads.value ?_
    unfold Instr.index
    refine Reads.bind (a:=(k,j)) (Reads.pure _) ?_
    refine Reads.bind (jai hu).reads ?_
    rw [pa.eq];have e:(if 0≤j then (⟨p.toArray⟩:ByteArray)[j.toNat]? else none)=some c:=by
      rw [if_pos h0];obtain ⟨hl,hg⟩:=vH.1 hc
      rw [getElem?_pos (⟨p.toArray⟩:ByteArray) j.toNat (show j.toNat<(⟨p.toArray⟩:ByteArray).size from by simpa [ByteArray.size] using hl)];exact congrArg some hg
    simp only [e]
    exact Reads.pure _) q
theorem jhK {t:Nat} {x z:Operand} {a:ByteArray} {p:List UInt8} {j:Nat} {kj kk:IntKind} (ho:ops[i]?=some ⟨d,.slice t x (some y) (some z) none,ty,pos,af,g⟩) (hw:Wt ops l g) [kh:KHeap kd S h H] [ex:OpV l x (.string a)] [ey:OpV l y (.int kj (j:Int))] [ez:OpV l z (.int kk (k:Int))] [pa:SV a p] (hu:P.underlying t=some .string) (h1:j≤k) (h2:k≤p.length) [PutV l d (str ((p.take k).drop j)) l']
    (q:RegK m S ops r l' h C):RegK m S ops ((i,kd)::r) l h C:=
  RegK.rd (v:=str ((p.take k).drop j)) ho hw (by
    simp only [execOp,ex.eq,ey.eq,ez.eq,Gl,vl]
    refine Reads.value ?_
    unfold Instr.sliceAt
    refine Reads.bind (jai hu).reads ?_
    show Reads P B (Instr.slice t (.string a) (some (.int kj j)) (some (.int kk k)) none) H _
    unfold Instr.slice
    refine Reads.bind (jai hu).reads ?_
    rw [pa.eq];simp only [Option.isSome_none,gx,if_false]
    refine Reads.bind (a:=(j,k,p.length)) ?_ ?_
    · unfold Instr.sliceBounds
      refine Reads.bind (a:=p.length) (Reads.pure _) ?_
      refine Reads.bind (a:=k) ?_ ?_
      · unfold Instr.sliceBound
        refine Reads.bind (a:=(kk,(k:Int))) (Reads.pure _) ?_
        show Reads P B (if 0≤(k:Int)∧(k:Int)≤(p.length:Int) then Pure.pure (k:Int).toNat else boundsPanic kk k p.length .sliceAlen) H _
        rw [if_pos ⟨by omega,by omega⟩,gb];exact Reads.pure _
      · refine Reads.bind (a:=j) ?_ (Reads.pure _)
        unfold Instr.sliceBound
        refine Reads.bind (a:=(kj,(j:Int))) (Reads.pure _) ?_
        show Reads P B (if 0≤(j:Int)∧(j:Int)≤(k:Int) then Pure.pure (j:Int).toNat else boundsPanic kj j k .sliceB) H _
        rw [if_pos ⟨by omega,by omega⟩,gb];exact Reads.pure _
    · show Reads P B (Pure.pure (Value.string ((⟨p.toArray⟩:ByteArray).extract j k))) H _
      rw [jmD];exact Reads.pure _) q
end
theorem jrw {p:Nat} {c:UInt8} (h:s[p]?=some c):(⟨s.toArray⟩:ByteArray).get! p=c:=by
  obtain ⟨hl,hg⟩:=vH.1 h
  simp [ByteArray.get!,hl,hg]
theorem jmf {p:Nat} {c:UInt8} (h:s[p]?=some c) (hc:c.toNat<128):Utf8.decode ⟨s.toArray⟩ p=(c.toNat,1):=by
  unfold Utf8.decode
  simp only [vg,jrw h,if_pos hc]
theorem jm6 {p:Nat} {c:UInt8} (h:s[p]?=some c) (hc:128≤c.toNat): ∃u w,Utf8.decode ⟨s.toArray⟩ p=(u,w)∧128≤u∧u<4194304∧0<w:=by
  unfold Utf8.decode
  simp only [vg,jrw h]
  have hb:=c.toNat_lt
  have m1:=Vk ((⟨s.toArray⟩:ByteArray).get! (p+1)).toNat (show 0<64 by omega)
  have m2:=Vk ((⟨s.toArray⟩:ByteArray).get! (p+2)).toNat (show 0<64 by omega)
  have m3:=Vk ((⟨s.toArray⟩:ByteArray).get! (p+3)).toNat (show 0<64 by omega)
  generalize ((⟨s.toArray⟩:ByteArray).get! (p+1)).toNat%64=x1 at*
  generalize ((⟨s.toArray⟩:ByteArray).get! (p+2)).toNat%64=x2 at*
  generalize ((⟨s.toArray⟩:ByteArray).get! (p+3)).toNat%64=x3 at*
  rw [if_neg zO];have he:Utf8.runeError=65533:=rfl
  split
  · split
    · exact ⟨_,_,rfl,by omega,by omega,by omega⟩
    · exact ⟨_,_,rfl,by omega,by omega,by omega⟩
  · split
    · split
      · rename_i hv
        simp only [gK,decide_eq_true_eq] at hv
        exact ⟨_,_,rfl,by omega,by omega,by omega⟩
      · exact ⟨_,_,rfl,by omega,by omega,by omega⟩
    · split
      · split
        · rename_i hv
          simp only [gK,decide_eq_true_eq] at hv
          exact ⟨_,_,rfl,by omega,by omega,by omega⟩
        · exact ⟨_,_,rfl,by omega,by omega,by omega⟩
      · exact ⟨_,_,rfl,by omega,by omega,by omega⟩
def sitO (s:List UInt8) (p:Nat):Obj:= .stringIter ⟨s.toArray⟩ p
section
variable {m:Md P B} {i:Nat}
theorem k_srange {x:Operand} {a:ByteArray} (ht:P.underlying t=some .string) (ho:ops[i]?=some ⟨d,.range t x,ty,pos,af,g⟩) (hw:Wt ops l g) [ex:OpV l x (.string a)] [pa:SV a s]
    (n: ∀q,RegK m S ops r (put l d (.pointer (some ⟨q,0,none⟩))) (h++[⟨true,q,sitO s 0⟩]) C):RegK m S ops ((i,.free)::r) l h C:=by
  refine RegK.ke (.inr rfl) ho hw ?_
  simp only [execOp,ex.eq]
  refine Tri.bind ?_
  unfold Instr.range
  refine Tri.bind ((jai ht).reads.tri ?_)
  dsimp only
  refine Tri.bind (Tri.pure ?_)
  rw [pa.eq];refine Tri.bind (jkf fun q _ _=>Tri.pure (Tri.pure ⟨.inl (by trivial),n q⟩))
theorem k_snext {p:Nat} {x:Operand} {rw:Bool} {h':Nat→Hp} (ho:ops[i]?=some ⟨d,.next x true,ty,pos,af,g⟩) (hw:Wt ops l g) [ex:OpV l x (.pointer (some ⟨q,0,none⟩))] [hq:Has h q rw (sitO s p)] [u: ∀p,Upd h q (sitO s p) (h' p)]
    (done:s.length≤p→RegK m S ops r (put l d (.tuple [.bool false].toArray)) h C)
    (ascii: ∀c:UInt8,s[p]?=some c→c.toNat<128→RegK m S ops r (put l d (.tuple [.bool true,.int .i64 p,.int .i32 c.toNat].toArray)) (h' (p+1)) C)
    (wide: ∀(c:UInt8) (u w:Nat),s[p]?=some c→128≤c.toNat→128≤u→u<4194304→0<w→RegK m S ops r (put l d (.tuple [.bool true,.int .i64 p,.int .i32 u].toArray)) (h' (p+w)) C):
    RegK m S ops ((i,.free)::r) l h C:=by
  refine RegK.ke (.inr rfl) ho hw ?_
  simp only [execOp,ex.eq]
  refine Tri.bind ?_
  unfold Instr.next
  refine Tri.bind ((jbs hq.mem rfl).tri ?_)
  dsimp only [sitO]
  by_cases hp:p<s.length
  · have hsz:p<(⟨s.toArray⟩:ByteArray).size:=by simpa [ByteArray.size] using hp
    rw [if_pos hsz];have hget:s[p]?=some s[p]:=gD hp
    have key: ∃uu ww,Utf8.decode ⟨s.toArray⟩ p=(uu,ww)∧RegK m S ops r (put l d (.tuple [.bool true,.int .i64 p,.int .i32 uu].toArray)) (h' (p+ww)) C:=by
      by_cases hc:s[p].toNat<128
      · exact ⟨_,_,jmf hget hc,ascii _ hget hc⟩
      · obtain ⟨uu,ww,e,b1,b2,b3⟩:=jm6 hget zO
        exact ⟨uu,ww,e,wide _ uu ww hget zO b1 b2 b3⟩
    obtain ⟨uu,ww,hdec,hk⟩:=key
    obtain ⟨o1,h1,h2,e1,e2⟩:=(u (p+ww)).ex
    rw [hdec];refine jgy hq.mem ⟨o1,h1,h2,e1,rfl⟩ ?_
    refine Tri.bind (jbB rfl rfl ?_)
    refine Tri.pure (Tri.pure ⟨.inl (by trivial),?_⟩)
    have:Obj.stringIter ⟨s.toArray⟩ (p+ww)=sitO s (p+ww):=rfl
    rw [this,←e2];exact hk
  · rw [if_neg (by simpa [ByteArray.size] using hp)];exact Tri.pure (Tri.pure ⟨.inl (by trivial),done zO⟩)
end
def jcc (c:UInt8):Value:= .int .u8 (c.toNat:Int)
section
end
end Go.Lo
namespace Go.Lo
open Go.Conc (G)
abbrev Str:=List UInt8
instance:Enc Str 1 where
  enc:=fun s=>[str s]
  len:=fun _=>rfl
  one:=fun _=>jcL rfl
structure Ce where
  butt:Bool
  line:Int
  st:Int
  deriving DecidableEq,Inhabited
abbrev ceL (x:Ce):List Value:=[.bool x.butt,.int .i64 x.line,.int .i64 x.st]
instance:Enc Ce 3 where
  enc:=ceL
  len:=fun _=>rfl
  one:=fun _=>jcL rfl
abbrev ceV (x:Ce):Value:= .agg (ceL x).toArray
structure Ln where
  lat:Int
  figs:List Str
  deriving DecidableEq,Inhabited
structure Lp where
  ln:Ln
  p:Option Addr
  c:Nat
abbrev lpL (x:Lp):List Value:=[.int .i64 x.ln.lat,.slice x.p x.ln.figs.length x.c]
instance:Enc Lp 2 where
  enc:=lpL
  len:=fun _=>rfl
  one:=fun _=>jcL rfl
abbrev lpV (x:Lp):Value:= .agg (lpL x).toArray
structure Tb where
  wrong:Int
  sts:List Str
  waters:List Ln
  butts:List Ln
  deriving DecidableEq,Inhabited
abbrev tbL (b:Tb) (ps:Option Addr) (ns cs:Nat) (pw:Option Addr) (nw cw:Nat) (pb:Option Addr) (nb cb:Nat):List Value:=[.int .i64 b.wrong,.slice ps ns cs,.slice pw nw cw,.slice pb nb cb]
abbrev tbV (b:Tb) (ps:Option Addr) (ns cs:Nat) (pw:Option Addr) (nw cw:Nat) (pb:Option Addr) (nb cb:Nat):Value:= .agg (tbL b ps ns cs pw nw cw pb nb cb).toArray
def rdF (mo:List Int):Str→List Int→Nat→Nat→List Int×Bool
  |[],v,k,n=>(v,decide (k=2)&&decide (0<n))
  |c::r,v,k,n=>
    if c.toNat=45∧0<n∧k<2 then rdF mo r v (k+1) 0
    else if c.toNat=63∧n=0 then
      (if (v.set k (-1)).getD k 0>mo.getD k 0 then ([0,0,0],false) else rdF mo r (v.set k (-1)) k (n+1))
    else if (48≤c.toNat∧c.toNat≤57)∧(n=0∨v.getD k 0>0) then
      (if (v.set k (10*v.getD k 0+((c.toNat:Int)-48))).getD k 0>mo.getD k 0 then ([0,0,0],false) else rdF mo r (v.set k (10*v.getD k 0+((c.toNat:Int)-48))) k (n+1))
    else ([0,0,0],false)
end Go.Lo
namespace Go.Lo
open Go.Conc
def blk:Loc→Option Nat
  | .cell a=>some a.block
  | .obj r=>some r
  |_=>none
theorem EvOk.touch {e:Event} (o:EvOk B h n n' e) {a:Touch} (ha:(MemAct.ofEvent e).touch?=some a): ∃b,blk a.loc=some b∧Allowed B h n n' a.write b:=by
  rcases o with rfl|⟨hs,o⟩
  · cases ha
  obtain ⟨l,wr,sy⟩:=e
  simp only at hs
  subst hs
  cases l with
  |cell x=>
    have:a=⟨.cell x,wr,.plain⟩:=by simpa [MemAct.ofEvent,MemAct.touch?] using ha.symm
    subst this
    exact ⟨_,rfl,o⟩
  |obj x=>
    have:a=⟨.obj x,wr,.plain⟩:=by simpa [MemAct.ofEvent,MemAct.touch?] using ha.symm
    subst this
    exact ⟨_,rfl,o⟩
  |output=>exact o.elim
  |goroutines=>exact o.elim
  |mark m=>exact o.elim
theorem EvOk.word {e:Event} (o:EvOk B h n n' e): ∀m,MemAct.ofEvent e= .mark m→Neutral m:=by
  rcases o with rfl|⟨hs,o⟩
  · intro m hm;cases hm;rfl
  obtain ⟨l,wr,sy⟩:=e
  simp only at hs
  subst hs
  intro m hm
  cases l with
  |mark x=>exact o.elim
  |_=>simp [MemAct.ofEvent] at hm
def jcr (f:Nat→Hp) (i:Nat) (h:Hp):Nat→Hp:=fun j=>if j=i then h else f j
@[simp] theorem updH_same (f:Nat→Hp) (i:Nat) (h:Hp):jcr f i h i=h:=by simp [jcr]
theorem jao (f:Nat→Hp) {i j:Nat} (h:Hp) (e:j≠i):jcr f i h j=f j:=by simp [jcr,e]
def ApH (h k:Hp):Prop:= ∀c∈h,∀d∈k,(c.rw=true∨d.rw=true)→c.b≠d.b
theorem ApH.symm {k:Hp} (a:ApH h k):ApH k h:=fun c hc d hd x e=>a d hd c hc x.symm e.symm
theorem jdO {g:Nat} {fn:FuncId} {es:Array Event} {op:MemOp} (h:op∈MemOp.ofEvents g fn pos es): ∃e∈es,op={g,fn,pos,act:= .ofEvent e}:=by
  unfold MemOp.ofEvents at h
  split at h
  · simp at h
  · obtain ⟨e,he,rfl⟩:=Array.mem_map.1 h
    exact ⟨e,he,rfl⟩
theorem jcd {t u:Trace} {i:Nat} {a:Touch} (h:touchAt (t++u) i=some a):touchAt t i=some a∨ ∃op∈u,(t++u)[i]?=some op∧op.act.touch?=some a:=by
  obtain ⟨op,ho,hoa⟩:=touch_of h
  rcases getElem?_append_cases ho with ⟨hi,ho'⟩|⟨_,hou⟩
  · exact .inl (by rw [touchAt_of ho'];exact hoa)
  · exact .inr ⟨op,hou,ho,hoa⟩
section
variable {n lim lim':Nat} {t u:Trace}
end
def Rel (t:Trace) (a:Addr) (i:Nat):Prop:= ∃p,t.act? p=some (.mark (.releaseMerge a))∧t.heard p∧Before t i p
theorem Rel.app {t:Trace} {a:Addr} {i:Nat} (u:Trace) (h:Rel t a i):Rel (t++u) a i:=
  let ⟨p,h1,h2,h3⟩:=h
  have hp:=lt_of_act? h1
  ⟨p,by rw [act?_old hp];exact h1,(heard_old hp).2 h2,h3.app u⟩
structure TJ (n lim gn:Nat) (Hl:Nat→Hp) (Sh:Nat→Prop) (Pool:Hp) (la wa:Addr) (Gone Live:Nat→Prop) (t:Trace):Prop where
  clean: ∀said,¬Race said t
  low: ∀i a b,touchAt t i=some a→blk a.loc=some b→b<lim
  base: ∀i a b,touchAt t i=some a→blk a.loc=some b→b<n→a.write=false
  plain: ∀i a b,touchAt t i=some a→blk a.loc=some b→Sh b∨a.kind= .plain
  known: ∀g,∀c∈Hl g,∀i a,touchAt t i=some a→blk a.loc=some c.b→(c.rw=true∨a.write=true)→Knows t g i
  pool: ∀c∈Pool,∀i a,touchAt t i=some a→blk a.loc=some c.b→(c.rw=true∨a.write=true)→Rel t la i∨ ∀g,Live g→Knows t g i
  sh: ∀b,Sh b→ ∀i a,touchAt t i=some a→blk a.loc=some b→(a.kind= .plain→ ∀g,Live g→Knows t g i)∧(a.kind= .said→Knows t 0 i)
  gone: ∀(i:Nat) (x:MemOp),t[i]?=some x→Gone x.g→t.counts i→Rel t wa i∨Knows t 0 i
  norel: ∀a,NoRelease a t
  gs: ∀op∈t,op.g<gn
section
variable {n lim lim' gn:Nat} {Hl Hl':Nat→Hp} {Gone Gone' Live Live':Nat→Prop} {t u:Trace}
theorem jc6 (t:Trace) (y:MemOp):(t++ #[y])[t.size]?=some y:=by
  rw [Array.getElem?_append_right (gL _)];simp
theorem je4 {t:Trace} {y:MemOp} (h:Deaf t y.g=0):(t++ #[y]).heard t.size:=
  ⟨y.g,g?_of (jc6 t y),by rw [deaf_old (gL _)];exact h⟩
theorem jjh {t:Trace} {y:MemOp} (h:0<Deaf t y.g): ¬(t++ #[y]).heard t.size:=by
  rintro ⟨g,h1,h2⟩;rw [g?_of (jc6 t y)] at h1
  obtain rfl:=gF h1
  rw [deaf_old (gL _)] at h2
  unfold Deaf at h;omega
theorem jck {t:Trace} {y x:MemOp} {i:Nat} (h:(t++ #[y])[i]?=some x):(i<t.size∧t[i]?=some x)∨(i=t.size∧x=y):=by
  rcases getElem?_append_cases h with ⟨h1,h2⟩|⟨h1,h2⟩
  · exact .inl ⟨h1,h2⟩
  · have:=lt_size_of_getElem? h
    have e:x=y:=by simpa using h2
    exact .inr ⟨by simp at this;omega,e⟩
theorem jdV {t:Trace} {y:MemOp} {i:Nat} {a:Touch} (h:touchAt (t++ #[y]) i=some a):touchAt t i=some a∨(i=t.size∧y.act.touch?=some a):=by
  obtain ⟨x,hx,hxa⟩:=touch_of h
  rcases jck hx with ⟨_,h2⟩|⟨h1,rfl⟩
  · exact .inl (by rw [touchAt_of h2];exact hxa)
  · exact .inr ⟨h1,hxa⟩
theorem acquired {a:Addr} {y:MemOp} (hn:NoRelease a t) (hy:y.act= .mark (.acquire a)) (hd:Deaf t y.g=0) {i:Nat} (h:Rel t a i):Knows (t++ #[y]) y.g i:=by
  obtain ⟨p,h1,h2,h3⟩:=h
  have hp:=lt_of_act? h1
  refine ⟨t.size,y,jc6 t y,rfl,.inr ((h3.app _).hb ?_)⟩
  refine .single (.inr ⟨.marked hp (.inr (by rw [act?_old hp];exact h1)) (by rw [act?_of (jc6 t y),hy]) (fun k _ hk=>?_),(heard_old hp).2 h2,je4 hd⟩)
  rw [act?_old hk];exact hn k
theorem released {a:Addr} {y:MemOp} (hy:y.act= .mark (.releaseMerge a)) (hd:Deaf t y.g=0) {i:Nat} (h:Knows t y.g i):Rel (t++ #[y]) a i:=
  ⟨t.size,by rw [act?_of (jc6 t y),hy],je4 hd,.inr (h.hb_new (gL _) (jc6 t y) rfl)⟩
theorem TJ.handed (hk: ∀(i:Nat) (x:MemOp),t[i]?=some x→x.g≠0→t.counts i→Knows t 0 i):t.HandedOver:=by
  intro i g hg hne hct
  obtain ⟨x,hx,rfl⟩: ∃x,t[i]?=some x∧x.g=g:=by
    unfold Trace.g? at hg
    obtain ⟨x,hx,e⟩:=VE.1 hg
    exact ⟨x,hx,e⟩
  obtain ⟨q,z,h1,h2,h3⟩:=hk i x hx hne hct
  rcases h3 with rfl|h3
  · rw [hx] at h1
    obtain rfl:=gF h1
    exact absurd h2 hne
  · exact ⟨q,by rw [g?_of h1,h2],h3⟩
theorem jkY {w w':World} {es:Array Event} (st:Stp B h h' w w' es) (t:Trace) (g:Nat) (fn:FuncId) (pos:String) (j:Nat):Deaf (t++MemOp.ofEvents g fn pos es) j=Deaf t j:=by
  by_cases e:j=g
  · subst e
    rw [Deaf_own];unfold deafBehind
    have hev: ∀e∈es,∀m,e.loc= .mark m→Neutral m:=fun e he m hm=>(st.evs e he).word m (by obtain ⟨l,a,b⟩:=e;simp only at hm;subst hm;rfl)
    rw [←Vb];have gen: ∀(l:List Event) (d:Nat),(∀e∈l,∀m,e.loc= .mark m→Neutral m)→l.foldl (fun d e=>match e.loc with| .mark .disable=>d+1| .mark .enable=>d-1|_=>d) d=d:=by
      intro l
      induction l with
      |nil=>exact fun _ _=>rfl
      |cons e l ih=>
        intro d hl
        rw [VX];have h1:(match e.loc with| .mark .disable=>d+1| .mark .enable=>d-1|_=>d)=d:=by
          have:=hl e gk
          split
          · rename_i x;have:=this _ x;cases this
          · rename_i x;have:=this _ x;cases this
          · rfl
        rw [h1];exact ih d fun e he=>hl e (gN _ he)
    exact gen _ _ fun e he=>hev e (xB.1 he)
  · exact Deaf_other t (fun x=>e x.symm) _ fun op hop=>by obtain ⟨e',_,rfl⟩:=jdO hop;rfl
theorem jiT {t:Trace} {g:Nat} (h: ∀op∈t,op.g≠g):Deaf t g=0:=by
  have gen: ∀i,i≤t.size→t.deaf g i=0:=by
    intro i
    induction i with
    |zero=>exact fun _=>rfl
    |succ i ih=>
      intro hi
      have hlt:i<t.size:=by omega
      rw [deaf_succ (gR hlt),ih zO];have:=h t[i] (Array.getElem_mem hlt)
      unfold deafStep
      split
      · rw [if_neg this]
      · rw [if_neg this]
      · rfl
  exact gen _ (gL _)
end
def awoken (g:Goroutine):Goroutine:=if g.status= .blocked then {g with status:= .running} else g
def Later (o o':Os):Prop:= ∃d:Nat,o'={o with wall:=o.wall+d,mono:=o.mono+d}
theorem Later.refl (o:Os):Later o o:=⟨0,rfl⟩
structure SEff (B:Array Obj) (Shp Shp':Hp) (w w':World):Prop where
  sat: ∀X,Sat B (X++Shp) w→Sat B (X++Shp') w'
  size:w'.heap.size=w.heap.size
  os:Later w.os w'.os
  out:w'.output=w.output
  tape:w'.tape=w.tape
  drawn:w.drawn≤w'.drawn
  old: ∀b,(∀c∈Shp,c.b≠b)→w'.heap[b]?=w.heap[b]?
  keys:Shp'.map (·.b)=Shp.map (·.b)
  rw: ∀c∈Shp',c.rw=true
theorem SEff.refl {w:World} (h: ∀c∈Shp,c.rw=true):SEff B Shp Shp w w:=⟨fun _ s=>s,rfl,.refl _,rfl,rfl,gL _,fun _ _=>rfl,rfl,h⟩
theorem jkK {A C:Hp} (h:A.map (·.b)=C.map (·.b)) (b:Nat):(∃c∈A,c.b=b)↔ ∃c∈C,c.b=b:=by
  have:b∈A.map (·.b)↔b∈C.map (·.b):=by rw [h]
  simpa [gP] using this
section
variable {Shp Shp' Pool Pool':Hp} {w w':World}
def after (P:Program) (g g':Goroutine) (w':World) (gs:Array Goroutine) (i:Nat):Array Goroutine:=(gs.map (woken P g g' w')).setIfInBounds i g'
theorem ja0 {g g':Goroutine} {i:Nat}:(after P g g' w' gs i).size=gs.size:=by unfold after;rw [GM,Array.size_map]
theorem jbb {g g' x:Goroutine} {i:Nat} (hi:gs[i]?=some x):(after P g g' w' gs i)[i]?=some g':=by
  unfold after
  rw [GL (by rw [Array.size_map];exact (gH.1 hi).1)]
end
def fineE (Sh:Nat→Prop) (i:Nat) (gone:Prop) (d:Nat) (e:Event):Prop:=
  match e.loc with
  | .cell ad=>e.sync=true∧Sh ad.block∧(gone→0<d)
  | .mark .disable| .mark .enable| .mark (.acquire _)| .mark (.releaseMerge _)| .mark .noRoom| .mark (.extern _)=>True
  | .mark (.read ad)| .mark (.write ad)=>i=0∧Sh ad.block∧ ¬gone
  |_=>False
def jeR (d:Nat) (e:Event):Nat:=match e.loc with| .mark .disable=>d+1| .mark .enable=>d-1|_=>d
def fineL (Sh:Nat→Prop) (i:Nat) (gone:Prop):Nat→List Event→Prop
  |_,[]=>True
  |d,e::l=>fineE Sh i gone d e∧fineL Sh i gone (jeR d e) l
theorem jeS (d:Nat) (l:List Event):deafBehind d l.toArray=l.foldl jeR d:=by
  unfold deafBehind
  rw [←Vb];rfl
section
end
structure ProS where
  S:Type
  la:Addr
  wa:Addr
  Inv:Hp→Hp→(Nat→Option S)→Prop
  Blk:S→Hp→Prop
  gone:S→Prop
def ja6 {S:Type} (F:Nat→Option S) (i:Nat) (s:Option S):Nat→Option S:=fun j=>if j=i then s else F j
@[simp] theorem updS_same {S:Type} (F:Nat→Option S) (i:Nat) (s:Option S):ja6 F i s i=s:=by simp [ja6]
theorem jam {S:Type} (F:Nat→Option S) {i j:Nat} (s:Option S) (e:j≠i):ja6 F i s j=F j:=by simp [ja6,e]
inductive SOut (P:Program) (B:Array Obj) (Q:ProS) (i d:Nat) (s:Q.S) (h Shp Pool:Hp) (F:Nat→Option Q.S) (g:Goroutine) (w:World) (K':Nat→Option Q.S→Goroutine→Hp→Prop):GStep→Prop
  |act {g':Goroutine} {w':World} {l:List Event} {Shp':Hp} {o:Option Q.S} (e:SEff B Shp Shp' w w') (wk:Shp'=Shp∨mayWake P g=true) (hs:g'.status= .running) (f:fineL (fun b=> ∃c∈Shp,c.b=b) i (Q.gone s) d l)
      (hgo: ∀s',o=some s'→(Q.gone s'↔Q.gone s)) (hno:o=none→Q.gone s∧h=[]) (inv:Q.Inv Shp' Pool (ja6 F i o)) (k:K' (l.foldl jeR d) o g' h):SOut P B Q i d s h Shp Pool F g w K' (.go g' w' l.toArray)
  |take {g':Goroutine} {s':Q.S} (hs:g'.status= .running) (hd:d=0) (hg: ¬Q.gone s∧ ¬Q.gone s') (inv:Q.Inv Shp [] (ja6 F i (some s'))) (k:K' d (some s') g' (h++Pool)):SOut P B Q i d s h Shp Pool F g w K' (.go g' w #[⟨.mark (.acquire Q.la),false,true⟩])
  |put {g':Goroutine} {s':Q.S} {hr hp:Hp} (hs:g'.status= .running) (hd:d=0) (hg: ¬Q.gone s∧ ¬Q.gone s') (hP:Pool=[]) (eh:Weak B h (hr++hp)) (inv:Q.Inv Shp hp (ja6 F i (some s'))) (k:K' d (some s') g' hr):SOut P B Q i d s h Shp Pool F g w K' (.go g' w #[⟨.mark (.releaseMerge Q.la),false,true⟩])
  |bye {g':Goroutine} {s':Q.S} (hs:g'.status= .running) (hd:d=0) (hg: ¬Q.gone s∧Q.gone s') (hi:i≠0) (inv:Q.Inv Shp Pool (ja6 F i (some s'))) (k:K' d (some s') g' []):SOut P B Q i d s h Shp Pool F g w K' (.go g' w #[⟨.mark (.releaseMerge Q.wa),false,true⟩])
  |block (hb:Q.Blk s Shp):SOut P B Q i d s h Shp Pool F g w K' (.go {g with status:= .blocked} w #[])
end Go.Lo
namespace Go.Lo
structure Wd where
  l:Bool
  w:Bool
  s:Bool
  n:Nat
def b01 (b:Bool):Nat:=if b then 1 else 0
@[simp] theorem b01_true:b01 true=1:=rfl
@[simp] theorem b01_false:b01 false=0:=rfl
inductive LS where
  |rest (r:Nat)
  |out
  |look (aw:Bool) (k:Nat)
  |try_ (aw:Bool) (old:Wd) (k:Nat)
  |wait (k:Nat)
  |woken (k:Nat)
  |handed (m:Nat)
  |hold (q:Nat)
  |seek (k:Nat)
  |unl (old:Wd) (k:Nat)
  |post
  |fin
section
variable {α:Type}
def tot (f:α→Nat) (G:Nat→α):Nat→Nat
  |0=>0
  |n+1=>tot f G n+f (G n)
def jdj (G:Nat→α) (i:Nat) (a:α):Nat→α:=fun j=>if j=i then a else G j
@[simp] theorem updF_same (G:Nat→α) (i:Nat) (a:α):jdj G i a i=a:=by simp [jdj]
theorem jdq (G:Nat→α) {i j:Nat} (a:α) (e:j≠i):jdj G i a j=G j:=by simp [jdj,e]
theorem jlf {f:α→Nat} {G G':Nat→α}: ∀{n:Nat},(∀j,j<n→f (G j)=f (G' j))→tot f G n=tot f G' n
  |0,_=>rfl
  |n+1,h=>by simp only [tot];rw [jlf fun j hj=>h j zO,h n zO]
theorem jgz {f:α→Nat} {G:Nat→α} {i:Nat} {a:α}: ∀{n:Nat},i<n→tot f (jdj G i a) n+f (G i)=tot f G n+f a
  |0,h=>by omega
  |n+1,h=>by
    simp only [tot]
    by_cases e:i=n
    · subst e
      rw [updF_same,jlf (G':=G) fun j hj=>by rw [jdq _ _ zO]];omega
    · have:=jgz (f:=f) (G:=G) (i:=i) (a:=a) (n:=n) zO
      rw [jdq _ _ (fun x=>e x.symm)];omega
theorem jle {f:α→Nat} {G:Nat→α} {i:Nat}: ∀{n:Nat},i<n→f (G i)≤tot f G n
  |0,h=>by omega
  |n+1,h=>by
    simp only [tot]
    by_cases e:i=n
    · subst e;omega
    · have:=jle (f:=f) (G:=G) (i:=i) (n:=n) zO
      omega
theorem jpV {f:α→Nat} {G:Nat→α}: ∀{n:Nat},0<tot f G n→ ∃i,i<n∧0<f (G i)
  |0,h=>by simp [tot] at h
  |n+1,h=>by
    simp only [tot] at h
    by_cases e:0<f (G n)
    · exact ⟨n,by omega,e⟩
    · obtain ⟨i,h1,h2⟩:=jpV (f:=f) (G:=G) (n:=n) zO
      exact ⟨i,by omega,h2⟩
theorem jpX {f:α→Nat} {G:Nat→α} {n:Nat} (h: ∀j,n≤j→f (G j)=0): ∀{m:Nat},n≤m→tot f G m=tot f G n
  |0,hm=>by
                obtain rfl:n=0:=by omega
                rfl
  |m+1,hm=>by
    by_cases e:n=m+1
    · rw [e]
    · simp only [tot]
      rw [jpX h (m:=m) zO,h m zO];rfl
theorem jkg {f g:α→Nat} {G:Nat→α}: ∀{n:Nat},tot (fun a=>f a+g a) G n=tot f G n+tot g G n
  |0=>rfl
  |n+1=>by
    simp only [tot]
    have:=jkg (f:=f) (g:=g) (G:=G) (n:=n)
    omega
end
section
variable {top sm sm' N i k:Nat} {x x':Wd} {G:Nat→LS} {a b:LS}
end
inductive WS where
  |idle
  |on
  |bye
  |l1
  |l2
  |l3
  |adds
  |look (k:Nat)
  |tries (y k:Nat)
  |parked
  |woke
  |done
def WS.cV:WS→Nat| .on=>1| .bye=>1| .adds=>1|_=>0
def WS.c1:WS→Nat| .l1=>1|_=>0
def WS.c2:WS→Nat| .l2=>1|_=>0
def WS.c3:WS→Nat| .l3=>1|_=>0
def WS.kid:WS→Prop
  | .idle| .on| .bye| .l1| .l2| .l3=>True
  |_=>False
structure WCt where
  V:Nat
  a:Nat
  b:Nat
  c:Nat
def jgx (G:Nat→WS) (N:Nat):WCt:=⟨tot WS.cV G N,tot WS.c1 G N,tot WS.c2 G N,tot WS.c3 G N⟩
structure WMoves (p q:WS) (c c':WCt):Prop where
  hV:c'.V+p.cV=c.V+q.cV
  h1:c'.a+p.c1=c.a+q.c1
  h2:c'.b+p.c2=c.b+q.c2
  h3:c'.c+p.c3=c.c+q.c3
theorem jjt {G:Nat→WS} {i N:Nat} (hi:i<N) (b:WS):WMoves (G i) b (jgx G N) (jgx (jdj G i b) N):=⟨jgz hi,jgz hi,jgz hi,jgz hi⟩
def jb5 (v wt ws:Nat) (c:WCt):WS→Prop
  | .idle| .adds=>wt=0∧ws=0∧c.a=0∧c.b=0∧c.c=0
  | .look k=>wt=0∧ws=0∧c.a=0∧c.b=0∧c.c=0∧v≤k
  | .tries y k=>wt=0∧ws=0∧c.a=0∧c.b=0∧c.c=0∧v≤k∧(v≠y→v<k)∧0<y
  | .parked=>(wt=1∧ws=0∧c.c=0∧(0<v→c.a+c.b=0)∧(v=0→c.a+c.b=1))∨(wt=0∧v=0∧c.a=0∧c.b=0∧c.c+ws=1)
  | .woke| .done=>wt=0∧v=0∧ws=0∧c.a=0∧c.b=0∧c.c=0
  |_=>False
structure WgInv (v wt ws N:Nat) (G:Nat→WS):Prop where
  pos:0<N
  hV:v=(jgx G N).V
  fits:jb5 v wt ws (jgx G N) (G 0)
  kids: ∀j,j≠0→(G j).kid
section
variable {v wt ws v' wt' ws' N i k y:Nat} {G:Nat→WS} {a b:WS}
theorem WgInv.kid (I:WgInv v wt ws N G) (hi:i<N) (h0:i≠0) (ha:G i=a) (b:WS) (hb:b.kid) (hc: ∀c c',WMoves a b c c'→v=c.V→jb5 v wt ws c (G 0)→v'=c'.V∧jb5 v' wt' ws' c' (G 0)):WgInv v' wt' ws' N (jdj G i b):=by
  have m:=jjt (G:=G) hi b
  rw [ha] at m
  obtain ⟨h1,h2⟩:=hc _ _ m I.hV I.fits
  refine ⟨I.pos,h1,by rw [jdq _ _ (fun e=>h0 e.symm)];exact h2,fun j hj=>?_⟩
  by_cases e:j=i
  · subst e;rw [updF_same];exact hb
  · rw [jdq _ _ e];exact I.kids j hj
theorem WgInv.main (I:WgInv v wt ws N G) (ha:G 0=a) (b:WS) (hc: ∀c c',WMoves a b c c'→v=c.V→jb5 v wt ws c a→v'=c'.V∧jb5 v' wt' ws' c' b):WgInv v' wt' ws' N (jdj G 0 b):=by
  have m:=jjt (G:=G) I.pos b
  rw [ha] at m
  obtain ⟨h1,h2⟩:=hc _ _ m I.hV (ha▸I.fits)
  refine ⟨I.pos,h1,by rw [updF_same];exact h2,fun j hj=>?_⟩
  rw [jdq _ _ hj];exact I.kids j hj
theorem WgInv.has (I:WgInv v wt ws N G) (hi:i<N) (ha:G i=a):a.cV≤v∧a.c1≤(jgx G N).a∧a.c2≤(jgx G N).b∧a.c3≤(jgx G N).c:=by
  refine ⟨?_,?_,?_,?_⟩
  · rw [←ha,I.hV];exact jle hi
  · rw [←ha];exact jle hi
  · rw [←ha];exact jle hi
  · rw [←ha];exact jle hi
theorem WgInv.adds (I:WgInv v wt ws N G) (ha:G 0= .idle):wt=0∧WgInv (v+1) wt ws N (jdj G 0 .adds):=by
  have f:=I.fits
  rw [ha] at f
  refine ⟨f.1,I.main ha .adds fun c c' ⟨m1,m2,m3,m4⟩ hv f=>?_⟩
  simp only [WS.cV,WS.c1,WS.c2,WS.c3] at m1 m2 m3 m4
  simp only [jb5] at f⊢
  omega
theorem WgInv.more (I:WgInv v wt ws N G) {N':Nat} (hN:N≤N') (hz: ∀j,N≤j→G j= .idle):WgInv v wt ws N' G:=by
  have e: ∀f:WS→Nat,f .idle=0→tot f G N'=tot f G N:=fun f hf=>jpX (fun j hj=>by rw [hz j hj];exact hf) hN
  have ec:jgx G N'=jgx G N:=by
    unfold jgx
    rw [e _ rfl,e _ rfl,e _ rfl,e _ rfl]
  exact ⟨GW I.pos hN,by rw [ec];exact I.hV,by rw [ec];exact I.fits,I.kids⟩
theorem WgInv.start (I:WgInv v wt ws N G) (ha0:G 0= .adds) (h0:i≠0) (hi:i<N) (ha:G i= .idle):WgInv v wt ws N (jdj (jdj G 0 .idle) i .on):=by
  have I1:WgInv (v-1) wt ws N (jdj G 0 .idle):=by
    refine I.main ha0 .idle fun c c' ⟨m1,m2,m3,m4⟩ hv f=>?_
    simp only [WS.cV,WS.c1,WS.c2,WS.c3] at m1 m2 m3 m4
    simp only [jb5] at f⊢
    omega
  have hv:=(I.has I.pos ha0).1
  simp only [WS.cV] at hv
  refine I1.kid (a:= .idle) hi h0 (by rw [jdq _ _ h0];exact ha) .on trivial fun c c' ⟨m1,m2,m3,m4⟩ hv f=>?_
  simp only [WS.cV,WS.c1,WS.c2,WS.c3] at m1 m2 m3 m4
  rw [updF_same] at f⊢
  simp only [jb5] at f⊢
  omega
theorem WgInv.loadSome (I:WgInv v wt ws N G) (ha:G 0= .look k) (hv:0<v):wt=0∧WgInv v wt ws N (jdj G 0 (.tries v k)):=by
  have f:=I.fits
  rw [ha] at f
  refine ⟨f.1,I.main ha _ fun c c' ⟨m1,m2,m3,m4⟩ hv f=>?_⟩
  simp only [WS.cV,WS.c1,WS.c2,WS.c3] at m1 m2 m3 m4
  simp only [jb5] at f⊢
  omega
theorem WgInv.casNo (I:WgInv v wt ws N G) (ha:G 0= .tries y k) (hv:v≠y):0<k∧wt=0∧WgInv v wt ws N (jdj G 0 (.look (k-1))):=by
  have f:=I.fits
  rw [ha] at f
  simp only [jb5] at f
  refine ⟨by omega,f.1,I.main ha _ fun c c' ⟨m1,m2,m3,m4⟩ hv f=>?_⟩
  simp only [WS.cV,WS.c1,WS.c2,WS.c3] at m1 m2 m3 m4
  simp only [jb5] at f⊢
  omega
theorem WgInv.casYes (I:WgInv v wt ws N G) (ha:G 0= .tries v k):wt=0∧WgInv v 1 ws N (jdj G 0 .parked):=by
  have f:=I.fits
  rw [ha] at f
  simp only [jb5] at f
  refine ⟨f.1,I.main ha _ fun c c' ⟨m1,m2,m3,m4⟩ hv f=>?_⟩
  simp only [WS.cV,WS.c1,WS.c2,WS.c3] at m1 m2 m3 m4
  simp only [jb5] at f⊢
  exact ⟨by omega,.inl ⟨by first|trivial|omega,by omega,by omega,fun _=>by omega,fun _=>by omega⟩⟩
theorem WgInv.passes (I:WgInv v wt (ws+1) N G) (ha:G 0= .parked):ws=0∧WgInv v wt ws N (jdj G 0 .woke):=by
  have f:=I.fits
  rw [ha] at f
  simp only [jb5] at f
  refine ⟨by omega,I.main ha _ fun c c' ⟨m1,m2,m3,m4⟩ hv f=>?_⟩
  simp only [WS.cV,WS.c1,WS.c2,WS.c3] at m1 m2 m3 m4
  simp only [jb5] at f⊢
  omega
theorem WgInv.ends (I:WgInv v wt ws N G) (ha:G 0= .woke):v=0∧wt=0∧WgInv v wt ws N (jdj G 0 .done):=by
  have f:=I.fits
  rw [ha] at f
  simp only [jb5] at f
  refine ⟨f.2.1,f.1,I.main ha _ fun c c' ⟨m1,m2,m3,m4⟩ hv f=>?_⟩
  simp only [WS.cV,WS.c1,WS.c2,WS.c3] at m1 m2 m3 m4
  simp only [jb5] at f⊢
  omega
theorem WgInv.none_left (I:WgInv v wt ws N G) (ha:G 0= .done) (h0:i≠0) (hi:i<N):G i= .idle:=by
  have f:=I.fits
  rw [ha] at f
  simp only [jb5] at f
  obtain ⟨g1,g2,g3,g4⟩:=I.has hi rfl
  have hk:=I.kids i h0
  cases hg:G i with
  |idle=>rfl
  |_=>rw [hg] at g1 g2 g3 g4 hk;simp only [WS.cV,WS.c1,WS.c2,WS.c3,WS.kid] at g1 g2 g3 g4 hk<;>omega
theorem WgInv.byes (I:WgInv v wt ws N G) (hi:i<N) (h0:i≠0) (ha:G i= .on):WgInv v wt ws N (jdj G i .bye):=by
  refine I.kid hi h0 ha .bye trivial fun c c' ⟨m1,m2,m3,m4⟩ hv f=>?_
  simp only [WS.cV,WS.c1,WS.c2,WS.c3] at m1 m2 m3 m4
  refine ⟨by omega,?_⟩
  cases hg:G 0<;>rw [hg] at f<;>simp only [jb5] at f⊢ <;>omega
theorem WgInv.less (I:WgInv v wt ws N G) (hi:i<N) (h0:i≠0) (ha:G i= .bye) (hd:v≠1∨wt=0):0<v∧WgInv (v-1) wt ws N (jdj G i .idle):=by
  have hv:=(I.has hi ha).1
  simp only [WS.cV] at hv
  refine ⟨hv,I.kid hi h0 ha .idle trivial fun c c' ⟨m1,m2,m3,m4⟩ hv f=>?_⟩
  simp only [WS.cV,WS.c1,WS.c2,WS.c3] at m1 m2 m3 m4
  refine ⟨by omega,?_⟩
  cases hg:G 0<;>rw [hg] at f<;>simp only [jb5] at f⊢ <;>omega
theorem WgInv.last (I:WgInv 1 wt ws N G) (hi:i<N) (h0:i≠0) (ha:G i= .bye) (hw:wt≠0):wt=1∧WgInv 0 wt ws N (jdj G i .l1):=by
  have f:=I.fits
  have hw1:wt=1:=by cases hg:G 0<;>rw [hg] at f<;>simp only [jb5] at f<;>omega
  refine ⟨hw1,I.kid hi h0 ha .l1 trivial fun c c' ⟨m1,m2,m3,m4⟩ hv f=>?_⟩
  simp only [WS.cV,WS.c1,WS.c2,WS.c3] at m1 m2 m3 m4
  refine ⟨by omega,?_⟩
  cases hg:G 0<;>rw [hg] at f<;>simp only [jb5] at f⊢ <;>omega
theorem WgInv.lastLoad (I:WgInv v wt ws N G) (hi:i<N) (h0:i≠0) (ha:G i= .l1):v=0∧wt=1∧WgInv v wt ws N (jdj G i .l2):=by
  have f:=I.fits
  obtain ⟨g1,g2,g3,g4⟩:=I.has hi ha
  simp only [WS.c1] at g2
  have hw1:v=0∧wt=1:=by cases hg:G 0<;>rw [hg] at f<;>simp only [jb5] at f<;>omega
  refine ⟨hw1.1,hw1.2,I.kid hi h0 ha .l2 trivial fun c c' ⟨m1,m2,m3,m4⟩ hv f=>?_⟩
  simp only [WS.cV,WS.c1,WS.c2,WS.c3] at m1 m2 m3 m4
  refine ⟨by omega,?_⟩
  cases hg:G 0<;>rw [hg] at f<;>simp only [jb5] at f⊢ <;>omega
theorem WgInv.lastStore (I:WgInv v wt ws N G) (hi:i<N) (h0:i≠0) (ha:G i= .l2):v=0∧WgInv 0 0 ws N (jdj G i .l3):=by
  have f:=I.fits
  obtain ⟨g1,g2,g3,g4⟩:=I.has hi ha
  simp only [WS.c2] at g3
  have hw1:v=0∧wt=1:=by cases hg:G 0<;>rw [hg] at f<;>simp only [jb5] at f<;>omega
  refine ⟨hw1.1,I.kid hi h0 ha .l3 trivial fun c c' ⟨m1,m2,m3,m4⟩ hv f=>?_⟩
  simp only [WS.cV,WS.c1,WS.c2,WS.c3] at m1 m2 m3 m4
  refine ⟨by omega,?_⟩
  cases hg:G 0<;>rw [hg] at f<;>simp only [jb5] at f⊢ <;>first|omega|exact .inr ⟨trivial,trivial,by omega,by omega,by omega⟩
theorem WgInv.lastWake (I:WgInv v wt ws N G) (hi:i<N) (h0:i≠0) (ha:G i= .l3):ws=0∧WgInv v wt 1 N (jdj G i .idle):=by
  have f:=I.fits
  obtain ⟨g1,g2,g3,g4⟩:=I.has hi ha
  simp only [WS.c3] at g4
  have hw1:ws=0:=by cases hg:G 0<;>rw [hg] at f<;>simp only [jb5] at f<;>omega
  refine ⟨hw1,I.kid hi h0 ha .idle trivial fun c c' ⟨m1,m2,m3,m4⟩ hv f=>?_⟩
  simp only [WS.cV,WS.c1,WS.c2,WS.c3] at m1 m2 m3 m4
  refine ⟨by omega,?_⟩
  cases hg:G 0<;>rw [hg] at f<;>simp only [jb5] at f⊢ <;>omega
theorem WgInv.live (I:WgInv v wt 0 N G) (ha:G 0= .parked): ∃j,j<N∧j≠0∧G j≠ .idle:=by
  have f:=I.fits
  rw [ha] at f
  simp only [jb5] at f
  have:0<tot (fun a=>a.cV+a.c1+a.c2+a.c3) G N:=by
    rw [jkg,jkg,jkg];have:=I.hV
    unfold jgx at this f
    simp only at this f
    omega
  obtain ⟨j,h1,h2⟩:=jpV this
  refine ⟨j,h1,fun e=>?_,fun e=>?_⟩
  · rw [e,ha] at h2;simp [WS.cV,WS.c1,WS.c2,WS.c3] at h2
  · rw [e] at h2;simp [WS.cV,WS.c1,WS.c2,WS.c3] at h2
theorem WgInv.small (I:WgInv v wt ws N G):wt≤1∧ws≤1:=by
  have f:=I.fits
  cases hg:G 0<;>rw [hg] at f<;>simp only [jb5] at f<;>omega
end
end Go.Lo
namespace Go.Lo
open Go.Conc
structure Pro where
  chans:List Nat
  done:Nat
  Msg:Nat→Value→Hp→Nat→Nat→Prop
section
end
inductive Tr where
  |leaf
  |node (f:Goroutine→Hp→Tr)
inductive TrU:Type 1 where
  |leaf
  |node (α:Type) (f:α→TrU)
def TrU.Lt (a b:TrU):Prop:= ∃(α:Type) (f:α→TrU) (x:α),b= .node α f∧a=f x
theorem TrU.lt {α:Type} (f:α→TrU) (x:α):TrU.Lt (f x) (.node α f):=⟨α,f,x,rfl,rfl⟩
theorem TrU.acc (t:TrU):Acc TrU.Lt t:=by
  induction t with
  |leaf=>exact ⟨_,fun y ⟨α,f,x,e,_⟩=>by cases e⟩
  |node α f ih=>exact ⟨_,fun y ⟨α',f',x,e,e'⟩=>by cases e;subst e';exact ih x⟩
def TrU.ofNat:Nat→TrU
  |0=> .leaf
  |n+1=> .node Unit fun _=> .ofNat n
def ULt (n:Nat) (a b:Nat→TrU):Prop:= ∃i,i<n∧TrU.Lt (a i) (b i)∧ ∀j,j≠i→a j=b j
theorem ULt.acc: ∀(n:Nat) (f:Nat→TrU),Acc (ULt n) f
  |0,f=>⟨_,fun g ⟨i,h,_⟩=>by omega⟩
  |n+1,f=>by
    have key: ∀T:TrU,∀f:Nat→TrU,f n=T→Acc (ULt (n+1)) f:=by
      intro T
      induction T.acc with
      |intro T _ ihT=>
        intro f hf
        induction ULt.acc n f with
        |intro f _ ihf=>
          refine ⟨_,fun g hg=>?_⟩
          obtain ⟨i,hi,hlt,he⟩:=hg
          by_cases e:i=n
          · subst e
            exact ihT (g i) (by rw [←hf];exact hlt) g rfl
          · exact ihf g ⟨i,by omega,hlt,he⟩ (by rw [he n (fun x=>e x.symm)];exact hf)
    exact key (f n) f rfl
def jlb (f:Nat→TrU) (i:Nat) (t:TrU):Nat→TrU:=fun j=>if j=i then t else f j
@[simp] theorem updU_same (f:Nat→TrU) (i:Nat) (t:TrU):jlb f i t i=t:=by simp [jlb]
theorem jd7 (f:Nat→TrU) {i j:Nat} (t:TrU) (e:j≠i):jlb f i t j=f j:=by simp [jlb,e]
theorem jd8 {f:Nat→TrU} {i:Nat} {t:TrU} (hi:i<n) (h:TrU.Lt t (f i)):ULt n (jlb f i t) f:=⟨i,hi,by rw [updU_same];exact h,fun j hj=>jd7 _ _ hj⟩
def jmr (f:Nat→Nat) (i d:Nat):Nat→Nat:=fun j=>if j=i then d else f j
@[simp] theorem updN_same (f:Nat→Nat) (i d:Nat):jmr f i d i=d:=by simp [jmr]
theorem jcs (f:Nat→Nat) {i j:Nat} (d:Nat) (e:j≠i):jmr f i d j=f j:=by simp [jmr,e]
section
variable {t:Trace}
end
section
theorem updH_same' (f:Nat→Hp) (i:Nat):jcr f i (f i)=f:=by funext j;by_cases e:j=i<;>simp [jcr,e]
theorem jir (g:Nat) (fn:FuncId) (pos:String) (m:Mark):MemOp.ofEvents g fn pos #[⟨.mark m,false,true⟩]= #[{g,fn,pos,act:= .mark m}]:=by simp [ofEvents_eq,MemAct.ofEvent]
end
section
variable {i:Nat} {g g₂:Goroutine} {cases:Array CommCase}
end
section
theorem jm0 {i j:Nat} {x g:Goroutine} (h:(gs.setIfInBounds i x)[j]?=some g):(j=i∧g=x)∨(j≠i∧gs[j]?=some g):=by
  by_cases e:i=j
  · subst e
    by_cases hlt:i<gs.size
    · rw [GL hlt] at h
      exact .inl ⟨rfl,(gF h).symm⟩
    · rw [vF (by simpa using hlt)] at h;cases h
  · rw [GC e] at h
    exact .inr ⟨fun x=>e x.symm,h⟩
theorem jdM {i:Nat} {x y:Goroutine} (h:gs[i]?=some y):(gs.setIfInBounds i x)[i]?=some x:=GL (gH.1 h).1
theorem set_other {i j:Nat} {x:Goroutine} (h:j≠i):(gs.setIfInBounds i x)[j]?=gs[j]?:=GC fun e=>h e.symm
theorem jpR (f:Nat→Hp) (i:Nat) (a b:Hp):jcr (jcr f i a) i b=jcr f i b:=by
  funext j;by_cases e:j=i<;>simp [jcr,e]
end
section
theorem jjG {m m':Machine} {u t:Trace} {N:Nat} {R:Stepped×Trace} (h:stepT P m=(.next m',u)) (r:runNT P N m' (t++u)=R):runNT P (N+1) m t=R:=by
  rw [←r];simp only [runNT,h]
end
def cntR (gs:Array Goroutine):Nat→Nat
  |0=>0
  |n+1=>cntR gs n+if (gs[n]?).map (·.status)=some .running then 1 else 0
theorem jj2 {gs gs':Array Goroutine}: ∀n,(∀j,j<n→gs'[j]?=gs[j]?)→cntR gs' n=cntR gs n
  |0,_=>rfl
  |n+1,h=>by simp only [cntR,jj2 n fun j hj=>h j zO,h n zO]
theorem jm8 {gs gs':Array Goroutine} {i:Nat} {g g':Goroutine} (hi:gs[i]?=some g) (hr:g.status= .running) (hi':gs'[i]?=some g') (hr':g'.status≠ .running) (hn: ∀j,j≠i→gs'[j]?=gs[j]?): ∀n,i<n→cntR gs' n<cntR gs n
  |0,h=>by omega
  |n+1,h=>by
    simp only [cntR]
    by_cases e:i=n
    · subst e
      rw [jj2 i fun j hj=>hn j zO,hi,hi'];simp [hr,hr']
    · have:=jm8 hi hr hi' hr' hn n zO
      rw [hn n fun x=>e x.symm];omega
section
end
end Go.Lo
namespace Go.Lo
structure Meet where
  n:Nat
  hit:Nat→Bool
  PL:List Nat→Hp→Prop
  mu:Nat
  wg:Nat
  tM:TypeId
  tW:TypeId
inductive SS where
  |m (r:Nat) (p:WS)
  |w (k:Nat) (l:LS) (g:WS) (z:List Nat)
def pL:Option SS→LS
  |none=> .fin
  |some (.m r _)=> .rest r
  |some (.w _ l _ _)=>l
def pW:Option SS→WS
  |none=> .idle
  |some (.m _ p)=>p
  |some (.w _ _ g _)=>g
section
variable {sm sm' v v' wt wt' ws ws' N r i k:Nat} {p:WS} {ks z:List Nat} {l l':LS} {g g':WS}
theorem jfm {α:Type} (G:Nat→α) (i:Nat) (a:α) (h:G i=a):jdj G i a=G:=by
  funext j
  by_cases e:j=i
  · subst e;rw [updF_same,h]
  · rw [jdq _ _ e]
end
end Go.Lo
