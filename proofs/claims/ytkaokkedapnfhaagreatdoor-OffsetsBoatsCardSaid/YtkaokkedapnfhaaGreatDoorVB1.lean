/- A part of the proof of a law. Condition of each theorem: as its statement says. -/
import Derived.KernelRfl
import Derived.WalkKit
import Derived.Conc.Events
import Derived.Conc.Own
import Derived.Orders
import Derived.IntWalk
set_option linter.all false
variable {A:Prop} {B:Array Go.Obj} {n b i j off ft e by':Nat} {k ik:Go.IntKind} {wr:Bool} {k' todo:List Go.Item} {w':Go.World} {P:Go.Program} {a:Int} {v v0 v1 z:Go.Value} {t ty u s t':Go.TypeId} {f:Nat×Nat} {o oi oj:Go.Oper} {cells first:Array Go.Value} {ds:List Go.Deferred} {cs:List Go.Frame} {g:Option (Nat×Bool)} {y:Go.Operand} {ops:Array Go.Oper} {rest ms:List Nat} {ob o':Go.Obj} {d:Option Go.Tmp} {l' vs cs' zs ys l'':List Go.Value} {pos:String} {af:Array Go.Edge} {r:Option Nat} {p:Option Go.Addr} {xs args:List Go.Operand} {ats:Array Go.TypeId} {pl:List (Nat×Nat)} {parts:List (Nat×Go.Value)} {ps:List (Nat×Go.Operand)}
namespace Go.Lo
def gC:=@List.getD_eq_getElem?_getD
def gD:=@List.getElem?_eq_getElem
def gE:=@List.Sublist.refl
def gF:=@Option.some.inj
def gG:=@List.append_assoc
def gH:=@Array.getElem?_eq_some_iff
def gI:=@List.sublist_append_left
def gJ:=@List.length_append
def gK:=@Bool.and_eq_true
def gL:=@Nat.le_refl
def gM:=@List.sublist_append_right
def gN:=@List.mem_cons_of_mem
def gO:=@List.mem_cons
def gP:=@List.mem_map
def gQ:=@List.mem_append
def gR:=@Array.getElem?_eq_getElem
def gS:=@List.drop_eq_nil_of_le
def gT:=@List.mem_range
def gU:=@List.length_map
def gV:=@List.mem_filter
def gX:=@List.all_eq_true
def gY:=@List.length_cons
def gZ:=@List.getElem?_toArray
def ga:=@List.getElem?_map
def gb:=@Int.toNat_natCast
def gd:=@List.append_nil
def ge:=@List.getElem?_append_left
def gf:=@Array.getD_eq_getD_getElem?
def gh:=@List.take_of_length_le
def gk:=@List.mem_cons_self
def gl:=@List.getElem?_eq_none
def gm:=@List.getElem?_append_right
def gq:=@List.pairwise_append
def gr:=@List.mem_singleton
def gt:=@List.cons_append
def gu:=@List.map_cons
def gw:=@Classical.byContradiction
def gx:=@Bool.false_eq_true
def gy:=@List.head_eq_of_cons_eq
def gz:=@Bool.eq_false_iff
def GA:=@List.map_append
def GB:=@Option.getD_some
def GC:=@Array.getElem?_setIfInBounds_ne
def GD:=@Nat.zero_add
def GE:=@List.mem_iff_getElem
def GF:=@List.mem_append_right
def GG:=@List.filter_append
def GH:=@List.length_take
def GI:=@List.nil_append
def GJ:=@Nat.le_trans
def GK:=@Nat.mul_one
def GL:=@Array.getElem?_setIfInBounds_self_of_lt
def GM:=@Array.size_setIfInBounds
def GN:=@List.mem_append_left
def GO:=@List.length_eq_zero_iff
def GP:=@Nat.mul_le_mul_right
def GQ:=@List.take_length
def GR:=@Bool.or_eq_true
def GT:=@List.range_succ
def GU:=@List.length_filter_le
def GV:=@Nat.pow_le_pow_right
def GW:=@Nat.lt_of_lt_of_le
def GX:=@List.length_singleton
def GY:=@List.map_congr_left
def GZ:=@List.getElem?_take
def Ga:=@List.Nodup.length_le_of_subset
def Gb:=@List.cons.injEq
def Gc:=@Nat.add_mul
def Gd:=@List.flatMap_append
def Ge:=@List.nil_sublist
def Gf:=@Nat.lt_or_ge
def Gg:=@List.take_add_one
def Gh:=@Option.isNone_iff_eq_none
def Gi:=@List.set_eq_take_append_cons_drop
def Gj:=@List.Sublist.trans
def Gk:=@Bool.not_false
def Gl:=@Option.map_some
def Gm:=@Array.all_eq_true_iff_forall_mem
def Gn:=@List.getElem_mem
def Gp:=@List.getElem?_range
def Gq:=@Classical.not_not
def Gs:=@Int.eq_ofNat_of_zero_le
def Gt:=@Bool.not_true
def Gu:=@Option.toList_some
def Gv:=@List.getElem?_append
def Gw:=@List.length_drop
def Gx:=@List.map_toArray
def Gy:=@List.pairwise_map
def Gz:=@List.Perm.append_left
def vA:=@List.take_append_drop
def vB:=@List.pairwise_cons
def vC:=@List.getElem?_cons_zero
def vD:=@List.filter_cons
def vE:=@List.ext_getElem
def vF:=@Array.getElem?_eq_none
def vG:=@Array.ext'
def vH:=@List.getElem?_eq_some_iff
def vI:=@List.perm_append_comm
def vJ:=@List.countP_le_length
def vK:=@List.getElem?_drop
def vL:=@List.sum_cons
def vM:=@List.getElem?_set_ne
def vN:=@List.getElem?_cons_succ
def vO:=@Bool.not_eq_true'
def vP:=@List.not_mem_nil
def vQ:=@List.set_append_right
def vR:=@List.drop_eq_getElem_cons
def vS:=@List.nodup_cons
def vT:=@UInt8.toNat_inj
def vU:=@List.foldl_append
def vV:=@Nat.lt_trichotomy
def vW:=@List.flatMap_cons
def vX:=@List.length_pos_iff
def vY:=@Array.mem_append
def vZ:=@Nat.le_of_not_lt
def vd:=@List.mem_flatMap
def ve:=@Array.getElem?_push_lt
def vf:=@List.pairwise_lt_range
def vg:=@Nat.add_zero
def vh:=@List.map_nil
def vk:=@List.length_nil
def vl:=@Option.map_none
def vm:=@Bool.true_and
def vn:=@Prod.mk.injEq
def vo:=@List.getElem?_set
def vq:=@List.set_append_left
def vt:=@Nat.mul_le_mul
def vu:=@List.take_succ_eq_append_getElem
def vv:=@Nat.add_comm
def vw:=@List.getElem_map
def vx:=@List.filter_sublist
def vy:=@List.filter_cons_of_neg
def vz:=@List.filter_cons_of_pos
def VA:=@Nat.add_assoc
def VB:=@Nat.eq_zero_or_pos
def VC:=@List.filter_map
def VD:=@List.countP_append
def VE:=@Option.map_eq_some_iff
def VF:=@List.filter_eq_nil_iff
def VG:=@Nat.testBit_lt_two_pow
def VH:=@List.take_append_of_le_length
def VI:=@Option.some.injEq
def VJ:=@List.filter_congr
def VK:=@List.countP_congr
def VL:=@Array.mem_of_getElem?
def VM:=@Nat.sub_self
def VN:=@Array.getElem_setIfInBounds
def VO:=@Option.bind_some
def VP:=@List.any_eq_true
def VQ:=@List.countP_cons
def VR:=@Bool.false_or
def VS:=@List.length_filter_lt_length_iff_exists
def VT:=@List.perm_ext_iff_of_nodup
def VU:=@Int.fdiv_eq_ediv_of_nonneg
def VV:=@List.take_set_of_le
def VW:=@List.filter_flatMap
def VX:=@List.foldl_cons
def VY:=@Nat.min_eq_left
def VZ:=@List.sum_append
def Va:=@List.countP_map
def Vb:=@Array.foldl_toList
def Vc:=@List.Nodup.sublist
def Vd:=@Array.empty_append
def Ve:=@List.Sublist.append_left
def Vf:=@List.map_set
def Vg:=@Option.isSome_iff_exists
def Vh:=@List.map_map
def Vi:=@List.Perm.eq_of_pairwise
def Vj:=@Array.append_empty
def Vk:=@Nat.mod_lt
def Vl:=@Bool.false_and
def Vm:=@Array.getElem_replicate
def Vn:=@List.getElem?_replicate
def Vo:=@List.length_pos_of_mem
def Vp:=@List.sublist_cons_self
def Vq:=@List.getElem?_set_self
def Vr:=@Nat.zero_le
def Vs:=@List.Sublist.map
def Vt:=@List.mem_toArray
def Vu:=@List.map_flatMap
def Vv:=@Nat.le_max_right
def Vw:=@List.singleton_append
def Vx:=@Bool.beq_eq_decide_eq
def Vy:=@Classical.choose_spec
def Vz:=@List.countP_singleton
def xB:=@Array.mem_toList_iff
def xC:=@Array.getElem_modify
def xD:=@List.forIn_cons
def xE:=@Bool.eq_iff_iff
def xF:=@Nat.eq_of_testBit_eq
def xG:=@Nat.le_max_left
def xH:=@List.mem_of_mem_take
def xI:=@Nat.testBit_two_pow
def xJ:=@List.filter_eq_self
def xK:=@List.toList_toArray
def xL:=@List.map_eq_nil_iff
def xM:=@List.countP_eq_zero
def xN:=@List.length_flatMap
def xO:=@Nat.mul_le_mul_left
def xP:=@List.length_take_le
def xQ:=@Nat.testBit_or
def xR:=@List.mapM_cons
def xS:=@List.forIn_nil
def xT:=@List.take_zero
def xU:=@Nat.one_mul
end Go.Lo
namespace Go.Lo
theorem zO (h:A:=by omega):A:=h
theorem zK (h:A:=by kernel_rfl):A:=h
theorem zA (h:A:=by decide):A:=h
theorem zD (h:A:=by assumption):A:=h
theorem zS (h:A:=by simp):A:=h
theorem zN (h:A:=by simp;omega):A:=h
theorem zI (h:A:=by rw [gU];omega):A:=h
end Go.Lo
namespace Go.Lo
open Go.Conc (G)
structure Chunk where
  rw:Bool
  b:Nat
  o:Obj
abbrev Hp:=List Chunk
structure Sat (B:Array Obj) (h:Hp) (w:World):Prop where
  base: ∀(i:Nat) (o:Obj),B[i]?=some o→w.heap[i]?=some o
  mem: ∀c∈h,B.size≤c.b∧w.heap[c.b]?=some c.o
  apart:h.Pairwise fun c d=>(c.rw=true∨d.rw=true)→c.b≠d.b
theorem Sat.size {h:Hp} {w:World} (s:Sat B h w):B.size≤w.heap.size:=by
  rcases VB B.size with e|e
  · omega
  · have h1:B[B.size-1]?=some B[B.size-1]:=gR zO
    have:=s.base _ _ h1
    have:=(gH.1 this).1
    omega
theorem Sat.lt {h:Hp} {w:World} (s:Sat B h w) {c:Chunk} (hc:c∈h):c.b<w.heap.size:=
  (gH.1 (s.mem c hc).2).1
def Allowed (B:Array Obj) (h:Hp) (n n':Nat) (write:Bool) (b:Nat):Prop:=
  (n≤b∧b<n')∨(∃c∈h,c.b=b∧(write=true→c.rw=true))∨(write=false∧b<B.size)
def EvOk (B:Array Obj) (h:Hp) (n n':Nat) (e:Event):Prop:=
  e=noRoomEvent∨(e.sync=false∧match e.loc with
    | .cell a=>Allowed B h n n' e.write a.block
    | .obj r=>Allowed B h n n' e.write r
    |_=>False)
structure Stp (B:Array Obj) (h h':Hp) (w w':World) (es:Array Event):Prop where
  sat:Sat B h' w'
  size:w.heap.size≤w'.heap.size
  os:w'.os=w.os
  out:w'.output=w.output
  tape:w'.tape=w.tape
  drawn:w.drawn≤w'.drawn
  old: ∀b,b<w.heap.size→(∀c∈h,c.rw=true→c.b≠b)→w'.heap[b]?=w.heap[b]?
  key: ∀c'∈h',w.heap.size≤c'.b∨ ∃c∈h,c.b=c'.b∧(c'.rw=true→c.rw=true)
  evs: ∀e∈es,EvOk B h w.heap.size w'.heap.size e
theorem Stp.refl {h:Hp} {w:World} (s:Sat B h w):Stp B h h w w #[]:=
  ⟨s,gL _,rfl,rfl,rfl,gL _,fun _ _ _=>rfl,fun c hc=> .inr ⟨c,hc,rfl,id⟩,by simp⟩
theorem Allowed.back {h h':Hp} {n' k:Nat} (hn:n≤n') (hlt: ∀c'∈h',c'.b<k)
    (key: ∀c'∈h',n≤c'.b∨ ∃c∈h,c.b=c'.b∧(c'.rw=true→c.rw=true)) (a:Allowed B h' n' k wr b):Allowed B h n k wr b:=by
  rcases a with a|⟨c,hc,rfl,hw⟩|a
  · exact .inl ⟨GJ hn a.1,a.2⟩
  · rcases key c hc with j|⟨d,hd,e,hr⟩
    · exact .inl ⟨j,hlt c hc⟩
    · exact .inr (.inl ⟨d,hd,e,fun x=>hr (hw x)⟩)
  · exact .inr (.inr a)
theorem Allowed.less {h h':Hp} {k k':Nat} (hk:k≤k')
    (key: ∀c'∈h',∃c∈h,c.b=c'.b∧(c'.rw=true→c.rw=true)) (a:Allowed B h' n k wr b):Allowed B h n k' wr b:=by
  rcases a with a|⟨c,hc,rfl,hw⟩|a
  · exact .inl ⟨a.1,GW a.2 hk⟩
  · obtain ⟨d,hd,e,hr⟩:=key c hc
    exact .inr (.inl ⟨d,hd,e,fun x=>hr (hw x)⟩)
  · exact .inr (.inr a)
theorem EvOk.back {h h':Hp} {n' k:Nat} {e:Event} (hn:n≤n') (hlt: ∀c'∈h',c'.b<k)
    (key: ∀c'∈h',n≤c'.b∨ ∃c∈h,c.b=c'.b∧(c'.rw=true→c.rw=true)) (a:EvOk B h' n' k e):EvOk B h n k e:=by
  rcases a with a|⟨s,a⟩
  · exact .inl a
  refine .inr ⟨s,?_⟩
  cases hl:e.loc<;>simp only [hl] at a⊢
  · exact a.back hn hlt key
  · exact a.back hn hlt key
theorem EvOk.less {h h':Hp} {k k':Nat} {e:Event} (hk:k≤k')
    (key: ∀c'∈h',∃c∈h,c.b=c'.b∧(c'.rw=true→c.rw=true)) (a:EvOk B h' n k e):EvOk B h n k' e:=by
  rcases a with a|⟨s,a⟩
  · exact .inl a
  refine .inr ⟨s,?_⟩
  cases hl:e.loc<;>simp only [hl] at a⊢
  · exact a.less hk key
  · exact a.less hk key
theorem Stp.trans {h h' h'':Hp} {w w'':World} {es es':Array Event} (a:Stp B h h' w w' es) (b:Stp B h' h'' w' w'' es'):
    Stp B h h'' w w'' (es++es') where
  sat:=b.sat
  size:=GJ a.size b.size
  os:=b.os.trans a.os
  out:=b.out.trans a.out
  tape:=b.tape.trans a.tape
  drawn:=GJ a.drawn b.drawn
  old:=fun x hx hn=>by
    rw [b.old x (GW hx a.size) fun c hc hr e=>?_,a.old x hx hn]
    rcases a.key c hc with k|⟨d,hd,e',hr'⟩
    · omega
    · exact hn d hd (hr' hr) (e'.trans e)
  key:=fun c hc=>by
    rcases b.key c hc with k|⟨d,hd,e,hr⟩
    · exact .inl (GJ a.size k)
    · rcases a.key d hd with k|⟨d',hd',e',hr'⟩
      · exact .inl (e▸k)
      · exact .inr ⟨d',hd',e'.trans e,fun x=>hr' (hr x)⟩
  evs:=fun e he=>by
    rcases vY.1 he with he|he
    · exact (a.evs e he).less b.size fun c hc=>⟨c,hc,rfl,id⟩
    · exact (b.evs e he).back a.size (fun c hc=>GW (a.sat.lt hc) b.size) a.key
theorem Stp.events {h h':Hp} {w:World} {es es':Array Event} (a:Stp B h h' w w' es) (hs: ∀e∈es',e∈es):Stp B h h' w w' es':=
  { a with evs:=fun e he=>a.evs e (hs e he)}
structure Weak (B:Array Obj) (h h':Hp):Prop where
  sat: ∀w,Sat B h w→Sat B h' w
  key: ∀c'∈h',∃c∈h,c.b=c'.b∧(c'.rw=true→c.rw=true)
theorem Weak.refl (B:Array Obj) (h:Hp):Weak B h h:=⟨fun _ s=>s,fun c hc=>⟨c,hc,rfl,id⟩⟩
theorem Weak.trans {h h' h'':Hp} (a:Weak B h h') (b:Weak B h' h''):Weak B h h'':=
  ⟨fun w s=>b.sat w (a.sat w s),fun c hc=>by
    obtain ⟨d,hd,e,hr⟩:=b.key c hc
    obtain ⟨d',hd',e',hr'⟩:=a.key d hd
    exact ⟨d',hd',e'.trans e,fun x=>hr' (hr x)⟩⟩
theorem Weak.sub {h h':Hp} (hs:h'.Sublist h):Weak B h h':=
  ⟨fun _ s=>⟨s.base,fun c hc=>s.mem c (hs.subset hc),s.apart.sublist hs⟩,fun c hc=>⟨c,hs.subset hc,rfl,id⟩⟩
theorem Weak.perm {h h':Hp} (hs:h.Perm h'):Weak B h h':=
  ⟨fun _ s=>⟨s.base,fun c hc=>s.mem c (hs.mem_iff.2 hc),(hs.pairwise_iff fun hab hor=>fun e=>hab hor.symm e.symm).1 s.apart⟩,
   fun c hc=>⟨c,hs.mem_iff.2 hc,rfl,id⟩⟩
theorem Weak.snoc {B:Array Obj} {h F:Hp} (k:Weak B h F) (c:Chunk):Weak B (h++[c]) (F++[c]) where
  sat:=fun w s=>by
    have s1:Sat B h w:=⟨s.base,fun d hd=>s.mem d (by simp [hd]),(gq.1 s.apart).1⟩
    have s2:=k.sat w s1
    refine ⟨s.base,fun d hd=>?_,?_⟩
    · rcases gQ.1 hd with hd|hd
      · exact s2.mem d hd
      · exact s.mem d (by simp at hd;simp [hd])
    · rw [gq]
      refine ⟨s2.apart,by simp,fun d hd e he=>?_⟩
      simp only [gr] at he
      subst he
      obtain ⟨d',hd',e1,e2⟩:=k.key d hd
      have:=(gq.1 s.apart).2.2 d' hd' e zS
      rw [←e1]
      exact fun x=>this (x.imp e2 id)
  key:=fun d hd=>by
    rcases gQ.1 hd with hd|hd
    · obtain ⟨d',hd',x⟩:=k.key d hd
      exact ⟨d',by simp [hd'],x⟩
    · exact ⟨d,by simp at hd;simp [hd],rfl,fun x=>x⟩
theorem Weak.apps {h F:Hp} (k:Weak B h F) (l:Hp):Weak B (h++l) (F++l):=by
  induction l generalizing h F with
  |nil=>simpa using k
  |cons c l ih=>
    have:=ih (k.snoc c)
    simpa using this
theorem Stp.weak_left {h₀ h h':Hp} {w:World} {es:Array Event} (k:Weak B h₀ h) (a:Stp B h h' w w' es):Stp B h₀ h' w w' es:=
  { a with
    old:=fun b hb hn=>a.old b hb fun c hc hr e=>by
      obtain ⟨d,hd,e',hr'⟩:=k.key c hc
      exact hn d hd (hr' hr) (e'.trans e)
    key:=fun c hc=>by
      rcases a.key c hc with x|⟨d,hd,e,hr⟩
      · exact .inl x
      · obtain ⟨d',hd',e',hr'⟩:=k.key d hd
        exact .inr ⟨d',hd',e'.trans e,fun x=>hr' (hr x)⟩
    evs:=fun e he=>(a.evs e he).less (gL _) k.key}
theorem Stp.weak_right {h h' h'':Hp} {w:World} {es:Array Event} (a:Stp B h h' w w' es) (k:Weak B h' h''):Stp B h h'' w w' es:=
  { a with
    sat:=k.sat _ a.sat
    key:=fun c hc=>by
      obtain ⟨d,hd,e,hr⟩:=k.key c hc
      rcases a.key d hd with x|⟨d',hd',e',hr'⟩
      · exact .inl (e▸x)
      · exact .inr ⟨d',hd',e'.trans e,fun x=>hr' (hr x)⟩}
def Tri {α:Type} (P:Program) (B:Array Obj) (s:Sem α) (h:Hp) (Q:α→Hp→Prop):Prop:=
  ∀w,Sat B h w→ ∃a w' h',s.run P w= .ok a w'∧Stp B h h' w w' (s.events P w #[])∧Q a h'
section
variable {α β:Type} {h:Hp}
theorem Tri.pure {a:α} {Q:α→Hp→Prop} (q:Q a h):Tri P B (Pure.pure a) h Q:=fun w s=>⟨a,w,h,rfl,Stp.refl s,q⟩
theorem Tri.pure' {a:α} {Q:α→Hp→Prop} (q:Q a h):Tri P B (Sem.pure a) h Q:=fun w s=>⟨a,w,h,rfl,Stp.refl s,q⟩
theorem Tri.mono {s:Sem α} {Q Q':α→Hp→Prop} (t:Tri P B s h Q) (hq: ∀a h',Q a h'→Q' a h'):Tri P B s h Q':=fun w sw=>
  let ⟨a,w',h',r,st,q⟩:=t w sw;⟨a,w',h',r,st,hq _ _ q⟩
theorem Tri.weak {s:Sem α} {h':Hp} {Q:α→Hp→Prop} (k:Weak B h h') (t:Tri P B s h' Q):Tri P B s h Q:=fun w sw=>
  let ⟨a,w',h'',r,st,q⟩:=t w (k.sat w sw);⟨a,w',h'',r,st.weak_left k,q⟩
theorem Tri.bind {s:Sem α} {f:α→Sem β} {Q:β→Hp→Prop} (t:Tri P B s h fun a h'=>Tri P B (f a) h' Q):Tri P B (s>>=f) h Q:=by
  intro w sw
  obtain ⟨a,w',h',r,st,t'⟩:=t w sw
  obtain ⟨b,w'',h'',r',st',q⟩:=t' w' st.sat
  refine ⟨b,w'',h'',?_,?_,q⟩
  · rw [Sem.run_bind,r];exact r'
  · have e:(s>>=f).events P w #[]=s.events P w #[]++(f a).events P w' #[]:=by
      rw [Sem.events_bind,r]
      simp only [Result.evThen_ok]
      exact Sem.events_acc P (f a) w' _
    rw [e]
    exact st.trans st'
def jjN (e:Event):Bool:=match e.loc with| .mark (.extern _)=>false|_=>true
def TriE {α:Type} (P:Program) (B:Array Obj) (s:Sem α) (h:Hp) (Q:α→Hp→Prop):Prop:=
  ∀w,Sat B h w→ ∃a w' h',s.run P w= .ok a w'∧Stp B h h' w w' ((s.events P w #[]).filter jjN)∧Q a h'
theorem Tri.toE {s:Sem α} {Q:α→Hp→Prop} (t:Tri P B s h Q):TriE P B s h Q:=fun w sw=>
  let ⟨a,w',h',r,st,q⟩:=t w sw;⟨a,w',h',r,st.events fun e he=>(Array.mem_filter.1 he).1,q⟩
theorem TriE.mono {s:Sem α} {Q Q':α→Hp→Prop} (t:TriE P B s h Q) (hq: ∀a h',Q a h'→Q' a h'):TriE P B s h Q':=fun w sw=>
  let ⟨a,w',h',r,st,q⟩:=t w sw;⟨a,w',h',r,st,hq _ _ q⟩
theorem TriE.weak {s:Sem α} {h':Hp} {Q:α→Hp→Prop} (k:Weak B h h') (t:TriE P B s h' Q):TriE P B s h Q:=fun w sw=>
  let ⟨a,w',h'',r,st,q⟩:=t w (k.sat w sw);⟨a,w',h'',r,st.weak_left k,q⟩
end
def Still {α:Type} (P:Program) (s:Sem α) (a:α):Prop:= ∀w,s.runT P w #[]=(.ok a w,#[])
def Reads {α:Type} (P:Program) (B:Array Obj) (s:Sem α) (h:Hp) (a:α):Prop:=
  ∀w,Sat B h w→s.run P w= .ok a w∧ ∀e∈s.events P w #[],EvOk B h w.heap.size w.heap.size e
theorem Reads.tri {α:Type} {h:Hp} {s:Sem α} {a:α} {Q:α→Hp→Prop} (t:Reads P B s h a) (q:Q a h):Tri P B s h Q:=fun w sw=>
  ⟨a,w,h,(t w sw).1,{Stp.refl sw with evs:=(t w sw).2},q⟩
theorem Still.reads {α:Type} {h:Hp} {s:Sem α} {a:α} (t:Still P s a):Reads P B s h a:=fun w _=>by
  have:=t w
  refine ⟨?_,?_⟩
  · have e:s.run P w=(s.runT P w #[]).1:=by simp
    rw [e,this]
  · unfold Sem.events;rw [this];simp
theorem Reads.pure {α:Type} {h:Hp} (a:α):Reads P B (Pure.pure a) h a:=fun w _=>⟨rfl,by simp⟩
theorem Reads.bind {α β:Type} {h:Hp} {s:Sem α} {f:α→Sem β} {a:α} {b:β} (t:Reads P B s h a) (t':Reads P B (f a) h b):Reads P B (s>>=f) h b:=fun w sw=>by
  obtain ⟨r,e⟩:=t w sw
  obtain ⟨r',e'⟩:=t' w sw
  refine ⟨by rw [Sem.run_bind,r];exact r',?_⟩
  have e2:(s>>=f).events P w #[]=s.events P w #[]++(f a).events P w #[]:=by
    rw [Sem.events_bind,r]
    simp only [Result.evThen_ok]
    exact Sem.events_acc P (f a) w _
  rw [e2]
  intro x hx
  rcases vY.1 hx with hx|hx
  · exact e x hx
  · exact e' x hx
def Rd (B:Array Obj) (h:Hp) (a:Addr) (v:Value):Prop:=
  a.spot=none∧((∃c t f,B[a.block]?=some (.cells c t f)∧c[a.off]?=some v)∨ ∃x∈h,∃c t f,x.b=a.block∧x.o= .cells c t f∧c[a.off]?=some v)
theorem Rd.keeps {h h':Hp} {a:Addr} (r:Rd B h a v) (k:h.Sublist h'):Rd B h' a v:=by
  obtain ⟨s,r|⟨x,hx,r⟩⟩:=r
  · exact ⟨s,.inl r⟩
  · exact ⟨s,.inr ⟨x,k.subset hx,r⟩⟩
theorem Rd.base {h:Hp} {a:Addr} {c:Array Value} (hs:a.spot=none) (hb:B[a.block]?=some (.cells c t f)) (hv:c[a.off]?=some v):Rd B h a v:=
  ⟨hs,.inl ⟨c,t,f,hb,hv⟩⟩
theorem Rd.held {h:Hp} {rw:Bool} {o:Nat} {c:Array Value} (hm:(⟨rw,b,.cells c t f⟩:Chunk)∈h) (hv:c[o]?=some v):Rd B h ⟨b,o,none⟩ v:=
  ⟨rfl,.inr ⟨_,hm,c,t,f,rfl,rfl,hv⟩⟩
theorem Rd.cell {h:Hp} {a:Addr} (r:Rd B h a v) {w:World} (s:Sat B h w):w.cell? a=some v:=by
  obtain ⟨hs,⟨c,t,f,hb,hv⟩|⟨x,hx,c,t,f,e,e',hv⟩⟩:=r
  · simp [World.cell?,s.base _ _ hb,hs,hv]
  · have:=(s.mem x hx).2
    rw [e,e'] at this
    simp [World.cell?,this,hs,hv]
theorem Rd.allowed {h:Hp} {a:Addr} (r:Rd B h a v) (n n':Nat):Allowed B h n n' false a.block:=by
  obtain ⟨_,⟨c,t,f,hb,_⟩|⟨x,hx,_,_,_,e,_⟩⟩:=r
  · exact .inr (.inr ⟨rfl,(gH.1 hb).1⟩)
  · exact .inr (.inl ⟨x,hx,e,fun h=>by cases h⟩)
section
variable {h:Hp}
theorem Reads.load {a:Addr} (r:Rd B h a v):Reads P B (Go.load a) h v:=fun w s=>by
  have hc:=r.cell s
  refine ⟨by simp [Go.load,Sem.run,hc],?_⟩
  have:(Go.load a).events P w #[]= #[⟨.cell a,false,false⟩]:=by
    simp [hc]
  rw [this]
  intro e he
  simp at he
  subst he
  exact .inr ⟨rfl,r.allowed _ _⟩
theorem Reads.program':Reads P B Go.program h P:=fun w _=>⟨by simp [Go.program,Sem.run],by simp⟩
end
theorem Reads.keeps {α:Type} {h h':Hp} {s:Sem α} {a:α} (t:Reads P B s h a) (k:h.Sublist h'):Reads P B s h' a:=fun w sw=>by
  obtain ⟨r,e⟩:=t w ((Weak.sub (B:=B) k).sat w sw)
  exact ⟨r,fun x hx=>(e x hx).less (gL _) (Weak.sub (B:=B) k).key⟩
section
theorem Sat.new {h:Hp} {w:World} (s:Sat B h w) (o:Obj):Sat B (h++[⟨true,w.heap.size,o⟩]) {w with heap:=w.heap.push o} where
  base:=fun i x hx=>by
    have:=s.base i x hx
    have hlt:=(gH.1 this).1
    rw [ve hlt]
    rw [gR hlt] at this
    exact this
  mem:=fun c hc=>by
    rcases gQ.1 hc with hc|hc
    · have:=s.mem c hc
      have hlt:=s.lt hc
      refine ⟨this.1,?_⟩
      rw [ve hlt,←gR hlt]
      exact this.2
    · simp only [gr] at hc
      subst hc
      exact ⟨s.size,by simp⟩
  apart:=by
    rw [gq]
    refine ⟨s.apart,by simp,fun c hc d hd _=>?_⟩
    simp only [gr] at hd
    subst hd
    exact Nat.ne_of_lt (s.lt hc)
theorem jkf {h:Hp} {o:Obj} {Q:Nat→Hp→Prop} (q: ∀r,(∀c∈h,c.b≠r)→B.size≤r→Q r (h++[⟨true,r,o⟩])):Tri P B (newObj o) h Q:=fun w sw=>
  ⟨w.heap.size,{w with heap:=w.heap.push o},h++[⟨true,w.heap.size,o⟩],by simp [newObj,Sem.run],
    { sat:=sw.new o,size:=by simp,os:=rfl,out:=rfl,tape:=rfl,drawn:=gL _,
      old:=fun b hb _=>by
        show (w.heap.push o)[b]?=w.heap[b]?
        rw [ve hb,gR hb]
      key:=fun c hc=>by
        rcases gQ.1 hc with hc|hc
        · exact .inr ⟨c,hc,rfl,fun x=>x⟩
        · simp only [gr] at hc
          subst hc
          exact .inl (gL _)
      evs:=by simp},
    q _ (fun c hc=>Nat.ne_of_lt (sw.lt hc)) sw.size⟩
theorem jfn {h:Hp} {Q:Addr→Hp→Prop} (q: ∀r,(∀c∈h,c.b≠r)→Q ⟨r,0,none⟩ (h++[⟨true,r,.cells cells t (0,0)⟩])):Tri P B (newRow t cells) h Q:=
  Tri.bind (jkf fun r hr _=>Tri.pure (q r hr))
end
def LStep (P:Program) (B:Array Obj) (main:Bool) (g:Goroutine) (h:Hp) (K:Goroutine→Hp→Prop):Prop:=
  g.status= .running∧ ∀w,Sat B h w→ ∃g' w' es h',stepG P main g w= .go g' w' es∧Stp B h h' w w' es∧K g' h'
structure Md (P:Program) (B:Array Obj) where
  main:Bool
  R:(Goroutine→Hp→Prop)→Goroutine→Hp→Prop
  stop: ∀{K:Goroutine→Hp→Prop} {g:Goroutine} {h:Hp},K g h→R K g h
  step: ∀{K K':Goroutine→Hp→Prop} {g:Goroutine} {h:Hp},LStep P B main g h K'→(∀g' h',K' g' h'→R K g' h')→R K g h
  bind: ∀{K K':Goroutine→Hp→Prop} {g:Goroutine} {h:Hp},R K' g h→(∀g' h',K' g' h'→R K g' h')→R K g h
  weak: ∀{K:Goroutine→Hp→Prop} {g:Goroutine} {h h':Hp},Weak B h h'→R K g h'→R K g h
def Fr (b:Frame) (l:List Value) (ds:List Deferred) (todo:List Item):Frame:={b with tmps:=l.toArray,defers:=ds,mode:= .run,todo:=todo}
def Gr (b:Frame) (l:List Value) (ds:List Deferred) (todo:List Item) (cs:List Frame):Goroutine:=G (Fr b l ds todo) cs
def jeV (b:Frame) (l:List Value) (ds:List Deferred) (todo:List Item) (cs:List Frame):Goroutine:=G {Fr b l ds todo with mode:= .returning} cs
def ev (l:List Value):Operand→Value
  | .tmp t=>l.getD t undef
  | .const v=>v
  | .global g=> .pointer (some ⟨g,0,none⟩)
  | .func f=> .func (.func f) #[] #[]
theorem Fr.eval (b:Frame) (l:List Value) (ds:List Deferred) (todo:List Item):(Fr b l ds todo).eval=ev l:=by
  funext x;cases x<;>simp [Frame.eval,Fr,ev,gf,gC]
def put (l:List Value) (d:Option Tmp) (v:Value):List Value:=
  match d with
  |some d=>l.set d v
  |none=>l
theorem Fr.finish (b:Frame) (l:List Value) (ds:List Deferred) (ops:Array Oper) (i:Nat) (rest:List Nat) (k:List Item) (v:Value) (ho:ops[i]?=some o):
    (Fr b l ds (.inRegion ops (i::rest)::k)).finish v=Fr b (put l o.dst v) ds (.inRegion ops rest::k):=by
  cases h:o.dst<;>simp [Frame.finish,Fr,put,ho,h]
section
variable {m:Md P B} {K:Goroutine→Hp→Prop} {b:Frame} {l:List Value} {k:List Item} {h:Hp}
theorem jbA {g g':Goroutine} (hs:g.status= .running) (e: ∀w,stepG P m.main g w= .go g' w #[]) (n:m.R K g' h):m.R K g h:=
  m.step (K':=fun g'' h''=>g''=g'∧h''=h) ⟨hs,fun w sw=>⟨g',w,#[],h,e w,Stp.refl sw,rfl,rfl⟩⟩ fun _ _ ⟨e1,e2⟩=>by subst e1;subst e2;exact n
theorem run_skip (n:m.R K (Gr b l ds k cs) h):m.R K (Gr b l ds (.code .skip::k) cs) h:=jbA rfl (fun w=>by simp [Gr,Fr,G,stepG,stepG.exec]) n
theorem jqj {x:Nat} (n:m.R K (Gr b l ds k cs) h):m.R K (Gr b l ds (.code (.label x)::k) cs) h:=jbA rfl (fun w=>by simp [Gr,Fr,G,stepG,stepG.exec]) n
theorem jmI {id:Nat} (n:m.R K (Gr b l ds k cs) h):m.R K (Gr b l ds (.inBlock id::k) cs) h:=jbA rfl (fun w=>by simp [Gr,Fr,G,stepG,stepG.exec]) n
theorem jmH {c:Code} (n:m.R K (Gr b l ds k cs) h):m.R K (Gr b l ds (.inScope c::k) cs) h:=jbA rfl (fun w=>by simp [Gr,Fr,G,stepG,stepG.exec]) n
theorem jce {x y:Code} (n:m.R K (Gr b l ds (.code x:: .code y::k) cs) h):m.R K (Gr b l ds (.code (.seq x y)::k) cs) h:=jbA rfl (fun w=>by simp [Gr,Fr,G,stepG,stepG.exec]) n
theorem jqm {id:Nat} {c:Code} (n:m.R K (Gr b l ds (.code c:: .inBlock id::k) cs) h):m.R K (Gr b l ds (.code (.block id c)::k) cs) h:=jbA rfl (fun w=>by simp [Gr,Fr,G,stepG,stepG.exec]) n
theorem jqh {c:Code} (n:m.R K (Gr b l ds (.code c:: .inScope c::k) cs) h):m.R K (Gr b l ds (.code (.scope c)::k) cs) h:=jbA rfl (fun w=>by simp [Gr,Fr,G,stepG,stepG.exec]) n
theorem run_loop' {c:Code} (n:m.R K (Gr b l ds (.code c:: .inLoop c::k) cs) h):m.R K (Gr b l ds (.code (.loop c)::k) cs) h:=jbA rfl (fun w=>by simp [Gr,Fr,G,stepG,stepG.exec]) n
theorem joP {c:Code} (n:m.R K (Gr b l ds (.code c:: .inLoop c::k) cs) h):m.R K (Gr b l ds (.inLoop c::k) cs) h:=jbA rfl (fun w=>by simp [Gr,Fr,G,stepG,stepG.exec]) n
theorem run_exit {id:Nat} (e:exitTo id k=some k') (n:m.R K (Gr b l ds k' cs) h):m.R K (Gr b l ds (.code (.exit id)::k) cs) h:=jbA rfl (fun w=>by simp [Gr,Fr,G,stepG,stepG.exec,e]) n
theorem jnA {c:Operand} {x y:Code} {t:Bool} (hc:ev l c= .bool t) (n:m.R K (Gr b l ds (.code (if t then x else y)::k) cs) h):m.R K (Gr b l ds (.code (.cond c x y)::k) cs) h:=
  jbA rfl (fun w=>by
    have he:=Fr.eval b l ds (.code (.cond c x y)::k)
    simp only [Fr] at he
    simp [Gr,Fr,G,stepG,stepG.exec,he,hc]) n
theorem run_if {c:Operand} {x y:Code} (hc:ev l c= .bool true) (n:m.R K (Gr b l ds (.code x::k) cs) h):m.R K (Gr b l ds (.code (.cond c x y)::k) cs) h:=jnA hc n
theorem jnz {c:Operand} {x y:Code} (hc:ev l c= .bool false) (n:m.R K (Gr b l ds (.code y::k) cs) h):m.R K (Gr b l ds (.code (.cond c x y)::k) cs) h:=jnA hc n
theorem run_ret (hr:b.roundOf=none) (n:m.R K (jeV b l ds (.code .ret::k) cs) h):m.R K (Gr b l ds (.code .ret::k) cs) h:=jbA rfl (fun w=>by simp [Gr,jeV,Fr,G,stepG,stepG.exec,hr]) n
theorem jcJ (hr:b.roundOf=none) (n:m.R K (jeV b l ds [] cs) h):m.R K (Gr b l ds [] cs) h:=jbA rfl (fun w=>by simp [Gr,jeV,Fr,G,stepG,stepG.exec,hr]) n
theorem jaf {c:Code} (I:Nat→List Value→Hp→Prop) (n:Nat) (h0:I n l h)
    (round: ∀n l h,I n l h→(∀n' l' h',n'<n→I n' l' h'→m.R K (Gr b l' ds (.inLoop c::k) cs) h')→m.R K (Gr b l ds (.code c:: .inLoop c::k) cs) h):
    m.R K (Gr b l ds (.code (.loop c)::k) cs) h:=by
  have key: ∀n l h,I n l h→m.R K (Gr b l ds (.inLoop c::k) cs) h:=by
    intro n
    induction n using Nat.strongRecOn with
    |_ n ih=>exact fun l h hi=>joP (round n l h hi fun n' l' h' hn hi'=>ih n' hn l' h' hi')
  exact run_loop' (round n l h h0 fun n' l' h' _ hi=>key n' l' h' hi)
theorem jlv (P:Program) (fn:FuncId) (es:Array Event): ∀e∈seen P fn es,e∈es.filter jjN:=by
  have gen: ∀(L:List Event) (x:Bool×Array Event) (S:List Event),(∀e∈x.2,e∈S)→(∀e∈L,jjN e=true→e∈S)→
      ∀e∈(L.foldl (fun (q,kept) e=>match e.loc with| .mark (.extern f)=>((P.funcs[f]?).any (·.norace),kept)|_=>(q,if q&&!e.sync then kept else kept.push e)) x).2,e∈S:=by
    intro L
    induction L with
    |nil=>exact fun x S hx _=>hx
    |cons a L ih=>
      intro x S hx hL
      simp only [VX]
      refine ih _ S ?_ fun e he=>hL e (gN _ he)
      obtain ⟨q,kept⟩:=x
      intro e he
      dsimp only at he
      split at he
      · exact hx e he
      · rename_i hne
        dsimp only at he
        split at he
        · exact hx e he
        · rcases Array.mem_push.1 he with he|he
          · exact hx e he
          · refine he▸hL a zS ?_
            unfold jjN
            split
            · rename_i f hf;exact absurd hf (hne f)
            · rfl
  intro e he
  unfold seen at he
  dsimp only at he
  rw [←Vb] at he
  have:=gen es.toList _ (es.filter jjN).toList zS (fun e h hn=>by simp only [Array.toList_filter,gV];exact ⟨h,hn⟩) e he
  exact xB.1 this
theorem jct (P:Program) (fn:FuncId) (es:Array Event): ∀e∈seen P fn es,e∈es:=fun e he=>(Array.mem_filter.1 (jlv P fn es e he)).1
def CallF (m:Md P B) (fr:Frame) (h:Hp) (Post:Value→Hp→Prop):Prop:=
  ∀(c:Frame) (cs:List Frame) (K:Goroutine→Hp→Prop),(∀v h',Post v h'→m.R K (G (c.finish v) cs) h')→m.R K (G fr (c::cs)) h
def FnC (m:Md P B) (f:FuncId) (args:Array Value) (h:Hp) (Post:Value→Hp→Prop):Prop:=CallF m (Frame.enter P f args .normal) h Post
theorem CallF.mono {fr:Frame} {h:Hp} {Post Post':Value→Hp→Prop} (t:CallF m fr h Post) (hp: ∀v h',Post v h'→Post' v h'):CallF m fr h Post':=
  fun c cs K n=>t c cs K fun v h' p=>n v h' (hp v h' p)
theorem CallF.weak {fr:Frame} {h h':Hp} {Post:Value→Hp→Prop} (k:Weak B h h') (t:CallF m fr h' Post):CallF m fr h Post:=
  fun c cs K n=>m.weak k (t c cs K n)
def jnp (m:Md P B) (o:Oper) (l:List Value) (C:List Value→Hp→Prop):Next→Hp→Prop
  | .value v,h=>C (put l o.dst v) h
  | .skip,h=>C (put l o.dst undef) h
  | .enter f args,h=>CallF m (Frame.enter P f args .normal) h fun v h'=>C (put l o.dst v) h'
  | .round x f tmps assign body,h=>CallF m (Frame.round x f tmps assign body .normal) h fun v h'=>C (put l o.dst v) h'
  |_,_=>False
theorem jdS {C C':List Value→Hp→Prop} (hc: ∀l h,C l h→C' l h): ∀{n:Next} {h:Hp},jnp m o l C n h→jnp m o l C' n h:=by
  intro n h hu
  cases n<;>first|exact hc _ _ hu|exact CallF.mono hu fun v h'=>hc _ _|exact hu
theorem run_oper (ho:ops[i]?=some o) (hw:Region.wanted o (yielded ops l.toArray)=true)
    (hd: ∀c,o.op≠ .defer c) (t:TriE P B (execOp (ev l) o) h (jnp m o l fun l' h'=>m.R K (Gr b l' ds (.inRegion ops rest::k) cs) h')):
    m.R K (Gr b l ds (.inRegion ops (i::rest)::k) cs) h:=by
  have hst: ∀w,stepG P m.main (Gr b l ds (.inRegion ops (i::rest)::k) cs) w=stepG.apply P true (Fr b l ds (.inRegion ops (i::rest)::k)) cs none (execOp (ev l) o) w:=by
    intro w
    have he:=Fr.eval b l ds (.inRegion ops (i::rest)::k)
    simp only [Fr] at he
    cases hr:b.roundOf with
    |none=>
      rw [hr] at he
      simp [Gr,G,stepG,stepG.exec,stepG.oper,Frame.oper?,Fr,ho,hw,hr,he]
    |some x=>
      rw [hr] at he
      simp [Gr,G,stepG,stepG.exec,stepG.oper,Frame.oper?,Fr,ho,hw,hr]
      split
      · rename_i c _ hop
        exact absurd hop (hd c)
      · rw [he]
  have hfin:=fun v=>Fr.finish b l ds ops i rest k v ho
  refine m.step (K':=fun g' h'=>m.R K g' h') ⟨rfl,fun w sw=>?_⟩ fun g' h' x=>x
  obtain ⟨a,w',h',hr,st,q⟩:=t w sw
  rw [hst w]
  have hes: ∀e∈seen P b.fn (if (b.kind==CallKind.early)=true then #[] else (execOp (ev l) o).events P w #[]),e∈((execOp (ev l) o).events P w #[]).filter jjN:=by
    intro e he
    have:=jlv _ _ _ e he
    split at this
    · simp at this
    · exact this
  have hk:(Fr b l ds (.inRegion ops (i::rest)::k)).kind=b.kind:=rfl
  have hf:(Fr b l ds (.inRegion ops (i::rest)::k)).fn=b.fn:=rfl
  cases a with
  |value v=>exact ⟨G ((Fr b l ds (.inRegion ops (i::rest)::k)).finish v) cs,w',_,h',by simp [stepG.apply,hr,G,GStep.after,hk,hf],st.events hes,by rw [hfin];exact q⟩
  |skip=>exact ⟨G ((Fr b l ds (.inRegion ops (i::rest)::k)).finish undef) cs,w',_,h',by simp [stepG.apply,hr,G,GStep.after,hk,hf],st.events hes,by rw [hfin];exact q⟩
  |enter f args=>
    exact ⟨G (Frame.enter P f args .normal) (Fr b l ds (.inRegion ops (i::rest)::k)::cs),w',_,h',by simp [stepG.apply,hr,G,GStep.after,Fr],st.events hes,
      q _ cs K fun v h'' hv=>by rw [hfin];exact hv⟩
  |round x f tmps assign body=>
    exact ⟨G (Frame.round x f tmps assign body .normal) (Fr b l ds (.inRegion ops (i::rest)::k)::cs),w',_,h',by simp [stepG.apply,hr,G,GStep.after,Fr],st.events hes,
      q _ cs K fun v h'' hv=>by rw [hfin];exact hv⟩
  |_=>exact q.elim
theorem jlx (ho:ops[i]?=some o) (hw:Region.wanted o (yielded ops l.toArray)=false)
    (n:m.R K (Gr b (put l o.dst undef) ds (.inRegion ops rest::k) cs) h):m.R K (Gr b l ds (.inRegion ops (i::rest)::k) cs) h:=by
  refine jbA rfl (fun w=>?_) n
  have hfin:=Fr.finish b l ds ops i rest k undef ho
  unfold Gr
  rw [←hfin]
  simp [G,stepG,stepG.exec,Fr,ho,hw]
theorem jbv (n:m.R K (Gr b l ds k cs) h):m.R K (Gr b l ds (.inRegion ops []::k) cs) h:=jbA rfl (fun w=>by simp [Gr,Fr,G,stepG,stepG.exec]) n
theorem jeF {id:Nat} (n:m.R K (Gr b l ds (.inRegion ops (List.range ops.size)::k) cs) h):m.R K (Gr b l ds (.code (.region id ops false)::k) cs) h:=
  jbA rfl (fun w=>by simp [Gr,Fr,G,stepG,stepG.exec]) n
theorem jc3 {id:Nat} (n: ∀t,m.R K (Gr b l ds (.inRegion ops (Region.schedule (P.follows .mixedOrders) ops t)::k) cs) h):
    m.R K (Gr b l ds (.code (.region id ops true)::k) cs) h:=by
  refine m.step (K':=fun g' h'=>m.R K g' h') ⟨rfl,fun w sw=>?_⟩ fun g' h' x=>x
  refine ⟨_,{w with drawn:=w.drawn+1},#[],h,by simp [Gr,Fr,G,stepG,stepG.exec,choose,Sem.run,Question.forced,Question.cut],?_,n (w.tape w.drawn (.order b.fn id))⟩
  exact {sat:=⟨sw.base,sw.mem,sw.apart⟩,size:=gL _,os:=rfl,out:=rfl,tape:=rfl,drawn:=Nat.le_succ _,old:=fun _ _ _=>rfl,key:=fun c hc=> .inr ⟨c,hc,rfl,fun x=>x⟩,evs:=by simp}
end
inductive Kd where
  |pure|read|alloc|call|keep|free
  deriving DecidableEq
section
def callee (P:Program):Next→Option Frame
  | .enter f args=>some (Frame.enter P f args .normal)
  | .round x f tmps assign body=>some (Frame.round x f tmps assign body .normal)
  |_=>none
def jji (P:Program) (ρ:Operand→Value):Op→Option Obj
  | .alloc t=>((P.info? t).bind (·.zero)).map fun z=> .cells z.cells t (0,0)
  | .box t x=>some (.cells (ρ x).cells t (0,0))
  |_=>none
def jmR (P:Program):Op→Bool
  | .alloc t=>((P.info? t).bind (·.zero)).isSome
  | .box _ _=>true
  |_=>false
theorem jo1 {o:Op} (h:jmR P o=true) (ρ:Operand→Value): ∃ob,jji P ρ o=some ob:=by
  cases o<;>simp only [jmR,reduceCtorEq] at h
  · rename_i t
    cases e:(P.info? t).bind (·.zero) with
    |none=>rw [e] at h;cases h
    |some z=>exact ⟨.cells z.cells t (0,0),congrArg (Option.map fun z:Value=>Obj.cells z.cells t (0,0)) e⟩
  · exact ⟨_,rfl⟩
def ptr (r:Nat):Value:= .pointer (some ⟨r,0,none⟩)
def opK (m:Md P B) (S:Hp) (kd:Kd) (ops:Array Oper) (o:Oper) (l:List Value) (h:Hp) (C:List Value→Hp→Prop):Prop:=
  if Region.wanted o (yielded ops l.toArray)=true then
    match kd with
    | .pure=> ∃v,Reads P B (execOp (ev l) o) [] (.value v)∧C (put l o.dst v) h
    | .read=> ∃v,Reads P B (execOp (ev l) o) S (.value v)∧C (put l o.dst v) h
    | .alloc=> ∃ob,jji P (ev l) o.op=some ob∧ ∀r,C (put l o.dst (ptr r)) (h++[⟨true,r,ob⟩])
    | .call=> ∃(nx:Next) (fr:Frame) (Post:Value→Hp→Prop),callee P nx=some fr∧Reads P B (execOp (ev l) o) [] nx∧(∀H:Hp,S.Sublist H→CallF m fr H fun v h'=> ∃new,h'=H++new∧Post v new)∧ ∀v new,Post v new→C (put l o.dst v) (h++new)
    | .keep=>TriE P B (execOp (ev l) o) h (jnp m o l fun l' h'=>S.Sublist h'∧C l' h')
    | .free=>TriE P B (execOp (ev l) o) h (jnp m o l C)
  else C (put l o.dst undef) h
def RegK (m:Md P B) (S:Hp) (ops:Array Oper):List (Nat×Kd)→List Value→Hp→(List Value→Hp→Prop)→Prop
  |[],l,h,C=>C l h
  |(i,kd)::r,l,h,C=> ∃o,ops[i]?=some o∧opK m S kd ops o l h fun l' h'=>RegK m S ops r l' h' C
variable {m:Md P B} {S:Hp}
theorem jde {kd:Kd} {l:List Value} {h:Hp} {C C':List Value→Hp→Prop} (hc: ∀l h,C l h→C' l h) (t:opK m S kd ops o l h C):opK m S kd ops o l h C':=by
  unfold opK at*
  split at t
  · rename_i hw
    rw [if_pos hw]
    cases kd with
    |pure=>obtain ⟨v,r,c⟩:=t;exact ⟨v,r,hc _ _ c⟩
    |read=>obtain ⟨v,r,c⟩:=t;exact ⟨v,r,hc _ _ c⟩
    |alloc=>obtain ⟨ob,t1,t2⟩:=t;exact ⟨ob,t1,fun r=>hc _ _ (t2 r)⟩
    |call=>obtain ⟨nx,fr,Post,t1,t2,t3,t4⟩:=t;exact ⟨nx,fr,Post,t1,t2,t3,fun v new p=>hc _ _ (t4 v new p)⟩
    |keep=>exact t.mono fun a h'=>jdS fun l' h'' x=>⟨x.1,hc _ _ x.2⟩
    |free=>exact t.mono fun a h'=>jdS hc
  · rename_i hw
    rw [if_neg hw]
    exact hc _ _ t
theorem RegK.mono {r:List (Nat×Kd)}: ∀{l:List Value} {h:Hp} {C C':List Value→Hp→Prop},(∀l h,C l h→C' l h)→RegK m S ops r l h C→RegK m S ops r l h C':=by
  induction r with
  |nil=>exact fun hc t=>hc _ _ t
  |cons x r ih=>exact fun hc ⟨o,ho,t⟩=>⟨o,ho,jde (fun l h=>ih hc) t⟩
def WeakC (B:Array Obj) (C:List Value→Hp→Prop):Prop:= ∀l h h',Weak B h h'→C l h'→C l h
theorem WeakR {K:Goroutine→Hp→Prop} {b:Frame} {k:List Item}:WeakC B fun l' h'=>m.R K (Gr b l' ds k cs) h':=fun _ _ _ w n=>m.weak w n
theorem WeakC.opK {kd:Kd} {C:List Value→Hp→Prop} (hC:WeakC B C):WeakC B fun l h=>opK m S kd ops o l h C:=by
  intro l h h' w t
  unfold Lo.opK at t⊢
  split at t
  · rename_i hw
    rw [if_pos hw]
    cases kd with
    |pure=>obtain ⟨v,r,c⟩:=t;exact ⟨v,r,hC _ _ _ w c⟩
    |read=>obtain ⟨v,r,c⟩:=t;exact ⟨v,r,hC _ _ _ w c⟩
    |alloc=>obtain ⟨ob,t1,t2⟩:=t;exact ⟨ob,t1,fun r=>hC _ _ _ (w.snoc _) (t2 r)⟩
    |call=>obtain ⟨nx,fr,Post,t1,t2,t3,t4⟩:=t;exact ⟨nx,fr,Post,t1,t2,t3,fun v new p=>hC _ _ _ (w.apps new) (t4 v new p)⟩
    |keep=>exact t.weak w
    |free=>exact t.weak w
  · rename_i hw
    rw [if_neg hw]
    exact hC _ _ _ w t
theorem WeakC.reg {C:List Value→Hp→Prop} (hC:WeakC B C): ∀(r:List (Nat×Kd)),WeakC B fun l h=>RegK m S ops r l h C
  |[]=>hC
  |(i,kd)::r=>fun l h h' w ⟨o,ho,t⟩=>⟨o,ho,WeakC.opK (WeakC.reg hC r) l h h' w t⟩
theorem jhU {nx:Next} {fr:Frame} (hc:callee P nx=some fr) {l:List Value} {C:List Value→Hp→Prop} {h:Hp} (t:CallF m fr h fun v h'=>C (put l o.dst v) h'):jnp m o l C nx h:=by
  cases nx<;>simp only [callee,VI,reduceCtorEq] at hc
  · subst hc;exact t
  · subst hc;exact t
theorem jhY {ρ:Operand→Value} {h:Hp} {Q:Next→Hp→Prop} (hn:jji P ρ o.op=some ob) (q: ∀r,Q (.value (ptr r)) (h++[⟨true,r,ob⟩])):Tri P B (execOp ρ o) h Q:=by
  obtain ⟨dst,op,ty,pos,af,g⟩:=o
  cases op<;>simp only [jji,reduceCtorEq] at hn
  · rename_i t
    simp only [VE] at hn
    obtain ⟨z,hz,rfl⟩:=hn
    simp only [execOp]
    refine Tri.bind ?_
    unfold Instr.alloc
    refine Tri.bind (Reads.tri (a:=z) ?_ ?_)
    · cases e:P.info? t with
      |none=>rw [e] at hz;simp at hz
      |some i=>
        rw [e] at hz
        simp only [VO] at hz
        unfold zeroValue typeInfo
        refine Reads.bind (a:=i) (Reads.bind Reads.program' ?_) ?_
        · simp only [e];exact Reads.pure _
        · simp only [hz];exact Reads.pure _
    · refine Tri.bind ?_
      exact jfn fun r _=>Tri.pure (Tri.pure (q r))
  · rename_i t x
    simp only [VI] at hn
    subst hn
    simp only [execOp]
    refine Tri.bind ?_
    unfold Instr.box
    refine Tri.bind ?_
    exact jfn fun r _=>Tri.pure (Tri.pure (q r))
theorem jiq {b:Frame} {k:List Item} {K:Goroutine→Hp→Prop} {kd:Kd} {l:List Value} {h:Hp}
    (ho:ops[i]?=some o) (hd: ∀c,o.op≠ .defer c) (hS:kd= .read∨kd= .call→S.Sublist h) (t:opK m S kd ops o l h fun l' h'=>((kd≠ .free→S.Sublist h→S.Sublist h'))→m.R K (Gr b l' ds (.inRegion ops rest::k) cs) h'):
    m.R K (Gr b l ds (.inRegion ops (i::rest)::k) cs) h:=by
  unfold opK at t
  split at t
  · rename_i hw
    refine run_oper ho hw hd ?_
    cases kd with
    |pure=>obtain ⟨v,r,c⟩:=t;exact Tri.toE ((r.keeps (Ge _)).tri (c fun _ x=>x))
    |read=>obtain ⟨v,r,c⟩:=t;exact Tri.toE ((r.keeps (hS (.inl rfl))).tri (c fun _ x=>x))
    |alloc=>obtain ⟨ob,t1,t2⟩:=t;exact Tri.toE (jhY t1 fun r=>t2 r fun _ x=>x.trans (gI _ _))
    |call=>
      obtain ⟨nx,fr,Post,t1,t2,t3,t4⟩:=t
      refine Tri.toE ((t2.keeps (Ge _)).tri (jhU t1 ?_))
      exact CallF.mono (t3 h (hS (.inr rfl))) fun v h' ⟨new,e,p⟩=>by subst e;exact t4 v new p fun _ x=>x.trans (gI _ _)
    |keep=>exact t.mono fun a h'=>jdS fun _ _ x=>x.2 fun _ _=>x.1
    |free=>exact t.mono fun a h'=>jdS fun _ _ x=>x fun e=>absurd rfl e
  · rename_i hw
    exact jlx ho (by simpa using hw) (t fun _ x=>x)
def jaK (ops:Array Oper):Bool:=ops.all fun o=>match o.op with| .defer _=>false| .select .. =>false|_=>true
theorem jcm (h:jaK ops=true) (ho:ops[i]?=some o):(∀c,o.op≠ .defer c)∧ ∀cs b,o.op≠ .select cs b:=by
  unfold jaK at h
  rw [Gm] at h
  have:=h o (VL ho)
  exact ⟨fun c e=>(by rw [e] at this;cases this),fun cs b e=>(by rw [e] at this;cases this)⟩
def jbS:List (Nat×Kd)→Bool
  |[]=>true
  |(_,kd)::r=>(kd != .free||r.all fun x=>x.2 != .read&&x.2 != .call)&&jbS r
theorem jot (hn:jaK ops=true) {b:Frame} {ds:List Deferred} {k:List Item} {cs:List Frame} {K:Goroutine→Hp→Prop}: ∀(r:List (Nat×Kd)) (l:List Value) (h:Hp),jbS r=true→((∃x∈r,x.2= .read∨x.2= .call)→S.Sublist h)→
    RegK m S ops r l h (fun l' h'=>m.R K (Gr b l' ds k cs) h')→m.R K (Gr b l ds (.inRegion ops (r.map (·.1))::k) cs) h
  |[],l,h,_,_,t=>jbv t
  |(i,kd)::r,l,h,hr,hS,⟨o,ho,t⟩=>by
    simp only [jbS,gK,GR,bne_iff_ne,ne_eq,gX] at hr
    refine jiq ho (jcm hn ho).1 (fun e=>hS ⟨_,gk,e⟩) (jde (fun l' h' t' hk=>jot hn r l' h' hr.2 (fun ⟨x,hx,e⟩=>?_) t') t)
    rcases hr.1 with h1|h1
    · exact hk h1 (hS ⟨x,gN _ hx,e⟩)
    · exact absurd e (fun e=>e.elim (h1 x hx).1 (h1 x hx).2)
theorem jbC {b:Frame} {k:List Item} {K:Goroutine→Hp→Prop} {id:Nat} {l:List Value} {h:Hp} (r:List (Nat×Kd)) (hn:(jaK ops&&r.all fun x=>x.2== .free)=true) (hr:r.map (·.1)=List.range ops.size)
    (t:RegK m [] ops r l h fun l' h'=>m.R K (Gr b l' ds k cs) h'):m.R K (Gr b l ds (.code (.region id ops false)::k) cs) h:=by
  simp only [gK,gX,beq_iff_eq] at hn
  have hro: ∀r:List (Nat×Kd),(∀x∈r,x.2= .free)→jbS r=true:=by
    intro r
    induction r with
    |nil=>exact fun _=>rfl
    |cons x r ih=>
      intro hx
      simp only [jbS,gK,GR,bne_iff_ne,ne_eq,gX]
      exact ⟨.inr fun y hy=>by rw [hx y (gN _ hy)];exact ⟨by decide,by decide⟩,ih fun y hy=>hx y (gN _ hy)⟩
  exact jeF (hr▸jot hn.1 r l h (hro r hn.2) (fun _=>Ge _) t)
theorem ev_put {l:List Value} {x:Operand} (hx: ∀t,d=some t→x≠ .tmp t):ev (put l d v) x=ev l x:=by
  cases d with
  |none=>rfl
  |some t=>
    cases x with
    |tmp u=>
      have hne:t≠u:=fun e=>hx t rfl (e▸rfl)
      simp [ev,put,gC,vM hne]
    |_=>rfl
theorem jbW (l:List Value) {x y:Option Tmp} (v u:Value) (hxy: ∀d,x=some d→y≠some d):put (put l x v) y u=put (put l y u) x v:=by
  cases x with
  |none=>rfl
  |some d=>
    cases y with
    |none=>rfl
    |some e=>
      have hne:d≠e:=fun he=>hxy d rfl (he▸rfl)
      simp [put,List.set_comm _ _ hne]
theorem execOp_put' (o:Oper) (hs: ∀cs b,o.op≠ .select cs b) (l:List Value) (d:Option Tmp) (v:Value) (hd: ∀t,d=some t→t∉o.looksAt ops):execOp (ev (put l d v)) o=execOp (ev l) o:=
  execOp_congr o hs fun x hx=>ev_put fun t ht hxt=>hd t ht (by
    subst hxt
    exact GN _ (List.mem_filterMap.2 ⟨.tmp t,by simpa using hx,rfl⟩))
theorem wanted_put' (o:Oper) (l:List Value) (d:Option Tmp) (v:Value) (hd: ∀t,d=some t→t∉o.looksAt ops):
    Region.wanted o (yielded ops (put l d v).toArray)=Region.wanted o (yielded ops l.toArray):=by
  have:=wanted_put (ops:=ops) o ⟨l.toArray,[]⟩ d v hd
  have e:((⟨l.toArray,[]⟩:Act).put d v).tmps=(put l d v).toArray:=by cases d<;>simp [Act.put,put]
  rw [e] at this
  exact this
theorem jf5 (o:Oper) (l:List Value) (d:Option Tmp) (v:Value) (hd: ∀t,d=some t→t∉o.looksAt ops):jji P (ev (put l d v)) o.op=jji P (ev l) o.op:=by
  obtain ⟨dst,op,ty,pos,af,g⟩:=o
  cases op<;>try rfl
  rename_i t x
  have:ev (put l d v) x=ev l x:=ev_put fun t ht hxt=>hd t ht (by
    subst hxt
    exact GN _ (List.mem_filterMap.2 ⟨.tmp t,by simp [Op.operands],rfl⟩))
  simp only [jji,this]
theorem jno {l:List Value} {C:List Value→Hp→Prop} (hd: ∀t,d=some t→o.dst≠some t) {n:Next} {h:Hp}
    (u:jnp m o (put l d v) C n h):jnp m o l (fun l' h'=>C (put l' d v) h') n h:=by
  have e: ∀u,put (put l d v) o.dst u=put (put l o.dst u) d v:=fun u=>jbW l v u hd
  cases n<;>simp only [jnp] at* <;>simp only [e] at u<;>exact u
def jns:Kd→Kd→Bool
  | .pure,_=>true
  | .read,.free=>false
  | .read,_=>true
  | .alloc,.alloc=>true
  | .call,.alloc=>true
  |_,_=>false
theorem jlj {ki:Kd} {l:List Value} {h:Hp} {H:Hp} {C:List Value→Hp→Prop} (hi: ∀cs b,oi.op≠ .select cs b) (hj: ∀cs b,oj.op≠ .select cs b)
    (ap:oi.apart ops oj=true) (kj:Kd) (hkj:(kj= .pure∧H=[])∨(kj= .read∧H=S)) (t:opK m S kj ops oj l h fun l' h'=>opK m S ki ops oi l' h' C):
    opK m S ki ops oi l h fun l' h'=>opK m S kj ops oj l' h' C:=by
  obtain ⟨a1,a2,a3⟩:=Oper.apart_spec ap
  have form: ∀(l:List Value) (h:Hp) (C:List Value→Hp→Prop),opK m S kj ops oj l h C↔(if Region.wanted oj (yielded ops l.toArray)=true then∃v,Reads P B (execOp (ev l) oj) H (.value v)∧C (put l oj.dst v) h else C (put l oj.dst undef) h):=by
    intro l h C
    rcases hkj with ⟨rfl,rfl⟩|⟨rfl,rfl⟩<;>rfl
  rw [form] at t
  --behind whatever i does,j is taken asv jbi
  have later: ∀(vj:Value),(∀(u:Value) (h':Hp),C (put (put l oj.dst vj) oi.dst u) h'→opK m S kj ops oj (put l oi.dst u) h' C)→opK m S ki ops oi (put l oj.dst vj) h C→opK m S ki ops oi l h fun l' h'=>opK m S kj ops oj l' h' C:=by
    intro vj lt t
    have hd: ∀t,oj.dst=some t→oi.dst≠some t:=fun t ht he=>a2 t he ht
    unfold opK at t⊢
    rw [wanted_put' oi l oj.dst vj a3,execOp_put' oi hi l oj.dst vj a3] at t
    by_cases wi:Region.wanted oi (yielded ops l.toArray)=true
    · rw [if_pos wi] at t⊢
      cases ki with
      |pure=>obtain ⟨vi,ri,c⟩:=t;exact ⟨vi,ri,lt vi h c⟩
      |read=>obtain ⟨vi,ri,c⟩:=t;exact ⟨vi,ri,lt vi h c⟩
      |alloc=>obtain ⟨ob,t1,t2⟩:=t;exact ⟨ob,(jf5 oi l oj.dst vj a3)▸t1,fun r=>lt (ptr r) _ (t2 r)⟩
      |call=>obtain ⟨nx,fr,Post,t1,t2,t3,t4⟩:=t;exact ⟨nx,fr,Post,t1,t2,t3,fun v new p=>lt v _ (t4 v new p)⟩
      |keep=>
        refine t.mono fun nx h' u=>?_
        have:=jno (m:=m) (C:=fun l' h''=>S.Sublist h''∧C l' h'') hd u
        cases nx with
        |value v=>exact ⟨this.1,lt v _ (by rw [jbW l vj v hd];exact this.2)⟩
        |skip=>exact ⟨this.1,lt undef _ (by rw [jbW l vj undef hd];exact this.2)⟩
        |enter f args=>exact CallF.mono this fun v h'' x=>⟨x.1,lt v _ (by rw [jbW l vj v hd];exact x.2)⟩
        |round x f tmps assign body=>exact CallF.mono this fun v h'' x=>⟨x.1,lt v _ (by rw [jbW l vj v hd];exact x.2)⟩
        |_=>exact this.elim
      |free=>
        refine t.mono fun nx h' u=>?_
        have:=jno (m:=m) (C:=C) hd u
        cases nx with
        |value v=>exact lt v _ (by rw [jbW l vj v hd];exact this)
        |skip=>exact lt undef _ (by rw [jbW l vj undef hd];exact this)
        |enter f args=>exact CallF.mono this fun v h'' x=>lt v _ (by rw [jbW l vj v hd];exact x)
        |round x f tmps assign body=>exact CallF.mono this fun v h'' x=>lt v _ (by rw [jbW l vj v hd];exact x)
        |_=>exact this.elim
    · rw [if_neg wi] at t⊢
      exact lt undef h t
  by_cases wj:Region.wanted oj (yielded ops l.toArray)=true
  · rw [if_pos wj] at t
    obtain ⟨vj,rj,t⟩:=t
    refine later vj (fun u h' c=>?_) t
    rw [form,wanted_put' oj l oi.dst u a1,if_pos wj,execOp_put' oj hj l oi.dst u a1]
    exact ⟨vj,rj,by rw [jbW l u vj a2];exact c⟩
  · rw [if_neg wj] at t
    refine later undef (fun u h' c=>?_) t
    rw [form,wanted_put' oj l oi.dst u a1,if_neg wj,jbW l u undef a2]
    exact c
theorem jjz {l:List Value} {h:Hp} {C:List Value→Hp→Prop} (hC:WeakC B C) (hj: ∀cs b,oj.op≠ .select cs b)
    (ap:oi.apart ops oj=true) (hnew:jmR P oi.op=true) (kj:Kd) (hkj:kj= .alloc∨kj= .call) (t:opK m S kj ops oj l h fun l' h'=>opK m S .alloc ops oi l' h' C):
    opK m S .alloc ops oi l h fun l' h'=>opK m S kj ops oj l' h' C:=by
  obtain ⟨a1,a2,a3⟩:=Oper.apart_spec ap
  have hd: ∀t,oj.dst=some t→oi.dst≠some t:=fun t ht he=>a2 t he ht
  obtain ⟨ob,hob⟩:=jo1 hnew (ev l)
  --what i does behind j
  have ialways: ∀(v:Value) (h':Hp),opK m S .alloc ops oi (put l oj.dst v) h' C→if Region.wanted oi (yielded ops l.toArray)=true then∀r,C (put (put l oi.dst (ptr r)) oj.dst v) (h'++[⟨true,r,ob⟩]) else C (put (put l oi.dst undef) oj.dst v) h':=by
    intro v h' t
    unfold opK at t
    rw [wanted_put' oi l oj.dst v a3] at t
    by_cases wi:Region.wanted oi (yielded ops l.toArray)=true
    · rw [if_pos wi] at t⊢
      obtain ⟨ob',t1,t2⟩:=t
      rw [jf5 oi l oj.dst v a3,hob] at t1
      obtain rfl:=gF t1
      intro r
      rw [←jbW l v (ptr r) hd]
      exact t2 r
    · rw [if_neg wi] at t⊢
      rw [←jbW l v undef hd]
      exact t
  have perm1: ∀(c:Chunk) (new:Hp),Weak B ((h++[c])++new) ((h++new)++[c]):=fun c new=>Weak.perm (by
    rw [gG,gG]
    exact Gz h vI)
  unfold opK
  by_cases wi:Region.wanted oi (yielded ops l.toArray)=true
  · rw [if_pos wi]
    refine ⟨ob,hob,fun r=>?_⟩
    simp only [wi,if_true] at ialways
    unfold opK at t
    rw [wanted_put' oj l oi.dst (ptr r) a1]
    by_cases wj:Region.wanted oj (yielded ops l.toArray)=true
    · rw [if_pos wj] at t⊢
      rcases hkj with rfl|rfl
      · obtain ⟨obj,t1,t2⟩:=t
        refine ⟨obj,by rw [jf5 oj l oi.dst (ptr r) a1];exact t1,fun r'=>?_⟩
        exact hC _ _ _ (perm1 _ _) (ialways _ _ (t2 r') r)
      · obtain ⟨nx,fr,Post,t1,t2,t3,t4⟩:=t
        refine ⟨nx,fr,Post,t1,by rw [execOp_put' oj hj l oi.dst (ptr r) a1];exact t2,t3,fun v new p=>?_⟩
        exact hC _ _ _ (perm1 _ _) (ialways _ _ (t4 v new p) r)
    · rw [if_neg wj] at t⊢
      exact ialways _ _ t r
  · rw [if_neg wi]
    simp only [wi,gx,if_false] at ialways
    unfold opK at t
    rw [wanted_put' oj l oi.dst undef a1]
    by_cases wj:Region.wanted oj (yielded ops l.toArray)=true
    · rw [if_pos wj] at t⊢
      rcases hkj with rfl|rfl
      · obtain ⟨obj,t1,t2⟩:=t
        exact ⟨obj,by rw [jf5 oj l oi.dst undef a1];exact t1,fun r'=>ialways _ _ (t2 r')⟩
      · obtain ⟨nx,fr,Post,t1,t2,t3,t4⟩:=t
        exact ⟨nx,fr,Post,t1,by rw [execOp_put' oj hj l oi.dst undef a1];exact t2,t3,fun v new p=>ialways _ _ (t4 v new p)⟩
    · rw [if_neg wj] at t⊢
      exact ialways _ _ t
theorem opK_swap {ki kj:Kd} {l:List Value} {h:Hp} {C:List Value→Hp→Prop} (hC:WeakC B C) (hi: ∀cs b,oi.op≠ .select cs b) (hj: ∀cs b,oj.op≠ .select cs b)
    (ap:oi.apart ops oj=true) (hk:jns kj ki=true) (hnew:ki= .alloc→jmR P oi.op=true) (t:opK m S kj ops oj l h fun l' h'=>opK m S ki ops oi l' h' C):
    opK m S ki ops oi l h fun l' h'=>opK m S kj ops oj l' h' C:=by
  cases kj with
  |pure=>exact jlj hi hj ap .pure (.inl ⟨rfl,rfl⟩) t
  |read=>exact jlj hi hj ap .read (.inr ⟨rfl,rfl⟩) t
  |alloc=>
    cases ki<;>first|(cases hk;done)|exact jjz hC hj ap (hnew rfl) .alloc (.inl rfl) t
  |call=>
    cases ki<;>first|(cases hk;done)|exact jjz hC hj ap (hnew rfl) .call (.inr rfl) t
  |keep=>cases hk
  |free=>cases hk
def jbN (o:Oper):List Nat:=(o.after.toList.filter (Region.binds .any)).map (·.on)
def jhh (ms:List Nat) (ps:List Nat):Nat:=ps.foldl (fun s x=>s|||(2^x|||ms.getD x 0)) 0
def jdX (l:List Oper):List Nat:=l.foldl (fun ms o=>ms++[jhh ms (jbN o)]) []
theorem jfd (ms ps:List Nat) (j:Nat) (hj:(jhh ms ps).testBit j=true): ∃x∈ps,x=j∨(ms.getD x 0).testBit j=true:=by
  have gen: ∀(ps:List Nat) (s:Nat),(ps.foldl (fun s x=>s|||(2^x|||ms.getD x 0)) s).testBit j=true→s.testBit j=true∨ ∃x∈ps,x=j∨(ms.getD x 0).testBit j=true:=by
    intro ps
    induction ps with
    |nil=>exact fun s hs=> .inl hs
    |cons x ps ih=>
      intro s hs
      rcases ih _ hs with hs|⟨y,hy,hy'⟩
      · rw [xQ,xQ,GR,GR,xI] at hs
        rcases hs with hs|hs|hs
        · exact .inl hs
        · exact .inr ⟨x,gk,.inl (by simpa using hs)⟩
        · exact .inr ⟨x,gk,.inr hs⟩
      · exact .inr ⟨y,gN _ hy,hy'⟩
  rcases gen ps 0 hj with h|h
  · simp at h
  · exact h
theorem jhg (l:List Oper) (o:Oper):jdX (l++[o])=jdX l++[jhh (jdX l) (jbN o)]:=by simp [jdX,vU]
theorem jnu {α:Type} {p:List α→Prop} (h0:p []) (h1: ∀l x,p l→p (l++[x])) (l:List α):p l:=by
  rw [←List.reverse_reverse l]
  induction l.reverse with
  |nil=>exact h0
  |cons x r ih=>rw [List.reverse_cons];exact h1 _ _ ih
theorem jlM (l:List Oper):(jdX l).length=l.length:=by
  refine jnu (p:=fun l=>(jdX l).length=l.length) rfl (fun l o ih=>?_) l
  simp [jhg,ih]
theorem jo2: ∀(l:List Oper) (i j:Nat) (o:Oper),l[i]?=some o→((jdX l).getD i 0).testBit j=true→ ∃x∈jbN o,x=j∨(x<i∧((jdX l).getD x 0).testBit j=true):=by
  intro l
  refine jnu (p:=fun l=> ∀(i j:Nat) (o:Oper),l[i]?=some o→((jdX l).getD i 0).testBit j=true→ ∃x∈jbN o,x=j∨(x<i∧((jdX l).getD x 0).testBit j=true)) ?_ ?_ l
  · intro i j o ho;simp at ho
  · intro l o' ih i j o ho hb
    rw [jhg] at hb⊢
    have hlen:=jlM l
    have old: ∀x,x<l.length→(jdX l++[jhh (jdX l) (jbN o')]).getD x 0=(jdX l).getD x 0:=by
      intro x hx
      rw [gC,gC,ge zO]
    rcases vV i l.length with hi|hi|hi
    · rw [old i hi] at hb
      rw [ge hi] at ho
      obtain ⟨x,hx,hx'⟩:=ih i j o ho hb
      refine ⟨x,hx,hx'.imp id fun ⟨h1,h2⟩=>⟨h1,?_⟩⟩
      rw [old x zO]
      exact h2
    · subst hi
      simp at ho
      subst ho
      have e:(jdX l++[jhh (jdX l) (jbN o')]).getD l.length 0=jhh (jdX l) (jbN o'):=by
        rw [gC,←hlen]
        simp
      rw [e] at hb
      obtain ⟨x,hx,hx'⟩:=jfd _ _ _ hb
      refine ⟨x,hx,hx'.imp id fun h2=>?_⟩
      have hx2:x<l.length:=by
        rcases Gf x l.length with h3|h3
        · exact h3
        · rw [gC,gl zO] at h2
          simp at h2
      exact ⟨hx2,by rw [old x hx2];exact h2⟩
    · rw [gl zN] at ho
      cases ho
def jcf (ops:Array Oper) (ms:List Nat):List (Nat×Kd)→Bool
  |[]=>true
  |(j,kj)::r=>(r.all fun (i,ki)=>(ms.getD i 0).testBit j||
      (jns kj ki&&(match ops[i]?,ops[j]? with|some oi,some oj=>oi.apart ops oj|_,_=>false)))&&jcf ops ms r
def jjw (ops:Array Oper):List Nat→List (Nat×Kd)→Bool
  |_,[]=>true
  |seen,(i,_)::r=>(match ops[i]? with|some o=>(jbN o).all seen.contains|none=>false)&&!seen.contains i&&jjw ops (i::seen) r
def ordOk (ops:Array Oper) (r:List (Nat×Kd)):Bool:=
  jaK ops&&jbS r&&jcf ops (jdX ops.toList) r&&jjw ops [] r&&(List.range ops.size).all fun i=>r.any (·.1==i)
theorem jeJ {kj:Kd} {r:List (Nat×Kd)} (h:jcf ops ms ((j,kj)::r)=true):
    jcf ops ms r=true∧ ∀i ki,(i,ki)∈r→(ms.getD i 0).testBit j=false→jns kj ki=true∧ ∃oi oj,ops[i]?=some oi∧ops[j]?=some oj∧oi.apart ops oj=true:=by
  simp only [jcf,gK,gX] at h
  refine ⟨h.2,fun i ki hm hb=>?_⟩
  have:=h.1 _ hm
  simp only [hb,VR,gK] at this
  obtain ⟨h1,h3⟩:=this
  refine ⟨h1,?_⟩
  cases e1:ops[i]? with
  |none=>rw [e1] at h3;cases h3
  |some oi=>
    cases e2:ops[j]? with
    |none=>rw [e1,e2] at h3;cases h3
    |some oj=>rw [e1,e2] at h3;exact ⟨oi,oj,rfl,rfl,h3⟩
theorem jcS {ms:List Nat} (p:Nat×Kd→Bool): ∀{r:List (Nat×Kd)},jcf ops ms r=true→jcf ops ms (r.filter p)=true
  |[],_=>rfl
  |(j,kj)::r,h=>by
    have ih:=jcS p (jeJ h).1
    simp only [vD]
    split
    · simp only [jcf,gK,gX] at h⊢
      exact ⟨fun x hx=>h.1 x (gV.1 hx).1,ih⟩
    · exact ih
theorem jgu {ms:List Nat} (hn:jaK ops=true) {i:Nat} {ki:Kd} (hnew:ki= .alloc→ ∀o,ops[i]?=some o→jmR P o.op=true): ∀{r:List (Nat×Kd)} {l:List Value} {h:Hp} {C:List Value→Hp→Prop},WeakC B C→jcf ops ms r=true→(i,ki)∈r→(r.map (·.1)).Nodup→
    (∀x∈r,(ms.getD i 0).testBit x.1=false)→RegK m S ops r l h C→ ∃o,ops[i]?=some o∧opK m S ki ops o l h fun l' h'=>RegK m S ops (r.filter fun x=>x.1 !=i) l' h' C
  |[],_,_,_,_,_,hm,_,_,_=>by simp at hm
  |(j,kj)::r,l,h,C,hC,hp,hm,hnd,hb,⟨oj,hoj,t⟩=>by
    simp only [gu,vS,gP,not_exists,not_and] at hnd
    rcases gO.1 hm with e|hm'
    · obtain ⟨rfl,rfl⟩:=Prod.mk.inj e
      refine ⟨oj,hoj,jde (fun l' h' x=>?_) t⟩
      have e:((i,ki)::r).filter (fun x=>x.1 !=i)=r:=by
        rw [vy zS]
        exact xJ.2 fun x hx=>by have:=hnd.1 x hx;simpa using this
      rw [e]
      exact x
    · have hne:j≠i:=fun e=>hnd.1 _ hm' e.symm
      obtain ⟨hp',hsw⟩:=jeJ hp
      obtain ⟨hk,oi,oj',hoi,hoj',hap⟩:=hsw i ki hm' (hb _ gk)
      rw [hoj] at hoj'
      obtain rfl:=gF hoj'
      have ih: ∀l' h',RegK m S ops r l' h' C→ ∃o,ops[i]?=some o∧opK m S ki ops o l' h' fun l'' h''=>RegK m S ops (r.filter fun x=>x.1 !=i) l'' h'' C:=
        fun l' h'=>jgu hn hnew hC hp' hm' hnd.2 fun x hx=>hb x (gN _ hx)
      have hfil:((j,kj)::r).filter (fun x=>x.1 !=i)=(j,kj)::r.filter fun x=>x.1 !=i:=vz (by simpa using hne)
      rw [hfil]
      refine ⟨oi,hoi,?_⟩
      have t':opK m S kj ops oj l h fun l' h'=>opK m S ki ops oi l' h' fun l'' h''=>RegK m S ops (r.filter fun x=>x.1 !=i) l'' h'' C:=
        jde (fun l' h' x=>by
          obtain ⟨o,ho,y⟩:=ih l' h' x
          rw [hoi] at ho
          obtain rfl:=gF ho
          exact y) t
      exact jde (fun l' h' x=>⟨oj,hoj,x⟩) (opK_swap (hC.reg _) (jcm hn hoi).2 (jcm hn hoj).2 hap hk (fun e=>hnew e oi hoi) t')
end
end Go.Lo
namespace Go.Lo
theorem zq:True:=trivial
abbrev fg0 (r:List (Nat×Kd)):List (Nat×Kd):=(0,.free)::(1,.free)::(2,.free)::(3,.free)::(4,.free)::(5,.free)::(6,.free)::(7,.free)::r
abbrev fg1 (r:List (Nat×Kd)):List (Nat×Kd):=(8,.free)::(9,.free)::(10,.free)::(11,.free)::(12,.free)::(13,.free)::(14,.free)::(15,.free)::r
abbrev fg2 (r:List (Nat×Kd)):List (Nat×Kd):=(16,.free)::(17,.free)::(18,.free)::(19,.free)::(20,.free)::(21,.free)::(22,.free)::(23,.free)::r
abbrev fg3 (r:List (Nat×Kd)):List (Nat×Kd):=(24,.free)::(25,.free)::(26,.free)::(27,.free)::(28,.free)::(29,.free)::(30,.free)::(31,.free)::r
section
variable {m:Md P B} {b:Frame} {k:List Item} {K:Goroutine→Hp→Prop} {id:Nat} {c2:Code} {l:List Value} {h:Hp}
theorem rrG {L:List (Nat×Kd)} (hf:(L.all fun x=>x.2== .free)=true) (t:RegK m [] ops L l h fun l' h'=>m.R K (Gr b l' ds k cs) h') (hn:(jaK ops&&L.map (·.1)==List.range ops.size)=true):m.R K (Gr b l ds (.code (.region id ops false)::k) cs) h:=by
  rw [gK,beq_iff_eq] at hn
  exact jbC _ (by rw [hn.1,hf];rfl) hn.2 t
abbrev fl1:List (Nat×Kd):=(0,.free)::[]
theorem rr1 (t:RegK m [] ops fl1 l h fun l' h'=>m.R K (Gr b l' ds k cs) h') (e:ops.size=1:=by rfl) (hn:(jaK ops&&fl1.map (·.1)==List.range ops.size)=true:=by kernel_rfl):m.R K (Gr b l ds (.code (.region id ops false)::k) cs) h:=rrG rfl t hn
abbrev fl2:List (Nat×Kd):=(0,.free)::(1,.free)::[]
theorem rr2 (t:RegK m [] ops fl2 l h fun l' h'=>m.R K (Gr b l' ds k cs) h') (e:ops.size=2:=by rfl) (hn:(jaK ops&&fl2.map (·.1)==List.range ops.size)=true:=by kernel_rfl):m.R K (Gr b l ds (.code (.region id ops false)::k) cs) h:=rrG rfl t hn
abbrev fl3:List (Nat×Kd):=(0,.free)::(1,.free)::(2,.free)::[]
theorem rr3 (t:RegK m [] ops fl3 l h fun l' h'=>m.R K (Gr b l' ds k cs) h') (e:ops.size=3:=by rfl) (hn:(jaK ops&&fl3.map (·.1)==List.range ops.size)=true:=by kernel_rfl):m.R K (Gr b l ds (.code (.region id ops false)::k) cs) h:=rrG rfl t hn
abbrev fl4:List (Nat×Kd):=(0,.free)::(1,.free)::(2,.free)::(3,.free)::[]
theorem rr4 (t:RegK m [] ops fl4 l h fun l' h'=>m.R K (Gr b l' ds k cs) h') (e:ops.size=4:=by rfl) (hn:(jaK ops&&fl4.map (·.1)==List.range ops.size)=true:=by kernel_rfl):m.R K (Gr b l ds (.code (.region id ops false)::k) cs) h:=rrG rfl t hn
abbrev fl5:List (Nat×Kd):=(0,.free)::(1,.free)::(2,.free)::(3,.free)::(4,.free)::[]
theorem rr5 (t:RegK m [] ops fl5 l h fun l' h'=>m.R K (Gr b l' ds k cs) h') (e:ops.size=5:=by rfl) (hn:(jaK ops&&fl5.map (·.1)==List.range ops.size)=true:=by kernel_rfl):m.R K (Gr b l ds (.code (.region id ops false)::k) cs) h:=rrG rfl t hn
abbrev fl6:List (Nat×Kd):=(0,.free)::(1,.free)::(2,.free)::(3,.free)::(4,.free)::(5,.free)::[]
theorem rr6 (t:RegK m [] ops fl6 l h fun l' h'=>m.R K (Gr b l' ds k cs) h') (e:ops.size=6:=by rfl) (hn:(jaK ops&&fl6.map (·.1)==List.range ops.size)=true:=by kernel_rfl):m.R K (Gr b l ds (.code (.region id ops false)::k) cs) h:=rrG rfl t hn
abbrev fl7:List (Nat×Kd):=(0,.free)::(1,.free)::(2,.free)::(3,.free)::(4,.free)::(5,.free)::(6,.free)::[]
theorem rr7 (t:RegK m [] ops fl7 l h fun l' h'=>m.R K (Gr b l' ds k cs) h') (e:ops.size=7:=by rfl) (hn:(jaK ops&&fl7.map (·.1)==List.range ops.size)=true:=by kernel_rfl):m.R K (Gr b l ds (.code (.region id ops false)::k) cs) h:=rrG rfl t hn
abbrev fl8:List (Nat×Kd):=(fg0 ([]))
theorem rr8 (t:RegK m [] ops fl8 l h fun l' h'=>m.R K (Gr b l' ds k cs) h') (e:ops.size=8:=by rfl) (hn:(jaK ops&&fl8.map (·.1)==List.range ops.size)=true:=by kernel_rfl):m.R K (Gr b l ds (.code (.region id ops false)::k) cs) h:=rrG rfl t hn
abbrev fl9:List (Nat×Kd):=(fg0 ((8,.free)::[]))
theorem rr9 (t:RegK m [] ops fl9 l h fun l' h'=>m.R K (Gr b l' ds k cs) h') (e:ops.size=9:=by rfl) (hn:(jaK ops&&fl9.map (·.1)==List.range ops.size)=true:=by kernel_rfl):m.R K (Gr b l ds (.code (.region id ops false)::k) cs) h:=rrG rfl t hn
abbrev fl10:List (Nat×Kd):=(fg0 ((8,.free)::(9,.free)::[]))
theorem rr10 (t:RegK m [] ops fl10 l h fun l' h'=>m.R K (Gr b l' ds k cs) h') (e:ops.size=10:=by rfl) (hn:(jaK ops&&fl10.map (·.1)==List.range ops.size)=true:=by kernel_rfl):m.R K (Gr b l ds (.code (.region id ops false)::k) cs) h:=rrG rfl t hn
abbrev fl11:List (Nat×Kd):=(fg0 ((8,.free)::(9,.free)::(10,.free)::[]))
theorem jpz (t:RegK m [] ops fl11 l h fun l' h'=>m.R K (Gr b l' ds k cs) h') (e:ops.size=11:=by rfl) (hn:(jaK ops&&fl11.map (·.1)==List.range ops.size)=true:=by kernel_rfl):m.R K (Gr b l ds (.code (.region id ops false)::k) cs) h:=rrG rfl t hn
abbrev fl13:List (Nat×Kd):=(fg0 ((8,.free)::(9,.free)::(10,.free)::(11,.free)::(12,.free)::[]))
theorem rr13 (t:RegK m [] ops fl13 l h fun l' h'=>m.R K (Gr b l' ds k cs) h') (e:ops.size=13:=by rfl) (hn:(jaK ops&&fl13.map (·.1)==List.range ops.size)=true:=by kernel_rfl):m.R K (Gr b l ds (.code (.region id ops false)::k) cs) h:=rrG rfl t hn
abbrev fl14:List (Nat×Kd):=(fg0 ((8,.free)::(9,.free)::(10,.free)::(11,.free)::(12,.free)::(13,.free)::[]))
theorem rr14 (t:RegK m [] ops fl14 l h fun l' h'=>m.R K (Gr b l' ds k cs) h') (e:ops.size=14:=by rfl) (hn:(jaK ops&&fl14.map (·.1)==List.range ops.size)=true:=by kernel_rfl):m.R K (Gr b l ds (.code (.region id ops false)::k) cs) h:=rrG rfl t hn
abbrev fl17:List (Nat×Kd):=(fg0 (fg1 ((16,.free)::[])))
theorem rr17 (t:RegK m [] ops fl17 l h fun l' h'=>m.R K (Gr b l' ds k cs) h') (e:ops.size=17:=by rfl) (hn:(jaK ops&&fl17.map (·.1)==List.range ops.size)=true:=by kernel_rfl):m.R K (Gr b l ds (.code (.region id ops false)::k) cs) h:=rrG rfl t hn
abbrev fl39:List (Nat×Kd):=(fg0 (fg1 (fg2 (fg3 ((32,.free)::(33,.free)::(34,.free)::(35,.free)::(36,.free)::(37,.free)::(38,.free)::[])))))
theorem rr39 (t:RegK m [] ops fl39 l h fun l' h'=>m.R K (Gr b l' ds k cs) h') (e:ops.size=39:=by rfl) (hn:(jaK ops&&fl39.map (·.1)==List.range ops.size)=true:=by kernel_rfl):m.R K (Gr b l ds (.code (.region id ops false)::k) cs) h:=rrG rfl t hn
theorem rs1 (t:RegK m [] ops fl1 l h fun l' h'=>m.R K (Gr b l' ds (.code c2::k) cs) h') (e:ops.size=1:=by rfl) (hn:(jaK ops&&fl1.map (·.1)==List.range ops.size)=true:=by kernel_rfl):m.R K (Gr b l ds (.code (.seq (.region id ops false) c2)::k) cs) h:=jce (rr1 t e hn)
theorem rs2 (t:RegK m [] ops fl2 l h fun l' h'=>m.R K (Gr b l' ds (.code c2::k) cs) h') (e:ops.size=2:=by rfl) (hn:(jaK ops&&fl2.map (·.1)==List.range ops.size)=true:=by kernel_rfl):m.R K (Gr b l ds (.code (.seq (.region id ops false) c2)::k) cs) h:=jce (rr2 t e hn)
theorem rs3 (t:RegK m [] ops fl3 l h fun l' h'=>m.R K (Gr b l' ds (.code c2::k) cs) h') (e:ops.size=3:=by rfl) (hn:(jaK ops&&fl3.map (·.1)==List.range ops.size)=true:=by kernel_rfl):m.R K (Gr b l ds (.code (.seq (.region id ops false) c2)::k) cs) h:=jce (rr3 t e hn)
theorem rs4 (t:RegK m [] ops fl4 l h fun l' h'=>m.R K (Gr b l' ds (.code c2::k) cs) h') (e:ops.size=4:=by rfl) (hn:(jaK ops&&fl4.map (·.1)==List.range ops.size)=true:=by kernel_rfl):m.R K (Gr b l ds (.code (.seq (.region id ops false) c2)::k) cs) h:=jce (rr4 t e hn)
theorem rs5 (t:RegK m [] ops fl5 l h fun l' h'=>m.R K (Gr b l' ds (.code c2::k) cs) h') (e:ops.size=5:=by rfl) (hn:(jaK ops&&fl5.map (·.1)==List.range ops.size)=true:=by kernel_rfl):m.R K (Gr b l ds (.code (.seq (.region id ops false) c2)::k) cs) h:=jce (rr5 t e hn)
theorem rs6 (t:RegK m [] ops fl6 l h fun l' h'=>m.R K (Gr b l' ds (.code c2::k) cs) h') (e:ops.size=6:=by rfl) (hn:(jaK ops&&fl6.map (·.1)==List.range ops.size)=true:=by kernel_rfl):m.R K (Gr b l ds (.code (.seq (.region id ops false) c2)::k) cs) h:=jce (rr6 t e hn)
theorem rs7 (t:RegK m [] ops fl7 l h fun l' h'=>m.R K (Gr b l' ds (.code c2::k) cs) h') (e:ops.size=7:=by rfl) (hn:(jaK ops&&fl7.map (·.1)==List.range ops.size)=true:=by kernel_rfl):m.R K (Gr b l ds (.code (.seq (.region id ops false) c2)::k) cs) h:=jce (rr7 t e hn)
theorem rs8 (t:RegK m [] ops fl8 l h fun l' h'=>m.R K (Gr b l' ds (.code c2::k) cs) h') (e:ops.size=8:=by rfl) (hn:(jaK ops&&fl8.map (·.1)==List.range ops.size)=true:=by kernel_rfl):m.R K (Gr b l ds (.code (.seq (.region id ops false) c2)::k) cs) h:=jce (rr8 t e hn)
theorem rs9 (t:RegK m [] ops fl9 l h fun l' h'=>m.R K (Gr b l' ds (.code c2::k) cs) h') (e:ops.size=9:=by rfl) (hn:(jaK ops&&fl9.map (·.1)==List.range ops.size)=true:=by kernel_rfl):m.R K (Gr b l ds (.code (.seq (.region id ops false) c2)::k) cs) h:=jce (rr9 t e hn)
theorem rs10 (t:RegK m [] ops fl10 l h fun l' h'=>m.R K (Gr b l' ds (.code c2::k) cs) h') (e:ops.size=10:=by rfl) (hn:(jaK ops&&fl10.map (·.1)==List.range ops.size)=true:=by kernel_rfl):m.R K (Gr b l ds (.code (.seq (.region id ops false) c2)::k) cs) h:=jce (rr10 t e hn)
theorem rs11 (t:RegK m [] ops fl11 l h fun l' h'=>m.R K (Gr b l' ds (.code c2::k) cs) h') (e:ops.size=11:=by rfl) (hn:(jaK ops&&fl11.map (·.1)==List.range ops.size)=true:=by kernel_rfl):m.R K (Gr b l ds (.code (.seq (.region id ops false) c2)::k) cs) h:=jce (jpz t e hn)
theorem rs13 (t:RegK m [] ops fl13 l h fun l' h'=>m.R K (Gr b l' ds (.code c2::k) cs) h') (e:ops.size=13:=by rfl) (hn:(jaK ops&&fl13.map (·.1)==List.range ops.size)=true:=by kernel_rfl):m.R K (Gr b l ds (.code (.seq (.region id ops false) c2)::k) cs) h:=jce (rr13 t e hn)
theorem rs14 (t:RegK m [] ops fl14 l h fun l' h'=>m.R K (Gr b l' ds (.code c2::k) cs) h') (e:ops.size=14:=by rfl) (hn:(jaK ops&&fl14.map (·.1)==List.range ops.size)=true:=by kernel_rfl):m.R K (Gr b l ds (.code (.seq (.region id ops false) c2)::k) cs) h:=jce (rr14 t e hn)
end
end Go.Lo
namespace Go.Lo
open Go.Conc (G)
section
variable {m:Md P B} {S:Hp}
def Topo (ops:Array Oper):List (Nat×Kd)→Prop
  |[]=>True
  |(i,k)::r=>(∃o,ops[i]?=some o∧ ∀x∈jbN o,x<ops.size∧ ∀y∈(i,k)::r,y.1≠x)∧Topo ops r
theorem Topo.filter (p:Nat×Kd→Bool): ∀{r:List (Nat×Kd)},Topo ops r→Topo ops (r.filter p)
  |[],_=>trivial
  |(i,k)::r,⟨⟨o,ho,h1⟩,h2⟩=>by
    simp only [vD]
    split
    · refine ⟨⟨o,ho,fun x hx=>⟨(h1 x hx).1,fun y hy=>(h1 x hx).2 y ?_⟩⟩,Topo.filter p h2⟩
      rcases gO.1 hy with rfl|hy
      · exact gk
      · exact gN _ (gV.1 hy).1
    · exact Topo.filter p h2
theorem jkh: ∀(r:List (Nat×Kd)) (seen:List Nat),jjw ops seen r=true→(∀x∈seen,x<ops.size)→Topo ops r∧(∀y∈r,y.1∉seen)∧(r.map (·.1)).Nodup
  |[],_,_,_=>⟨trivial,by simp,by simp⟩
  |(i,k)::r,seen,h,hs=>by
    simp only [jjw,gK,vO] at h
    obtain ⟨⟨h1,h2⟩,h3⟩:=h
    cases ho:ops[i]? with
    |none=>rw [ho] at h1;cases h1
    |some o=>
      rw [ho] at h1
      simp only [gX] at h1
      have hi:i<ops.size:=(gH.1 ho).1
      obtain ⟨t1,t2,t3⟩:=jkh r (i::seen) h3 (fun x hx=>by
        rcases gO.1 hx with rfl|hx
        · exact hi
        · exact hs x hx)
      have hni:i∉seen:=by simpa using h2
      refine ⟨⟨⟨o,ho,fun x hx=>?_⟩,t1⟩,fun y hy=>?_,?_⟩
      · have hx':x∈seen:=by simpa using h1 x hx
        refine ⟨hs x hx',fun y hy e=>?_⟩
        rcases gO.1 hy with rfl|hy
        · have e':i=x:=e
          exact hni (e'▸hx')
        · exact t2 y hy (e▸gN _ hx')
      · rcases gO.1 hy with rfl|hy
        · exact hni
        · exact fun hm=>t2 y hy (gN _ hm)
      · simp only [gu,vS,gP,not_exists,not_and]
        exact ⟨fun y hy e=>t2 y hy (e▸gk),t3⟩
theorem jqY {r:List (Nat×Kd)} (down: ∀(x:Nat) (o:Oper),ops[x]?=some o→(∀y∈r,y.1≠x)→ ∀p∈jbN o,∀y∈r,y.1≠p):
    ∀(i:Nat) (o:Oper),ops[i]?=some o→(∀p∈jbN o,∀y∈r,y.1≠p)→ ∀y∈r,((jdX ops.toList).getD i 0).testBit y.1=false:=by
  intro i
  induction i using Nat.strongRecOn with
  |_ i ih=>
    intro o ho hb y hy
    cases ht:((jdX ops.toList).getD i 0).testBit y.1 with
    |false=>rfl
    |true=>
      exfalso
      obtain ⟨x,hx,e|⟨hlt,h2⟩⟩:=jo2 ops.toList i y.1 o (by simpa using ho) ht
      · exact hb x hx y hy e.symm
      · have hxs:x<ops.size:=Nat.lt_trans hlt (gH.1 ho).1
        have hox:ops[x]?=some ops[x]:=gR hxs
        have:=ih x hlt _ hox (down x _ hox (hb x hx)) y hy
        rw [this] at h2
        cases h2
def jf4 (P:Program) (ops:Array Oper) (r:List (Nat×Kd)):Bool:=
  r.all fun x=>x.2 != .alloc||match ops[x.1]? with|some o=>jmR P o.op|none=>true
theorem jfA {r:List (Nat×Kd)} (h:jf4 P ops r=true) {kd:Kd} (hm:(i,kd)∈r):kd= .alloc→ ∀o,ops[i]?=some o→jmR P o.op=true:=by
  simp only [jf4,gX] at h
  intro e o ho
  have:=h _ hm
  simp only [e,ho] at this
  simpa using this
theorem jb8 (p:Nat×Kd→Bool): ∀{r:List (Nat×Kd)},jbS r=true→jbS (r.filter p)=true
  |[],_=>rfl
  |x::r,h=>by
    simp only [jbS,gK] at h
    simp only [vD]
    split
    · simp only [jbS,gK,GR,gX] at h⊢
      exact ⟨h.1.imp id fun h1 y hy=>h1 y (gV.1 hy).1,jb8 p h.2⟩
    · exact jb8 p h.2
theorem jgi {ms:List Nat} {i:Nat}: ∀{r:List (Nat×Kd)},jcf ops ms r=true→jbS r=true→(i,Kd.free)∈r→(∀x∈r,(ms.getD i 0).testBit x.1=false)→ ∀x∈r,¬(x.2= .read∨x.2= .call)
  |[],_,_,hm,_=>by simp at hm
  |(j,kj)::r,hp,hr,hm,hb=>by
    simp only [jbS,gK,GR,bne_iff_ne,ne_eq,gX] at hr
    obtain ⟨hp',hsw⟩:=jeJ hp
    rcases gO.1 hm with e|hm'
    · obtain ⟨rfl,rfl⟩:=Prod.mk.inj e
      intro x hx
      rcases gO.1 hx with rfl|hx
      · simp
      · rcases hr.1 with h1|h1
        · exact absurd rfl h1
        · exact fun e=>e.elim (h1 x hx).1 (h1 x hx).2
    · have ih:=jgi hp' hr.2 hm' fun x hx=>hb x (gN _ hx)
      have hk:=(hsw i .free hm' (hb _ gk)).1
      intro x hx
      rcases gO.1 hx with rfl|hx
      · cases kj<;>simp_all [jns]
      · exact ih x hx
theorem joO (hn:jaK ops=true) {b:Frame} {k:List Item} {K:Goroutine→Hp→Prop}:
    ∀(fuel t:Nat) (listed:Array Bool) (r:List (Nat×Kd)) (l:List Value) (h:Hp),r.length≤fuel→listed.size=ops.size→
      (∀x,x<ops.size→(listed.getD x true=true↔ ∀y∈r,y.1≠x))→(r.map (·.1)).Nodup→jcf ops (jdX ops.toList) r=true→jf4 P ops r=true→((∃x∈r,x.2= .read∨x.2= .call)→S.Sublist h)→jbS r=true→Topo ops r→
      (∀(x:Nat) (o:Oper),ops[x]?=some o→(∀y∈r,y.1≠x)→ ∀p∈jbN o,∀y∈r,y.1≠p)→
      RegK m S ops r l h (fun l' h'=>m.R K (Gr b l' ds k cs) h')→m.R K (Gr b l ds (.inRegion ops (Region.linearise.go .any ops fuel t listed [])::k) cs) h:=by
  intro fuel
  induction fuel with
  |zero=>
    intro t listed r l h hr _ _ _ _ _ _ _ _ _ hk
    have:r=[]:=GO.1 zO
    subst this
    exact jbv hk
  |succ fuel ih=>
    intro t listed r l h hr hsz hl hnd hp hnw hS hro ht hd hk
    simp only [Region.linearise.go]
    split
    · rename_i i hi
      have hmem:=List.mem_of_getElem? hi
      simp only [gV,gT,gK,vO] at hmem
      obtain ⟨hin,hnl,hrd⟩:=hmem
      cases ho:ops[i]? with
      |none=>rw [ho] at hrd;simp at hrd
      |some o=>
        rw [ho] at hrd
        simp only [Gl,GB,Gm] at hrd
        have hir: ∃y∈r,y.1=i:=by
          apply gw
          intro hne
          have:=(hl i hin).2 fun y hy e=>hne ⟨y,hy,e⟩
          rw [this] at hnl
          cases hnl
        obtain ⟨⟨i',ki⟩,hmr,rfl⟩:=hir
        have hbn: ∀p∈jbN o,∀y∈r,y.1≠p:=by
          intro p hp'
          obtain ⟨e,he,rfl⟩:=gP.1 hp'
          obtain ⟨he1,he2⟩:=gV.1 he
          have:=hrd e (by simpa using he1)
          rw [he2] at this
          simp only [Gt,VR] at this
          have hlt:e.on<ops.size:=by
            rcases Gf e.on ops.size with h3|h3
            · exact h3
            · rw [gf,vF zO] at this
              simp at this
          refine (hl e.on hlt).1 ?_
          rw [gf,gR zO] at this⊢
          exact this
        have hmk:=jqY hd i' o ho hbn
        obtain ⟨o',ho',t'⟩:=jgu hn (jfA hnw hmr) WeakR hp hmr hnd hmk hk
        rw [linearise_go_acc,List.reverse_singleton,Vw];refine jiq ho' (jcm hn ho').1 (fun e=>hS ⟨_,hmr,e⟩) (jde (fun l' h' x hkeep=>?_) t')
        have hmf: ∀y,y∈r.filter (fun x=>x.1 !=i')↔y∈r∧y.1≠i':=fun y=>by rw [gV];simp
        refine ih _ _ _ l' h' ?_ (by simpa using hsz) (fun x hx=>?_) ?_ (jcS _ hp) (gX.2 fun y hy=>gX.1 hnw y (gV.1 hy).1) (fun hex=>?_) (jb8 _ hro) (ht.filter _) (fun x ox hox hxr p hpx y hy=>?_) x
        · have:(r.filter fun x=>x.1 !=i').length<r.length:=by
            exact VS.2 ⟨_,hmr,by simp⟩
          omega
        · by_cases e:x=i'
          · subst e
            refine ⟨fun _ y hy=>((hmf y).1 hy).2,fun _=>?_⟩
            rw [gf,GL zO];rfl
          · have:(listed.setIfInBounds i' true).getD x true=listed.getD x true:=by
              rw [gf,GC (fun e'=>e e'.symm),←gf]
            rw [this,hl x hx];refine ⟨fun hh y hy=>hh y ((hmf y).1 hy).1,fun hh y hy=>?_⟩
            by_cases ey:y.1=i'
            · rw [ey];exact fun e'=>e e'.symm
            · exact hh y ((hmf y).2 ⟨hy,ey⟩)
        · exact Vc (Vs _ vx) hnd
        · obtain ⟨y,hy,e⟩:=hex
          have hy':=(gV.1 hy).1
          refine hkeep (fun ek=>?_) (hS ⟨y,hy',e⟩)
          subst ek
          exact jgi hp hro hmr hmk y hy' e
        · obtain ⟨hy1,hy2⟩:=(hmf y).1 hy
          by_cases ex:x=i'
          · subst ex
            rw [ho] at hox
            obtain rfl:=gF hox
            exact hbn p hpx y hy1
          · refine hd x ox hox (fun z hz ez=>?_) p hpx y hy1
            exact hxr z ((hmf z).2 ⟨hz,by rw [ez];exact ex⟩) ez
    · rename_i hnone
      cases r with
      |nil=>exact jbv hk
      |cons x r=>
        exfalso
        obtain ⟨i,ki⟩:=x
        obtain ⟨⟨o,ho,hb⟩,_⟩:=ht
        have hin:i<ops.size:=(gH.1 ho).1
        have:i∈(List.range ops.size).filter (fun i=>!listed.getD i true&&((ops[i]?).map (·.after.all fun e=>!Region.binds .any e||listed.getD e.on false)).getD false):=by
          rw [gV];refine ⟨gT.2 hin,?_⟩
          have h1:listed.getD i true=false:=by
            cases hc:listed.getD i true with
            |false=>rfl
            |true=>exact absurd rfl ((hl i hin).1 hc _ gk)
          rw [h1,ho];simp only [Gk,vm,Gl,GB,Gm]
          intro e he
          cases hbe:Region.binds .any e with
          |false=>rfl
          |true=>
            simp only [Gt,VR]
            have hm:e.on∈jbN o:=gP.2 ⟨e,gV.2 ⟨by simpa using he,hbe⟩,rfl⟩
            obtain ⟨h3,h4⟩:=hb _ hm
            have:=(hl e.on h3).2 h4
            rw [gf,gR zO] at this⊢
            exact this
        have hpos:=Vo this
        rw [List.getElem?_eq_none_iff] at hnone
        exact absurd (Vk t hpos) zO
theorem jan {b:Frame} {k:List Item} {K:Goroutine→Hp→Prop} {id:Nat} {l:List Value} {h:Hp} (r:List (Nat×Kd)) (hm:(P.follows .mixedOrders||!Region.departs ops)=true)
    (hok:(ordOk ops r&&jf4 P ops r)=true) (hS:S.Sublist h) (t:RegK m S ops r l h fun l' h'=>m.R K (Gr b l' ds k cs) h'):m.R K (Gr b l ds (.code (.region id ops true)::k) cs) h:=by
  refine jc3 fun t'=>?_;rw [gK] at hok
  obtain ⟨hok,hnw⟩:=hok
  simp only [ordOk,gK,gX,gT,VP,beq_iff_eq] at hok
  obtain ⟨⟨⟨⟨h1,hro⟩,h2⟩,h3⟩,h4⟩:=hok
  obtain ⟨t1,_,t3⟩:=jkh r [] h3 zS
  have hlen:r.length≤ops.size:=by
    have hlt: ∀x∈r.map (·.1),x<ops.size:=by
      intro x hx
      obtain ⟨y,hy,rfl⟩:=gP.1 hx
      have: ∀(r:List (Nat×Kd)),Topo ops r→ ∀y∈r,y.1<ops.size:=by
        intro r
        induction r with
        |nil=>intro _ y hy;simp at hy
        |cons z r ih=>
          intro ⟨⟨o,ho,_⟩,h5⟩ y hy
          rcases gO.1 hy with rfl|hy
          · exact (gH.1 ho).1
          · exact ih h5 y hy
      exact this r t1 y hy
    have:=Ga t3 (l₂:=List.range ops.size) fun x hx=>gT.2 (hlt x hx)
    simpa using this
  simp only [Region.schedule,hm,if_true]
  refine joO h1 ops.size _ _ r l h hlen zS (fun x hx=>?_) t3 h2 hnw (fun _=>hS) hro t1 (fun x o ho hx=>?_) t
  · rw [gf,gR (by simpa using hx)];obtain ⟨y,hy,e⟩:=h4 x hx
    simp only [Vm,GB,gx,false_iff]
    exact fun hh=>hh y hy e
  · obtain ⟨y,hy,e⟩:=h4 x (gH.1 ho).1
    exact absurd e (hx y hy)
end
class SubH (a b:Hp):Prop where
  sub:a.Sublist b
instance {b:Hp}:SubH [] b:=⟨Ge _⟩
instance (priority:=900) {x:Chunk} {a b:Hp} [s:SubH a b]:SubH a (x::b):=⟨s.sub.cons x⟩
instance {x:Chunk} {a b:Hp} [s:SubH a b]:SubH (x::a) (x::b):=⟨s.sub.cons_cons x⟩
instance {f a b:Hp} [s:SubH a b]:SubH (f++a) (f++b):=⟨s.sub.append_left f⟩
instance (priority:=950) {a a' b b':Hp} [s:SubH a a'] [t:SubH b b']:SubH (a++b) (a'++b'):=⟨s.sub.append t.sub⟩
instance {f b:Hp}:SubH f (f++b):=⟨gI _ _⟩
instance (priority:=900) {f a b:Hp} [s:SubH a b]:SubH a (f++b):=⟨s.sub.trans (gM _ _)⟩
instance (priority:=800) {f a b:Hp} [s:SubH a f]:SubH a (f++b):=⟨s.sub.trans (gI _ _)⟩
instance (priority:=2000) {a:Hp}:SubH a a:=⟨gE _⟩
class Slot (l:List Value) (i:Nat) (v:outParam Value):Prop where
  eq:l.getD i undef=v
instance {l:List Value}:Slot (v::l) 0 v:=⟨rfl⟩
instance {w:Value} {l:List Value} [s:Slot l i v]:Slot (w::l) (i+1) v:=⟨by simpa using s.eq⟩
class SetS (l:List Value) (i:Nat) (v:Value) (l':outParam (List Value)):Prop where
  eq:l.set i v=l'
instance {w:Value} {l:List Value}:SetS (w::l) 0 v (v::l):=⟨rfl⟩
instance {w:Value} {l:List Value} [s:SetS l i v l']:SetS (w::l) (i+1) v (w::l'):=⟨by simp [s.eq]⟩
class OpV (l:List Value) (x:Operand) (v:outParam Value):Prop where
  eq:ev l x=v
instance {l:List Value} {t:Nat} [s:Slot l t v]:OpV l (.tmp t) v:=⟨s.eq⟩
instance {l:List Value}:OpV l (.const v) v:=⟨rfl⟩
instance {l:List Value} {g:Nat}:OpV l (.global g) (.pointer (some ⟨g,0,none⟩)):=⟨rfl⟩
instance {l:List Value} {f:Nat}:OpV l (.func f) (.func (.func f) #[] #[]):=⟨rfl⟩
class PutV (l:List Value) (d:Option Tmp) (v:Value) (l':outParam (List Value)):Prop where
  eq:put l d v=l'
instance {l:List Value} {d:Nat} [s:SetS l d v l']:PutV l (some d) v l':=⟨s.eq⟩
instance {l:List Value}:PutV l none v l:=⟨rfl⟩
def Wt (ops:Array Oper) (l:List Value):Option (Nat×Bool)→Prop
  |none=>True
  |some (j,w)=>yielded ops l.toArray j=some w
def Wn (ops:Array Oper) (l:List Value):Option (Nat×Bool)→Prop
  |none=>False
  |some (j,w)=>(yielded ops l.toArray j==some w)=false
theorem Wt.wanted {l:List Value} (h:Wt ops l o.guard):Region.wanted o (yielded ops l.toArray)=true:=by
  unfold Region.wanted
  cases hg:o.guard with
  |none=>rfl
  |some x=>
    obtain ⟨j,w⟩:=x
    rw [hg] at h
    simp only [Wt] at h
    simp [h]
theorem Wn.wanted {l:List Value} (h:Wn ops l o.guard):Region.wanted o (yielded ops l.toArray)=false:=by
  unfold Region.wanted
  cases hg:o.guard with
  |none=>rw [hg] at h;exact h.elim
  |some x=>
    obtain ⟨j,w⟩:=x
    rw [hg] at h
    exact h
def jlw (P:Program) (t:TypeId):Bool:=match P.underlying t with|some (.struct _)|some (.array ..)=>false|some _=>(match P.info? t with|some i=>i.size==1|none=>false)|none=>false
def aggB (P:Program) (t:TypeId) (n:Nat):Bool:=(match P.underlying t with|some (.struct _)|some (.array ..)=>true|_=>false)&&(match P.info? t with|some i=>i.size==n|none=>false)
def jog (P:Program) (s:TypeId) (f off ft:Nat):Bool:=match P.underlying s with
  |some (.struct fs)=>(match fs[f]? with|some x=>x.offset==off&&x.type==ft&&(match P.info? ft with|some i=>i.size !=0|none=>false)|none=>false)
  |_=>false
def sliceB (P:Program) (t e k:Nat):Bool:=(match P.underlying t with|some (.slice e')=>e'==e|_=>false)&&(match P.info? e with|some i=>i.size==k|none=>false)
def arrayB (P:Program) (t n e k:Nat):Bool:=(match P.underlying t with|some (.array n' e')=>n'==n&&e'==e|_=>false)&&(match P.info? e with|some i=>i.size==k|none=>false)
def intB (P:Program) (t:TypeId) (k:IntKind):Bool:=match P.underlying t with|some (.int k')=>k'==k|_=>false
class Scal (P:Program) (t:TypeId):Prop where
  eq:jlw P t=true
class AggT (P:Program) (t:TypeId) (n:outParam Nat):Prop where
  eq:aggB P t n=true
class FieldT (P:Program) (s:TypeId) (f:Nat) (off ft:outParam Nat):Prop where
  eq:jog P s f off ft=true
class SliceT (P:Program) (t:TypeId) (e k:outParam Nat):Prop where
  eq:sliceB P t e k=true
class ArrayT (P:Program) (t:TypeId) (n e k:outParam Nat):Prop where
  eq:arrayB P t n e k=true
class IntT (P:Program) (t:TypeId) (k:outParam IntKind):Prop where
  eq:intB P t k=true
section
variable {h:Hp}
theorem jai {d:TypeDesc} (e:P.underlying t=some d):Still P (underlying t) d:=fun w=>by
  simp [underlying,Go.program,e,bind,Sem.bind,Sem.runT,pure,Sem.events,Sem.run]
theorem Still.run' {α:Type} {s:Sem α} {a:α} (t:Still P s a) (w:World):s.run P w= .ok a w:=by
  have:=t w;simp at this;exact this.1
theorem jhB [s:Scal P t]:Reads P B (isAgg t) h false:=by
  have:=s.eq
  unfold jlw at this
  split at this
  · cases this
  · cases this
  · rename_i d h1 h2 e
    refine Reads.bind (jai e).reads ?_
    cases d<;>first|exact Reads.pure _|exact absurd rfl (h1 _)|exact absurd rfl (h2 _ _)
  · cases this
theorem jpT [s:AggT P t n]:Reads P B (isAgg t) h true:=by
  have:=s.eq
  simp only [aggB,gK] at this
  obtain ⟨h1,_⟩:=this
  split at h1
  · rename_i e;exact Reads.bind (jai e).reads (Reads.pure _)
  · rename_i e;exact Reads.bind (jai e).reads (Reads.pure _)
  · cases h1
theorem jbV {i:TypeInfo} (e:P.info? t=some i):Still P (typeInfo t) i:=fun w=>by
  simp [typeInfo,Go.program,e,bind,Sem.bind,Sem.runT,pure,Sem.events,Sem.run]
theorem jh8 (e:(match P.info? t with|some i=>i.size==n|none=>false)=true):Reads P B (sizeOf t) h n:=by
  split at e
  · rename_i i e'
    have:i.size=n:=by simpa using e
    subst this
    exact Reads.bind (jbV e').reads (Reads.pure _)
  · cases e
theorem jkt [s:AggT P t n]:Reads P B (sizeOf t) h n:=by
  have:=s.eq
  simp only [aggB,gK] at this
  exact jh8 this.2
theorem jqa [s:Scal P t]:Reads P B (sizeOf t) h 1:=by
  have:=s.eq
  unfold jlw at this
  split at this
  · cases this
  · cases this
  · exact jh8 this
  · cases this
theorem Reads.value {s:Sem Value} (t:Reads P B s h v):Reads P B (s>>=fun v=>Pure.pure (Next.value v)) h (Next.value v):=Reads.bind t (Reads.pure _)
def RdN (B:Array Obj) (h:Hp) (b o:Nat) (vs:List Value):Prop:= ∀j,j<vs.length→Rd B h ⟨b,o+j,none⟩ (vs.getD j undef)
theorem Addr.add_none (b o n:Nat):(⟨b,o,none⟩:Addr).add n=⟨b,o+n,none⟩:=by
  unfold Addr.add
  split
  · rename_i e;subst e;rfl
  · rfl
theorem jfv {b o:Nat}: ∀(n i:Nat) (vs acc:List Value),vs.length=n→(∀j,j<n→Rd B h ⟨b,o+(i+j),none⟩ (vs.getD j undef))→
    Reads P B (loadCellsFrom ⟨b,o,none⟩ i n acc.toArray) h (acc++vs).toArray
  |0,i,vs,acc,hl,_=>by
    have:vs=[]:=GO.1 hl
    subst this
    simp only [gd]
    exact Reads.pure _
  |n+1,i,[],acc,hl,_=>by simp at hl
  |n+1,i,v::vs,acc,hl,hr=>by
    refine Reads.bind (a:=v) ?_ ?_
    · rw [Addr.add_none];have:=hr 0 zO
      simpa using Reads.load this
    · have:=jfv n (i+1) vs (acc++[v]) (by simpa using hl) (fun j hj=>by
        have:=hr (j+1) zO
        have e:i+(j+1)=i+1+j:=by omega
        rw [e] at this
        simpa using this)
      simpa using this
theorem jjK {a:Addr} [Scal P t] (r:Rd B h a v):Reads P B (loadVar t a) h v:=
  Reads.bind jhB (Reads.load r)
theorem jjJ {o:Nat} [AggT P t n] (hl:vs.length=n) (r:RdN B h b o vs):Reads P B (loadVar t ⟨b,o,none⟩) h (.agg vs.toArray):=by
  refine Reads.bind jpT ?_
  rw [if_pos rfl];refine Reads.bind (jkt (n:=n)) ?_
  refine Reads.bind (a:=vs.toArray) ?_ (Reads.pure _)
  have:=jfv (P:=P) (B:=B) (h:=h) (b:=b) (o:=o) n 0 vs [] hl (fun j hj=>by rw [GD];exact r j zO)
  simpa [loadCells] using this
end
section
variable {m:Md P B} {l l':List Value} {S h H:Hp} {C:List Value→Hp→Prop} {kd:Kd} {r:List (Nat×Kd)}
class KHeap (kd:Kd) (S h:Hp) (H:outParam Hp):Prop where
  eq:(kd= .pure∧H=[])∨(kd= .read∧H=S)∨(kd= .free∧H=h)∨(kd= .keep∧H=h∧S.Sublist h)
instance:KHeap .pure S h []:=⟨.inl ⟨rfl,rfl⟩⟩
instance:KHeap .read S h S:=⟨.inr (.inl ⟨rfl,rfl⟩)⟩
instance:KHeap .free S h h:=⟨.inr (.inr (.inl ⟨rfl,rfl⟩))⟩
instance [s:SubH S h]:KHeap .keep S h h:=⟨.inr (.inr (.inr ⟨rfl,rfl,s.sub⟩))⟩
theorem RegK.rd {op:Op} (ho:ops[i]?=some ⟨d,op,ty,pos,af,g⟩) (hw:Wt ops l g) [kh:KHeap kd S h H] (t:Reads P B (execOp (ev l) ⟨d,op,ty,pos,af,g⟩) H (.value v)) [p:PutV l d v l']
    (n:RegK m S ops r l' h C):RegK m S ops ((i,kd)::r) l h C:=by
  refine ⟨_,ho,?_⟩
  unfold opK
  rw [if_pos (Wt.wanted (o:=⟨d,op,ty,pos,af,g⟩) hw)];have e:=p.eq
  rcases kh.eq with ⟨rfl,rfl⟩|⟨rfl,rfl⟩|⟨rfl,rfl⟩|⟨rfl,rfl,hs⟩
  · exact ⟨v,t,by rw [e];exact n⟩
  · exact ⟨v,t,by rw [e];exact n⟩
  · exact Tri.toE (t.tri (by show RegK m S ops r (put l d v) H C;rw [e];exact n))
  · exact Tri.toE (t.tri ⟨hs,by rw [e];exact n⟩)
theorem k_off {op:Op} (ho:ops[i]?=some ⟨d,op,ty,pos,af,g⟩) (hw:Wn ops l g) [p:PutV l d undef l'] (n:RegK m S ops r l' h C):RegK m S ops ((i,kd)::r) l h C:=by
  refine ⟨_,ho,?_⟩
  unfold opK
  rw [if_neg (by rw [Wn.wanted (o:=⟨d,op,ty,pos,af,g⟩) hw];simp)];have e:=p.eq
  show RegK m S ops r (put l d undef) h C
  rw [e];exact n
theorem k_nil (n:C l h):RegK m S ops [] l h C:=n
theorem k_mv {x:Operand} (ho:ops[i]?=some ⟨d,.move x,ty,pos,af,g⟩) (hw:Wt ops l g) [KHeap kd S h H] [e:OpV l x v] [PutV l d v l'] (n:RegK m S ops r l' h C):RegK m S ops ((i,kd)::r) l h C:=
  RegK.rd (v:=v) ho hw (by simp only [execOp,e.eq];exact Reads.pure _) n
theorem k_as {x:Operand} (ho:ops[i]?=some ⟨d,.assign x,ty,pos,af,g⟩) (hw:Wt ops l g) [KHeap kd S h H] [e:OpV l x v] [PutV l d v l'] (n:RegK m S ops r l' h C):RegK m S ops ((i,kd)::r) l h C:=
  RegK.rd (v:=v) ho hw (by simp only [execOp,e.eq];exact Reads.pure _) n
theorem jq7 {c x:Operand} (ho:ops[i]?=some ⟨d,.pick c x y,ty,pos,af,g⟩) (hw:Wt ops l g) [KHeap kd S h H] [ec:OpV l c (.bool true)] [ex:OpV l x v] [PutV l d v l'] (n:RegK m S ops r l' h C):RegK m S ops ((i,kd)::r) l h C:=
  RegK.rd (v:=v) ho hw (by simp only [execOp,ec.eq,ex.eq];exact Reads.bind (a:=true) (Reads.pure _) (Reads.pure _)) n
theorem jq8 {c x:Operand} (ho:ops[i]?=some ⟨d,.pick c x y,ty,pos,af,g⟩) (hw:Wt ops l g) [KHeap kd S h H] [ec:OpV l c (.bool false)] [ey:OpV l y v] [PutV l d v l'] (n:RegK m S ops r l' h C):RegK m S ops ((i,kd)::r) l h C:=
  RegK.rd (v:=v) ho hw (by simp only [execOp,ec.eq,ey.eq];exact Reads.bind (a:=false) (Reads.pure _) (Reads.pure _)) n
theorem k_ext {x:Operand} {vs:Array Value} (ho:ops[i]?=some ⟨d,.extract x j,ty,pos,af,g⟩) (hw:Wt ops l g) [KHeap kd S h H] [e:OpV l x (.tuple vs)] (hv:vs[j]?=some v) [PutV l d v l'] (n:RegK m S ops r l' h C):RegK m S ops ((i,kd)::r) l h C:=
  RegK.rd (v:=v) ho hw (by simp only [execOp,e.eq,Instr.extract,hv];exact Reads.value (Reads.pure _)) n
theorem k_ext0 {x:Operand} (ho:ops[i]?=some ⟨d,.extract x 0,ty,pos,af,g⟩) (hw:Wt ops l g) [KHeap kd S h H] [e:OpV l x (.tuple (v::vs).toArray)] [PutV l d v l'] (n:RegK m S ops r l' h C):RegK m S ops ((i,kd)::r) l h C:=
  k_ext (v:=v) ho hw zS n
theorem k_ext1 {x:Operand} (ho:ops[i]?=some ⟨d,.extract x 1,ty,pos,af,g⟩) (hw:Wt ops l g) [KHeap kd S h H] [e:OpV l x (.tuple (v0::v::vs).toArray)] [PutV l d v l'] (n:RegK m S ops r l' h C):RegK m S ops ((i,kd)::r) l h C:=
  k_ext (v:=v) ho hw zS n
theorem jlT {x:Operand} (ho:ops[i]?=some ⟨d,.extract x 2,ty,pos,af,g⟩) (hw:Wt ops l g) [KHeap kd S h H] [e:OpV l x (.tuple (v0::v1::v::vs).toArray)] [PutV l d v l'] (n:RegK m S ops r l' h C):RegK m S ops ((i,kd)::r) l h C:=
  k_ext (v:=v) ho hw zS n
theorem k_ext3 {x:Operand} {v2:Value} (ho:ops[i]?=some ⟨d,.extract x 3,ty,pos,af,g⟩) (hw:Wt ops l g) [KHeap kd S h H] [e:OpV l x (.tuple (v0::v1::v2::v::vs).toArray)] [PutV l d v l'] (n:RegK m S ops r l' h C):RegK m S ops ((i,kd)::r) l h C:=
  k_ext (v:=v) ho hw zS n
theorem k_not {x:Operand} {b:Bool} (ho:ops[i]?=some ⟨d,.unOp .not t x,ty,pos,af,g⟩) (hw:Wt ops l g) [KHeap kd S h H] [e:OpV l x (.bool b)] [PutV l d (.bool !b) l'] (n:RegK m S ops r l' h C):RegK m S ops ((i,kd)::r) l h C:=
  RegK.rd (v:= .bool !b) ho hw (by simp only [execOp,e.eq,Op.unary];exact Reads.value (Reads.pure _)) n
theorem k_notT {x:Operand} (ho:ops[i]?=some ⟨d,.unOp .not t x,ty,pos,af,g⟩) (hw:Wt ops l g) [KHeap kd S h H] [OpV l x (.bool true)] [p:PutV l d (.bool false) l'] (n:RegK m S ops r l' h C):RegK m S ops ((i,kd)::r) l h C:=
  have:PutV l d (.bool !true) l':=p
  k_not (b:=true) ho hw n
theorem k_notF {x:Operand} (ho:ops[i]?=some ⟨d,.unOp .not t x,ty,pos,af,g⟩) (hw:Wt ops l g) [KHeap kd S h H] [OpV l x (.bool false)] [p:PutV l d (.bool true) l'] (n:RegK m S ops r l' h C):RegK m S ops ((i,kd)::r) l h C:=
  have:PutV l d (.bool !false) l':=p
  k_not (b:=false) ho hw n
def jep (n:Int):Prop:= -9223372036854775808≤n∧n≤9223372036854775807
theorem jdK {n:Int} (hn:jep n):IntKind.i64.wrap n=n:=IntWalk.i64_in _ (by unfold jep at hn;omega)
theorem jaY {x:Operand} {b:Int} {op:BinOp} (hx:ev l x= .int k a) (hy:ev l y= .int k b) (hs:op≠ .shl∧op≠ .shr)
    (hv:binOp op t (.int k a) (.int k b)=Sem.pure v):Reads P B (execOp (ev l) ⟨d,.binOp op t x y u,ty,pos,af,g⟩) h (.value v):=by
  simp only [execOp,hx,hy]
  refine Reads.value (Reads.bind (a:=()) ?_ ?_)
  · cases op<;>exact Reads.pure ()
  · rw [hv];exact Reads.pure _
theorem jo9 {x:Operand} {b:Int} (ho:ops[i]?=some ⟨d,.binOp .add t x y u,ty,pos,af,g⟩) (hw:Wt ops l g) [KHeap kd S h H] [ex:OpV l x (.int .i64 a)] [ey:OpV l y (.int .i64 b)] (hr:jep (a+b)) [PutV l d (.int .i64 (a+b)) l']
    (n:RegK m S ops r l' h C):RegK m S ops ((i,kd)::r) l h C:=
  RegK.rd (v:= .int .i64 (a+b)) ho hw (jaY ex.eq ey.eq zS (by simp [binOp,Op.intArith,jdK hr];rfl)) n
theorem k_sub {x:Operand} {b:Int} (ho:ops[i]?=some ⟨d,.binOp .sub t x y u,ty,pos,af,g⟩) (hw:Wt ops l g) [KHeap kd S h H] [ex:OpV l x (.int .i64 a)] [ey:OpV l y (.int .i64 b)] (hr:jep (a-b)) [PutV l d (.int .i64 (a-b)) l']
    (n:RegK m S ops r l' h C):RegK m S ops ((i,kd)::r) l h C:=
  RegK.rd (v:= .int .i64 (a-b)) ho hw (jaY ex.eq ey.eq zS (by simp [binOp,Op.intArith,jdK hr];rfl)) n
theorem k_mul {x:Operand} {b:Int} (ho:ops[i]?=some ⟨d,.binOp .mul t x y u,ty,pos,af,g⟩) (hw:Wt ops l g) [KHeap kd S h H] [ex:OpV l x (.int .i64 a)] [ey:OpV l y (.int .i64 b)] (hr:jep (a*b)) [PutV l d (.int .i64 (a*b)) l']
    (n:RegK m S ops r l' h C):RegK m S ops ((i,kd)::r) l h C:=
  RegK.rd (v:= .int .i64 (a*b)) ho hw (jaY ex.eq ey.eq zS (by simp [binOp,Op.intArith,jdK hr];rfl)) n
theorem k_eql {x:Operand} {b:Int} (ho:ops[i]?=some ⟨d,.binOp .eql t x y u,ty,pos,af,g⟩) (hw:Wt ops l g) [KHeap kd S h H] [ex:OpV l x (.int k a)] [ey:OpV l y (.int k b)] [PutV l d (.bool (decide (a=b))) l']
    (n:RegK m S ops r l' h C):RegK m S ops ((i,kd)::r) l h C:=
  RegK.rd (v:= .bool (decide (a=b))) ho hw (jaY ex.eq ey.eq zS (by simp [binOp,Op.intCmp,pure,Vx])) n
theorem k_neq {x:Operand} {b:Int} (ho:ops[i]?=some ⟨d,.binOp .neq t x y u,ty,pos,af,g⟩) (hw:Wt ops l g) [KHeap kd S h H] [ex:OpV l x (.int k a)] [ey:OpV l y (.int k b)] [PutV l d (.bool (decide (a≠b))) l']
    (n:RegK m S ops r l' h C):RegK m S ops ((i,kd)::r) l h C:=
  RegK.rd (v:= .bool (decide (a≠b))) ho hw (jaY ex.eq ey.eq zS (by simp [binOp,Op.intCmp,pure,bne,Vx])) n
theorem k_lss {x:Operand} {b:Int} (ho:ops[i]?=some ⟨d,.binOp .lss t x y u,ty,pos,af,g⟩) (hw:Wt ops l g) [KHeap kd S h H] [ex:OpV l x (.int k a)] [ey:OpV l y (.int k b)] [PutV l d (.bool (decide (a<b))) l']
    (n:RegK m S ops r l' h C):RegK m S ops ((i,kd)::r) l h C:=
  RegK.rd (v:= .bool (decide (a<b))) ho hw (jaY ex.eq ey.eq zS (by simp [binOp,Op.intCmp];rfl)) n
theorem k_leq {x:Operand} {b:Int} (ho:ops[i]?=some ⟨d,.binOp .leq t x y u,ty,pos,af,g⟩) (hw:Wt ops l g) [KHeap kd S h H] [ex:OpV l x (.int k a)] [ey:OpV l y (.int k b)] [PutV l d (.bool (decide (a≤b))) l']
    (n:RegK m S ops r l' h C):RegK m S ops ((i,kd)::r) l h C:=
  RegK.rd (v:= .bool (decide (a≤b))) ho hw (jaY ex.eq ey.eq zS (by simp [binOp,Op.intCmp];rfl)) n
theorem k_gtr {x:Operand} {b:Int} (ho:ops[i]?=some ⟨d,.binOp .gtr t x y u,ty,pos,af,g⟩) (hw:Wt ops l g) [KHeap kd S h H] [ex:OpV l x (.int k a)] [ey:OpV l y (.int k b)] [PutV l d (.bool (decide (b<a))) l']
    (n:RegK m S ops r l' h C):RegK m S ops ((i,kd)::r) l h C:=
  RegK.rd (v:= .bool (decide (b<a))) ho hw (jaY ex.eq ey.eq zS (by simp [binOp,Op.intCmp];rfl)) n
theorem jrf {x:Operand} {b:Int} (ho:ops[i]?=some ⟨d,.binOp .geq t x y u,ty,pos,af,g⟩) (hw:Wt ops l g) [KHeap kd S h H] [ex:OpV l x (.int k a)] [ey:OpV l y (.int k b)] [PutV l d (.bool (decide (b≤a))) l']
    (n:RegK m S ops r l' h C):RegK m S ops ((i,kd)::r) l h C:=
  RegK.rd (v:= .bool (decide (b≤a))) ho hw (jaY ex.eq ey.eq zS (by simp [binOp,Op.intCmp];rfl)) n
end
section
variable {h:Hp}
theorem jfW {f o:Nat} [t:FieldT P s f off ft]:Reads P B (Instr.fieldAt s (.pointer (some ⟨b,o,none⟩)) f) h (.pointer (some ⟨b,o+off,none⟩)):=by
  have:=t.eq
  unfold jog at this
  split at this
  · rename_i fs e
    split at this
    · rename_i x ex
      simp only [gK,beq_iff_eq] at this
      obtain ⟨⟨h1,h2⟩,h3⟩:=this
      subst h1;subst h2
      unfold Instr.fieldAt
      refine Reads.bind (jai e).reads ?_
      simp only [ex]
      refine Reads.bind (a:=⟨b,o,none⟩) (Reads.pure _) ?_
      refine Reads.bind (a:=⟨b,o+x.offset,none⟩) ?_ (Reads.pure _)
      unfold fieldPlace
      split at h3
      · rename_i ti eti
        refine Reads.bind (a:=ti.size) (Reads.bind (jbV eti).reads (Reads.pure _)) ?_
        rw [if_neg (by simpa using h3),Addr.add_none];exact Reads.pure _
      · cases h3
    · cases this
  · cases this
theorem jih {f:Nat} {cs:Array Value} [t:FieldT P s f off ft] [Scal P ft] (hv:cs[off]?=some v):Reads P B (Instr.field s (.agg cs) f) h v:=by
  have:=t.eq
  unfold jog at this
  split at this
  · rename_i fs e
    split at this
    · rename_i x ex
      simp only [gK,beq_iff_eq] at this
      obtain ⟨⟨h1,h2⟩,h3⟩:=this
      subst h1;subst h2
      unfold Instr.field
      refine Reads.bind (jai e).reads ?_
      simp only [ex]
      refine Reads.bind (a:=cs) (Reads.pure _) ?_
      refine Reads.bind jhB ?_
      simp only [hv]
      exact Reads.pure _
    · cases this
  · cases this
theorem jb6 {t k:Nat} [s:SliceT P t e k]:P.underlying t=some (.slice e)∧Reads P B (sizeOf e) h k:=by
  have:=s.eq
  simp only [sliceB,gK] at this
  obtain ⟨h1,h2⟩:=this
  refine ⟨?_,jh8 h2⟩
  split at h1
  · rename_i e' he
    have:e'=e:=by simpa using h1
    rw [he,this]
  · cases h1
theorem jd4 {t k:Nat} [s:ArrayT P t n e k]:P.underlying t=some (.array n e)∧Reads P B (sizeOf e) h k:=by
  have:=s.eq
  simp only [arrayB,gK] at this
  obtain ⟨h1,h2⟩:=this
  refine ⟨?_,jh8 h2⟩
  split at h1
  · rename_i n' e' he
    simp only [gK,beq_iff_eq] at h1
    rw [he,h1.1,h1.2]
  · cases h1
theorem jhu {t k o c:Nat} {i:Int} [SliceT P t e k] (h0:0≤i) (h1:i<n):
    Reads P B (Instr.indexAt t (.slice (some ⟨b,o,none⟩) n c) (.int ik i)) h (.pointer (some ⟨b,o+i.toNat*k,none⟩)):=by
  obtain ⟨hu,hs⟩:=jb6 (P:=P) (B:=B) (h:=h) (t:=t)
  unfold Instr.indexAt
  refine Reads.bind (a:=(ik,i)) (Reads.pure _) ?_
  refine Reads.bind (jai hu).reads ?_
  refine Reads.bind (Reads.pure _) ?_
  refine Reads.bind (jai hu).reads ?_
  simp only [h0,h1,and_self,if_true]
  refine Reads.bind hs ?_
  rw [Addr.add_none];exact Reads.pure _
theorem jjf {t k o:Nat} {i:Int} [ArrayT P t n e k] (h0:0≤i) (h1:i<n):
    Reads P B (Instr.indexAt t (.pointer (some ⟨b,o,none⟩)) (.int ik i)) h (.pointer (some ⟨b,o+i.toNat*k,none⟩)):=by
  obtain ⟨hu,hs⟩:=jd4 (P:=P) (B:=B) (h:=h) (t:=t)
  unfold Instr.indexAt
  refine Reads.bind (a:=(ik,i)) (Reads.pure _) ?_
  refine Reads.bind (jai hu).reads ?_
  refine Reads.bind (a:=⟨b,o,none⟩) (Reads.pure _) ?_
  refine Reads.bind (Reads.pure _) ?_
  refine Reads.bind (jai hu).reads ?_
  simp only [h0,h1,and_self,if_true]
  refine Reads.bind hs ?_
  rw [Addr.add_none];exact Reads.pure _
theorem jje {t k:Nat} {cs:Array Value} {i:Int} [ArrayT P t n e k] [Scal P e] (h0:0≤i) (h1:i<n) (hv:cs[i.toNat*k]?=some v):
    Reads P B (Instr.index t (.agg cs) (.int ik i)) h v:=by
  obtain ⟨hu,hs⟩:=jd4 (P:=P) (B:=B) (h:=h) (t:=t)
  unfold Instr.index
  refine Reads.bind (a:=(ik,i)) (Reads.pure _) ?_
  refine Reads.bind (jai hu).reads ?_
  simp only [h0,h1,and_self,if_true]
  refine Reads.bind hs ?_
  unfold part
  refine Reads.bind jhB ?_
  simp only [hv]
  exact Reads.pure _
theorem jed {i:Int} {y:Nat} {code:BoundsCode} (h0:0≤i) (h1:i≤y):Reads P B (Instr.sliceBound (.int ik i) y code) h i.toNat:=by
  unfold Instr.sliceBound
  refine Reads.bind (a:=(ik,i)) (Reads.pure _) ?_
  simp only [h0,h1,and_self,if_true]
  exact Reads.pure _
end
section
theorem Sat.turn {h1 h2:Hp} {o:Obj} {w:World} (s:Sat B (h1++⟨true,b,o⟩::h2) w):Sat B (h1++⟨true,b,o'⟩::h2) {w with heap:=w.heap.setIfInBounds b o'}:=by
  have hb:=s.mem ⟨true,b,o⟩ zS
  have hlt:b<w.heap.size:=s.lt (c:=⟨true,b,o⟩) zS
  have ap:=s.apart
  rw [gq,vB] at ap
  obtain ⟨a1,⟨a2,a3⟩,a4⟩:=ap
  have ne1: ∀c∈h1,c.b≠b:=fun c hc=>a4 c hc ⟨true,b,o⟩ zS (.inr rfl)
  have ne2: ∀c∈h2,c.b≠b:=fun c hc e=>a2 c hc (.inl rfl) e.symm
  refine ⟨fun i x hx=>?_,fun c hc=>?_,?_⟩
  · have:=s.base i x hx
    have hi:i<B.size:=(gH.1 hx).1
    have:b≠i:=by have:=hb.1;simp at this;omega
    show (w.heap.setIfInBounds b o')[i]?=_
    rw [GC this];exact s.base i x hx
  · show _∧(w.heap.setIfInBounds b o')[c.b]?=_
    rcases gQ.1 hc with hc|hc
    · rw [GC (fun e=>ne1 c hc e.symm)];exact s.mem c (by simp [hc])
    · rcases gO.1 hc with rfl|hc
      · exact ⟨hb.1,GL hlt⟩
      · rw [GC (fun e=>ne2 c hc e.symm)];exact s.mem c (by simp [hc])
  · rw [gq,vB];exact ⟨a1,⟨fun c hc=>a2 c hc,a3⟩,fun c hc d hd=>by
      rcases gO.1 hd with rfl|hd
      · exact fun _=>ne1 c hc
      · exact a4 c hc d (by simp [hd])⟩
theorem Stp.turn {h1 h2:Hp} {o:Obj} {w:World} {es:Array Event} (s:Sat B (h1++⟨true,b,o⟩::h2) w) (he: ∀e∈es,EvOk B (h1++⟨true,b,o⟩::h2) w.heap.size w.heap.size e):
    Stp B (h1++⟨true,b,o⟩::h2) (h1++⟨true,b,o'⟩::h2) w {w with heap:=w.heap.setIfInBounds b o'} es where
  sat:=s.turn
  size:=by simp
  os:=rfl
  out:=rfl
  tape:=rfl
  drawn:=gL _
  old:=fun x _ hn=>by
    have:b≠x:=hn ⟨true,b,o⟩ zS rfl
    show (w.heap.setIfInBounds b o')[x]?=_
    rw [GC this]
  key:=fun c hc=>by
    rcases gQ.1 hc with hc|hc
    · exact .inr ⟨c,by simp [hc],rfl,fun x=>x⟩
    · rcases gO.1 hc with rfl|hc
      · exact .inr ⟨⟨true,b,o⟩,by simp,rfl,fun x=>x⟩
      · exact .inr ⟨c,by simp [hc],rfl,fun x=>x⟩
  evs:=fun e h=>(he e h).less zS fun c hc=>⟨c,hc,rfl,fun x=>x⟩
theorem jgB {w:World} {c:Array Value} (hb:w.heap[b]?=some (.cells c t f)) (v:Value):
    w.setCell ⟨b,off,none⟩ v={w with heap:=w.heap.setIfInBounds b (.cells (c.setIfInBounds off v) t f)}:=by
  unfold World.setCell
  have hlt:=(gH.1 hb).1
  congr 1
  apply Array.ext
  · simp
  · intro i h1 h2
    rw [xC,VN];split
    · rename_i e
      subst e
      have:w.heap[b]= .cells c t f:=by rw [gR hlt] at hb;exact gF hb
      simp [this]
    · rfl
theorem jpU {h1 h2:Hp} {c:Array Value} {Q:Unit→Hp→Prop} (hoff:off<c.size) (hv:v.oneCell'=true)
    (q:Q () (h1++⟨true,b,.cells (c.setIfInBounds off v) t (0,0)⟩::h2)):Tri P B (Go.store ⟨b,off,none⟩ v) (h1++⟨true,b,.cells c t (0,0)⟩::h2) Q:=fun w sw=>by
  have hb:=(sw.mem ⟨true,b,.cells c t (0,0)⟩ zS).2
  have hc:w.cell? ⟨b,off,none⟩=some c[off]:=by simp [World.cell?,hb,hoff]
  have hf:w.frozen? ⟨b,off,none⟩=false:=by simp [World.frozen?,hb]
  refine ⟨(),w.setCell ⟨b,off,none⟩ v,_,?_,?_,q⟩
  · cases v<;>first|(simp [Value.oneCell'] at hv;done)|(simp [Go.store,Sem.run,hc,hf])
  · rw [jgB hb];refine Stp.turn sw ?_
    rw [events_store (hv:=hv)];simp only [hc,hf]
    intro e he
    simp at he
    subst he
    exact .inr ⟨rfl,.inr (.inl ⟨⟨true,b,.cells c t (0,0)⟩,by simp,rfl,fun _=>rfl⟩)⟩
end
class Has (h:Hp) (b:Nat) (rw:outParam Bool) (o:outParam Obj):Prop where
  mem:(⟨rw,b,o⟩:Chunk)∈h
instance {rw:Bool} {o:Obj} {l:Hp}:Has (⟨rw,b,o⟩::l) b rw o:=⟨gk⟩
instance (priority:=low) {rw:Bool} {o:Obj} {x:Chunk} {l:Hp} [s:Has l b rw o]:Has (x::l) b rw o:=⟨gN _ s.mem⟩
instance {rw:Bool} {o:Obj} {f l:Hp} [s:Has l b rw o]:Has (f++l) b rw o:=⟨GF _ s.mem⟩
instance (priority:=low) {rw:Bool} {o:Obj} {f l:Hp} [s:Has f b rw o]:Has (f++l) b rw o:=⟨GN _ s.mem⟩
class Upd (h:Hp) (b:Nat) (o':Obj) (h':outParam Hp):Prop where
  ex: ∃o h1 h2,h=h1++⟨true,b,o⟩::h2∧h'=h1++⟨true,b,o'⟩::h2
instance {o:Obj} {l:Hp}:Upd (⟨true,b,o⟩::l) b o' (⟨true,b,o'⟩::l):=⟨o,[],l,rfl,rfl⟩
instance (priority:=low) {x:Chunk} {l l':Hp} [s:Upd l b o' l']:Upd (x::l) b o' (x::l'):=⟨by
  obtain ⟨o,h1,h2,e,e'⟩:=s.ex;exact ⟨o,x::h1,h2,by rw [e];rfl,by rw [e'];rfl⟩⟩
instance {f l l':Hp} [s:Upd l b o' l']:Upd (f++l) b o' (f++l'):=⟨by
  obtain ⟨o,h1,h2,e,e'⟩:=s.ex;exact ⟨o,f++h1,h2,by rw [e,gG],by rw [e',gG]⟩⟩
instance (priority:=low) {f f' l:Hp} [s:Upd f b o' f']:Upd (f++l) b o' (f'++l):=⟨by
  obtain ⟨o,h1,h2,e,e'⟩:=s.ex;exact ⟨o,h1,h2++l,by rw [e];simp,by rw [e'];simp⟩⟩
class Snoc (h:Hp) (x:Chunk) (h':outParam Hp):Prop where
  eq:h++[x]=h'
instance {x:Chunk}:Snoc [] x [x]:=⟨rfl⟩
instance {x y:Chunk} {l l':Hp} [s:Snoc l x l']:Snoc (y::l) x (y::l'):=⟨by simp [s.eq]⟩
instance {x y:Chunk} {f l l':Hp} [s:Snoc l x l']:Snoc (f++y::l) x (f++y::l'):=⟨by rw [gG,gt,s.eq]⟩
instance (priority:=low) {x:Chunk} {f:Hp}:Snoc f x (f++[x]):=⟨rfl⟩
class Seg (l:List Value) (i n:Nat) (vs:outParam (List Value)):Prop where
  eq:(l.drop i).take n=vs∧vs.length=n
instance {l:List Value}:Seg l 0 0 []:=⟨by simp⟩
instance {l:List Value} [s:Seg l 0 n vs]:Seg (v::l) 0 (n+1) (v::vs):=⟨by have:=s.eq;simp at this⊢;exact this⟩
class At (l:List Value) (i:Nat) (v:outParam Value):Prop where
  eq:l[i]?=some v
instance {l:List Value}:At (v::l) 0 v:=⟨rfl⟩
instance {w:Value} {l:List Value} [s:At l i v]:At (w::l) (i+1) v:=⟨by simpa using s.eq⟩
class SetSeg (l:List Value) (i:Nat) (vs:List Value) (l':outParam (List Value)):Prop where
  eq:l'=l.take i++vs++l.drop (i+vs.length)∧i+vs.length≤l.length
instance {l:List Value}:SetSeg l 0 [] l:=⟨by simp⟩
instance {w:Value} {l:List Value} [s:SetSeg l 0 vs l']:SetSeg (w::l) 0 (v::vs) (v::l'):=⟨by
  have:=s.eq;simp at this⊢;exact ⟨this.1,this.2⟩⟩
instance {w:Value} {l:List Value} [s:SetSeg l i vs l']:SetSeg (w::l) (i+1) vs (w::l'):=⟨by
  have:=s.eq
  refine ⟨?_,by simp;omega⟩
  rw [this.1,show i+1+vs.length=(i+vs.length)+1 by omega];simp⟩
class CellsV (v:Value) (vs:outParam (List Value)):Prop where
  eq:v.cells=vs.toArray
  one: ∀u∈vs,u.oneCell'=true
theorem jcL (h:vs.all (·.oneCell')=true): ∀u∈vs,u.oneCell'=true:=gX.1 h
instance {n:Int}:CellsV (.int k n) [.int k n]:=⟨rfl,jcL rfl⟩
instance {b:Bool}:CellsV (.bool b) [.bool b]:=⟨rfl,jcL rfl⟩
instance {s:ByteArray}:CellsV (.string s) [.string s]:=⟨rfl,jcL rfl⟩
instance {a:Option Addr}:CellsV (.pointer a) [.pointer a]:=⟨rfl,jcL rfl⟩
instance {a:Option Addr} {c:Nat}:CellsV (.slice a n c) [.slice a n c]:=⟨rfl,jcL rfl⟩
instance:CellsV (.map r) [.map r]:=⟨rfl,jcL rfl⟩
instance:CellsV (.chan r) [.chan r]:=⟨rfl,jcL rfl⟩
instance {f:Fn} {a b:Array Value}:CellsV (.func f a b) [.func f a b]:=⟨rfl,jcL rfl⟩
instance:CellsV .nilFunc [.nilFunc]:=⟨rfl,jcL rfl⟩
class Ones (vs:List Value):Prop where
  one: ∀u∈vs,u.oneCell'=true
instance:Ones []:=⟨by simp⟩
instance [c:CellsV v [v]] [s:Ones vs]:Ones (v::vs):=⟨fun u hu=>by
  rcases gO.1 hu with rfl|hu
  · exact c.one _ zS
  · exact s.one u hu⟩
instance [s:Ones vs]:CellsV (.agg vs.toArray) vs:=⟨rfl,s.one⟩
class ZeroT (P:Program) (t:TypeId) (v:outParam Value):Prop where
  eq:(P.info? t).bind (·.zero)=some v
def jpZ (P:Program) (t:TypeId) (pl:List (Nat×Nat)):Bool:=match P.underlying t with
  |some (.struct fs)=>fs.toList.length==pl.length&&(fs.toList.zip pl).all fun (f,(o,s))=>f.offset==o&&(match P.info? f.type with|some i=>i.size==s|none=>false)
  |_=>false
class StructT (P:Program) (t:TypeId) (pl:outParam (List (Nat×Nat))):Prop where
  eq:jpZ P t pl=true
def jbM (P:Program) (f:FuncId):Bool:=match P.funcs[f]? with
  |some fn=>!(fn.name== "runtime.NumGoroutine")&&fn.body.isSome
  |none=>false
section
variable {h:Hp}
theorem reads_zero [z:ZeroT P t v]:Reads P B (zeroValue t) h v:=by
  have:=z.eq
  cases e:P.info? t with
  |none=>rw [e] at this;simp at this
  |some i=>
    rw [e] at this
    simp only [VO] at this
    refine Reads.bind (jbV e).reads ?_
    simp only [this]
    exact Reads.pure _
theorem jeC {h1 h2:Hp} {b o:Nat} {t:TypeId}: ∀(vs:List Value) (i:Nat) (c:Array Value) {Q:Unit→Hp→Prop},o+i+vs.length≤c.size→(∀u∈vs,u.oneCell'=true)→
    (∀c':Array Value,c'.toList=c.toList.take (o+i)++vs++c.toList.drop (o+i+vs.length)→Q () (h1++⟨true,b,.cells c' t (0,0)⟩::h2))→
    Tri P B (storeCells ⟨b,o,none⟩ vs i) (h1++⟨true,b,.cells c t (0,0)⟩::h2) Q
  |[],i,c,Q,_,_,q=>by
    unfold storeCells
    exact Tri.pure (q c zS)
  |v::vs,i,c,Q,hs,ho,q=>by
    unfold storeCells
    simp only [gY] at hs
    refine Tri.bind ?_
    rw [Addr.add_none];refine jpU zO (ho v gk) ?_
    refine jeC vs (i+1) _ zN (fun u hu=>ho u (gN _ hu)) fun c' hc'=>q c' ?_
    rw [hc'];simp only [Array.toList_setIfInBounds,gY]
    have hlt:o+i<c.toList.length:=by simp;omega
    rw [show o+(i+1)=o+i+1 by omega,show o+i+(vs.length+1)=o+i+1+vs.length by omega];rw [List.drop_set_of_lt zO,vu (by simpa using hlt)];simp [VV]
end
section
variable {m:Md P B} {l l':List Value} {S h h' H:Hp} {C:List Value→Hp→Prop} {kd:Kd} {r:List (Nat×Kd)}
theorem jad [p:PutV l d v l'] (n:RegK m S ops r l' h C):RegK m S ops r (put l d v) h C:=by rw [p.eq];exact n
class KSub (kd:Kd) (S h:Hp):Prop where
  eq:(kd= .keep∧S.Sublist h)∨kd= .free
instance:KSub .free S h:=⟨.inr rfl⟩
class KMk (kd:Kd) (S h:Hp):Prop where
  eq:kd= .alloc∨(kd= .keep∧S.Sublist h)∨kd= .free
instance:KMk .alloc S h:=⟨.inl rfl⟩
instance:KMk .free S h:=⟨.inr (.inr rfl)⟩
theorem RegK.ke {op:Op} (hk:kd= .keep∨kd= .free) (ho:ops[i]?=some ⟨d,op,ty,pos,af,g⟩) (hw:Wt ops l g)
    (t:Tri P B (execOp (ev l) ⟨d,op,ty,pos,af,g⟩) h (jnp m ⟨d,op,ty,pos,af,g⟩ l fun l' h'=>(kd= .free∨S.Sublist h')∧RegK m S ops r l' h' C)):RegK m S ops ((i,kd)::r) l h C:=by
  refine ⟨_,ho,?_⟩
  unfold opK
  rw [if_pos (Wt.wanted (o:=⟨d,op,ty,pos,af,g⟩) hw)];rcases hk with rfl|rfl
  · exact Tri.toE (t.mono fun a h'=>jdS fun _ _ x=>⟨x.1.resolve_left zA,x.2⟩)
  · exact Tri.toE (t.mono fun a h'=>jdS fun _ _ x=>x.2)
theorem KSub.kind [k:KSub kd S h]:kd= .keep∨kd= .free:=k.eq.imp (·.1) id
theorem KSub.sub [k:KSub kd S h]:kd= .free∨S.Sublist h:=k.eq.symm.imp id (·.2)
theorem RegK.fr {op:Op} (ho:ops[i]?=some ⟨d,op,ty,pos,af,g⟩) (hw:Wt ops l g)
    (t:Tri P B (execOp (ev l) ⟨d,op,ty,pos,af,g⟩) h (jnp m ⟨d,op,ty,pos,af,g⟩ l fun l' h'=>RegK m S ops r l' h' C)):RegK m S ops ((i,.free)::r) l h C:=by
  refine ⟨_,ho,?_⟩
  unfold opK
  rw [if_pos (Wt.wanted (o:=⟨d,op,ty,pos,af,g⟩) hw)];exact t.toE
theorem k_fa0 {f:Nat} {x:Operand} (ho:ops[i]?=some ⟨d,.fieldAddr s x f,ty,pos,af,g⟩) (hw:Wt ops l g) [KHeap kd S h H] [e:OpV l x (.pointer (some ⟨b,0,none⟩))] [FieldT P s f off ft] [PutV l d (.pointer (some ⟨b,off,none⟩)) l']
    (n:RegK m S ops r l' h C):RegK m S ops ((i,kd)::r) l h C:=
  RegK.rd (v:= .pointer (some ⟨b,off,none⟩)) ho hw (by
    simp only [execOp,e.eq]
    have:=jfW (P:=P) (B:=B) (h:=H) (s:=s) (f:=f) (b:=b) (o:=0)
    rw [GD] at this
    exact Reads.value this) n
theorem k_fa {f o:Nat} {x:Operand} (ho:ops[i]?=some ⟨d,.fieldAddr s x f,ty,pos,af,g⟩) (hw:Wt ops l g) [KHeap kd S h H] [e:OpV l x (.pointer (some ⟨b,o,none⟩))] [FieldT P s f off ft] [PutV l d (.pointer (some ⟨b,o+off,none⟩)) l']
    (n:RegK m S ops r l' h C):RegK m S ops ((i,kd)::r) l h C:=
  RegK.rd (v:= .pointer (some ⟨b,o+off,none⟩)) ho hw (by simp only [execOp,e.eq];exact Reads.value jfW) n
theorem jmW {f:Nat} {x:Operand} {cs:List Value} (ho:ops[i]?=some ⟨d,.field s x f,ty,pos,af,g⟩) (hw:Wt ops l g) [KHeap kd S h H] [e:OpV l x (.agg cs.toArray)] [FieldT P s f off ft] [Scal P ft] [a:At cs off v] [PutV l d v l']
    (n:RegK m S ops r l' h C):RegK m S ops ((i,kd)::r) l h C:=
  RegK.rd (v:=v) ho hw (by simp only [execOp,e.eq];exact Reads.value (jih (by simpa using a.eq))) n
theorem ja1 {t k o n c:Nat} {j:Int} {x:Operand} (ho:ops[i]?=some ⟨d,.indexAddr t x y,ty,pos,af,g⟩) (hw:Wt ops l g) [KHeap kd S h H] [ex:OpV l x (.slice p n c)] [ey:OpV l y (.int ik j)] [SliceT P t e k]
    (hp:p=some ⟨b,o,none⟩) (h0:0≤j) (h1:j<n) [PutV l d (.pointer (some ⟨b,o+j.toNat*k,none⟩)) l'] (n:RegK m S ops r l' h C):RegK m S ops ((i,kd)::r) l h C:=
  RegK.rd (v:= .pointer (some ⟨b,o+j.toNat*k,none⟩)) ho hw (by simp only [execOp,ex.eq,ey.eq,hp];exact Reads.value (jhu h0 h1)) n
theorem k_ixa {t k o n:Nat} {j:Int} {x:Operand} (ho:ops[i]?=some ⟨d,.indexAddr t x y,ty,pos,af,g⟩) (hw:Wt ops l g) [KHeap kd S h H] [ex:OpV l x (.pointer (some ⟨b,o,none⟩))] [ey:OpV l y (.int ik j)] [ArrayT P t n e k]
    (h0:0≤j) (h1:j<n) [PutV l d (.pointer (some ⟨b,o+j.toNat*k,none⟩)) l'] (n:RegK m S ops r l' h C):RegK m S ops ((i,kd)::r) l h C:=
  RegK.rd (v:= .pointer (some ⟨b,o+j.toNat*k,none⟩)) ho hw (by simp only [execOp,ex.eq,ey.eq];exact Reads.value (jjf h0 h1)) n
theorem k_ixv {t k n:Nat} {cs:Array Value} {j:Int} {x:Operand} (ho:ops[i]?=some ⟨d,.index t x y,ty,pos,af,g⟩) (hw:Wt ops l g) [KHeap kd S h H] [ex:OpV l x (.agg cs)] [ey:OpV l y (.int ik j)] [ArrayT P t n e k] [Scal P e]
    (h0:0≤j) (h1:j<n) (hv:cs[j.toNat*k]?=some v) [PutV l d v l'] (n:RegK m S ops r l' h C):RegK m S ops ((i,kd)::r) l h C:=
  RegK.rd (v:=v) ho hw (by simp only [execOp,ex.eq,ey.eq];exact Reads.value (jje h0 h1 hv)) n
theorem jaI {a:Addr} {x:Operand} (ho:ops[i]?=some ⟨d,.load t x,ty,pos,af,g⟩) (hw:Wt ops l g) [KHeap kd S h H] [e:OpV l x (.pointer (some a))] [Scal P t] (rd:Rd B H a v) [PutV l d v l']
    (n:RegK m S ops r l' h C):RegK m S ops ((i,kd)::r) l h C:=
  RegK.rd (v:=v) ho hw (by simp only [execOp,e.eq];exact Reads.value (Reads.bind (a:=a) (Reads.pure _) (jjK rd))) n
theorem jca {o k:Nat} {x:Operand} (ho:ops[i]?=some ⟨d,.load t x,ty,pos,af,g⟩) (hw:Wt ops l g) [KHeap kd S h H] [e:OpV l x (.pointer (some ⟨b,o,none⟩))] [AggT P t k] (hl:vs.length=k) (rd:RdN B H b o vs) [PutV l d (.agg vs.toArray) l']
    (n:RegK m S ops r l' h C):RegK m S ops ((i,kd)::r) l h C:=
  RegK.rd (v:= .agg vs.toArray) ho hw (by simp only [execOp,e.eq];exact Reads.value (Reads.bind (a:=⟨b,o,none⟩) (Reads.pure _) (jjJ hl rd))) n
theorem jkM {o:Nat} {x:Operand} {rw:Bool} {cs:List Value} (ho:ops[i]?=some ⟨d,.load t x,ty,pos,af,g⟩) (hw:Wt ops l g) [KHeap kd S h H] [e:OpV l x (.pointer (some ⟨b,o,none⟩))] [Scal P t]
    [q:Has H b rw (.cells cs.toArray t' f)] [a:At cs o v] [PutV l d v l'] (n:RegK m S ops r l' h C):RegK m S ops ((i,kd)::r) l h C:=
  jaI ho hw (Rd.held q.mem (by simpa using a.eq)) n
theorem jlI {o k:Nat} {rw:Bool} {cs:List Value} (q:(⟨rw,b,.cells cs.toArray t' f⟩:Chunk)∈h) (a:(cs.drop o).take k=vs∧vs.length=k):RdN B h b o vs:=fun j hj=>by
  refine Rd.held q ?_
  rw [←a.1] at hj⊢
  simp only [GH,Gw] at hj
  rw [gZ,gC,GZ,if_pos zO,vK,gD zO];rfl
theorem jhx {o k:Nat} {x:Operand} {rw:Bool} {cs:List Value} (ho:ops[i]?=some ⟨d,.load t x,ty,pos,af,g⟩) (hw:Wt ops l g) [KHeap kd S h H] [e:OpV l x (.pointer (some ⟨b,o,none⟩))] [AggT P t k]
    [q:Has H b rw (.cells cs.toArray t' f)] [a:Seg cs o k vs] [PutV l d (.agg vs.toArray) l'] (n:RegK m S ops r l' h C):RegK m S ops ((i,kd)::r) l h C:=
  jca ho hw a.eq.2 (jlI q.mem a.eq) n
theorem k_mk {op:Op} [k:KMk kd S h] (ho:ops[i]?=some ⟨d,op,ty,pos,af,g⟩) (hw:Wt ops l g) (hn:jji P (ev l) op=some ob)
    (n: ∀q,RegK m S ops r (put l d (.pointer (some ⟨q,0,none⟩))) (h++[⟨true,q,ob⟩]) C):RegK m S ops ((i,kd)::r) l h C:=by
  refine ⟨_,ho,?_⟩
  unfold opK
  rw [if_pos (Wt.wanted (o:=⟨d,op,ty,pos,af,g⟩) hw)];rcases k.eq with rfl|⟨rfl,hs⟩|rfl
  · exact ⟨ob,hn,n⟩
  · exact Tri.toE (jhY hn fun q=>⟨hs.trans (gI _ _),n q⟩)
  · exact Tri.toE (jhY hn fun q=>n q)
theorem jaB [KMk kd S h] (ho:ops[i]?=some ⟨d,.alloc t,ty,pos,af,g⟩) (hw:Wt ops l g) [zt:ZeroT P t v] [z:CellsV v vs]
    (n: ∀q,RegK m S ops r (put l d (.pointer (some ⟨q,0,none⟩))) (h++[⟨true,q,.cells vs.toArray t (0,0)⟩]) C):RegK m S ops ((i,kd)::r) l h C:=
  k_mk ho hw (by simp only [jji,zt.eq,Gl,z.eq]) n
theorem jaF {x:Operand} [KMk kd S h] (ho:ops[i]?=some ⟨d,.box t x,ty,pos,af,g⟩) (hw:Wt ops l g) [e:OpV l x v] [z:CellsV v vs]
    (n: ∀q,RegK m S ops r (put l d (.pointer (some ⟨q,0,none⟩))) (h++[⟨true,q,.cells vs.toArray t (0,0)⟩]) C):RegK m S ops ((i,kd)::r) l h C:=
  k_mk ho hw (by simp only [jji,e.eq,z.eq]) n
theorem jap {x:Chunk} [s:Snoc h x h'] (n:RegK m S ops r l h' C):RegK m S ops r l (h++[x]) C:=by rw [s.eq];exact n
theorem jld {o:Nat} {c:Array Value} {h1 h2:Hp} {Q:Unit→Hp→Prop} (hs: ∀h,Reads P B (sizeOf t) h vs.length) (hv:v.cells=vs.toArray) (h1': ∀u∈vs,u.oneCell'=true) (hb:o+vs.length≤c.size)
    (q: ∀c':Array Value,c'.toList=c.toList.take o++vs++c.toList.drop (o+vs.length)→Q () (h1++⟨true,b,.cells c' t' (0,0)⟩::h2)):
    Tri P B (storeVar t ⟨b,o,none⟩ v) (h1++⟨true,b,.cells c t' (0,0)⟩::h2) Q:=by
  unfold storeVar
  refine Tri.bind ((hs _).tri ?_)
  rw [hv];simp only [List.size_toArray,ne_eq,not_true_eq_false,if_false]
  have:=jeC (P:=P) (B:=B) (h1:=h1) (h2:=h2) (b:=b) (o:=o) (t:=t') vs 0 c (Q:=Q) (by simpa using hb) h1' (fun c' hc'=>q c' (by simpa using hc'))
  exact this
theorem hp_eq {o:Obj} {rw:Bool} (q:(⟨rw,b,o⟩:Chunk)∈h) {o1:Obj} {h1 h2:Hp} (e:h=h1++⟨true,b,o1⟩::h2) {w:World} (s:Sat B h w):o1=o:=by
  have a:=(s.mem _ q).2
  have b':=(s.mem ⟨true,b,o1⟩ (by rw [e];simp)).2
  simp only at a b'
  rw [a] at b'
  exact (gF b').symm
theorem jgy {α:Type} {s:Sem α} {o:Obj} {rw:Bool} {Q:α→Hp→Prop} (q:(⟨rw,b,o⟩:Chunk)∈h) (u: ∃o1 h1 h2,h=h1++⟨true,b,o1⟩::h2∧h'=h1++⟨true,b,o⟩::h2)
    (t:Tri P B s h' Q):Tri P B s h Q:=fun w sw=>by
  obtain ⟨o1,h1,h2,e,e'⟩:=u
  have:=hp_eq q e sw
  subst this
  have:h=h':=by rw [e,e']
  subst this
  exact t w sw
theorem k_sth {o:Nat} {x:Operand} {cs:List Value} {rw:Bool} (ho:ops[i]?=some ⟨none,.store t x y,ty,pos,af,g⟩) (hw:Wt ops l g) [KSub kd S h'] [ex:OpV l x (.pointer (some ⟨b,o,none⟩))] [ey:OpV l y v] [z:CellsV v vs]
    (hs: ∀h,Reads P B (sizeOf t) h vs.length) [q:Has h b rw (.cells cs.toArray t' (0,0))] [a:SetSeg cs o vs cs'] [u:Upd h b (.cells cs'.toArray t' (0,0)) h'] (n:RegK m S ops r l h' C):RegK m S ops ((i,kd)::r) l h C:=by
  obtain ⟨o1,h1,h2,e,e'⟩:=u.ex
  refine RegK.ke (KSub.kind (S:=S) (h:=h')) ho hw ?_
  refine jgy q.mem ⟨o1,h1,h2,e,rfl⟩ ?_
  simp only [execOp,ex.eq,ey.eq]
  refine Tri.bind ?_
  refine Tri.bind (Tri.pure (a:=(⟨b,o,none⟩:Addr)) ?_)
  refine jld hs z.eq z.one (by simpa using a.eq.2) fun c'' hc''=>Tri.pure ?_
  have:c''=cs'.toArray:=vG (by rw [hc'',a.eq.1])
  rw [this,←e'];exact ⟨KSub.sub,n⟩
theorem k_st1 {o:Nat} {x:Operand} {u:Value} {cs:List Value} {rw:Bool} (ho:ops[i]?=some ⟨none,.store t x y,ty,pos,af,g⟩) (hw:Wt ops l g) [KSub kd S h'] [ex:OpV l x (.pointer (some ⟨b,o,none⟩))] [ey:OpV l y v] [z:CellsV v [u]] [Scal P t]
    [q:Has h b rw (.cells cs.toArray t' (0,0))] [a:SetSeg cs o [u] cs'] [p:Upd h b (.cells cs'.toArray t' (0,0)) h'] (n:RegK m S ops r l h' C):RegK m S ops ((i,kd)::r) l h C:=
  k_sth ho hw (fun _=>jqa) n
theorem jlP {o k:Nat} {x:Operand} {cs:List Value} {rw:Bool} (ho:ops[i]?=some ⟨none,.store t x y,ty,pos,af,g⟩) (hw:Wt ops l g) [KSub kd S h'] [ex:OpV l x (.pointer (some ⟨b,o,none⟩))] [ey:OpV l y v] [z:CellsV v vs] [AggT P t k] (hk:vs.length=k)
    [q:Has h b rw (.cells cs.toArray t' (0,0))] [a:SetSeg cs o vs cs'] [p:Upd h b (.cells cs'.toArray t' (0,0)) h'] (n:RegK m S ops r l h' C):RegK m S ops ((i,kd)::r) l h C:=
  k_sth ho hw (fun _=>hk▸jkt) n
end
class ArgsV (l:List Value) (xs:List Operand) (vs:outParam (List Value)):Prop where
  eq:xs.map (ev l)=vs
instance {l:List Value}:ArgsV l [] []:=⟨rfl⟩
instance {l:List Value} {x:Operand} [a:OpV l x v] [s:ArgsV l xs vs]:ArgsV l (x::xs) (v::vs):=⟨by simp [a.eq,s.eq]⟩
section
theorem jfw {h:Hp} {f:FuncId} (hf:jbM P f=true) (args:Array Value):Reads P B (callFunc f args) h (.enter f args):=by
  unfold jbM at hf
  split at hf
  · rename_i fn e
    simp only [gK,vO] at hf
    have hb:fn.body.isNone=false:=by
      cases hx:fn.body with
      |none=>rw [hx] at hf;simp at hf
      |some c=>rfl
    unfold callFunc
    refine Reads.bind Reads.program' ?_
    rw [e];simp only [hf.1,hb,gx,if_false]
    exact Reads.pure _
  · cases hf
variable {m:Md P B} {l l':List Value} {S h h' H:Hp} {C:List Value→Hp→Prop} {kd:Kd} {r:List (Nat×Kd)}
theorem jgE {x:Operand} {f:FuncId} {cap:Array Value} (ex:ev l x= .func (.func f) first cap) (ea:args.map (ev l)=vs) (hf:jbM P f=true):
    Reads P B (execOp (ev l) ⟨d,.call ⟨.value x,args.toArray,ats⟩,ty,pos,af,g⟩) h (.enter f (first++vs.toArray++cap)):=by
  have e:(Array.map (ev l) args.toArray)=vs.toArray:=by rw [Gx,ea]
  simp only [execOp,resolve,e,ex,Deferred.ofValue]
  refine Reads.bind (a:=⟨.fn (.func f) cap,first++vs.toArray⟩) (Reads.pure _) ?_
  simp only [invoke]
  exact jfw hf _
theorem k_call {x:Operand} {f:FuncId} {cap:Array Value} {Post:Value→Hp→Prop} (ho:ops[i]?=some ⟨d,.call ⟨.value x,args.toArray,ats⟩,ty,pos,af,g⟩) (hw:Wt ops l g)
    [ex:OpV l x (.func (.func f) first cap)] [ea:ArgsV l args vs] (hf:jbM P f=true) (c:FnC m f (first++vs.toArray++cap) h Post) (n: ∀v h',Post v h'→RegK m S ops r (put l d v) h' C):RegK m S ops ((i,.free)::r) l h C:=
  RegK.fr ho hw ((jgE ex.eq ea.eq hf).tri (CallF.mono c fun v h' p=>n v h' p))
theorem k_callK {x:Operand} {f:FuncId} {cap:Array Value} {Post:Value→Hp→Prop} (ho:ops[i]?=some ⟨d,.call ⟨.value x,args.toArray,ats⟩,ty,pos,af,g⟩) (hw:Wt ops l g)
    [ex:OpV l x (.func (.func f) first cap)] [ea:ArgsV l args vs] (hf:jbM P f=true) (c:FnC m f (first++vs.toArray++cap) h Post) (n: ∀v h',Post v h'→S.Sublist h'∧RegK m S ops r (put l d v) h' C):RegK m S ops ((i,.keep)::r) l h C:=
  RegK.ke (.inl rfl) ho hw ((jgE ex.eq ea.eq hf).tri (CallF.mono c fun v h' p=>⟨.inr (n v h' p).1,(n v h' p).2⟩))
class KBase (kd:Kd) (S h:Hp) (H:outParam Hp):Prop where
  eq:(kd= .call∧H=S)∨(kd= .free∧H=h)∨(kd= .keep∧H=h∧S.Sublist h)
instance:KBase .call S h S:=⟨.inl ⟨rfl,rfl⟩⟩
instance:KBase .free S h h:=⟨.inr (.inl ⟨rfl,rfl⟩)⟩
instance [s:SubH S h]:KBase .keep S h h:=⟨.inr (.inr ⟨rfl,rfl,s.sub⟩)⟩
theorem jrj {x:Operand} {f:FuncId} {cap:Array Value} {Post:Value→Hp→Prop} (ho:ops[i]?=some ⟨d,.call ⟨.value x,args.toArray,ats⟩,ty,pos,af,g⟩) (hw:Wt ops l g) [kb:KBase kd S h H]
    [ex:OpV l x (.func (.func f) first cap)] [ea:ArgsV l args vs] (hf:jbM P f=true) (c: ∀H':Hp,H.Sublist H'→FnC m f (first++vs.toArray++cap) H' fun v h'=> ∃new,h'=H'++new∧Post v new)
    (n: ∀v new,Post v new→RegK m S ops r (put l d v) (h++new) C):RegK m S ops ((i,kd)::r) l h C:=by
  rcases kb.eq with ⟨rfl,rfl⟩|⟨rfl,rfl⟩|⟨rfl,rfl,hs⟩
  · refine ⟨_,ho,?_⟩
    unfold opK
    rw [if_pos (Wt.wanted (o:=⟨d,.call ⟨.value x,args.toArray,ats⟩,ty,pos,af,g⟩) hw)];exact ⟨.enter f (first++vs.toArray++cap),_,Post,rfl,jgE ex.eq ea.eq hf,c,n⟩
  · exact k_call ho hw hf (c _ (gE _)) fun v h' ⟨new,e,p⟩=>by subst e;exact n v new p
  · exact k_callK ho hw hf (c _ (gE _)) fun v h' ⟨new,e,p⟩=>by subst e;exact ⟨hs.trans (gI _ _),n v new p⟩
def bF (f:FuncId):Frame:={fn:=f,tmps:= #[],todo:=[],defers:=[],mode:= .run,kind:= .normal}
theorem jae {f:FuncId} {fn:Func} {body:Code} {args:List Value} {Post:Value→Hp→Prop} (hf:P.funcs[f]?=some fn) (hb:fn.body=some body) (hn:fn.ntmps=n) (hl:args++List.replicate (n-args.length) undef=l)
    (t: ∀(c:Frame) (cs:List Frame) (K:Goroutine→Hp→Prop),(∀v h',Post v h'→m.R K (G (c.finish v) cs) h')→m.R K (Gr (bF f) l [] [.code body] (c::cs)) h):FnC m f args.toArray h Post:=by
  intro c cs K n'
  have:=t c cs K n'
  have e:Frame.enter P f args.toArray .normal=Fr (bF f) l [] [.code body]:=by
    subst hl
    simp [Frame.enter,hf,hb,hn,Fr,bF]
  unfold Gr at this
  rw [e];exact this
theorem joN {b:Frame} {c:Frame} {K:Goroutine→Hp→Prop} {fn:Func} (hk:b.kind= .normal) (hf:P.funcs[b.fn]?=some fn) (hr:Reads P B (results fn l.toArray) h v) (n:m.R K (G (c.finish v) cs) h):
    m.R K (jeV b l [] todo (c::cs)) h:=by
  refine m.step (K':=fun g' h'=>g'=G (c.finish v) cs∧h'=h) ⟨rfl,fun w sw=>?_⟩ fun _ _ ⟨e1,e2⟩=>by subst e1;subst e2;exact n
  obtain ⟨h1,h2⟩:=hr w sw
  refine ⟨_,w,seen P b.fn ((results fn l.toArray).events P w #[]),h,?_,{Stp.refl sw with evs:=fun e he=>h2 e (jct _ _ _ e he)},rfl,rfl⟩
  simp [jeV,Fr,G,stepG,unwind,doReturn,hf,h1,hk,GStep.after]
def jrD (pl:List (Nat×Nat)) (zs:List Value) (parts:List (Nat×Value)):Option (Array Value):=Instr.fill (fun j=>pl[j]?) zs.toArray parts
theorem jlG {cs:List Value} [s:StructT P t pl] [ZeroT P t (.agg zs.toArray)] (hc:jrD pl zs parts=some cs.toArray):
    Reads P B (Instr.build t parts.toArray) h (.agg cs.toArray):=by
  have:=s.eq
  unfold jpZ at this
  split at this
  · rename_i fs e
    simp only [gK,beq_iff_eq,gX] at this
    obtain ⟨hlen,hall⟩:=this
    unfold Instr.build
    refine Reads.bind (reads_zero (v:= .agg zs.toArray)) ?_
    refine Reads.bind (jai e).reads ?_
    have hm:Reads P B (fs.mapM fun f=>do pure (f.offset,←sizeOf f.type)) h pl.toArray:=by
      have gen: ∀(L:List Field) (Q:List (Nat×Nat)) (acc:List (Nat×Nat)),L.length=Q.length→(∀x∈L.zip Q,x.1.offset=x.2.1∧(match P.info? x.1.type with|some i=>i.size==x.2.2|none=>false)=true)→
          Reads P B (List.mapM (m:=Sem) (fun f:Field=>do pure (f.offset,←sizeOf f.type)) L) h Q:=by
        intro L
        induction L with
        |nil=>
          intro Q _ hq _
          have:Q=[]:=GO.1 (by simpa using hq.symm)
          subst this
          exact Reads.pure _
        |cons f L ih=>
          intro Q acc hq hx
          cases Q with
          |nil=>simp at hq
          |cons q Q=>
            rw [xR];obtain ⟨o,s'⟩:=q
            have:=hx (f,(o,s')) zS
            refine Reads.bind (a:=(o,s')) ?_ ?_
            · refine Reads.bind (jh8 this.2) ?_
              rw [this.1];exact Reads.pure _
            · exact Reads.bind (ih Q acc (by simpa using hq) fun x hx'=>hx x (by simp [hx'])) (Reads.pure _)
      have:=gen fs.toList pl [] hlen hall
      rw [Array.mapM_eq_mapM_toList];rw [map_eq_pure_bind];exact Reads.bind this (Reads.pure _)
    refine Reads.bind hm ?_
    have e2:Instr.fill (fun x=>pl.toArray[x]?) (Value.agg zs.toArray).cells parts.toArray.toList=some cs.toArray:=by
      simpa [jrD,Value.cells] using hc
    simp only [e2]
    exact Reads.pure _
  · cases this
class PartsV (l:List Value) (ps:List (Nat×Operand)) (vs:outParam (List (Nat×Value))):Prop where
  eq:ps.map (fun (i,x)=>(i,ev l x))=vs
instance {l:List Value}:PartsV l [] []:=⟨rfl⟩
instance {l:List Value} {x:Operand} {vs:List (Nat×Value)} [a:OpV l x v] [s:PartsV l ps vs]:PartsV l ((j,x)::ps) ((j,v)::vs):=⟨by simp [a.eq];exact s.eq⟩
theorem k_build {cs:List Value} (ho:ops[i]?=some ⟨d,.build t ps.toArray,ty,pos,af,g⟩) (hw:Wt ops l g) [KHeap kd S h H] [a:PartsV l ps parts] [StructT P t pl] [ZeroT P t (.agg zs.toArray)]
    (hc:jrD pl zs parts=some cs.toArray) [PutV l d (.agg cs.toArray) l'] (n:RegK m S ops r l' h C):RegK m S ops ((i,kd)::r) l h C:=
  RegK.rd (v:= .agg cs.toArray) ho hw (by
    simp only [execOp]
    have e:(Array.map (fun x:Nat×Operand=>(x.1,ev l x.2)) ps.toArray)=parts.toArray:=by rw [Gx,←a.eq]
    show Reads P B (Instr.build t (Array.map (fun x:Nat×Operand=>(x.1,ev l x.2)) ps.toArray)>>=fun v=>Pure.pure (Next.value v)) H _
    rw [e];exact Reads.value (jlG hc)) n
end
def elemB (P:Program) (e k by':Nat):Bool:=match P.info? e with
  |some i=>i.size==k&&i.bytes==by'&&(match i.zero with|some z=>z.cells.size==k|none=>false)
  |none=>false
class ElemT (P:Program) (e:TypeId) (k by':outParam Nat):Prop where
  eq:elemB P e k by'=true
def RdS (B:Array Obj) (h:Hp) (k:Nat) (v:Value) (n:Nat) (ys:List Value):Prop:=
  ∃p c,v= .slice p n c∧ys.length=n*k∧((p=none∧n=0)∨ ∃b o,p=some ⟨b,o,none⟩∧RdN B h b o ys)
theorem RdN.keeps {h h':Hp} {o:Nat} (r:RdN B h b o vs) (k:h.Sublist h'):RdN B h' b o vs:=fun j hj=>(r j hj).keeps k
theorem RdS.keeps {h h':Hp} {k:Nat} (r:RdS B h k v n ys) (s:h.Sublist h'):RdS B h' k v n ys:=by
  obtain ⟨p,c,e,hl,r⟩:=r
  exact ⟨p,c,e,hl,r.imp id fun ⟨b,o,e,r⟩=>⟨b,o,e,r.keeps s⟩⟩
inductive OwnS (t k:Nat):Value→Nat→List Value→Hp→Prop
  |nil:OwnS t k (.slice none 0 0) 0 [] []
  |blk {b n cap:Nat} {cs junk:List Value} (hl:cs.length=n*k) (hc:cs.length+junk.length=cap*k) (hn:n≤cap):
      OwnS t k (.slice (some ⟨b,0,none⟩) n cap) n cs [⟨true,b,.cells (cs++junk).toArray t (0,0)⟩]
theorem OwnS.rd {t k:Nat} {cs:List Value} {new h:Hp} (o:OwnS t k v n cs new) (s:new.Sublist h):RdS B h k v n cs:=by
  cases o with
  |nil=>exact ⟨none,0,rfl,by simp,.inl ⟨rfl,rfl⟩⟩
  |blk hl hc hn=>
    rename_i b cap junk
    refine ⟨_,cap,rfl,hl,.inr ⟨b,0,rfl,fun j hj=>?_⟩⟩
    rw [GD];refine Rd.held (s.subset gk) ?_
    rw [gZ,ge hj,gC,gD hj];rfl
theorem OwnS.len {t k:Nat} {cs:List Value} {new:Hp} (o:OwnS t k v n cs new): ∃p c,v= .slice p n c∧cs.length=n*k:=by
  cases o with
  |nil=>exact ⟨none,0,rfl,by simp⟩
  |blk hl hc hn=>exact ⟨_,_,rfl,hl⟩
section
variable {h:Hp}
theorem jme {k:Nat} [x:ElemT P e k by']: ∃i z,P.info? e=some i∧i.size=k∧i.bytes=by'∧i.zero=some z∧z.cells.size=k:=by
  have:=x.eq
  unfold elemB at this
  split at this
  · rename_i i ei
    simp only [gK,beq_iff_eq] at this
    obtain ⟨⟨h1,h2⟩,h3⟩:=this
    split at h3
    · rename_i z ez
      exact ⟨i,z,ei,h1,h2,ez,by simpa using h3⟩
    · cases h3
  · cases this
theorem jft {k:Nat} (r:RdS B h k v n ys):Reads P B (Builtin.firstCells k n v) h ys.toArray:=by
  obtain ⟨p,c,rfl,hl,⟨rfl,rfl⟩|⟨b,o,rfl,r⟩⟩:=r
  · have:ys=[]:=GO.1 (by simpa using hl)
    subst this
    exact Reads.pure _
  · simp only [Builtin.firstCells,loadCells]
    have:=jfv (P:=P) (B:=B) (h:=h) (b:=b) (o:=o) (n*k) 0 ys [] hl (fun j hj=>by rw [GD];exact r j zO)
    simpa using this
theorem Reads.weak {α:Type} {s:Sem α} {h':Hp} {a:α} (k:Weak B h h') (t:Reads P B s h' a):Reads P B s h a:=fun w sw=>by
  obtain ⟨r,e⟩:=t w (k.sat w sw)
  exact ⟨r,fun x hx=>(e x hx).less (gL _) k.key⟩
theorem jdk {q:Question} {Q:Nat→Hp→Prop} (hf:q.forced=false) (n: ∀t,Q (q.cut t) h):Tri P B (choose q) h Q:=fun w sw=>
  ⟨q.cut (w.tape w.drawn q),{w with drawn:=w.drawn+1},h,by simp [choose,Sem.run,hf],
    { sat:=⟨sw.base,sw.mem,sw.apart⟩,size:=gL _,os:=rfl,out:=rfl,tape:=rfl,drawn:=Nat.le_succ _,old:=fun _ _ _=>rfl,key:=fun c hc=> .inr ⟨c,hc,rfl,fun x=>x⟩,evs:=by simp},
    n _⟩
theorem reads_room:Reads P B (askRoom n) h ():=by
  unfold askRoom
  split
  · intro w _
    refine ⟨rfl,fun e he=> .inl ?_⟩
    rw [events_mark] at he
    simpa [noRoomEvent] using he
  · exact Reads.pure _
theorem jlY (need:Nat) (hn:256≤need): ∀(rounds c:Nat),c≤2*need→Builtin.growBy need rounds c≤2*need
  |0,c,hc=>hc
  |rounds+1,c,hc=>by
    unfold Builtin.growBy
    split
    · exact hc
    · exact jlY need hn rounds _ zO
theorem jqS {need old:Nat} (h:old<need):Builtin.nextslicecap need old≤2*need:=by
  unfold Builtin.nextslicecap
  split
  · omega
  · split
    · omega
    · exact jlY need zO _ _ zO
theorem Tri.weakR {α:Type} {s:Sem α} {Q Q':α→Hp→Prop} (t:Tri P B s h Q) (k: ∀a h',Q a h'→ ∃h'',Weak B h' h''∧Q' a h''):Tri P B s h Q':=fun w sw=>by
  obtain ⟨a,w',h',r,st,q⟩:=t w sw
  obtain ⟨h'',wk,q'⟩:=k a h' q
  exact ⟨a,w',h'',r,st.weak_right wk,q'⟩
theorem joC {t t2 k ty:Nat} {s x:Value} {m:Nat} {cs:List Value} {F new:Hp} {Q:Value→Hp→Prop} [SliceT P t e k] [SliceT P t2 e k] [ElemT P e k by'] (hw:Weak B h (F++new)) (o:OwnS e k s n cs new)
    (rx:RdS B h k x m ys) (h1: ∀u∈ys,u.oneCell'=true) (hb:2*(n+m)*by'≤2^48) (hmax:n+m≤2^62) (q: ∀v' new',OwnS e k v' (n+m) (cs++ys) new'→Q v' (F++new')):Tri P B (Builtin.append_ #[t,t2] ty #[s,x]) h Q:=by
  obtain ⟨hu,hs⟩:=jb6 (P:=P) (B:=B) (h:=h) (t:=t)
  obtain ⟨hu2,_⟩:=jb6 (P:=P) (B:=B) (h:=h) (t:=t2)
  obtain ⟨i,z,hi,hi1,hi2,hi3,hz⟩:=jme (P:=P) (e:=e)
  have hx:=jft (P:=P) rx
  obtain ⟨p,c,rfl,hyl,_⟩:=id rx
  obtain ⟨ps,cap,rfl,hcl⟩:=o.len
  have hinfo:Reads P B (typeInfo e) h i:=(jbV hi).reads
  refine Tri.weakR (Q:=fun a h'=> ∃h'',Weak B h' h''∧Q a h'') ?_ (fun a h' x=>x)
  unfold Builtin.append_
  simp only [gZ,vC,vN]
  refine Tri.bind ((jai hu).reads.tri ?_)
  refine Tri.bind (hs.tri ?_)
  refine Tri.bind ((jai hu2).reads.tri ?_)
  refine Tri.bind (Tri.pure ?_)
  simp only [gx,if_false]
  refine Tri.bind (Tri.pure (a:=m) ?_)
  simp only [Gk,if_true]
  split
  · rename_i hle
    refine Tri.bind (hx.tri ?_)
    cases o with
    |nil=>
      have hm0:m=0:=by omega
      subst hm0
      have:ys=[]:=GO.1 (by simpa using hyl)
      subst this
      exact Tri.pure ⟨_,hw,q _ _ .nil⟩
    |blk hl hc hn=>
      rename_i b junk
      refine Tri.weak hw ?_
      refine Tri.bind ?_
      rw [Addr.add_none,GD];have hmul:(n+m)*k≤cap*k:=GP _ hle
      have hadd:(n+m)*k=n*k+m*k:=Gc ..
      refine jeC (h1:=F) (h2:=[]) ys 0 _ zN h1 fun c' hc'=>Tri.pure ⟨_,Weak.refl _ _,?_⟩
      have e1:c'=(cs++ys++junk.drop ys.length).toArray:=by
        apply vG
        rw [hc'];simp only [vg,xK]
        rw [←hl,List.take_left,List.drop_append];simp
      rw [e1];exact q _ _ (.blk zN zN hle)
  · rename_i hgt
    refine Tri.bind (hinfo.tri ?_)
    have hM:IntKind.i64.max=9223372036854775807:=by decide
    rw [if_neg (by rintro ⟨h3,_⟩;rw [hM] at h3;omega)];refine Tri.bind (hinfo.tri ?_)
    have hnc:Builtin.nextslicecap (n+m) cap≤2*(n+m):=jqS zO
    rw [if_neg (by rw [hi2];have:=GP by' hnc;omega)];refine Tri.bind (jdk rfl fun t0=>?_)
    refine Tri.bind (hinfo.tri ?_)
    refine Tri.bind (reads_room.tri ?_)
    have hro:Reads P B (Builtin.firstCells k n (.slice ps n cap)) h cs.toArray:=Reads.weak hw (jft (o.rd (gM F new)))
    refine Tri.bind (hro.tri ?_)
    refine Tri.bind (hx.tri ?_)
    have hzv:Reads P B (zeroValue e) h z:=by
      refine Reads.bind (jbV hi).reads ?_
      simp only [hi3]
      exact Reads.pure _
    refine Tri.bind (hzv.tri ?_)
    refine Tri.bind (jfn fun b _=>Tri.pure ⟨F++[_],Weak.snoc (hw.trans (Weak.sub (gI F new))) _,?_⟩)
    have hcut:Question.cut (.appendCap (n+m) cap e) t0=n+m+t0%(2^63-(n+m)):=rfl
    generalize hN:Question.cut (.appendCap (n+m) cap e) t0=N at*
    have hlz:(Builtin.zeroCells z.cells (N-(n+m))).toList.length=(N-(n+m))*k:=by simp [Builtin.zeroCells,hz]
    have e1:cs.toArray++ys.toArray++Builtin.zeroCells z.cells (N-(n+m))=(cs++ys++(Builtin.zeroCells z.cells (N-(n+m))).toList).toArray:=by
      apply vG;simp
    rw [e1];refine q _ _ (.blk (by simp [hcl,hyl,Gc]) ?_ zO)
    rw [hlz];simp only [gJ,hcl,hyl]
    rw [←Gc,←Gc];congr 1
    omega
end
section
variable {m:Md P B} {l l':List Value} {S h h' H:Hp} {C:List Value→Hp→Prop} {kd:Kd} {r:List (Nat×Kd)}
theorem jbh {b:Builtin} (ea:args.map (ev l)=vs):
    execOp (ev l) ⟨d,.call ⟨.builtin b,args.toArray,ats⟩,ty,pos,af,g⟩=builtin b ats ty (args.toArray.map fun| .const _=>true|_=>false) vs.toArray:=by
  have e:(Array.map (ev l) args.toArray)=vs.toArray:=by rw [Gx,ea]
  simp only [execOp,resolve,e]
  rfl
theorem jgQ {t t2 k:Nat} {x:Operand} {s u:Value} {mm:Nat} {cs:List Value} {F new:Hp} (ho:ops[i]?=some ⟨d,.call ⟨.builtin .append,[x,y].toArray,#[t,t2]⟩,ty,pos,af,g⟩) (hg:Wt ops l g)
    [ex:OpV l x s] [ey:OpV l y u] [SliceT P t e k] [SliceT P t2 e k] [ElemT P e k by'] (hw:Weak B h (F++new)) (o:OwnS e k s n cs new) (rx:RdS B h k u mm ys) (h1: ∀u∈ys,u.oneCell'=true) (hk:kd= .free∨(kd= .keep∧S.Sublist F)) (hb:2*(n+mm)*by'≤2^48) (hmax:n+mm≤2^62)
    (c: ∀v' new',OwnS e k v' (n+mm) (cs++ys) new'→RegK m S ops r (put l d v') (F++new') C):RegK m S ops ((i,kd)::r) l h C:=by
  refine RegK.ke (hk.symm.imp (·.1) id) ho hg ?_
  rw [jbh (vs:=[s,u]) (by simp [ex.eq,ey.eq])];exact Tri.bind (joC hw o rx h1 hb hmax fun v' new' o'=>Tri.pure ⟨hk.imp id fun x=>x.2.trans (gI _ _),c v' new' o'⟩)
def zrep (z:Array Value) (n:Nat):Array Value:=(Array.range n).map (z[· %z.size]!)
theorem k_bsl {t k len:Nat} {cs:List Value} (hk:kd= .free∨(kd= .keep∧S.Sublist h)) (ho:ops[i]?=some ⟨d,.buildSlice t len ps.toArray,ty,pos,af,g⟩) (hw:Wt ops l g) [a:PartsV l ps parts] [SliceT P t e k] [zt:ZeroT P e z]
    (hs:len*k≤2^24) (hc:Instr.fill (fun j=>some (j*k,k)) (if len*k=0 then #[] else zrep z.cells (len*k)) parts=some cs.toArray)
    (n: ∀q,RegK m S ops r (put l d (.slice (some ⟨q,0,none⟩) len len)) (h++[⟨true,q,.cells cs.toArray e (0,0)⟩]) C):RegK m S ops ((i,kd)::r) l h C:=by
  refine RegK.ke (hk.symm.imp (·.1) id) ho hw ?_
  obtain ⟨hu,hsz⟩:=jb6 (P:=P) (B:=B) (h:=h) (t:=t)
  simp only [execOp]
  have e2:(Array.map (fun x:Nat×Operand=>(x.1,ev l x.2)) ps.toArray)=parts.toArray:=by rw [Gx,←a.eq]
  refine Tri.bind ?_
  show Tri P B (Instr.buildSlice t len (Array.map (fun x:Nat×Operand=>(x.1,ev l x.2)) ps.toArray)) h _
  rw [e2];unfold Instr.buildSlice
  refine Tri.bind ((jai hu).reads.tri ?_)
  refine Tri.bind (hsz.tri ?_)
  rw [if_neg zO];have fin: ∀zc,Instr.fill (fun j=>some (j*k,k)) (zrep zc (len*k)) parts=some cs.toArray→Tri P B (do
      let some cells:=Instr.fill (fun i=>some (i*k,k)) ((Array.range (len*k)).map (zc[· %zc.size]!)) parts.toArray.toList|stuck "buildSlice: a part of the wrong size"
      pure (Value.slice (some (←newRow e cells)) len len)) h (fun a h'=>Tri P B (pure (Next.value a)) h' (jnp m ⟨d,.buildSlice t len ps.toArray,ty,pos,af,g⟩ l fun l' h'=>(kd= .free∨S.Sublist h')∧RegK m S ops r l' h' C)):=by
    intro zc hf
    have:Instr.fill (fun i=>some (i*k,k)) ((Array.range (len*k)).map (zc[· %zc.size]!)) parts.toArray.toList=some cs.toArray:=hf
    simp only [this]
    exact Tri.bind (jfn fun q hq=>Tri.pure (Tri.pure ⟨hk.imp id fun x=>x.2.trans (gI _ _),n q⟩))
  split
  · rename_i h0
    rw [if_pos h0] at hc
    refine Tri.bind (Tri.pure (a:= #[]) ?_)
    refine fin _ ?_
    have:zrep #[] (len*k)= #[]:=by rw [h0];simp [zrep]
    rw [this];exact hc
  · rename_i h0
    rw [if_neg h0] at hc
    refine Tri.bind (s:=zeroValue e) (reads_zero.tri ?_)
    refine Tri.bind (Tri.pure ?_)
    exact fin _ hc
theorem jhw {t k c:Nat} {x:Operand} (ho:ops[i]?=some ⟨d,.call ⟨.builtin .len,[x].toArray,#[t]⟩,ty,pos,af,g⟩) (hw:Wt ops l g) [kh:KHeap kd S h H] [ex:OpV l x (.slice p n c)] [SliceT P t e k] [PutV l d (.int .i64 n) l']
    (q:RegK m S ops r l' h C):RegK m S ops ((i,kd)::r) l h C:=
  RegK.rd (v:= .int .i64 n) ho hw (by
    rw [jbh (vs:=[.slice p n c]) (by simp [ex.eq])];obtain ⟨hu,_⟩:=jb6 (P:=P) (B:=B) (h:=H) (t:=t)
    refine Reads.value ?_
    unfold Builtin.len_
    simp only [gZ,vC]
    exact Reads.bind (jai hu).reads (Reads.pure _)) q
theorem jmU {x:Operand} {b:Int} (ho:ops[i]?=some ⟨d,.call ⟨.builtin .min,[x,y].toArray,ats⟩,ty,pos,af,g⟩) (hw:Wt ops l g) [kh:KHeap kd S h H] [ex:OpV l x (.int k a)] [ey:OpV l y (.int k b)] [PutV l d (.int k (min a b)) l']
    (q:RegK m S ops r l' h C):RegK m S ops ((i,kd)::r) l h C:=
  RegK.rd (v:= .int k (min a b)) ho hw (by
    rw [jbh (vs:=[.int k a,.int k b]) (by simp [ex.eq,ey.eq])];refine Reads.value ?_
    show Reads P B (Builtin.min_ ats ty #[.int k a,.int k b]) H _
    have:Builtin.min_ ats ty #[.int k a,.int k b]=Pure.pure (.int k (min a b)):=by
      simp only [Builtin.min_,List.foldlM,Builtin.min2]
      rw [show (if b<a then b else a)=min a b by rw [Int.min_def];split<;>split<;>omega];rfl
    rw [this];exact Reads.pure _) q
theorem jrc {x:Operand} {b:Int} (ho:ops[i]?=some ⟨d,.call ⟨.builtin .max,[x,y].toArray,ats⟩,ty,pos,af,g⟩) (hw:Wt ops l g) [kh:KHeap kd S h H] [ex:OpV l x (.int k a)] [ey:OpV l y (.int k b)] [PutV l d (.int k (max a b)) l']
    (q:RegK m S ops r l' h C):RegK m S ops ((i,kd)::r) l h C:=
  RegK.rd (v:= .int k (max a b)) ho hw (by
    rw [jbh (vs:=[.int k a,.int k b]) (by simp [ex.eq,ey.eq])];refine Reads.value ?_
    show Reads P B (Builtin.max_ ats ty #[.int k a,.int k b]) H _
    have:Builtin.max_ ats ty #[.int k a,.int k b]=Pure.pure (.int k (max a b)):=by
      simp only [Builtin.max_,List.foldlM,Builtin.max2]
      rw [show (if b>a then b else a)=max a b by rw [Int.max_def];split<;>split<;>omega];rfl
    rw [this];exact Reads.pure _) q
class ArgsA (l:List Value) (xs:Array Operand) (vs:outParam (Array Value)):Prop where
  eq:xs.map (ev l)=vs
instance {l:List Value} [a:ArgsV l xs vs]:ArgsA l xs.toArray vs.toArray:=⟨by rw [Gx,a.eq]⟩
theorem jhy {f:Fn} {a c:Array Operand} {av cv:Array Value} (ho:ops[i]?=some ⟨d,.makeFunc f a c,ty,pos,af,g⟩) (hw:Wt ops l g) [kh:KHeap kd S h H] [ea:ArgsA l a av] [ec:ArgsA l c cv] [PutV l d (.func f av cv) l'] (q:RegK m S ops r l' h C):RegK m S ops ((i,kd)::r) l h C:=
  RegK.rd (v:= .func f av cv) ho hw (by simp only [execOp,ea.eq,ec.eq,Instr.makeFunc];exact Reads.value (Reads.pure _)) q
end
section
variable {m:Md P B} {l l':List Value} {S h h' H:Hp} {C:List Value→Hp→Prop} {kd:Kd} {r:List (Nat×Kd)}
theorem jak {x:Operand} {b:Int} (ho:ops[i]?=some ⟨d,.binOp .lss t x y u,ty,pos,af,g⟩) (hw:Wt ops l g) [kh:KHeap kd S h H] [ex:OpV l x (.int k a)] [ey:OpV l y (.int k b)] [pt:PutV l d (.bool true) l'] [pf:PutV l d (.bool false) l'']
    (yes:a<b→RegK m S ops r l' h C) (no:b≤a→RegK m S ops r l'' h C):RegK m S ops ((i,kd)::r) l h C:=by
  by_cases e:a<b
  · have pq:=pt;rw [←decide_eq_true e] at pq;exact k_lss (l':=l') ho hw (yes e)
  · have pq:=pf;rw [←decide_eq_false e] at pq;exact k_lss (l':=l'') ho hw (no zO)
theorem jbK {x:Operand} {b:Int} (ho:ops[i]?=some ⟨d,.binOp .leq t x y u,ty,pos,af,g⟩) (hw:Wt ops l g) [kh:KHeap kd S h H] [ex:OpV l x (.int k a)] [ey:OpV l y (.int k b)] [pt:PutV l d (.bool true) l'] [pf:PutV l d (.bool false) l'']
    (yes:a≤b→RegK m S ops r l' h C) (no:b<a→RegK m S ops r l'' h C):RegK m S ops ((i,kd)::r) l h C:=by
  by_cases e:a≤b
  · have pq:=pt;rw [←decide_eq_true e] at pq;exact k_leq (l':=l') ho hw (yes e)
  · have pq:=pf;rw [←decide_eq_false e] at pq;exact k_leq (l':=l'') ho hw (no zO)
theorem jaz {x:Operand} {b:Int} (ho:ops[i]?=some ⟨d,.binOp .gtr t x y u,ty,pos,af,g⟩) (hw:Wt ops l g) [kh:KHeap kd S h H] [ex:OpV l x (.int k a)] [ey:OpV l y (.int k b)] [pt:PutV l d (.bool true) l'] [pf:PutV l d (.bool false) l'']
    (yes:b<a→RegK m S ops r l' h C) (no:a≤b→RegK m S ops r l'' h C):RegK m S ops ((i,kd)::r) l h C:=by
  by_cases e:b<a
  · have pq:=pt;rw [←decide_eq_true e] at pq;exact k_gtr (l':=l') ho hw (yes e)
  · have pq:=pf;rw [←decide_eq_false e] at pq;exact k_gtr (l':=l'') ho hw (no zO)
theorem jbG {x:Operand} {b:Int} (ho:ops[i]?=some ⟨d,.binOp .geq t x y u,ty,pos,af,g⟩) (hw:Wt ops l g) [kh:KHeap kd S h H] [ex:OpV l x (.int k a)] [ey:OpV l y (.int k b)] [pt:PutV l d (.bool true) l'] [pf:PutV l d (.bool false) l'']
    (yes:b≤a→RegK m S ops r l' h C) (no:a<b→RegK m S ops r l'' h C):RegK m S ops ((i,kd)::r) l h C:=by
  by_cases e:b≤a
  · have pq:=pt;rw [←decide_eq_true e] at pq;exact jrf (l':=l') ho hw (yes e)
  · have pq:=pf;rw [←decide_eq_false e] at pq;exact jrf (l':=l'') ho hw (no zO)
theorem jaA {x:Operand} {b:Int} (ho:ops[i]?=some ⟨d,.binOp .eql t x y u,ty,pos,af,g⟩) (hw:Wt ops l g) [kh:KHeap kd S h H] [ex:OpV l x (.int k a)] [ey:OpV l y (.int k b)] [pt:PutV l d (.bool true) l'] [pf:PutV l d (.bool false) l'']
    (yes:a=b→RegK m S ops r l' h C) (no:a≠b→RegK m S ops r l'' h C):RegK m S ops ((i,kd)::r) l h C:=by
  by_cases e:a=b
  · have pq:=pt;rw [←decide_eq_true e] at pq;exact k_eql (l':=l') ho hw (yes e)
  · have pq:=pf;rw [←decide_eq_false e] at pq;exact k_eql (l':=l'') ho hw (no e)
theorem jaP {x:Operand} {b:Int} (ho:ops[i]?=some ⟨d,.binOp .neq t x y u,ty,pos,af,g⟩) (hw:Wt ops l g) [kh:KHeap kd S h H] [ex:OpV l x (.int k a)] [ey:OpV l y (.int k b)] [pt:PutV l d (.bool true) l'] [pf:PutV l d (.bool false) l'']
    (yes:a≠b→RegK m S ops r l' h C) (no:a=b→RegK m S ops r l'' h C):RegK m S ops ((i,kd)::r) l h C:=by
  by_cases e:a=b
  · have pq:=pf;rw [←decide_eq_false (not_not_intro e)] at pq;exact k_neq (l':=l'') ho hw (no e)
  · have pq:=pt;rw [←decide_eq_true e] at pq;exact k_neq (l':=l') ho hw (yes e)
theorem jb7 {b:Frame} {k:List Item} {K:Goroutine→Hp→Prop} {c:Operand} {x y:Code} {t:Bool} [e:OpV l c (.bool t)] (yes:t=true→m.R K (Gr b l ds (.code x::k) cs) h) (no:t=false→m.R K (Gr b l ds (.code y::k) cs) h):
    m.R K (Gr b l ds (.code (.cond c x y)::k) cs) h:=by
  cases t with
  |true=>exact run_if e.eq (yes rfl)
  |false=>exact jnz e.eq (no rfl)
theorem run_yes {b:Frame} {k:List Item} {K:Goroutine→Hp→Prop} {c:Operand} {x y:Code} [e:OpV l c (.bool true)] (yes:m.R K (Gr b l ds (.code x::k) cs) h):m.R K (Gr b l ds (.code (.cond c x y)::k) cs) h:=run_if e.eq yes
theorem run_no {b:Frame} {k:List Item} {K:Goroutine→Hp→Prop} {c:Operand} {x y:Code} [e:OpV l c (.bool false)] (no:m.R K (Gr b l ds (.code y::k) cs) h):m.R K (Gr b l ds (.code (.cond c x y)::k) cs) h:=jnz e.eq no
abbrev jaq (xs:List Int):List Value:=xs.map (Value.int .i64)
theorem jbf (xs:List Int): ∀u∈jaq xs,u.oneCell'=true:=by
  intro u hu
  obtain ⟨x,_,rfl⟩:=gP.1 hu
  rfl
theorem RdS.ptr {k c:Nat} (rd:RdS B h k (.slice p n c) n ys) (hn:0<n): ∃b o,p=some ⟨b,o,none⟩:=by
  obtain ⟨p',c',e,hl,⟨e',e''⟩|⟨b',o',e',rd⟩⟩:=rd
  · omega
  · obtain ⟨rfl,_,rfl⟩:=Value.slice.inj e
    exact ⟨b',o',e'⟩
end
end Go.Lo
