/- PROVED: OffsetsPut: a measure that a cell can have can be put there; one that it cannot have is refused. Conditions: the offsets' tables lie as the program's text lays them. -/
import Derived.Test.YtggpepeiedkbbaaGreatDoorWXLOput1
set_option linter.all false
set_option maxRecDepth 100000
namespace Go.Proofs.YtggpepeiedkbbaaGreatDoor
open Go Go.Lo Go.ChangeShapes Go.WideShapes Go.ChangeAt Go.RowKit Go.Conc
theorem joM (os:Os) (started:os.Started) (H:Type) (enc:TypeId×Value→H):
  ReturnsInLeavingWide {} Tryz.checked os 12 .any (fun w args=>(Rows.offsetsPutSpec.pre enc Tryz.prog Tryz.f12 [] false w args∧laidMetH Tryz.prog laidL w)∧sizedMet enc Tryz.prog Tryz.f12 (OpenSpec.ofChange Rows.offsetsPutSpec) false w args)
   (Rows.offsetsPutSpec.post enc Tryz.prog Tryz.f12 false true false false):=by
 refine jaB (C:= Tryz.checked) (X:=fun w _=>laidMetH Tryz.prog laidL w) (fun _ _ _ hh h=>h.of_heap hh) own started Tryz.func12
  (ChangeSpec.witness_shaped (enc:=enc) (C:= Tryz.checked) (os:=os) (X:=fun w _=>laidMetH Tryz.prog laidL w) false (World.doorLaid Tryz.prog 36 os) #[.agg #[.int .i64 0,.slice none 0 0,.slice none 0 0,.slice none 0 0],.int .u8 0,.int .u16 0] 8 rfl (World.shaped_of_RefB zK zK) zK zK zK (jfi os _)) ?_
 intro W base args ds gs jbX hval0 hW hL
 have hval: ∀(j:Nat) t v,Tryz.f12.params[j]?=some t→args[j]?=some v→Value.okWide Tryz.prog W .any base t v:=hval0
 have hW':=hW
 obtain ⟨p,q,hA0,hV,rfl,hfz,hnd⟩:=hW
 have hA:DataW.TrodAll enc Tryz.prog W 0 (fun _=>true) true Tryz.f12.params.toList args.toList ds p:=hA0
 rw [Tryz.params12] at hA hval
 obtain ⟨v0,vr0,d0,dr0,p0,q0,ea0,ed0,ep0,h0,hA0⟩:=jaz hA
 obtain ⟨v1,vr1,d1,dr1,p1,q1,ea1,ed1,ep1,h1,hA1⟩:=jaz hA0
 obtain ⟨v2,vr2,d2,dr2,p2,q2,ea2,ed2,ep2,h2,hA2⟩:=jaz hA1
 obtain ⟨ez1,ez2,ez3⟩:=jcV hA2
 subst ez1 ez2 ez3
 subst ea2 ed2 ep2
 subst ea1 ed1 ep1
 subst ed0 ep0
 obtain rfl:=Array.ext' (show args.toList= #[v0,v1,v2].toList from ea0)
 obtain ⟨rfl,rfl⟩:=trodVars_none hV
 have hval0:=hval 0 _ v0 rfl rfl
 have hval1:=hval 1 _ v1 rfl rfl
 have hval2:=hval 2 _ v2 rfl rfl
 have hlt0: ∀x∈p0,x.block<W.heap.size:=fun x hx=>hW'.lt x (by simp [hx])
 have hlt1: ∀x∈p1,x.block<W.heap.size:=fun x hx=>hW'.lt x (by simp [hx])
 have hlt2: ∀x∈p2,x.block<W.heap.size:=fun x hx=>hW'.lt x (by simp [hx])
 haveI:=jgK hL
 obtain ⟨a,ps,ns,ks,pw,nw,cw,pb,nb,cb,ev0,hcs,rds,rdw,rdb,hin⟩:=ji5 hval0 h0
 obtain ⟨y,ev1,hy⟩:=jeG hval1 h1
 obtain ⟨x1,ev2,hx1⟩:=jgw hval2 h2
 have run:=jem (W:=W) (f:=12) (args:= #[v0,v1,v2]) (by rw [ev0,ev1,ev2];exact f12_t [] rds hcs rdw rdb y x1 hy hx1)
 obtain ⟨M,last,o,w',t',r1,r2,r3,r4⟩:=run
 refine ⟨M,last,o,w',t',r1,r2,r3,r4.mono fun v hF=>?_⟩
 obtain ⟨rfl,hbelow⟩:v= .bool true∧RowKit.Below W.heap.size W w':=hF
 have hq:DataW.TrodAll enc Tryz.prog w' 0 (fun b=>decide (b<W.heap.size)) true Tryz.f12.params.toList #[v0,v1,v2].toList [d0,d1,d2] (p0++(p1++(p2++[]))):=by rw [Tryz.params12];exact E92
 exact E81
theorem oput_j1: Tryz.pinned.checked.prog.inPlace 12=Rows.offsetsPutRow.inPlace:=by kernel_rfl
theorem oput_j2: Tryz.pinned.checked.prog.unfollowed 12=Rows.offsetsPutRow.unfollowed:=by kernel_rfl
theorem oput_j3: Tryz.pinned.checked.prog.recurses 12=Rows.offsetsPutRow.recurses:=by kernel_rfl
theorem oput_j4: Tryz.pinned.checked.prog.varsNamed 12=Rows.offsetsPutRow.named:=by kernel_rfl
theorem oput_j5:namedTie Tryz.pinned.checked.prog Rows.offsetsPutRow.named Rows.offsetsPutSpec.vars=true:=by kernel_rfl
theorem joN:joinedFacts Tryz.pinned.checked.prog 12 Tryz.f12 Rows.offsetsPutSpec Rows.offsetsPutRow=true:=by
 unfold joinedFacts
 rw [oput_j1,oput_j2,oput_j3,oput_j4,oput_j5,jfb];kernel_rfl
theorem jrl:Rows.OffsetsPutSaid:=
 OpenClaim.holds_of_wide_leaving 12 Tryz.f12 rfl rfl rfl rfl rfl rfl rfl ⟨rfl,rfl,rfl,rfl,rfl⟩ rfl rfl rfl rfl rfl zK Tryz.func12 joN
  (of_decide_eq_true zK) (by unfold Func.isWrapper;first|(rw [if_pos (by decide+kernel)];kernel_rfl)|(rw [if_neg (by decide+kernel)];exact ⟨rfl,rfl⟩))
  (fun os started H enc _=>joM os started H enc)
theorem oput_wf:Rows.offsetsPutRow.wfByText (OpenSpec.ofChange Rows.offsetsPutSpec)=true:=by kernel_rfl
theorem jti:true=Rows.offsetsPutRow.goesBy Tryz.pinned.checked.prog:=by kernel_rfl
theorem oput_named: Tryz.prog.funcNamed "ribband/ribbandlaw01.OffsetsPut" =some 12:=by kernel_rfl
theorem oput_par:(Tryz.f12.params.toList.all fun u=>!Tryz.prog.wantsStandIn u)=true:=by kernel_rfl
theorem oput_card:Rows.OffsetsPutCardSaid:=
 jgN .later [.data,.data,.data,.data,.funcsDeep] true (true, "efa58da0d05803ae4d87aecc1d7dc94e05dff7fe0015b2fcbfa254297eea66aa") false
  jrl oput_wf offsetsPut_row_tie rfl ⟨rfl,rfl⟩ je5 rfl
  (fun f fn hf hfn=>by
   obtain rfl:f=12:=Option.some.inj (oput_named.symm.trans hf)|>.symm
   obtain rfl:fn= Tryz.f12:=(Option.some.inj (Tryz.func12.symm.trans hfn)).symm
   exact ⟨jeh,fun j t ht=>by
    rw [Tryz.params12] at ht
    have hm:=Array.mem_of_getElem? ht
    have hall:=oput_par
    rw [Tryz.params12] at hall
    exact E82⟩)
  jti
#print axioms oput_card
end Go.Proofs.YtggpepeiedkbbaaGreatDoor
