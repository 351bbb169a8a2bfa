/- PROVED: the law OffsetsRising (the bounds of the skin never fall as one goes up, or out; what was measured, and surely is not wrong, lies on both), on every schedule of its goroutines; its row and its tied card. Conditions: those of the row: the offsets' tables are as the program's text lays them. -/
import Derived.Test.YtggpepeiedkbbaaGreatDoorWXLOrising1
set_option linter.all false
set_option maxHeartbeats 4000000
set_option maxRecDepth 100000
set_option synthInstance.maxHeartbeats 1000000
set_option synthInstance.maxSize 100000
namespace Go.Proofs.YtggpepeiedkbbaaGreatDoor
open Go Go.Lo Go.ChangeShapes Go.WideShapes Go.ChangeAt Go.RowKit Go.Conc
theorem jkx (os:Os) (started:os.Started) (H:Type) (enc:TypeId×Value→H):
  ReturnsInLeavingWide {} Tryz.checked os 5 .any (fun w args=>(Rows.offsetsRisingSpec.pre enc Tryz.prog Tryz.f5 [] false w args∧laidMetH Tryz.prog laidL w)∧sizedMet enc Tryz.prog Tryz.f5 (OpenSpec.ofChange Rows.offsetsRisingSpec) false w args)
   (Rows.offsetsRisingSpec.post enc Tryz.prog Tryz.f5 false true false false):=by
 refine jaB (C:= Tryz.checked) (X:=fun w _=>laidMetH Tryz.prog laidL w) (fun _ _ _ hh h=>h.of_heap hh) own started Tryz.func5
  (ChangeSpec.witness_shaped (enc:=enc) (C:= Tryz.checked) (os:=os) (X:=fun w _=>laidMetH Tryz.prog laidL w) false (World.doorLaid Tryz.prog 36 os) #[.agg #[.int .i64 0,.slice none 0 0,.slice none 0 0,.slice none 0 0],.int .u8 0,.int .u16 0,.int .u16 0,.int .u8 0] 8 rfl (World.shaped_of_RefB zK zK) zK zK zK (jfi os _)) ?_
 intro W base args ds gs jbX hval0 hW hL
 have hval: ∀(j:Nat) t v,Tryz.f5.params[j]?=some t→args[j]?=some v→Value.okWide Tryz.prog W .any base t v:=hval0
 have hW':=hW
 obtain ⟨p,q,hA0,hV,rfl,hfz,hnd⟩:=hW
 have hA:DataW.TrodAll enc Tryz.prog W 0 (fun _=>true) true Tryz.f5.params.toList args.toList ds p:=hA0
 rw [Tryz.params5] at hA hval
 obtain ⟨v0,vr0,d0,dr0,p0,q0,ea0,ed0,ep0,h0,hA0⟩:=jaz hA
 obtain ⟨v1,vr1,d1,dr1,p1,q1,ea1,ed1,ep1,h1,hA1⟩:=jaz hA0
 obtain ⟨v2,vr2,d2,dr2,p2,q2,ea2,ed2,ep2,h2,hA2⟩:=jaz hA1
 obtain ⟨v3,vr3,d3,dr3,p3,q3,ea3,ed3,ep3,h3,hA3⟩:=jaz hA2
 obtain ⟨v4,vr4,d4,dr4,p4,q4,ea4,ed4,ep4,h4,hA4⟩:=jaz hA3
 obtain ⟨ez1,ez2,ez3⟩:=jcV hA4
 subst ez1 ez2 ez3
 subst ea4 ed4 ep4
 subst ea3 ed3 ep3
 subst ea2 ed2 ep2
 subst ea1 ed1 ep1
 subst ed0 ep0
 obtain rfl:=Array.ext' (show args.toList= #[v0,v1,v2,v3,v4].toList from ea0)
 obtain ⟨rfl,rfl⟩:=trodVars_none hV
 have hval0:=hval 0 _ v0 rfl rfl
 have hval1:=hval 1 _ v1 rfl rfl
 have hval2:=hval 2 _ v2 rfl rfl
 have hval3:=hval 3 _ v3 rfl rfl
 have hval4:=hval 4 _ v4 rfl rfl
 have hlt0: ∀x∈p0,x.block<W.heap.size:=fun x hx=>hW'.lt x (by simp [hx])
 have hlt1: ∀x∈p1,x.block<W.heap.size:=fun x hx=>hW'.lt x (by simp [hx])
 have hlt2: ∀x∈p2,x.block<W.heap.size:=fun x hx=>hW'.lt x (by simp [hx])
 have hlt3: ∀x∈p3,x.block<W.heap.size:=fun x hx=>hW'.lt x (by simp [hx])
 have hlt4: ∀x∈p4,x.block<W.heap.size:=fun x hx=>hW'.lt x (by simp [hx])
 haveI:=jgK hL
 obtain ⟨b,ps,ns,ks,pw,nw,cw,pb,nb,cb,ev0,hcs,rds,rdw,rdb,hin⟩:=ji5 hval0 h0
 obtain ⟨y,ev1,hy⟩:=jeG hval1 h1
 obtain ⟨x1,ev2,hx1⟩:=jgw hval2 h2
 obtain ⟨x2,ev3,hx2⟩:=jgw hval3 h3
 obtain ⟨z,ev4,hz⟩:=jeG hval4 h4
 have run:=jem (W:=W) (f:=5) (args:= #[v0,v1,v2,v3,v4]) (by rw [ev0,ev1,ev2,ev3,ev4];exact f5_t [] rds hcs rdw rdb y x1 x2 z hy hx1 hx2 hz)
 obtain ⟨M,last,o,w',t',r1,r2,r3,r4⟩:=run
 refine ⟨M,last,o,w',t',r1,r2,r3,r4.mono fun v hF=>?_⟩
 obtain ⟨rfl,hbelow⟩:v= .bool true∧RowKit.Below W.heap.size W w':=hF
 have hq:DataW.TrodAll enc Tryz.prog w' 0 (fun b=>decide (b<W.heap.size)) true Tryz.f5.params.toList #[v0,v1,v2,v3,v4].toList [d0,d1,d2,d3,d4] (p0++(p1++(p2++(p3++(p4++[]))))):=by rw [Tryz.params5];exact E88
 exact E81
theorem jrj: Tryz.pinned.checked.prog.inPlace 5=Rows.offsetsRisingRow.inPlace:=by kernel_rfl
theorem jri: Tryz.pinned.checked.prog.unfollowed 5=Rows.offsetsRisingRow.unfollowed:=by kernel_rfl
theorem jrh: Tryz.pinned.checked.prog.recurses 5=Rows.offsetsRisingRow.recurses:=by kernel_rfl
theorem jrg: Tryz.pinned.checked.prog.varsNamed 5=Rows.offsetsRisingRow.named:=by kernel_rfl
theorem jrf:namedTie Tryz.pinned.checked.prog Rows.offsetsRisingRow.named Rows.offsetsRisingSpec.vars=true:=by kernel_rfl
theorem jky:joinedFacts Tryz.pinned.checked.prog 5 Tryz.f5 Rows.offsetsRisingSpec Rows.offsetsRisingRow=true:=by
 unfold joinedFacts
 rw [jrj,jri,jrh,jrg,jrf,jfb];kernel_rfl
theorem jlU:Rows.OffsetsRisingSaid:=
 OpenClaim.holds_of_wide_leaving 5 Tryz.f5 rfl rfl rfl rfl rfl rfl rfl ⟨rfl,rfl,rfl,rfl,rfl⟩ rfl rfl rfl rfl rfl zK Tryz.func5 jky
  (of_decide_eq_true zK) (by unfold Func.isWrapper;first|(rw [if_pos (by decide+kernel)];kernel_rfl)|(rw [if_neg (by decide+kernel)];exact ⟨rfl,rfl⟩))
  (fun os started H enc _=>jkx os started H enc)
theorem jre:Rows.offsetsRisingRow.wfByText (OpenSpec.ofChange Rows.offsetsRisingSpec)=true:=by kernel_rfl
theorem jnq:true=Rows.offsetsRisingRow.goesBy Tryz.pinned.checked.prog:=by kernel_rfl
theorem orising_named: Tryz.prog.funcNamed "ribband/ribbandlaw01.OffsetsRising" =some 5:=by kernel_rfl
theorem joK:(Tryz.f5.params.toList.all fun u=>!Tryz.prog.wantsStandIn u)=true:=by kernel_rfl
theorem orising_card:Rows.OffsetsRisingCardSaid:=
 jgN .later [.data,.data,.data,.data,.funcsDeep] true (true, "efa58da0d05803ae4d87aecc1d7dc94e05dff7fe0015b2fcbfa254297eea66aa") false
  jlU jre offsetsRising_row_tie rfl ⟨rfl,rfl⟩ je5 rfl
  (fun f fn hf hfn=>by
   obtain rfl:f=5:=Option.some.inj (orising_named.symm.trans hf)|>.symm
   obtain rfl:fn= Tryz.f5:=(Option.some.inj (Tryz.func5.symm.trans hfn)).symm
   exact ⟨jeh,fun j t ht=>by
    rw [Tryz.params5] at ht
    have hm:=Array.mem_of_getElem? ht
    have hall:=joK
    rw [Tryz.params5] at hall
    exact E82⟩)
  jnq
#print axioms orising_card
end Go.Proofs.YtggpepeiedkbbaaGreatDoor
