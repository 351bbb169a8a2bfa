/- PROVED: the law OffsetsAsked (once it is known that the cell of Ask is not wrong, and what its measure is, no more boats are left than it says, and for some measure just as many; no other cell leaves fewer, none before it as few, but for cells that are wrong for sure), on every schedule of its goroutines; its row and its tied card. Conditions: those of the row: the offsets' tables are as the program's text lays them. -/
import Derived.Test.YtggpepeiedkbbaaGreatDoorWXLOasked1
set_option linter.all false
set_option maxRecDepth 100000
namespace Go.Proofs.YtggpepeiedkbbaaGreatDoor
open Go Go.Lo Go.ChangeShapes Go.WideShapes Go.ChangeAt Go.RowKit Go.Conc
theorem jkr (os:Os) (started:os.Started) (H:Type) (enc:TypeId×Value→H):
  ReturnsInLeavingWide {} Tryz.checked os 10 .any (fun w args=>(Rows.offsetsAskedSpec.pre enc Tryz.prog Tryz.f10 [] false w args∧laidMetH Tryz.prog laidL w)∧sizedMet enc Tryz.prog Tryz.f10 (OpenSpec.ofChange Rows.offsetsAskedSpec) false w args)
   (Rows.offsetsAskedSpec.post enc Tryz.prog Tryz.f10 false true false false):=by
 refine jbg (C:= Tryz.checked) (X:=fun w _=>laidMetH Tryz.prog laidL w) (fun _ _ _ hh h=>h.of_heap hh) own started Tryz.func10
  (ChangeSpec.witness_shaped (enc:=enc) (C:= Tryz.checked) (os:=os) (X:=fun w _=>laidMetH Tryz.prog laidL w) false (World.doorLaid Tryz.prog 36 os) #[.agg #[.int .i64 0,.slice none 0 0,.slice none 0 0,.slice none 0 0],.int .u8 0] 8 rfl (World.shaped_of_RefB zK zK) zK zK zK (joi os _)) ?_
 intro W base args ds gs jba hval0 hW hL
 have hval: ∀(j:Nat) t v,Tryz.f10.params[j]?=some t→args[j]?=some v→Value.okWide Tryz.prog W .any base t v:=hval0
 have hW':=hW
 obtain ⟨p,q,hA0,hV,rfl,hfz,hnd⟩:=hW
 have hA:DataW.TrodAll enc Tryz.prog W 0 (fun _=>true) true Tryz.f10.params.toList args.toList ds p:=hA0
 rw [Tryz.params10] at hA hval
 obtain ⟨v0,vr0,d0,dr0,p0,q0,ea0,ed0,ep0,h0,hA0⟩:=jdo hA
 obtain ⟨v1,vr1,d1,dr1,p1,q1,ea1,ed1,ep1,h1,hA1⟩:=jdo hA0
 obtain ⟨ez1,ez2,ez3⟩:=jhL hA1
 subst ez1 ez2 ez3
 subst ea1 ed1 ep1
 subst ed0 ep0
 obtain rfl:=Array.ext' (show args.toList= #[v0,v1].toList from ea0)
 obtain ⟨rfl,rfl⟩:=trodVars_none hV
 have hval0:=hval 0 _ v0 rfl rfl
 have hval1:=hval 1 _ v1 rfl rfl
 have hlt0: ∀x∈p0,x.block<W.heap.size:=fun x hx=>hW'.lt x (by simp [hx])
 have hlt1: ∀x∈p1,x.block<W.heap.size:=fun x hx=>hW'.lt x (by simp [hx])
 haveI:=jqU hL
 obtain ⟨b,ps,ns,ks,pw,nw,cw,pb,nb,cb,ev0,hcs,rds,rdw,rdb,hin⟩:=tb_arg hval0 h0
 obtain ⟨y,ev1,hy⟩:=u8_arg hval1 h1
 have run:=jlD (W:=W) (f:=10) (args:= #[v0,v1]) (by rw [ev0,ev1];exact f10_t [] rds hcs rdw rdb y hy)
 obtain ⟨M,last,o,w',t',r1,r2,r3,r4⟩:=run
 refine ⟨M,last,o,w',t',r1,r2,r3,r4.mono fun v hF=>?_⟩
 obtain ⟨rfl,hbelow⟩:v= .bool true∧RowKit.Below W.heap.size W w':=hF
 have hq:DataW.TrodAll enc Tryz.prog w' 0 (fun b=>decide (b<W.heap.size)) true Tryz.f10.params.toList #[v0,v1].toList [d0,d1] (p0++(p1++[])):=by rw [Tryz.params10];exact E69
 exact E70
theorem jqG: Tryz.pinned.checked.prog.inPlace 10=Rows.offsetsAskedRow.inPlace:=by kernel_rfl
theorem jqF: Tryz.pinned.checked.prog.unfollowed 10=Rows.offsetsAskedRow.unfollowed:=by kernel_rfl
theorem jqE: Tryz.pinned.checked.prog.recurses 10=Rows.offsetsAskedRow.recurses:=by kernel_rfl
theorem jqD: Tryz.pinned.checked.prog.varsNamed 10=Rows.offsetsAskedRow.named:=by kernel_rfl
theorem jqC:namedTie Tryz.pinned.checked.prog Rows.offsetsAskedRow.named Rows.offsetsAskedSpec.vars=true:=by kernel_rfl
theorem jks:joinedFacts Tryz.pinned.checked.prog 10 Tryz.f10 Rows.offsetsAskedSpec Rows.offsetsAskedRow=true:=by
 unfold joinedFacts
 rw [jqG,jqF,jqE,jqD,jqC,jnX];kernel_rfl
theorem jlz:Rows.OffsetsAskedSaid:=
 OpenClaim.holds_of_wide_leaving 10 Tryz.f10 rfl rfl rfl rfl rfl rfl rfl ⟨rfl,rfl,rfl,rfl,rfl⟩ rfl rfl rfl rfl rfl zK Tryz.func10 jks
  (of_decide_eq_true zK) (by unfold Func.isWrapper;first|(rw [if_pos (by decide+kernel)];kernel_rfl)|(rw [if_neg (by decide+kernel)];exact ⟨rfl,rfl⟩))
  (fun os started H enc _=>jkr os started H enc)
theorem jqB:Rows.offsetsAskedRow.wfByText (OpenSpec.ofChange Rows.offsetsAskedSpec)=true:=by kernel_rfl
theorem jmR:true=Rows.offsetsAskedRow.goesBy Tryz.pinned.checked.prog:=by kernel_rfl
theorem oasked_named: Tryz.prog.funcNamed "ribband/ribbandlaw01.OffsetsAsked" =some 10:=by kernel_rfl
theorem joV:(Tryz.f10.params.toList.all fun u=>!Tryz.prog.wantsStandIn u)=true:=by kernel_rfl
theorem oasked_card:Rows.OffsetsAskedCardSaid:=
 jrW .later [.data,.data,.data,.data,.funcsDeep] true (true, "efa58da0d05803ae4d87aecc1d7dc94e05dff7fe0015b2fcbfa254297eea66aa") false
  jlz jqB offsetsAsked_row_tie rfl ⟨rfl,rfl⟩ jnG rfl
  (fun f fn hf hfn=>by
   obtain rfl:f=10:=Option.some.inj (oasked_named.symm.trans hf)|>.symm
   obtain rfl:fn= Tryz.f10:=(Option.some.inj (Tryz.func10.symm.trans hfn)).symm
   exact ⟨jlv,fun j t ht=>by
    rw [Tryz.params10] at ht
    have hm:=Array.mem_of_getElem? ht
    have hall:=joV
    rw [Tryz.params10] at hall
    exact E71⟩)
  jmR
#print axioms oasked_card
end Go.Proofs.YtggpepeiedkbbaaGreatDoor
