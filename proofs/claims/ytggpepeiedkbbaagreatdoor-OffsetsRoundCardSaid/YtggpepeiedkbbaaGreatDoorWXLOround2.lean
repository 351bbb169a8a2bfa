/- PROVED: the law OffsetsRound (a measure is what its figure can be, and no other one; a figure with smudges can be no fewer measures, and both ends of what it can be are among those), on every schedule of its goroutines; its row and its tied card. Conditions: those of the row: the offsets' tables are as the program's text lays them. -/
import Derived.Test.YtggpepeiedkbbaaGreatDoorWXLOround1
set_option linter.all false
namespace Go.Proofs.YtggpepeiedkbbaaGreatDoor
open Go Go.Lo Go.ChangeShapes Go.WideShapes Go.ChangeAt Go.RowKit Go.Conc
set_option maxRecDepth 100000
theorem jhR (os:Os) (started:os.Started) (H:Type) (enc:TypeId×Value→H):
  ReturnsInLeavingWide {} Tryz.checked os 13 .any (fun w args=>(Rows.offsetsRoundSpec.pre enc Tryz.prog Tryz.f13 [] false w args∧laidMetH Tryz.prog laidL w)∧sizedMet enc Tryz.prog Tryz.f13 (OpenSpec.ofChange Rows.offsetsRoundSpec) false w args)
   (Rows.offsetsRoundSpec.post enc Tryz.prog Tryz.f13 false true false false):=by
 refine jbB (C:= Tryz.checked) (X:=fun w _=>laidMetH Tryz.prog laidL w) (fun _ _ _ hh h=>h.of_heap hh) own started Tryz.func13
  (ChangeSpec.witness_shaped (enc:=enc) (C:= Tryz.checked) (os:=os) (X:=fun w _=>laidMetH Tryz.prog laidL w) false (World.doorLaid Tryz.prog 36 os) #[.int .u16 0,.int .u8 0] 8 rfl (World.shaped_of_RefB zK zK) zK zK zK (door_met os _)) ?_
 intro W base args ds gs ja5 hval0 hW hL
 have hval: ∀(j:Nat) t v,Tryz.f13.params[j]?=some t→args[j]?=some v→Value.okWide Tryz.prog W .any base t v:=hval0
 have hW':=hW
 obtain ⟨p,q,hA0,hV,rfl,hfz,hnd⟩:=hW
 have hA:DataW.TrodAll enc Tryz.prog W 0 (fun _=>true) true Tryz.f13.params.toList args.toList ds p:=hA0
 rw [Tryz.params13] at hA hval
 obtain ⟨v0,vr0,d0,dr0,p0,q0,ea0,ed0,ep0,h0,hA0⟩:=jfn hA
 obtain ⟨v1,vr1,d1,dr1,p1,q1,ea1,ed1,ep1,h1,hA1⟩:=jfn hA0
 obtain ⟨ez1,ez2,ez3⟩:=jjw hA1
 subst ez1 ez2 ez3
 subst ea1 ed1 ep1
 subst ed0 ep0
 obtain rfl:=Array.ext' (show args.toList= #[v0,v1].toList from ea0)
 obtain ⟨rfl,rfl⟩:=trodVars_none hV
 have hval0:=hval 0 _ v0 rfl rfl
 have hval1:=hval 1 _ v1 rfl rfl
 have hlt0: ∀x∈p0,x.block<W.heap.size:=fun x hx=>hW'.lt x (by simp [hx])
 have hlt1: ∀x∈p1,x.block<W.heap.size:=fun x hx=>hW'.lt x (by simp [hx])
 haveI:=laid_of hL
 obtain ⟨x,ev0,hx⟩:=u16_arg hval0 h0
 obtain ⟨y,ev1,hy⟩:=u8_arg hval1 h1
 have run:=jmY (W:=W) (f:=13) (args:= #[v0,v1]) (by rw [ev0,ev1];exact f13_t [] x y hx hy)
 obtain ⟨M,last,o,w',t',r1,r2,r3,r4⟩:=run
 refine ⟨M,last,o,w',t',r1,r2,r3,r4.mono fun v hF=>?_⟩
 obtain ⟨rfl,hbelow⟩:v= .bool true∧RowKit.Below W.heap.size W w':=hF
 have hq:DataW.TrodAll enc Tryz.prog w' 0 (fun b=>decide (b<W.heap.size)) true Tryz.f13.params.toList #[v0,v1].toList [d0,d1] (p0++(p1++[])):=by rw [Tryz.params13];exact (jfm (Below.trod jjN zK (of_decide_eq_true zK) h0 hbelow hlt0) (jfm (Below.trod jjN zK (of_decide_eq_true zK) h1 hbelow hlt1) rfl))
 exact ⟨_,_,_,[],_,[],hW',trodAll_mk1 (shut_bool Tryz.underlying4 _),hq,rfl,hbelow.frame _,fun h=>by cases h⟩
theorem jmL: Tryz.pinned.checked.prog.inPlace 13=Rows.offsetsRoundRow.inPlace:=by kernel_rfl
theorem jmK: Tryz.pinned.checked.prog.unfollowed 13=Rows.offsetsRoundRow.unfollowed:=by kernel_rfl
theorem jmJ: Tryz.pinned.checked.prog.recurses 13=Rows.offsetsRoundRow.recurses:=by kernel_rfl
theorem jmI: Tryz.pinned.checked.prog.varsNamed 13=Rows.offsetsRoundRow.named:=by kernel_rfl
theorem jmH:namedTie Tryz.pinned.checked.prog Rows.offsetsRoundRow.named Rows.offsetsRoundSpec.vars=true:=by kernel_rfl
theorem jhS:joinedFacts Tryz.pinned.checked.prog 13 Tryz.f13 Rows.offsetsRoundSpec Rows.offsetsRoundRow=true:=by
 unfold joinedFacts
 rw [jmL,jmK,jmJ,jmI,jmH,laidOutP];kernel_rfl
theorem jiM:Rows.OffsetsRoundSaid:=
 OpenClaim.holds_of_wide_leaving 13 Tryz.f13 rfl rfl rfl rfl rfl rfl rfl ⟨rfl,rfl,rfl,rfl,rfl⟩ rfl rfl rfl rfl rfl zK Tryz.func13 jhS
  (of_decide_eq_true zK) (by unfold Func.isWrapper;first|(rw [if_pos (by decide+kernel)];kernel_rfl)|(rw [if_neg (by decide+kernel)];exact ⟨rfl,rfl⟩))
  (fun os started H enc _=>jhR os started H enc)
theorem jmG:Rows.offsetsRoundRow.wfByText (OpenSpec.ofChange Rows.offsetsRoundSpec)=true:=by kernel_rfl
theorem jjK:true=Rows.offsetsRoundRow.goesBy Tryz.pinned.checked.prog:=by kernel_rfl
theorem oround_named: Tryz.prog.funcNamed "ribband/ribbandlaw01.OffsetsRound" =some 13:=by kernel_rfl
theorem jls:(Tryz.f13.params.toList.all fun u=>!Tryz.prog.wantsStandIn u)=true:=by kernel_rfl
theorem oround_card:Rows.OffsetsRoundCardSaid:=
 card_of .later [.data,.data,.data,.data,.funcsDeep] true (true, "efa58da0d05803ae4d87aecc1d7dc94e05dff7fe0015b2fcbfa254297eea66aa") false
  jiM jmG offsetsRound_row_tie rfl ⟨rfl,rfl⟩ pin_main rfl
  (fun f fn hf hfn=>by
   obtain rfl:f=13:=Option.some.inj (oround_named.symm.trans hf)|>.symm
   obtain rfl:fn= Tryz.f13:=(Option.some.inj (Tryz.func13.symm.trans hfn)).symm
   exact ⟨jmx,fun j t ht=>by
    rw [Tryz.params13] at ht
    have hm:=Array.mem_of_getElem? ht
    have hall:=jls
    rw [Tryz.params13] at hall
    exact (show Tryz.prog.wantsStandIn t=false by simpa using List.all_eq_true.1 hall t (by simpa using hm))⟩)
  jjK
#print axioms oround_card
end Go.Proofs.YtggpepeiedkbbaaGreatDoor
