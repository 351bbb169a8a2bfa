/- PROVED: the law FrameAdded (a point that lies on the straight between its neighbours, where the breadth is whole, changes no breadth and no area, and the girth by one at most), on every schedule of its goroutines; its row and its tied card. Conditions: those of the row: the table of checks is as the program's text lays it. -/
import Derived.Test.YtnejmahckmhflaaGreatDoorWXLFadded1
set_option linter.all false
namespace Go.Proofs.YtnejmahckmhflaaGreatDoor
open Go Go.Lo Go.ChangeShapes Go.WideShapes Go.ChangeAt Go.RowKit Go.Conc
set_option maxRecDepth 100000
theorem fadded_lifted (os:Os) (started:os.Started) (H:Type) (enc:TypeId×Value→H) (F:Stop.Interp):
  ReturnsInLeavingWide {calm:=true} Tryz.checked os 10 .any (fun w args=>(Rows.frameAddedSpec.pre enc Tryz.prog Tryz.f10 [] false w args∧laidMetH Tryz.prog laidL w)∧sizedMet enc Tryz.prog Tryz.f10 (OpenSpec.ofChange Rows.frameAddedSpec) false w args)
   ((OpenSpec.ofChange Rows.frameAddedSpec).postWith enc Tryz.prog Tryz.f10 F (outsideKept [.timePasses]) false true false):=by
 refine returnsInLeavingWide_of_change_time_and (C:= Tryz.checked) (X:=fun w _=>laidMetH Tryz.prog laidL w) (fun _ _ _ hh h=>h.of_heap hh) own started Tryz.func10
  (witness_calm (enc:=enc) (C:= Tryz.checked) (os:=os) (X:=fun w _=>laidMetH Tryz.prog laidL w) (World.doorLaid Tryz.prog 14 os) #[.agg #[.int .i64 0,.slice none 0 0,.slice none 0 0,.slice none 0 0],.slice none 0 0,.int .u16 0,.int .u16 0] 8 rfl (World.shaped_of_RefB (by kernel_rfl) (by kernel_rfl)) (by kernel_rfl) (by kernel_rfl) (by kernel_rfl) (door_met os _)) ?_
 intro W base args ds gs before hval0 hW hL
 have hval: ∀(j:Nat) t v,Tryz.f10.params[j]?=some t→args[j]?=some v→Value.okWide Tryz.prog W .any base t v:=hval0
 have hW':=hW
 obtain ⟨p,q,hA0,hV,rfl,hfz,hnd⟩:=hW
 have hA:DataW.TrodAll enc Tryz.prog W 0 (fun _=>true) true Tryz.f10.params.toList args.toList ds p:=hA0
 rw [Tryz.params10] at hA hval
 obtain ⟨v0,vr0,d0,dr0,p0,q0,ea0,ed0,ep0,h0,hA0⟩:=trodAll_cons hA
 obtain ⟨v1,vr1,d1,dr1,p1,q1,ea1,ed1,ep1,h1,hA1⟩:=trodAll_cons hA0
 obtain ⟨v2,vr2,d2,dr2,p2,q2,ea2,ed2,ep2,h2,hA2⟩:=trodAll_cons hA1
 obtain ⟨v3,vr3,d3,dr3,p3,q3,ea3,ed3,ep3,h3,hA3⟩:=trodAll_cons hA2
 obtain ⟨ez1,ez2,ez3⟩:=trodAll_end hA3
 subst ez1 ez2 ez3
 subst ea3 ed3 ep3
 subst ea2 ed2 ep2
 subst ea1 ed1 ep1
 subst ed0 ep0
 obtain rfl:=Array.ext' (show args.toList= #[v0,v1,v2,v3].toList from ea0)
 obtain ⟨rfl,rfl⟩:=trodVars_none hV
 have hval0:=hval 0 _ v0 rfl rfl
 have hval1:=hval 1 _ v1 rfl rfl
 have hval2:=hval 2 _ v2 rfl rfl
 have hval3:=hval 3 _ v3 rfl rfl
 have hlt0: ∀x∈p0,x.block<W.heap.size:=fun x hx=>hW'.lt x (by simp [hx])
 have hlt1: ∀x∈p1,x.block<W.heap.size:=fun x hx=>hW'.lt x (by simp [hx])
 have hlt2: ∀x∈p2,x.block<W.heap.size:=fun x hx=>hW'.lt x (by simp [hx])
 have hlt3: ∀x∈p3,x.block<W.heap.size:=fun x hx=>hW'.lt x (by simp [hx])
 haveI:=laid_of hL
 obtain ⟨b,pp,np,cp,pt,nt,ct,pk,nk,ck,ev0,hcp,hct,hck,rdp,rdt,rdk,hpl⟩:=book_arg hval0 h0
 obtain ⟨pl,n,c,zs,ev1,rd,hz⟩:=picks_arg hval1 h1
 obtain ⟨z,ev2,hzz⟩:=u16_arg hval2 h2
 obtain ⟨y0,ev3,hyy⟩:=u16_arg hval3 h3
 have run:=law_goodS (W:=W) (f:=10) (args:= #[v0,v1,v2,v3]) (by rw [ev0,ev1,ev2,ev3];exact f10_t (b:=⟨b.plank,b.pts,[],b.sticks⟩) [] rfl rdp hcp rdk rd hz z y0 hzz hyy)
 obtain ⟨M,last,o,w',t',r1,r2,r3,r4⟩:=run
 refine ⟨M,last,o,w',t',r1,r2,r3,r4.mono fun v hF=>?_⟩
 obtain ⟨rfl,hlater,hbelow⟩:v= .bool true∧ConcM.OsLater W.os w'.os∧RowKit.Below W.heap.size W {w' with os:=W.os}:=hF
 have hq:DataW.TrodAll enc Tryz.prog {w' with os:=W.os} 0 (fun b=>decide (b<W.heap.size)) true Tryz.f10.params.toList #[v0,v1,v2,v3].toList [d0,d1,d2,d3] (p0++(p1++(p2++(p3++[])))):=by rw [Tryz.params10];exact (trodAll_more (Below.trod laidOut (by kernel_rfl) (of_decide_eq_true (by kernel_rfl)) h0 hbelow hlt0) (trodAll_more (Below.trod laidOut (by kernel_rfl) (of_decide_eq_true (by kernel_rfl)) h1 hbelow hlt1) (trodAll_more (Below.trod laidOut (by kernel_rfl) (of_decide_eq_true (by kernel_rfl)) h2 hbelow hlt2) (trodAll_more (Below.trod laidOut (by kernel_rfl) (of_decide_eq_true (by kernel_rfl)) h3 hbelow hlt3) rfl))))
 exact ⟨⟨_,_,_,[],_,[],hW',trodAll_mk1 (shut_bool Tryz.underlying4 _),hq,rfl,hbelow.frame _,fun h=>by cases h⟩,hlater⟩
theorem fadded_j1: Tryz.pinned.checked.prog.inPlace 10=Rows.frameAddedRow.inPlace:=by kernel_rfl
theorem fadded_j2: Tryz.pinned.checked.prog.unfollowed 10=Rows.frameAddedRow.unfollowed:=by kernel_rfl
theorem fadded_j3: Tryz.pinned.checked.prog.recurses 10=Rows.frameAddedRow.recurses:=by kernel_rfl
theorem fadded_j4: Tryz.pinned.checked.prog.varsNamed 10=Rows.frameAddedRow.named:=by kernel_rfl
theorem fadded_j5:namedTie Tryz.pinned.checked.prog Rows.frameAddedRow.named Rows.frameAddedSpec.vars=true:=by kernel_rfl
theorem fadded_joined:joinedFacts Tryz.pinned.checked.prog 10 Tryz.f10 Rows.frameAddedSpec Rows.frameAddedRow=true:=by
 unfold joinedFacts
 rw [fadded_j1,fadded_j2,fadded_j3,fadded_j4,fadded_j5,laidOutP];kernel_rfl
theorem fadded_holds:Rows.FrameAddedSaid:=
 OpenClaim.holds_of_wide_leaving_time 10 Tryz.f10 rfl rfl rfl rfl rfl rfl rfl ⟨rfl,rfl,rfl,rfl,rfl⟩ rfl rfl rfl rfl rfl (by kernel_rfl) Tryz.func10 fadded_joined
  (of_decide_eq_true (by kernel_rfl)) (by unfold Func.isWrapper;first|(rw [if_pos (by decide+kernel)];kernel_rfl)|(rw [if_neg (by decide+kernel)];exact ⟨rfl,rfl⟩))
  (fun os started H enc _ F=>fadded_lifted os started H enc F)
theorem fadded_card:Rows.FrameAddedCardSaid:=
 card_of .later [.funcs] true (true, "002ec0a8c20dc5b1fd129f9c865db77d8f34e85aea65577f891b0925f2518361") false
  fadded_holds (by kernel_rfl) frameAdded_row_tie rfl ⟨rfl,rfl⟩ (by kernel_rfl) rfl
  (fun f fn hf hfn=>by
   obtain rfl:f=10:=Option.some.inj ((show Tryz.prog.funcNamed "ribband/ribbandlaw03.FrameAdded" =some 10 by kernel_rfl).symm.trans hf)|>.symm
   obtain rfl:fn= Tryz.f10:=(Option.some.inj (Tryz.func10.symm.trans hfn)).symm
   exact ⟨by kernel_rfl,fun j t ht=>by
    rw [Tryz.params10] at ht
    have hm:=Array.mem_of_getElem? ht
    have hall:(Tryz.f10.params.toList.all fun u=>!Tryz.prog.wantsStandIn u)=true:=by kernel_rfl
    rw [Tryz.params10] at hall
    exact (show Tryz.prog.wantsStandIn t=false by simpa using List.all_eq_true.1 hall t (by simpa using hm))⟩)
  (by kernel_rfl)
#print axioms fadded_card
end Go.Proofs.YtnejmahckmhflaaGreatDoor
