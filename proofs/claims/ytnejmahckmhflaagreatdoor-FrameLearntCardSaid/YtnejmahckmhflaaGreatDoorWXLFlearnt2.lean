/- PROVED: the law FrameLearnt (what is taped, held up or measured never adds a boat or widens a span, and takes back nothing that was sure), on every schedule of its goroutines; its row and its tied card. Conditions: those of the row: the table of checks is as the program's text lays it. -/
import Derived.Test.YtnejmahckmhflaaGreatDoorWXLFlearnt1
set_option linter.all false
namespace Go.Proofs.YtnejmahckmhflaaGreatDoor
open Go Go.Lo Go.ChangeShapes Go.WideShapes Go.ChangeAt Go.RowKit Go.Conc
set_option maxRecDepth 100000
theorem flearnt_lifted (os:Os) (started:os.Started) (H:Type) (enc:TypeId×Value→H) (F:Stop.Interp):
  ReturnsInLeavingWide {calm:=true} Tryz.checked os 16 .any (fun w args=>(Rows.frameLearntSpec.pre enc Tryz.prog Tryz.f16 [] false w args∧laidMetH Tryz.prog laidL w)∧sizedMet enc Tryz.prog Tryz.f16 (OpenSpec.ofChange Rows.frameLearntSpec) false w args)
   ((OpenSpec.ofChange Rows.frameLearntSpec).postWith enc Tryz.prog Tryz.f16 F (outsideKept [.timePasses]) false true false):=by
 refine returnsInLeavingWide_of_change_time_and (C:= Tryz.checked) (X:=fun w _=>laidMetH Tryz.prog laidL w) (fun _ _ _ hh h=>h.of_heap hh) own started Tryz.func16
  (witness_calm (enc:=enc) (C:= Tryz.checked) (os:=os) (X:=fun w _=>laidMetH Tryz.prog laidL w) (World.doorLaid Tryz.prog 14 os) #[.agg #[.int .i64 0,.slice none 0 0,.slice none 0 0,.slice none 0 0],.agg #[.int .i64 0,.int .i64 0,.int .i64 0,.int .i64 0],.agg #[.int .i64 0,.int .i64 0,.bool false],.int .u8 0,.agg #[.int .i64 0,.int .i64 0],.int .u16 0,.int .u8 0,.int .u16 0] 8 rfl (World.shaped_of_RefB (by kernel_rfl) (by kernel_rfl)) (by kernel_rfl) (by kernel_rfl) (by kernel_rfl) (door_met os _)) ?_
 intro W base args ds gs before hval0 hW hL
 have hval: ∀(j:Nat) t v,Tryz.f16.params[j]?=some t→args[j]?=some v→Value.okWide Tryz.prog W .any base t v:=hval0
 have hW':=hW
 obtain ⟨p,q,hA0,hV,rfl,hfz,hnd⟩:=hW
 have hA:DataW.TrodAll enc Tryz.prog W 0 (fun _=>true) true Tryz.f16.params.toList args.toList ds p:=hA0
 rw [Tryz.params16] at hA hval
 obtain ⟨v0,vr0,d0,dr0,p0,q0,ea0,ed0,ep0,h0,hA0⟩:=trodAll_cons hA
 obtain ⟨v1,vr1,d1,dr1,p1,q1,ea1,ed1,ep1,h1,hA1⟩:=trodAll_cons hA0
 obtain ⟨v2,vr2,d2,dr2,p2,q2,ea2,ed2,ep2,h2,hA2⟩:=trodAll_cons hA1
 obtain ⟨v3,vr3,d3,dr3,p3,q3,ea3,ed3,ep3,h3,hA3⟩:=trodAll_cons hA2
 obtain ⟨v4,vr4,d4,dr4,p4,q4,ea4,ed4,ep4,h4,hA4⟩:=trodAll_cons hA3
 obtain ⟨v5,vr5,d5,dr5,p5,q5,ea5,ed5,ep5,h5,hA5⟩:=trodAll_cons hA4
 obtain ⟨v6,vr6,d6,dr6,p6,q6,ea6,ed6,ep6,h6,hA6⟩:=trodAll_cons hA5
 obtain ⟨v7,vr7,d7,dr7,p7,q7,ea7,ed7,ep7,h7,hA7⟩:=trodAll_cons hA6
 obtain ⟨ez1,ez2,ez3⟩:=trodAll_end hA7
 subst ez1 ez2 ez3
 subst ea7 ed7 ep7
 subst ea6 ed6 ep6
 subst ea5 ed5 ep5
 subst ea4 ed4 ep4
 subst ea3 ed3 ep3
 subst ea2 ed2 ep2
 subst ea1 ed1 ep1
 subst ed0 ep0
 obtain rfl:=Array.ext' (show args.toList= #[v0,v1,v2,v3,v4,v5,v6,v7].toList from ea0)
 obtain ⟨rfl,rfl⟩:=trodVars_none hV
 have hval0:=hval 0 _ v0 rfl rfl
 have hval1:=hval 1 _ v1 rfl rfl
 have hval2:=hval 2 _ v2 rfl rfl
 have hval3:=hval 3 _ v3 rfl rfl
 have hval4:=hval 4 _ v4 rfl rfl
 have hval5:=hval 5 _ v5 rfl rfl
 have hval6:=hval 6 _ v6 rfl rfl
 have hval7:=hval 7 _ v7 rfl rfl
 have hlt0: ∀x∈p0,x.block<W.heap.size:=fun x hx=>hW'.lt x (by simp [hx])
 have hlt1: ∀x∈p1,x.block<W.heap.size:=fun x hx=>hW'.lt x (by simp [hx])
 have hlt2: ∀x∈p2,x.block<W.heap.size:=fun x hx=>hW'.lt x (by simp [hx])
 have hlt3: ∀x∈p3,x.block<W.heap.size:=fun x hx=>hW'.lt x (by simp [hx])
 have hlt4: ∀x∈p4,x.block<W.heap.size:=fun x hx=>hW'.lt x (by simp [hx])
 have hlt5: ∀x∈p5,x.block<W.heap.size:=fun x hx=>hW'.lt x (by simp [hx])
 have hlt6: ∀x∈p6,x.block<W.heap.size:=fun x hx=>hW'.lt x (by simp [hx])
 have hlt7: ∀x∈p7,x.block<W.heap.size:=fun x hx=>hW'.lt x (by simp [hx])
 haveI:=laid_of hL
 obtain ⟨b,pp,np,cp,pt,nt,ct,pk,nk,ck,ev0,hcp,hct,hck,rdp,rdt,rdk,hpl⟩:=book_arg hval0 h0
 obtain ⟨x,ev1⟩:=tp_arg hval1 h1
 obtain ⟨y,ev2⟩:=sk_arg hval2 h2
 obtain ⟨w,ev3,hw⟩:=u8_arg hval3 h3
 obtain ⟨lo,hi,ev4⟩:=sp_arg hval4 h4
 obtain ⟨z,ev5,hz⟩:=u16_arg hval5 h5
 obtain ⟨x0,ev6,hx0⟩:=u8_arg hval6 h6
 obtain ⟨y0,ev7,hy0⟩:=u16_arg hval7 h7
 have run:=law_goodS (W:=W) (f:=16) (args:= #[v0,v1,v2,v3,v4,v5,v6,v7]) (by rw [ev0,ev1,ev2,ev3,ev4,ev5,ev6,ev7];exact f16_t [] rdp rdt rdk x y lo hi w z x0 y0 hw hz hx0 hy0)
 obtain ⟨M,last,o,w',t',r1,r2,r3,r4⟩:=run
 refine ⟨M,last,o,w',t',r1,r2,r3,r4.mono fun v hF=>?_⟩
 obtain ⟨rfl,hlater,hbelow⟩:v= .bool true∧ConcM.OsLater W.os w'.os∧RowKit.Below W.heap.size W {w' with os:=W.os}:=hF
 have hq:DataW.TrodAll enc Tryz.prog {w' with os:=W.os} 0 (fun b=>decide (b<W.heap.size)) true Tryz.f16.params.toList #[v0,v1,v2,v3,v4,v5,v6,v7].toList [d0,d1,d2,d3,d4,d5,d6,d7] (p0++(p1++(p2++(p3++(p4++(p5++(p6++(p7++[])))))))):=by rw [Tryz.params16];exact (trodAll_more (Below.trod laidOut (by kernel_rfl) (of_decide_eq_true (by kernel_rfl)) h0 hbelow hlt0) (trodAll_more (Below.trod laidOut (by kernel_rfl) (of_decide_eq_true (by kernel_rfl)) h1 hbelow hlt1) (trodAll_more (Below.trod laidOut (by kernel_rfl) (of_decide_eq_true (by kernel_rfl)) h2 hbelow hlt2) (trodAll_more (Below.trod laidOut (by kernel_rfl) (of_decide_eq_true (by kernel_rfl)) h3 hbelow hlt3) (trodAll_more (Below.trod laidOut (by kernel_rfl) (of_decide_eq_true (by kernel_rfl)) h4 hbelow hlt4) (trodAll_more (Below.trod laidOut (by kernel_rfl) (of_decide_eq_true (by kernel_rfl)) h5 hbelow hlt5) (trodAll_more (Below.trod laidOut (by kernel_rfl) (of_decide_eq_true (by kernel_rfl)) h6 hbelow hlt6) (trodAll_more (Below.trod laidOut (by kernel_rfl) (of_decide_eq_true (by kernel_rfl)) h7 hbelow hlt7) rfl))))))))
 exact ⟨⟨_,_,_,[],_,[],hW',trodAll_mk1 (shut_bool Tryz.underlying4 _),hq,rfl,hbelow.frame _,fun h=>by cases h⟩,hlater⟩
theorem flearnt_j1: Tryz.pinned.checked.prog.inPlace 16=Rows.frameLearntRow.inPlace:=by kernel_rfl
theorem flearnt_j2: Tryz.pinned.checked.prog.unfollowed 16=Rows.frameLearntRow.unfollowed:=by kernel_rfl
theorem flearnt_j3: Tryz.pinned.checked.prog.recurses 16=Rows.frameLearntRow.recurses:=by kernel_rfl
theorem flearnt_j4: Tryz.pinned.checked.prog.varsNamed 16=Rows.frameLearntRow.named:=by kernel_rfl
theorem flearnt_j5:namedTie Tryz.pinned.checked.prog Rows.frameLearntRow.named Rows.frameLearntSpec.vars=true:=by kernel_rfl
theorem flearnt_joined:joinedFacts Tryz.pinned.checked.prog 16 Tryz.f16 Rows.frameLearntSpec Rows.frameLearntRow=true:=by
 unfold joinedFacts
 rw [flearnt_j1,flearnt_j2,flearnt_j3,flearnt_j4,flearnt_j5,laidOutP];kernel_rfl
theorem flearnt_holds:Rows.FrameLearntSaid:=
 OpenClaim.holds_of_wide_leaving_time 16 Tryz.f16 rfl rfl rfl rfl rfl rfl rfl ⟨rfl,rfl,rfl,rfl,rfl⟩ rfl rfl rfl rfl rfl (by kernel_rfl) Tryz.func16 flearnt_joined
  (of_decide_eq_true (by kernel_rfl)) (by unfold Func.isWrapper;first|(rw [if_pos (by decide+kernel)];kernel_rfl)|(rw [if_neg (by decide+kernel)];exact ⟨rfl,rfl⟩))
  (fun os started H enc _ F=>flearnt_lifted os started H enc F)
theorem flearnt_card:Rows.FrameLearntCardSaid:=
 card_of .later [.funcs] true (true, "002ec0a8c20dc5b1fd129f9c865db77d8f34e85aea65577f891b0925f2518361") false
  flearnt_holds (by kernel_rfl) frameLearnt_row_tie rfl ⟨rfl,rfl⟩ (by kernel_rfl) rfl
  (fun f fn hf hfn=>by
   obtain rfl:f=16:=Option.some.inj ((show Tryz.prog.funcNamed "ribband/ribbandlaw03.FrameLearnt" =some 16 by kernel_rfl).symm.trans hf)|>.symm
   obtain rfl:fn= Tryz.f16:=(Option.some.inj (Tryz.func16.symm.trans hfn)).symm
   exact ⟨by kernel_rfl,fun j t ht=>by
    rw [Tryz.params16] at ht
    have hm:=Array.mem_of_getElem? ht
    have hall:(Tryz.f16.params.toList.all fun u=>!Tryz.prog.wantsStandIn u)=true:=by kernel_rfl
    rw [Tryz.params16] at hall
    exact (show Tryz.prog.wantsStandIn t=false by simpa using List.all_eq_true.1 hall t (by simpa using hm))⟩)
  (by kernel_rfl)
#print axioms flearnt_card
end Go.Proofs.YtnejmahckmhflaaGreatDoor
