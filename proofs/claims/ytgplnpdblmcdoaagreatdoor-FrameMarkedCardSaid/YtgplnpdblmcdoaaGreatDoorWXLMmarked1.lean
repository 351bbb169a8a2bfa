/- PROVED: the law FrameMarked (a batten that is held to a frame has no more boats and heights once a stick is held up), on every schedule of its goroutines; its row and its tied card. Conditions: those of the row: the table of checks is as the program's text lays it. -/
import Derived.Test.YtgplnpdblmcdoaaGreatDoorWC11
set_option linter.all false
namespace Go.Proofs.YtgplnpdblmcdoaaGreatDoor
open Go Go.Lo Go.ChangeShapes Go.WideShapes Go.ChangeAt Go.RowKit Go.Conc
set_option maxRecDepth 100000
theorem jgr (os:Os) (started:os.Started) (H:Type) (enc:TypeId×Value→H) (F:Stop.Interp):
  ReturnsInLeavingWide {calm:=true} Tryz.checked os 4 .any (fun w args=>(Rows.frameMarkedSpec.pre enc Tryz.prog Tryz.f4 [] false w args∧laidMetH Tryz.prog jkW w)∧sizedMet enc Tryz.prog Tryz.f4 (OpenSpec.ofChange Rows.frameMarkedSpec) false w args)
   ((OpenSpec.ofChange Rows.frameMarkedSpec).postWith enc Tryz.prog Tryz.f4 F (outsideKept [.timePasses]) false true false):=by
 refine jbE (C:= Tryz.checked) (X:=fun w _=>laidMetH Tryz.prog jkW w) (fun _ _ _ hh h=>h.of_heap hh) own started Tryz.func4
  (jhH (enc:=enc) (C:= Tryz.checked) (os:=os) (X:=fun w _=>laidMetH Tryz.prog jkW w) (World.doorLaid Tryz.prog 14 os) #[.agg #[.int .i64 0,.slice none 0 0,.slice none 0 0,.slice none 0 0],.agg #[.int .i64 0,.int .i64 0,.int .i64 0,.slice none 0 0,.slice none 0 0],.slice none 0 0,.agg #[.int .i64 0,.int .i64 0,.bool false],.int .u8 0] 8 rfl (World.shaped_of_RefB (by kernel_rfl) (by kernel_rfl)) (by kernel_rfl) (by kernel_rfl) (by kernel_rfl) (door_met os _)) ?_
 intro W base args ds gs jbn hval0 hW hL
 have hval: ∀(j:Nat) t v,Tryz.f4.params[j]?=some t→args[j]?=some v→Value.okWide Tryz.prog W .any base t v:=hval0
 have hW':=hW
 obtain ⟨p,q,hA0,hV,rfl,hfz,hnd⟩:=hW
 have hA:DataW.TrodAll enc Tryz.prog W 0 (fun _=>true) true Tryz.f4.params.toList args.toList ds p:=hA0
 rw [Tryz.params4] at hA hval
 obtain ⟨v0,vr0,d0,dr0,p0,q0,ea0,ed0,ep0,h0,hA0⟩:=trodAll_cons hA
 obtain ⟨v1,vr1,d1,dr1,p1,q1,ea1,ed1,ep1,h1,hA1⟩:=trodAll_cons hA0
 obtain ⟨v2,vr2,d2,dr2,p2,q2,ea2,ed2,ep2,h2,hA2⟩:=trodAll_cons hA1
 obtain ⟨v3,vr3,d3,dr3,p3,q3,ea3,ed3,ep3,h3,hA3⟩:=trodAll_cons hA2
 obtain ⟨v4,vr4,d4,dr4,p4,q4,ea4,ed4,ep4,h4,hA4⟩:=trodAll_cons hA3
 obtain ⟨ez1,ez2,ez3⟩:=trodAll_end hA4
 subst ez1 ez2 ez3
 subst ea4 ed4 ep4
 subst ea3 ed3 ep3
 subst ea2 ed2 ep2
 subst ea1 ed1 ep1
 subst ed0 ep0
 obtain rfl:=Array.ext' (show args.toList= #[v0,v1,v2,v3,v4].toList from ea0)
 obtain ⟨rfl,rfl⟩:=trodVars_none hV
 have hval0:=hval 0 _ v0 rfl rfl
 have hval1:=hval 1 _ v1 rfl rfl
 have hval2:=hval 2 _ v2 rfl rfl
 have hval3:=hval 3 _ v3 rfl rfl
 have hval4:=hval 4 _ v4 rfl rfl
 have hlt0: ∀x∈p0,x.block<W.heap.size:=fun x hx=>hW'.lt x (by simp [hx])
 have hlt1: ∀x∈p1,x.block<W.heap.size:=fun x hx=>hW'.lt x (by simp [hx])
 have hlt2: ∀x∈p2,x.block<W.heap.size:=fun x hx=>hW'.lt x (by simp [hx])
 have hlt3: ∀x∈p3,x.block<W.heap.size:=fun x hx=>hW'.lt x (by simp [hx])
 have hlt4: ∀x∈p4,x.block<W.heap.size:=fun x hx=>hW'.lt x (by simp [hx])
 haveI:=laid_of hL
 haveI:=laid_ofB hL
 obtain ⟨b,pp,np,cp,pt,nt,ct,pk,nk,ck,ev0,hcp,hct,hck,rdp,rdt,rdk,hpl⟩:=book_arg hval0 h0
 obtain ⟨cb,pm,nm,cm,pr,nr,cr,ev1,hcm,hcr,rdm,rdr,_⟩:=Bt.book_arg hval1 h1
 obtain ⟨pl,n,c,zs,ev2,rd,hz⟩:=picks_arg hval2 h2
 obtain ⟨k,ev3⟩:=sk_arg hval3 h3
 obtain ⟨st,ev4,hst⟩:=u8_arg hval4 h4
 have run:=jmn (W:=W) (f:=4) (args:= #[v0,v1,v2,v3,v4]) (by rw [ev0,ev1,ev2,ev3,ev4];exact f4_t [] rdp rdt rdk rdm rdr rd hz k st hst)
 obtain ⟨M,last,o,w',t',r1,r2,r3,r4⟩:=run
 refine ⟨M,last,o,w',t',r1,r2,r3,r4.mono fun v hF=>?_⟩
 obtain ⟨rfl,hlater,hbelow⟩:v= .bool true∧ConcM.OsLater W.os w'.os∧RowKit.Below W.heap.size W {w' with os:=W.os}:=hF
 have hq:DataW.TrodAll enc Tryz.prog {w' with os:=W.os} 0 (fun b=>decide (b<W.heap.size)) true Tryz.f4.params.toList #[v0,v1,v2,v3,v4].toList [d0,d1,d2,d3,d4] (p0++(p1++(p2++(p3++(p4++[]))))):=by rw [Tryz.params4];exact (trodAll_more (Below.trod je1 (by kernel_rfl) (of_decide_eq_true (by kernel_rfl)) h0 hbelow hlt0) (trodAll_more (Below.trod je1 (by kernel_rfl) (of_decide_eq_true (by kernel_rfl)) h1 hbelow hlt1) (trodAll_more (Below.trod je1 (by kernel_rfl) (of_decide_eq_true (by kernel_rfl)) h2 hbelow hlt2) (trodAll_more (Below.trod je1 (by kernel_rfl) (of_decide_eq_true (by kernel_rfl)) h3 hbelow hlt3) (trodAll_more (Below.trod je1 (by kernel_rfl) (of_decide_eq_true (by kernel_rfl)) h4 hbelow hlt4) rfl)))))
 exact ⟨⟨_,_,_,[],_,[],hW',trodAll_mk1 (shut_bool Tryz.underlying4 _),hq,rfl,hbelow.frame _,fun h=>by cases h⟩,hlater⟩
theorem jkM: Tryz.pinned.checked.prog.inPlace 4=Rows.frameMarkedRow.inPlace:=by kernel_rfl
theorem jkL: Tryz.pinned.checked.prog.unfollowed 4=Rows.frameMarkedRow.unfollowed:=by kernel_rfl
theorem jkK: Tryz.pinned.checked.prog.recurses 4=Rows.frameMarkedRow.recurses:=by kernel_rfl
theorem jkJ: Tryz.pinned.checked.prog.varsNamed 4=Rows.frameMarkedRow.named:=by kernel_rfl
theorem jkI:namedTie Tryz.pinned.checked.prog Rows.frameMarkedRow.named Rows.frameMarkedSpec.vars=true:=by kernel_rfl
theorem jgs:joinedFacts Tryz.pinned.checked.prog 4 Tryz.f4 Rows.frameMarkedSpec Rows.frameMarkedRow=true:=by
 unfold joinedFacts
 rw [jkM,jkL,jkK,jkJ,jkI,laidOutP];kernel_rfl
theorem jhn:Rows.FrameMarkedSaid:=
 OpenClaim.holds_of_wide_leaving_time 4 Tryz.f4 rfl rfl rfl rfl rfl rfl rfl ⟨rfl,rfl,rfl,rfl,rfl⟩ rfl rfl rfl rfl rfl (by kernel_rfl) Tryz.func4 jgs
  (of_decide_eq_true (by kernel_rfl)) (by unfold Func.isWrapper;first|(rw [if_pos (by decide+kernel)];kernel_rfl)|(rw [if_neg (by decide+kernel)];exact ⟨rfl,rfl⟩))
  (fun os started H enc _ F=>jgr os started H enc F)
theorem mmarked_card:Rows.FrameMarkedCardSaid:=
 card_of .later [.funcs,.funcs] true (true, "fd546b74efcf1b7f38a82da1dc349b368d6f336ca6002d65bfc415943250be8b") false
  jhn (by kernel_rfl) frameMarked_row_tie rfl ⟨rfl,rfl⟩ (by kernel_rfl) rfl
  (fun f fn hf hfn=>by
   obtain rfl:f=4:=Option.some.inj ((show Tryz.prog.funcNamed "ribband/ribbandlaw03.FrameMarked" =some 4 by kernel_rfl).symm.trans hf)|>.symm
   obtain rfl:fn= Tryz.f4:=(Option.some.inj (Tryz.func4.symm.trans hfn)).symm
   exact ⟨by kernel_rfl,fun j t ht=>by
    rw [Tryz.params4] at ht
    have hm:=Array.mem_of_getElem? ht
    have hall:(Tryz.f4.params.toList.all fun u=>!Tryz.prog.wantsStandIn u)=true:=by kernel_rfl
    rw [Tryz.params4] at hall
    exact (show Tryz.prog.wantsStandIn t=false by simpa using List.all_eq_true.1 hall t (by simpa using hm))⟩)
  (by kernel_rfl)
#print axioms mmarked_card
end Go.Proofs.YtgplnpdblmcdoaaGreatDoor
