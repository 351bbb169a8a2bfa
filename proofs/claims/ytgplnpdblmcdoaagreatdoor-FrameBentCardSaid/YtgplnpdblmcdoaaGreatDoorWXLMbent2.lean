/- PROVED: the law FrameBent (three points at equal distances are a line of stations, whose bend tells how far the middle one lies off the straight), on every schedule of its goroutines; its row and its tied card. Conditions: those of the row: the table of checks is as the program's text lays it. -/
import Derived.Test.YtgplnpdblmcdoaaGreatDoorWXLMbent1
set_option linter.all false
namespace Go.Proofs.YtgplnpdblmcdoaaGreatDoor
open Go Go.Lo Go.ChangeShapes Go.WideShapes Go.ChangeAt Go.RowKit Go.Conc
set_option maxRecDepth 100000
theorem mbent_lifted (os:Os) (started:os.Started) (H:Type) (enc:TypeId×Value→H) (F:Stop.Interp):
  ReturnsInLeavingWide {calm:=true} Tryz.checked os 3 .any (fun w args=>(Rows.frameBentSpec.pre enc Tryz.prog Tryz.f3 [] false w args∧laidMetH Tryz.prog laidL w)∧sizedMet enc Tryz.prog Tryz.f3 (OpenSpec.ofChange Rows.frameBentSpec) false w args)
   ((OpenSpec.ofChange Rows.frameBentSpec).postWith enc Tryz.prog Tryz.f3 F (outsideKept [.timePasses]) false true false):=by
 refine returnsInLeavingWide_of_change_time_and (C:= Tryz.checked) (X:=fun w _=>laidMetH Tryz.prog laidL w) (fun _ _ _ hh h=>h.of_heap hh) own started Tryz.func3
  (witness_calm (enc:=enc) (C:= Tryz.checked) (os:=os) (X:=fun w _=>laidMetH Tryz.prog laidL w) (World.doorLaid Tryz.prog 14 os) #[.agg #[.int .i64 0,.slice none 0 0,.slice none 0 0,.slice none 0 0],.slice none 0 0] 8 rfl (World.shaped_of_RefB (by kernel_rfl) (by kernel_rfl)) (by kernel_rfl) (by kernel_rfl) (by kernel_rfl) (door_met os _)) ?_
 intro W base args ds gs before hval0 hW hL
 have hval: ∀(j:Nat) t v,Tryz.f3.params[j]?=some t→args[j]?=some v→Value.okWide Tryz.prog W .any base t v:=hval0
 have hW':=hW
 obtain ⟨p,q,hA0,hV,rfl,hfz,hnd⟩:=hW
 have hA:DataW.TrodAll enc Tryz.prog W 0 (fun _=>true) true Tryz.f3.params.toList args.toList ds p:=hA0
 rw [Tryz.params3] at hA hval
 obtain ⟨v0,vr0,d0,dr0,p0,q0,ea0,ed0,ep0,h0,hA0⟩:=trodAll_cons hA
 obtain ⟨v1,vr1,d1,dr1,p1,q1,ea1,ed1,ep1,h1,hA1⟩:=trodAll_cons hA0
 obtain ⟨ez1,ez2,ez3⟩:=trodAll_end hA1
 subst ez1 ez2 ez3
 subst ea1 ed1 ep1
 subst ed0 ep0
 obtain rfl:=Array.ext' (show args.toList= #[v0,v1].toList from ea0)
 obtain ⟨rfl,rfl⟩:=trodVars_none hV
 have hval0:=hval 0 _ v0 rfl rfl
 have hval1:=hval 1 _ v1 rfl rfl
 have hlt0: ∀x∈p0,x.block<W.heap.size:=fun x hx=>hW'.lt x (by simp [hx])
 have hlt1: ∀x∈p1,x.block<W.heap.size:=fun x hx=>hW'.lt x (by simp [hx])
 haveI:=laid_of hL
 haveI:=laid_ofB hL
 obtain ⟨b,pp,np,cp,pt,nt,ct,pk,nk,ck,ev0,hcp,hct,hck,rdp,rdt,rdk,hpl⟩:=book_arg hval0 h0
 obtain ⟨pl,n,c,zs,ev1,rd,hz⟩:=picks_arg hval1 h1
 have run:=law_goodS (W:=W) (f:=3) (args:= #[v0,v1]) (by rw [ev0,ev1];exact f3_t [] rdp rdt rdk rd hz)
 obtain ⟨M,last,o,w',t',r1,r2,r3,r4⟩:=run
 refine ⟨M,last,o,w',t',r1,r2,r3,r4.mono fun v hF=>?_⟩
 obtain ⟨rfl,hlater,hbelow⟩:v= .bool true∧ConcM.OsLater W.os w'.os∧RowKit.Below W.heap.size W {w' with os:=W.os}:=hF
 have hq:DataW.TrodAll enc Tryz.prog {w' with os:=W.os} 0 (fun b=>decide (b<W.heap.size)) true Tryz.f3.params.toList #[v0,v1].toList [d0,d1] (p0++(p1++[])):=by rw [Tryz.params3];exact (trodAll_more (Below.trod laidOut (by kernel_rfl) (of_decide_eq_true (by kernel_rfl)) h0 hbelow hlt0) (trodAll_more (Below.trod laidOut (by kernel_rfl) (of_decide_eq_true (by kernel_rfl)) h1 hbelow hlt1) rfl))
 exact ⟨⟨_,_,_,[],_,[],hW',trodAll_mk1 (shut_bool Tryz.underlying4 _),hq,rfl,hbelow.frame _,fun h=>by cases h⟩,hlater⟩
theorem mbent_j1: Tryz.pinned.checked.prog.inPlace 3=Rows.frameBentRow.inPlace:=by kernel_rfl
theorem mbent_j2: Tryz.pinned.checked.prog.unfollowed 3=Rows.frameBentRow.unfollowed:=by kernel_rfl
theorem mbent_j3: Tryz.pinned.checked.prog.recurses 3=Rows.frameBentRow.recurses:=by kernel_rfl
theorem mbent_j4: Tryz.pinned.checked.prog.varsNamed 3=Rows.frameBentRow.named:=by kernel_rfl
theorem mbent_j5:namedTie Tryz.pinned.checked.prog Rows.frameBentRow.named Rows.frameBentSpec.vars=true:=by kernel_rfl
theorem mbent_joined:joinedFacts Tryz.pinned.checked.prog 3 Tryz.f3 Rows.frameBentSpec Rows.frameBentRow=true:=by
 unfold joinedFacts
 rw [mbent_j1,mbent_j2,mbent_j3,mbent_j4,mbent_j5,laidOutP];kernel_rfl
theorem mbent_holds:Rows.FrameBentSaid:=
 OpenClaim.holds_of_wide_leaving_time 3 Tryz.f3 rfl rfl rfl rfl rfl rfl rfl ⟨rfl,rfl,rfl,rfl,rfl⟩ rfl rfl rfl rfl rfl (by kernel_rfl) Tryz.func3 mbent_joined
  (of_decide_eq_true (by kernel_rfl)) (by unfold Func.isWrapper;first|(rw [if_pos (by decide+kernel)];kernel_rfl)|(rw [if_neg (by decide+kernel)];exact ⟨rfl,rfl⟩))
  (fun os started H enc _ F=>mbent_lifted os started H enc F)
theorem mbent_card:Rows.FrameBentCardSaid:=
 card_of .later [.funcs,.funcs] true (true, "fd546b74efcf1b7f38a82da1dc349b368d6f336ca6002d65bfc415943250be8b") false
  mbent_holds (by kernel_rfl) frameBent_row_tie rfl ⟨rfl,rfl⟩ (by kernel_rfl) rfl
  (fun f fn hf hfn=>by
   obtain rfl:f=3:=Option.some.inj ((show Tryz.prog.funcNamed "ribband/ribbandlaw03.FrameBent" =some 3 by kernel_rfl).symm.trans hf)|>.symm
   obtain rfl:fn= Tryz.f3:=(Option.some.inj (Tryz.func3.symm.trans hfn)).symm
   exact ⟨by kernel_rfl,fun j t ht=>by
    rw [Tryz.params3] at ht
    have hm:=Array.mem_of_getElem? ht
    have hall:(Tryz.f3.params.toList.all fun u=>!Tryz.prog.wantsStandIn u)=true:=by kernel_rfl
    rw [Tryz.params3] at hall
    exact (show Tryz.prog.wantsStandIn t=false by simpa using List.all_eq_true.1 hall t (by simpa using hm))⟩)
  (by kernel_rfl)
#print axioms mbent_card
end Go.Proofs.YtgplnpdblmcdoaaGreatDoor
