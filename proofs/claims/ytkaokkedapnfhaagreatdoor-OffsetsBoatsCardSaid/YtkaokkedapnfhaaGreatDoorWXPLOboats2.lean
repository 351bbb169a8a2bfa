/- Walks taken over from my texts on another seat by a program of mine. Condition of each: as its statement says. -/
import Derived.Test.YtkaokkedapnfhaaGreatDoorWXPLOboats1
set_option linter.all false
set_option maxRecDepth 100000
namespace Go.Proofs.YtkaokkedapnfhaaGreatDoor
open Go Go.Lo Go.ChangeShapes Go.WideShapes Go.ChangeAt Go.RowKit Go.Conc
theorem jkC (os:Os) (started:os.Started) (H:Type) (enc:TypeId×Value→H):
  ReturnsInLeavingWide {} Tryz.checked os 3 .any (fun w args=>(Rows.offsetsBoatsSpec.pre enc Tryz.prog Tryz.f3 [] false w args∧laidMetH Tryz.prog laidL w)∧sizedMet enc Tryz.prog Tryz.f3 (OpenSpec.ofChange Rows.offsetsBoatsSpec) false w args)
   (Rows.offsetsBoatsSpec.post enc Tryz.prog Tryz.f3 false true false false):=by
 refine jco (C:= Tryz.checked) (X:=fun w _=>laidMetH Tryz.prog laidL w) (fun _ _ _ hh h=>h.of_heap hh) own started Tryz.func3
  (ChangeSpec.witness_shaped (enc:=enc) (C:= Tryz.checked) (os:=os) (X:=fun w _=>laidMetH Tryz.prog laidL w) false (World.doorLaid Tryz.prog 36 os) #[.agg #[.int .i64 0,.slice none 0 0,.slice none 0 0,.slice none 0 0],.slice none 0 0,.slice none 0 0,.agg #[.bool false,.int .i64 0,.int .i64 0]] 8 rfl (World.shaped_of_RefB zK zK) zK zK zK (door_met os _)) ?_
 intro W base args ds gs jbi hval0 hW hL
 have hval: ∀(j:Nat) t v,Tryz.f3.params[j]?=some t→args[j]?=some v→Value.okWide Tryz.prog W .any base t v:=hval0
 have hW':=hW
 obtain ⟨p,q,hA0,hV,rfl,hfz,hnd⟩:=hW
 have hA:DataW.TrodAll enc Tryz.prog W 0 (fun _=>true) true Tryz.f3.params.toList args.toList ds p:=hA0
 rw [Tryz.params3] at hA hval
 obtain ⟨v0,vr0,d0,dr0,p0,q0,ea0,ed0,ep0,h0,hA0⟩:=jdH hA
 obtain ⟨v1,vr1,d1,dr1,p1,q1,ea1,ed1,ep1,h1,hA1⟩:=jdH hA0
 obtain ⟨v2,vr2,d2,dr2,p2,q2,ea2,ed2,ep2,h2,hA2⟩:=jdH hA1
 obtain ⟨v3,vr3,d3,dr3,p3,q3,ea3,ed3,ep3,h3,hA3⟩:=jdH hA2
 obtain ⟨ez1,ez2,ez3⟩:=jmA hA3
 subst ez1 ez2 ez3
 subst ea3 ed3 ep3
 subst ea2 ed2 ep2
 subst ea1 ed1 ep1
 subst ed0 ep0
 obtain rfl:=vG (show args.toList= #[v0,v1,v2,v3].toList from ea0)
 obtain ⟨rfl,rfl⟩:=trodVars_none hV
 have hval0:=hval 0 _ v0 rfl rfl
 have hval1:=hval 1 _ v1 rfl rfl
 have hval2:=hval 2 _ v2 rfl rfl
 have hval3:=hval 3 _ v3 rfl rfl
 have hlt0: ∀x∈p0,x.block<W.heap.size:=fun x hx=>hW'.lt x (by simp [hx])
 have hlt1: ∀x∈p1,x.block<W.heap.size:=fun x hx=>hW'.lt x (by simp [hx])
 have hlt2: ∀x∈p2,x.block<W.heap.size:=fun x hx=>hW'.lt x (by simp [hx])
 have hlt3: ∀x∈p3,x.block<W.heap.size:=fun x hx=>hW'.lt x (by simp [hx])
 haveI:=laid_of hL
 obtain ⟨b,ps,ns,ks,pw,nw,cw,pb,nb,cb,ev0,hcs,rds,rdw,rdb,hin⟩:=tb_arg hval0 h0
 obtain ⟨pl1,n1,c1,xs1,ev1,rd1,hx1⟩:=job hval1 h1
 obtain ⟨pl2,n2,c2,xs2,ev2,rd2,hx2⟩:=job hval2 h2
 obtain ⟨bt,li,st,ev3,hli,hst⟩:=cell_arg hval3 h3
 have run:=jq2 (W:=W) (f:=3) (args:= #[v0,v1,v2,v3]) (by rw [ev0,ev1,ev2,ev3];exact f3_t [] rds hcs rdw rdb rd1 rd2 ⟨bt,li,st⟩)
 obtain ⟨M,last,o,w',t',r1,r2,r3,r4⟩:=run
 refine ⟨M,last,o,w',t',r1,r2,r3,r4.mono fun v hF=>?_⟩
 obtain ⟨rfl,hbelow⟩:v= .bool true∧RowKit.Below W.heap.size W w':=hF
 have hq:DataW.TrodAll enc Tryz.prog w' 0 (fun b=>decide (b<W.heap.size)) true Tryz.f3.params.toList #[v0,v1,v2,v3].toList [d0,d1,d2,d3] (p0++(p1++(p2++(p3++[])))):=by rw [Tryz.params3];exact (jdG (Below.trod jiy zK (of_decide_eq_true zK) h0 hbelow hlt0) (jdG (Below.trod jiy zK (of_decide_eq_true zK) h1 hbelow hlt1) (jdG (Below.trod jiy zK (of_decide_eq_true zK) h2 hbelow hlt2) (jdG (Below.trod jiy zK (of_decide_eq_true zK) h3 hbelow hlt3) rfl))))
 exact ⟨_,_,_,[],_,[],hW',trodAll_mk1 (shut_bool Tryz.underlying4 _),hq,rfl,hbelow.frame _,fun h=>by cases h⟩
theorem jqO: Tryz.pinned.checked.prog.inPlace 3=Rows.offsetsBoatsRow.inPlace:=by kernel_rfl
theorem jqN: Tryz.pinned.checked.prog.unfollowed 3=Rows.offsetsBoatsRow.unfollowed:=by kernel_rfl
theorem jqM: Tryz.pinned.checked.prog.recurses 3=Rows.offsetsBoatsRow.recurses:=by kernel_rfl
theorem jqL: Tryz.pinned.checked.prog.varsNamed 3=Rows.offsetsBoatsRow.named:=by kernel_rfl
theorem jqK:namedTie Tryz.pinned.checked.prog Rows.offsetsBoatsRow.named Rows.offsetsBoatsSpec.vars=true:=by kernel_rfl
theorem jkD:joinedFacts Tryz.pinned.checked.prog 3 Tryz.f3 Rows.offsetsBoatsSpec Rows.offsetsBoatsRow=true:=by
 unfold joinedFacts
 rw [jqO,jqN,jqM,jqL,jqK,laidOutP];kernel_rfl
theorem jlL:Rows.OffsetsBoatsSaid:=
 OpenClaim.holds_of_wide_leaving 3 Tryz.f3 rfl rfl rfl rfl rfl rfl rfl ⟨rfl,rfl,rfl,rfl,rfl⟩ rfl rfl rfl rfl rfl zK Tryz.func3 jkD
  (of_decide_eq_true zK) (by unfold Func.isWrapper;first|(rw [if_pos (by decide+kernel)];kernel_rfl)|(rw [if_neg (by decide+kernel)];exact ⟨rfl,rfl⟩))
  (fun os started H enc _=>jkC os started H enc)
theorem jqJ:Rows.offsetsBoatsRow.wfByText (OpenSpec.ofChange Rows.offsetsBoatsSpec)=true:=by kernel_rfl
theorem jmP:true=Rows.offsetsBoatsRow.goesBy Tryz.pinned.checked.prog:=by kernel_rfl
theorem oboats_named: Tryz.prog.funcNamed "ribband/ribbandlaw01.OffsetsBoats" =some 3:=by kernel_rfl
theorem joZ:(Tryz.f3.params.toList.all fun u=>!Tryz.prog.wantsStandIn u)=true:=by kernel_rfl
theorem oboats_card:Rows.OffsetsBoatsCardSaid:=
 card_of .later [.data,.data,.data,.data,.funcsDeep] true (true, "4ff7c1189c36e74e17a2183620bba8cf811f65bafb89284bc5cdf1d26adc3536") false
  jlL jqJ offsetsBoats_row_tie rfl ⟨rfl,rfl⟩ pin_main rfl
  (fun f fn hf hfn=>by
   obtain rfl:f=3:=gF (oboats_named.symm.trans hf)|>.symm
   obtain rfl:fn= Tryz.f3:=(gF (Tryz.func3.symm.trans hfn)).symm
   exact ⟨jqv,fun j t ht=>by
    rw [Tryz.params3] at ht
    have hm:=VL ht
    have hall:=joZ
    rw [Tryz.params3] at hall
    exact (show Tryz.prog.wantsStandIn t=false by simpa using gX.1 hall t (by simpa using hm))⟩)
  jmP
#print axioms oboats_card
end Go.Proofs.YtkaokkedapnfhaaGreatDoor
