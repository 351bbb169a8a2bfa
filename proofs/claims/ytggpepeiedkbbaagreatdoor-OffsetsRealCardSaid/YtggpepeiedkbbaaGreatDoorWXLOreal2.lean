/- PROVED: the law OffsetsReal (whatever the true boat is, if the cells that are not wrong can be what they are: she is a boat, each of her measures is among Can, cells are wrong as is said, her skin lies within Breadth and Height at her own cells, and Fewest has no more cells), on every schedule of its goroutines; its row and its tied card. Conditions: those of the row: the offsets' tables are as the program's text lays them. -/
import Derived.Test.YtggpepeiedkbbaaGreatDoorWXLOreal1
set_option linter.all false
set_option maxRecDepth 100000
namespace Go.Proofs.YtggpepeiedkbbaaGreatDoor
open Go Go.Lo Go.ChangeShapes Go.WideShapes Go.ChangeAt Go.RowKit Go.Conc
theorem jk2 (os:Os) (started:os.Started) (H:Type) (enc:TypeId×Value→H):
  ReturnsInLeavingWide {} Tryz.checked os 18 .any (fun w args=>(Rows.offsetsRealSpec.pre enc Tryz.prog Tryz.f18 [] false w args∧laidMetH Tryz.prog laidL w)∧sizedMet enc Tryz.prog Tryz.f18 (OpenSpec.ofChange Rows.offsetsRealSpec) false w args)
   (Rows.offsetsRealSpec.post enc Tryz.prog Tryz.f18 false true false false):=by
 refine jce (C:= Tryz.checked) (X:=fun w _=>laidMetH Tryz.prog laidL w) (fun _ _ _ hh h=>h.of_heap hh) own started Tryz.func18
  (ChangeSpec.witness_shaped (enc:=enc) (C:= Tryz.checked) (os:=os) (X:=fun w _=>laidMetH Tryz.prog laidL w) false (World.doorLaid Tryz.prog 36 os) #[.agg #[.int .i64 0,.slice none 0 0,.slice none 0 0,.slice none 0 0],.slice none 0 0,.int .u16 0,.int .u8 0] 8 rfl (World.shaped_of_RefB zK zK) zK zK zK (door_met os _)) ?_
 intro W base args ds gs jbC hval0 hW hL
 have hval: ∀(j:Nat) t v,Tryz.f18.params[j]?=some t→args[j]?=some v→Value.okWide Tryz.prog W .any base t v:=hval0
 have hW':=hW
 obtain ⟨p,q,hA0,hV,rfl,hfz,hnd⟩:=hW
 have hA:DataW.TrodAll enc Tryz.prog W 0 (fun _=>true) true Tryz.f18.params.toList args.toList ds p:=hA0
 rw [Tryz.params18] at hA hval
 obtain ⟨v0,vr0,d0,dr0,p0,q0,ea0,ed0,ep0,h0,hA0⟩:=jdr hA
 obtain ⟨v1,vr1,d1,dr1,p1,q1,ea1,ed1,ep1,h1,hA1⟩:=jdr hA0
 obtain ⟨v2,vr2,d2,dr2,p2,q2,ea2,ed2,ep2,h2,hA2⟩:=jdr hA1
 obtain ⟨v3,vr3,d3,dr3,p3,q3,ea3,ed3,ep3,h3,hA3⟩:=jdr hA2
 obtain ⟨ez1,ez2,ez3⟩:=jlV hA3
 subst ez1 ez2 ez3
 subst ea3 ed3 ep3
 subst ea2 ed2 ep2
 subst ea1 ed1 ep1
 subst ed0 ep0
 obtain rfl:=Gv (show args.toList= #[v0,v1,v2,v3].toList from ea0)
 obtain ⟨rfl,rfl⟩:=trodVars_none hV
 have hval0:=hval 0 _ v0 rfl rfl
 have hval1:=hval 1 _ v1 rfl rfl
 have hval2:=hval 2 _ v2 rfl rfl
 have hval3:=hval 3 _ v3 rfl rfl
 have hlt0: ∀x∈p0,x.block<W.heap.size:=fun x hx=>hW'.lt x (by simp [hx])
 have hlt1: ∀x∈p1,x.block<W.heap.size:=fun x hx=>hW'.lt x (by simp [hx])
 have hlt2: ∀x∈p2,x.block<W.heap.size:=fun x hx=>hW'.lt x (by simp [hx])
 have hlt3: ∀x∈p3,x.block<W.heap.size:=fun x hx=>hW'.lt x (by simp [hx])
 haveI:=laid_of hL
 obtain ⟨b,ps,ns,ks,pw,nw,cw,pb,nb,cb,ev0,hcs,rds,rdw,rdb,hin⟩:=tb_arg hval0 h0
 obtain ⟨pl1,n1,c1,zs1,ev1,rd1,hz1⟩:=jpQ hval1 h1
 obtain ⟨z,ev2,hz⟩:=u16_arg hval2 h2
 obtain ⟨y,ev3,hy⟩:=u8_arg hval3 h3
 have run:=jqe (W:=W) (f:=18) (args:= #[v0,v1,v2,v3]) (by rw [ev0,ev1,ev2,ev3];exact f18_t [] rds hcs rdw rdb rd1 hz1 z y hz hy)
 obtain ⟨M,last,o,w',t',r1,r2,r3,r4⟩:=run
 refine ⟨M,last,o,w',t',r1,r2,r3,r4.mono fun v hF=>?_⟩
 obtain ⟨rfl,hbelow⟩:v= .bool true∧RowKit.Below W.heap.size W w':=hF
 have hq:DataW.TrodAll enc Tryz.prog w' 0 (fun b=>decide (b<W.heap.size)) true Tryz.f18.params.toList #[v0,v1,v2,v3].toList [d0,d1,d2,d3] (p0++(p1++(p2++(p3++[])))):=by rw [Tryz.params18];exact (jdq (Below.trod jhW zK (of_decide_eq_true zK) h0 hbelow hlt0) (jdq (Below.trod jhW zK (of_decide_eq_true zK) h1 hbelow hlt1) (jdq (Below.trod jhW zK (of_decide_eq_true zK) h2 hbelow hlt2) (jdq (Below.trod jhW zK (of_decide_eq_true zK) h3 hbelow hlt3) rfl))))
 exact ⟨_,_,_,[],_,[],hW',trodAll_mk1 (shut_bool Tryz.underlying4 _),hq,rfl,hbelow.frame _,fun h=>by cases h⟩
theorem oreal_j1: Tryz.pinned.checked.prog.inPlace 18=Rows.offsetsRealRow.inPlace:=by kernel_rfl
theorem oreal_j2: Tryz.pinned.checked.prog.unfollowed 18=Rows.offsetsRealRow.unfollowed:=by kernel_rfl
theorem oreal_j3: Tryz.pinned.checked.prog.recurses 18=Rows.offsetsRealRow.recurses:=by kernel_rfl
theorem oreal_j4: Tryz.pinned.checked.prog.varsNamed 18=Rows.offsetsRealRow.named:=by kernel_rfl
theorem oreal_j5:namedTie Tryz.pinned.checked.prog Rows.offsetsRealRow.named Rows.offsetsRealSpec.vars=true:=by kernel_rfl
theorem jk3:joinedFacts Tryz.pinned.checked.prog 18 Tryz.f18 Rows.offsetsRealSpec Rows.offsetsRealRow=true:=by
 unfold joinedFacts
 rw [oreal_j1,oreal_j2,oreal_j3,oreal_j4,oreal_j5,laidOutP];kernel_rfl
theorem jl9:Rows.OffsetsRealSaid:=
 OpenClaim.holds_of_wide_leaving 18 Tryz.f18 rfl rfl rfl rfl rfl rfl rfl ⟨rfl,rfl,rfl,rfl,rfl⟩ rfl rfl rfl rfl rfl zK Tryz.func18 jk3
  (of_decide_eq_true zK) (by unfold Func.isWrapper;first|(rw [if_pos (by decide+kernel)];kernel_rfl)|(rw [if_neg (by decide+kernel)];exact ⟨rfl,rfl⟩))
  (fun os started H enc _=>jk2 os started H enc)
theorem oreal_wf:Rows.offsetsRealRow.wfByText (OpenSpec.ofChange Rows.offsetsRealSpec)=true:=by kernel_rfl
theorem joo:true=Rows.offsetsRealRow.goesBy Tryz.pinned.checked.prog:=by kernel_rfl
theorem oreal_named: Tryz.prog.funcNamed "ribband/ribbandlaw01.OffsetsReal" =some 18:=by kernel_rfl
theorem jpZ:(Tryz.f18.params.toList.all fun u=>!Tryz.prog.wantsStandIn u)=true:=by kernel_rfl
theorem oreal_card:Rows.OffsetsRealCardSaid:=
 card_of .later [.data,.data,.data,.data,.funcsDeep] true (true, "efa58da0d05803ae4d87aecc1d7dc94e05dff7fe0015b2fcbfa254297eea66aa") false
  jl9 oreal_wf offsetsReal_row_tie rfl ⟨rfl,rfl⟩ pin_main rfl
  (fun f fn hf hfn=>by
   obtain rfl:f=18:=gD (oreal_named.symm.trans hf)|>.symm
   obtain rfl:fn= Tryz.f18:=(gD (Tryz.func18.symm.trans hfn)).symm
   exact ⟨jpO,fun j t ht=>by
    rw [Tryz.params18] at ht
    have hm:=VI ht
    have hall:=jpZ
    rw [Tryz.params18] at hall
    exact (show Tryz.prog.wantsStandIn t=false by simpa using gT.1 hall t (by simpa using hm))⟩)
  joo
#print axioms oreal_card
end Go.Proofs.YtggpepeiedkbbaaGreatDoor
