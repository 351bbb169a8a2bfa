/- PROVED: the law OffsetsNews (Clash, Ask, Read, Put and Drop agree with the specification for every table, cell and figure), on every schedule of its goroutines; its row and its tied card. Conditions: those of the row: the offsets' tables are as the program's text lays them. -/
import Derived.Test.YtggpepeiedkbbaaGreatDoorWXLOnews2
set_option linter.all false
set_option maxRecDepth 100000
namespace Go.Proofs.YtggpepeiedkbbaaGreatDoor
open Go Go.Lo Go.ChangeShapes Go.WideShapes Go.ChangeAt Go.RowKit Go.Conc
theorem jlY (os:Os) (started:os.Started) (H:Type) (enc:TypeId×Value→H):
  ReturnsInLeavingWide {} Tryz.checked os 15 .any (fun w args=>(Rows.offsetsNewsSpec.pre enc Tryz.prog Tryz.f15 [] false w args∧laidMetH Tryz.prog laidL w)∧sizedMet enc Tryz.prog Tryz.f15 (OpenSpec.ofChange Rows.offsetsNewsSpec) false w args)
   (Rows.offsetsNewsSpec.post enc Tryz.prog Tryz.f15 false true false false):=by
 refine jby (C:= Tryz.checked) (X:=fun w _=>laidMetH Tryz.prog laidL w) (fun _ _ _ hh h=>h.of_heap hh) own started Tryz.func15
  (ChangeSpec.witness_shaped (enc:=enc) (C:= Tryz.checked) (os:=os) (X:=fun w _=>laidMetH Tryz.prog laidL w) false (World.doorLaid Tryz.prog 36 os) #[.agg #[.int .i64 0,.slice none 0 0,.slice none 0 0,.slice none 0 0],.agg #[.bool false,.int .i64 0,.int .i64 0],.string ⟨#[]⟩] 8 rfl (World.shaped_of_RefB zK zK) zK zK zK (joy os _)) ?_
 intro W base args ds gs jbn hval0 hW hL
 have hval: ∀(j:Nat) t v,Tryz.f15.params[j]?=some t→args[j]?=some v→Value.okWide Tryz.prog W .any base t v:=hval0
 have hW':=hW
 obtain ⟨p,q,hA0,hV,rfl,hfz,hnd⟩:=hW
 have hA:DataW.TrodAll enc Tryz.prog W 0 (fun _=>true) true Tryz.f15.params.toList args.toList ds p:=hA0
 rw [Tryz.params15] at hA hval
 obtain ⟨v0,vr0,d0,dr0,p0,q0,ea0,ed0,ep0,h0,hA0⟩:=jb1 hA
 obtain ⟨v1,vr1,d1,dr1,p1,q1,ea1,ed1,ep1,h1,hA1⟩:=jb1 hA0
 obtain ⟨v2,vr2,d2,dr2,p2,q2,ea2,ed2,ep2,h2,hA2⟩:=jb1 hA1
 obtain ⟨ez1,ez2,ez3⟩:=jh8 hA2
 subst ez1 ez2 ez3
 subst ea2 ed2 ep2
 subst ea1 ed1 ep1
 subst ed0 ep0
 obtain rfl:=vE (show args.toList= #[v0,v1,v2].toList from ea0)
 obtain ⟨rfl,rfl⟩:=trodVars_none hV
 have hval0:=hval 0 _ v0 rfl rfl
 have hval1:=hval 1 _ v1 rfl rfl
 have hval2:=hval 2 _ v2 rfl rfl
 have hlt0: ∀x∈p0,x.block<W.heap.size:=fun x hx=>hW'.lt x (by simp [hx])
 have hlt1: ∀x∈p1,x.block<W.heap.size:=fun x hx=>hW'.lt x (by simp [hx])
 have hlt2: ∀x∈p2,x.block<W.heap.size:=fun x hx=>hW'.lt x (by simp [hx])
 haveI:=jq3 hL
 obtain ⟨b,ps,ns,ks,pw,nw,cw,pb,nb,cb,ev0,hcs,rds,rdw,rdb,hin⟩:=tb_arg hval0 h0
 obtain ⟨bt,li,st,ev1,hli,hst⟩:=cell_arg hval1 h1
 obtain ⟨s,ev2,hs⟩:=str_arg hval2 h2
 have run:=jl3 (W:=W) (f:=15) (args:= #[v0,v1,v2]) (by rw [ev0,ev1,ev2];exact f15_t [] rds hcs rdw rdb ⟨bt,li,st⟩ s)
 obtain ⟨M,last,o,w',t',r1,r2,r3,r4⟩:=run
 refine ⟨M,last,o,w',t',r1,r2,r3,r4.mono fun v hF=>?_⟩
 obtain ⟨rfl,hbelow⟩:v= .bool true∧RowKit.Below W.heap.size W w':=hF
 have hq:DataW.TrodAll enc Tryz.prog w' 0 (fun b=>decide (b<W.heap.size)) true Tryz.f15.params.toList #[v0,v1,v2].toList [d0,d1,d2] (p0++(p1++(p2++[]))):=by rw [Tryz.params15];exact (jb0 (Below.trod je2 zK (of_decide_eq_true zK) h0 hbelow hlt0) (jb0 (Below.trod je2 zK (of_decide_eq_true zK) h1 hbelow hlt1) (jb0 (Below.trod je2 zK (of_decide_eq_true zK) h2 hbelow hlt2) rfl)))
 exact E81
theorem onews_j1: Tryz.pinned.checked.prog.inPlace 15=Rows.offsetsNewsRow.inPlace:=by kernel_rfl
theorem onews_j2: Tryz.pinned.checked.prog.unfollowed 15=Rows.offsetsNewsRow.unfollowed:=by kernel_rfl
theorem onews_j3: Tryz.pinned.checked.prog.recurses 15=Rows.offsetsNewsRow.recurses:=by kernel_rfl
theorem onews_j4: Tryz.pinned.checked.prog.varsNamed 15=Rows.offsetsNewsRow.named:=by kernel_rfl
theorem onews_j5:namedTie Tryz.pinned.checked.prog Rows.offsetsNewsRow.named Rows.offsetsNewsSpec.vars=true:=by kernel_rfl
theorem jlZ:joinedFacts Tryz.pinned.checked.prog 15 Tryz.f15 Rows.offsetsNewsSpec Rows.offsetsNewsRow=true:=by
 unfold joinedFacts
 rw [onews_j1,onews_j2,onews_j3,onews_j4,onews_j5,jog];kernel_rfl
theorem jm5:Rows.OffsetsNewsSaid:=
 OpenClaim.holds_of_wide_leaving 15 Tryz.f15 rfl rfl rfl rfl rfl rfl rfl ⟨rfl,rfl,rfl,rfl,rfl⟩ rfl rfl rfl rfl rfl zK Tryz.func15 jlZ
  (of_decide_eq_true zK) (by unfold Func.isWrapper;first|(rw [if_pos (by decide+kernel)];kernel_rfl)|(rw [if_neg (by decide+kernel)];exact ⟨rfl,rfl⟩))
  (fun os started H enc _=>jlY os started H enc)
theorem onews_wf:Rows.offsetsNewsRow.wfByText (OpenSpec.ofChange Rows.offsetsNewsSpec)=true:=by kernel_rfl
theorem jpa:true=Rows.offsetsNewsRow.goesBy Tryz.pinned.checked.prog:=by kernel_rfl
theorem onews_named: Tryz.prog.funcNamed "ribband/ribbandlaw01.OffsetsNews" =some 15:=by kernel_rfl
theorem jqO:(Tryz.f15.params.toList.all fun u=>!Tryz.prog.wantsStandIn u)=true:=by kernel_rfl
theorem onews_card:Rows.OffsetsNewsCardSaid:=
 jrZ .later [.data,.data,.data,.data,.funcsDeep] true (true, "efa58da0d05803ae4d87aecc1d7dc94e05dff7fe0015b2fcbfa254297eea66aa") false
  jm5 onews_wf offsetsNews_row_tie rfl ⟨rfl,rfl⟩ jn0 rfl
  (fun f fn hf hfn=>by
   obtain rfl:f=15:=gF (onews_named.symm.trans hf)|>.symm
   obtain rfl:fn= Tryz.f15:=(gF (Tryz.func15.symm.trans hfn)).symm
   exact ⟨jlV,fun j t ht=>by
    rw [Tryz.params15] at ht
    have hm:=vx ht
    have hall:=jqO
    rw [Tryz.params15] at hall
    exact E82⟩)
  jpa
#print axioms onews_card
end Go.Proofs.YtggpepeiedkbbaaGreatDoor
