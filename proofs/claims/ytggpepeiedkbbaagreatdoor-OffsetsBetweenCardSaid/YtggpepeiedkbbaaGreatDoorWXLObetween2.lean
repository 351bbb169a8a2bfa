/- PROVED: the law OffsetsBetween (Breadth and Height agree with the specification for every table, station, height and breadth), on every schedule of its goroutines; its row and its tied card. Conditions: those of the row: the offsets' tables are as the program's text lays them. -/
import Derived.Test.YtggpepeiedkbbaaGreatDoorWXLObetween1
set_option linter.all false
set_option maxRecDepth 100000
namespace Go.Proofs.YtggpepeiedkbbaaGreatDoor
open Go Go.Lo Go.ChangeShapes Go.WideShapes Go.ChangeAt Go.RowKit Go.Conc
theorem jiB (os:Os) (started:os.Started) (H:Type) (enc:TypeId×Value→H):
  ReturnsInLeavingWide {} Tryz.checked os 3 .any (fun w args=>(Rows.offsetsBetweenSpec.pre enc Tryz.prog Tryz.f3 [] false w args∧laidMetH Tryz.prog laidL w)∧sizedMet enc Tryz.prog Tryz.f3 (OpenSpec.ofChange Rows.offsetsBetweenSpec) false w args)
   (Rows.offsetsBetweenSpec.post enc Tryz.prog Tryz.f3 false true false false):=by
 refine jby (C:= Tryz.checked) (X:=fun w _=>laidMetH Tryz.prog laidL w) (fun _ _ _ hh h=>h.of_heap hh) own started Tryz.func3
  (ChangeSpec.witness_shaped (enc:=enc) (C:= Tryz.checked) (os:=os) (X:=fun w _=>laidMetH Tryz.prog laidL w) false (World.doorLaid Tryz.prog 36 os) #[.agg #[.int .i64 0,.slice none 0 0,.slice none 0 0,.slice none 0 0],.int .i64 0,.int .i64 0,.int .i64 0] 8 rfl (World.shaped_of_RefB zK zK) zK zK zK (joy os _)) ?_
 intro W base args ds gs jbn hval0 hW hL
 have hval: ∀(j:Nat) t v,Tryz.f3.params[j]?=some t→args[j]?=some v→Value.okWide Tryz.prog W .any base t v:=hval0
 have hW':=hW
 obtain ⟨p,q,hA0,hV,rfl,hfz,hnd⟩:=hW
 have hA:DataW.TrodAll enc Tryz.prog W 0 (fun _=>true) true Tryz.f3.params.toList args.toList ds p:=hA0
 rw [Tryz.params3] at hA hval
 obtain ⟨v0,vr0,d0,dr0,p0,q0,ea0,ed0,ep0,h0,hA0⟩:=jb1 hA
 obtain ⟨v1,vr1,d1,dr1,p1,q1,ea1,ed1,ep1,h1,hA1⟩:=jb1 hA0
 obtain ⟨v2,vr2,d2,dr2,p2,q2,ea2,ed2,ep2,h2,hA2⟩:=jb1 hA1
 obtain ⟨v3,vr3,d3,dr3,p3,q3,ea3,ed3,ep3,h3,hA3⟩:=jb1 hA2
 obtain ⟨ez1,ez2,ez3⟩:=jh8 hA3
 subst ez1 ez2 ez3
 subst ea3 ed3 ep3
 subst ea2 ed2 ep2
 subst ea1 ed1 ep1
 subst ed0 ep0
 obtain rfl:=vE (show args.toList= #[v0,v1,v2,v3].toList from ea0)
 obtain ⟨rfl,rfl⟩:=trodVars_none hV
 have hval0:=hval 0 _ v0 rfl rfl
 have hval1:=hval 1 _ v1 rfl rfl
 have hval2:=hval 2 _ v2 rfl rfl
 have hval3:=hval 3 _ v3 rfl rfl
 have hlt0: ∀x∈p0,x.block<W.heap.size:=fun x hx=>hW'.lt x (by simp [hx])
 have hlt1: ∀x∈p1,x.block<W.heap.size:=fun x hx=>hW'.lt x (by simp [hx])
 have hlt2: ∀x∈p2,x.block<W.heap.size:=fun x hx=>hW'.lt x (by simp [hx])
 have hlt3: ∀x∈p3,x.block<W.heap.size:=fun x hx=>hW'.lt x (by simp [hx])
 haveI:=jq3 hL
 obtain ⟨b,ps,ns,ks,pw,nw,cw,pb,nb,cb,ev0,hcs,rds,rdw,rdb,hin⟩:=tb_arg hval0 h0
 obtain ⟨st,ev1,hst⟩:=jnk hval1 h1
 obtain ⟨x1,ev2,hx1⟩:=jnk hval2 h2
 obtain ⟨x2,ev3,hx2⟩:=jnk hval3 h3
 have run:=jl3 (W:=W) (f:=3) (args:= #[v0,v1,v2,v3]) (by rw [ev0,ev1,ev2,ev3];exact f3_t [] rds hcs rdw rdb st x1 x2)
 obtain ⟨M,last,o,w',t',r1,r2,r3,r4⟩:=run
 refine ⟨M,last,o,w',t',r1,r2,r3,r4.mono fun v hF=>?_⟩
 obtain ⟨rfl,hbelow⟩:v= .bool true∧RowKit.Below W.heap.size W w':=hF
 have hq:DataW.TrodAll enc Tryz.prog w' 0 (fun b=>decide (b<W.heap.size)) true Tryz.f3.params.toList #[v0,v1,v2,v3].toList [d0,d1,d2,d3] (p0++(p1++(p2++(p3++[])))):=by rw [Tryz.params3];exact (jb0 (Below.trod je2 zK (of_decide_eq_true zK) h0 hbelow hlt0) (jb0 (Below.trod je2 zK (of_decide_eq_true zK) h1 hbelow hlt1) (jb0 (Below.trod je2 zK (of_decide_eq_true zK) h2 hbelow hlt2) (jb0 (Below.trod je2 zK (of_decide_eq_true zK) h3 hbelow hlt3) rfl))))
 exact E81
theorem jnc: Tryz.pinned.checked.prog.inPlace 3=Rows.offsetsBetweenRow.inPlace:=by kernel_rfl
theorem jnb: Tryz.pinned.checked.prog.unfollowed 3=Rows.offsetsBetweenRow.unfollowed:=by kernel_rfl
theorem jna: Tryz.pinned.checked.prog.recurses 3=Rows.offsetsBetweenRow.recurses:=by kernel_rfl
theorem jm9: Tryz.pinned.checked.prog.varsNamed 3=Rows.offsetsBetweenRow.named:=by kernel_rfl
theorem jm8:namedTie Tryz.pinned.checked.prog Rows.offsetsBetweenRow.named Rows.offsetsBetweenSpec.vars=true:=by kernel_rfl
theorem jiC:joinedFacts Tryz.pinned.checked.prog 3 Tryz.f3 Rows.offsetsBetweenSpec Rows.offsetsBetweenRow=true:=by
 unfold joinedFacts
 rw [jnc,jnb,jna,jm9,jm8,jog];kernel_rfl
theorem jjq:Rows.OffsetsBetweenSaid:=
 OpenClaim.holds_of_wide_leaving 3 Tryz.f3 rfl rfl rfl rfl rfl rfl rfl ⟨rfl,rfl,rfl,rfl,rfl⟩ rfl rfl rfl rfl rfl zK Tryz.func3 jiC
  (of_decide_eq_true zK) (by unfold Func.isWrapper;first|(rw [if_pos (by decide+kernel)];kernel_rfl)|(rw [if_neg (by decide+kernel)];exact ⟨rfl,rfl⟩))
  (fun os started H enc _=>jiB os started H enc)
theorem jm7:Rows.offsetsBetweenRow.wfByText (OpenSpec.ofChange Rows.offsetsBetweenSpec)=true:=by kernel_rfl
theorem jkH:true=Rows.offsetsBetweenRow.goesBy Tryz.pinned.checked.prog:=by kernel_rfl
theorem obetween_named: Tryz.prog.funcNamed "ribband/ribbandlaw01.OffsetsBetween" =some 3:=by kernel_rfl
theorem jl0:(Tryz.f3.params.toList.all fun u=>!Tryz.prog.wantsStandIn u)=true:=by kernel_rfl
theorem obetween_card:Rows.OffsetsBetweenCardSaid:=
 jrZ .later [.data,.data,.data,.data,.funcsDeep] true (true, "efa58da0d05803ae4d87aecc1d7dc94e05dff7fe0015b2fcbfa254297eea66aa") false
  jjq jm7 offsetsBetween_row_tie rfl ⟨rfl,rfl⟩ jn0 rfl
  (fun f fn hf hfn=>by
   obtain rfl:f=3:=gF (obetween_named.symm.trans hf)|>.symm
   obtain rfl:fn= Tryz.f3:=(gF (Tryz.func3.symm.trans hfn)).symm
   exact ⟨jlV,fun j t ht=>by
    rw [Tryz.params3] at ht
    have hm:=vx ht
    have hall:=jl0
    rw [Tryz.params3] at hall
    exact E82⟩)
  jkH
#print axioms obetween_card
end Go.Proofs.YtggpepeiedkbbaaGreatDoor
