/- PROVED: the law OffsetsRead (what is read of a figure never adds a boat, or a measure to any cell, and never widens what lies between; the cell's figure has what was read of both), on every schedule of its goroutines; its row and its tied card. Conditions: those of the row: the offsets' tables are as the program's text lays them. -/
import Derived.Test.YtggpepeiedkbbaaGreatDoorWXLOread1
set_option linter.all false
set_option maxRecDepth 100000
namespace Go.Proofs.YtggpepeiedkbbaaGreatDoor
open Go Go.Lo Go.ChangeShapes Go.WideShapes Go.ChangeAt Go.RowKit Go.Conc
theorem jnr (os:Os) (started:os.Started) (H:Type) (enc:TypeId×Value→H):
  ReturnsInLeavingWide {} Tryz.checked os 11 .any (fun w args=>(Rows.offsetsReadSpec.pre enc Tryz.prog Tryz.f11 [] false w args∧laidMetH Tryz.prog laidL w)∧sizedMet enc Tryz.prog Tryz.f11 (OpenSpec.ofChange Rows.offsetsReadSpec) false w args)
   (Rows.offsetsReadSpec.post enc Tryz.prog Tryz.f11 false true false false):=by
 refine jaB (C:= Tryz.checked) (X:=fun w _=>laidMetH Tryz.prog laidL w) (fun _ _ _ hh h=>h.of_heap hh) own started Tryz.func11
  (ChangeSpec.witness_shaped (enc:=enc) (C:= Tryz.checked) (os:=os) (X:=fun w _=>laidMetH Tryz.prog laidL w) false (World.doorLaid Tryz.prog 36 os) #[.agg #[.int .i64 0,.slice none 0 0,.slice none 0 0,.slice none 0 0],.int .u8 0,.int .u8 0,.string ⟨#[]⟩,.int .u8 0,.int .u16 0] 8 rfl (World.shaped_of_RefB zK zK) zK zK zK (jfi os _)) ?_
 intro W base args ds gs jbX hval0 hW hL
 have hval: ∀(j:Nat) t v,Tryz.f11.params[j]?=some t→args[j]?=some v→Value.okWide Tryz.prog W .any base t v:=hval0
 have hW':=hW
 obtain ⟨p,q,hA0,hV,rfl,hfz,hnd⟩:=hW
 have hA:DataW.TrodAll enc Tryz.prog W 0 (fun _=>true) true Tryz.f11.params.toList args.toList ds p:=hA0
 rw [Tryz.params11] at hA hval
 obtain ⟨v0,vr0,d0,dr0,p0,q0,ea0,ed0,ep0,h0,hA0⟩:=jaz hA
 obtain ⟨v1,vr1,d1,dr1,p1,q1,ea1,ed1,ep1,h1,hA1⟩:=jaz hA0
 obtain ⟨v2,vr2,d2,dr2,p2,q2,ea2,ed2,ep2,h2,hA2⟩:=jaz hA1
 obtain ⟨v3,vr3,d3,dr3,p3,q3,ea3,ed3,ep3,h3,hA3⟩:=jaz hA2
 obtain ⟨v4,vr4,d4,dr4,p4,q4,ea4,ed4,ep4,h4,hA4⟩:=jaz hA3
 obtain ⟨v5,vr5,d5,dr5,p5,q5,ea5,ed5,ep5,h5,hA5⟩:=jaz hA4
 obtain ⟨ez1,ez2,ez3⟩:=jcV hA5
 subst ez1 ez2 ez3
 subst ea5 ed5 ep5
 subst ea4 ed4 ep4
 subst ea3 ed3 ep3
 subst ea2 ed2 ep2
 subst ea1 ed1 ep1
 subst ed0 ep0
 obtain rfl:=Array.ext' (show args.toList= #[v0,v1,v2,v3,v4,v5].toList from ea0)
 obtain ⟨rfl,rfl⟩:=trodVars_none hV
 have hval0:=hval 0 _ v0 rfl rfl
 have hval1:=hval 1 _ v1 rfl rfl
 have hval2:=hval 2 _ v2 rfl rfl
 have hval3:=hval 3 _ v3 rfl rfl
 have hval4:=hval 4 _ v4 rfl rfl
 have hval5:=hval 5 _ v5 rfl rfl
 have hlt0: ∀x∈p0,x.block<W.heap.size:=fun x hx=>hW'.lt x (by simp [hx])
 have hlt1: ∀x∈p1,x.block<W.heap.size:=fun x hx=>hW'.lt x (by simp [hx])
 have hlt2: ∀x∈p2,x.block<W.heap.size:=fun x hx=>hW'.lt x (by simp [hx])
 have hlt3: ∀x∈p3,x.block<W.heap.size:=fun x hx=>hW'.lt x (by simp [hx])
 have hlt4: ∀x∈p4,x.block<W.heap.size:=fun x hx=>hW'.lt x (by simp [hx])
 have hlt5: ∀x∈p5,x.block<W.heap.size:=fun x hx=>hW'.lt x (by simp [hx])
 haveI:=jgK hL
 obtain ⟨b,ps,ns,ks,pw,nw,cw,pb,nb,cb,ev0,hcs,rds,rdw,rdb,hin⟩:=ji5 hval0 h0
 obtain ⟨y,ev1,hy⟩:=jeG hval1 h1
 obtain ⟨y2,ev2,hy2⟩:=jeG hval2 h2
 obtain ⟨s,ev3,hs⟩:=str_arg hval3 h3
 obtain ⟨y3,ev4,hy3⟩:=jeG hval4 h4
 obtain ⟨x1,ev5,hx1⟩:=jgw hval5 h5
 have run:=jem (W:=W) (f:=11) (args:= #[v0,v1,v2,v3,v4,v5]) (by rw [ev0,ev1,ev2,ev3,ev4,ev5];exact f11_t [] rds hcs rdw rdb y y2 y3 x1 s hy hy2 hy3 hx1)
 obtain ⟨M,last,o,w',t',r1,r2,r3,r4⟩:=run
 refine ⟨M,last,o,w',t',r1,r2,r3,r4.mono fun v hF=>?_⟩
 obtain ⟨rfl,hbelow⟩:v= .bool true∧RowKit.Below W.heap.size W w':=hF
 have hq:DataW.TrodAll enc Tryz.prog w' 0 (fun b=>decide (b<W.heap.size)) true Tryz.f11.params.toList #[v0,v1,v2,v3,v4,v5].toList [d0,d1,d2,d3,d4,d5] (p0++(p1++(p2++(p3++(p4++(p5++[])))))):=by rw [Tryz.params11];exact (jay (Below.trod jbA zK (of_decide_eq_true zK) h0 hbelow hlt0) (jay (Below.trod jbA zK (of_decide_eq_true zK) h1 hbelow hlt1) (jay (Below.trod jbA zK (of_decide_eq_true zK) h2 hbelow hlt2) (jay (Below.trod jbA zK (of_decide_eq_true zK) h3 hbelow hlt3) (jay (Below.trod jbA zK (of_decide_eq_true zK) h4 hbelow hlt4) (jay (Below.trod jbA zK (of_decide_eq_true zK) h5 hbelow hlt5) rfl))))))
 exact E81
theorem oread_j1: Tryz.pinned.checked.prog.inPlace 11=Rows.offsetsReadRow.inPlace:=by kernel_rfl
theorem oread_j2: Tryz.pinned.checked.prog.unfollowed 11=Rows.offsetsReadRow.unfollowed:=by kernel_rfl
theorem oread_j3: Tryz.pinned.checked.prog.recurses 11=Rows.offsetsReadRow.recurses:=by kernel_rfl
theorem oread_j4: Tryz.pinned.checked.prog.varsNamed 11=Rows.offsetsReadRow.named:=by kernel_rfl
theorem oread_j5:namedTie Tryz.pinned.checked.prog Rows.offsetsReadRow.named Rows.offsetsReadSpec.vars=true:=by kernel_rfl
theorem jns:joinedFacts Tryz.pinned.checked.prog 11 Tryz.f11 Rows.offsetsReadSpec Rows.offsetsReadRow=true:=by
 unfold joinedFacts
 rw [oread_j1,oread_j2,oread_j3,oread_j4,oread_j5,jfb];kernel_rfl
theorem joL:Rows.OffsetsReadSaid:=
 OpenClaim.holds_of_wide_leaving 11 Tryz.f11 rfl rfl rfl rfl rfl rfl rfl ⟨rfl,rfl,rfl,rfl,rfl⟩ rfl rfl rfl rfl rfl zK Tryz.func11 jns
  (of_decide_eq_true zK) (by unfold Func.isWrapper;first|(rw [if_pos (by decide+kernel)];kernel_rfl)|(rw [if_neg (by decide+kernel)];exact ⟨rfl,rfl⟩))
  (fun os started H enc _=>jnr os started H enc)
theorem oread_wf:Rows.offsetsReadRow.wfByText (OpenSpec.ofChange Rows.offsetsReadSpec)=true:=by kernel_rfl
theorem jrk:true=Rows.offsetsReadRow.goesBy Tryz.pinned.checked.prog:=by kernel_rfl
theorem oread_named: Tryz.prog.funcNamed "ribband/ribbandlaw01.OffsetsRead" =some 11:=by kernel_rfl
theorem jth:(Tryz.f11.params.toList.all fun u=>!Tryz.prog.wantsStandIn u)=true:=by kernel_rfl
theorem oread_card:Rows.OffsetsReadCardSaid:=
 jgN .later [.data,.data,.data,.data,.funcsDeep] true (true, "efa58da0d05803ae4d87aecc1d7dc94e05dff7fe0015b2fcbfa254297eea66aa") false
  joL oread_wf offsetsRead_row_tie rfl ⟨rfl,rfl⟩ je5 rfl
  (fun f fn hf hfn=>by
   obtain rfl:f=11:=Option.some.inj (oread_named.symm.trans hf)|>.symm
   obtain rfl:fn= Tryz.f11:=(Option.some.inj (Tryz.func11.symm.trans hfn)).symm
   exact ⟨jeh,fun j t ht=>by
    rw [Tryz.params11] at ht
    have hm:=Array.mem_of_getElem? ht
    have hall:=jth
    rw [Tryz.params11] at hall
    exact E82⟩)
  jrk
#print axioms oread_card
end Go.Proofs.YtggpepeiedkbbaaGreatDoor
