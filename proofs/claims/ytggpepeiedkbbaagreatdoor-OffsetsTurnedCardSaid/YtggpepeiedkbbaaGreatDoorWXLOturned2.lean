/- PROVED: the law OffsetsTurned (a table that is turned about has as many boats; a cell can be what it could be, and is wrong as it was; its Breadth is the other one's Height), on every schedule of its goroutines; its row and its tied card. Conditions: those of the row: the offsets' tables are as the program's text lays them. -/
import Derived.Test.YtggpepeiedkbbaaGreatDoorWXLOturned1
set_option linter.all false
set_option maxRecDepth 100000
namespace Go.Proofs.YtggpepeiedkbbaaGreatDoor
open Go Go.Lo Go.ChangeShapes Go.WideShapes Go.ChangeAt Go.RowKit Go.Conc
theorem jkv (os:Os) (started:os.Started) (H:Type) (enc:TypeId×Value→H):
  ReturnsInLeavingWide {} Tryz.checked os 6 .any (fun w args=>(Rows.offsetsTurnedSpec.pre enc Tryz.prog Tryz.f6 [] false w args∧laidMetH Tryz.prog laidL w)∧sizedMet enc Tryz.prog Tryz.f6 (OpenSpec.ofChange Rows.offsetsTurnedSpec) false w args)
   (Rows.offsetsTurnedSpec.post enc Tryz.prog Tryz.f6 false true false false):=by
 refine jaB (C:= Tryz.checked) (X:=fun w _=>laidMetH Tryz.prog laidL w) (fun _ _ _ hh h=>h.of_heap hh) own started Tryz.func6
  (ChangeSpec.witness_shaped (enc:=enc) (C:= Tryz.checked) (os:=os) (X:=fun w _=>laidMetH Tryz.prog laidL w) false (World.doorLaid Tryz.prog 36 os) #[.agg #[.int .i64 0,.slice none 0 0,.slice none 0 0,.slice none 0 0],.int .u8 0,.int .u8 0,.int .u16 0] 8 rfl (World.shaped_of_RefB zK zK) zK zK zK (jfi os _)) ?_
 intro W base args ds gs jbX hval0 hW hL
 have hval: ∀(j:Nat) t v,Tryz.f6.params[j]?=some t→args[j]?=some v→Value.okWide Tryz.prog W .any base t v:=hval0
 have hW':=hW
 obtain ⟨p,q,hA0,hV,rfl,hfz,hnd⟩:=hW
 have hA:DataW.TrodAll enc Tryz.prog W 0 (fun _=>true) true Tryz.f6.params.toList args.toList ds p:=hA0
 rw [Tryz.params6] at hA hval
 obtain ⟨v0,vr0,d0,dr0,p0,q0,ea0,ed0,ep0,h0,hA0⟩:=jaz hA
 obtain ⟨v1,vr1,d1,dr1,p1,q1,ea1,ed1,ep1,h1,hA1⟩:=jaz hA0
 obtain ⟨v2,vr2,d2,dr2,p2,q2,ea2,ed2,ep2,h2,hA2⟩:=jaz hA1
 obtain ⟨v3,vr3,d3,dr3,p3,q3,ea3,ed3,ep3,h3,hA3⟩:=jaz hA2
 obtain ⟨ez1,ez2,ez3⟩:=jcV hA3
 subst ez1 ez2 ez3
 subst ea3 ed3 ep3
 subst ea2 ed2 ep2
 subst ea1 ed1 ep1
 subst ed0 ep0
 obtain rfl:=Array.ext' (show args.toList= #[v0,v1,v2,v3].toList from ea0)
 obtain ⟨rfl,rfl⟩:=trodVars_none hV
 have hval0:=hval 0 _ v0 rfl rfl
 have hval1:=hval 1 _ v1 rfl rfl
 have hval2:=hval 2 _ v2 rfl rfl
 have hval3:=hval 3 _ v3 rfl rfl
 have hlt0: ∀x∈p0,x.block<W.heap.size:=fun x hx=>hW'.lt x (by simp [hx])
 have hlt1: ∀x∈p1,x.block<W.heap.size:=fun x hx=>hW'.lt x (by simp [hx])
 have hlt2: ∀x∈p2,x.block<W.heap.size:=fun x hx=>hW'.lt x (by simp [hx])
 have hlt3: ∀x∈p3,x.block<W.heap.size:=fun x hx=>hW'.lt x (by simp [hx])
 haveI:=jgK hL
 obtain ⟨b,ps,ns,ks,pw,nw,cw,pb,nb,cb,ev0,hcs,rds,rdw,rdb,hin⟩:=ji5 hval0 h0
 obtain ⟨y,ev1,hy⟩:=jeG hval1 h1
 obtain ⟨y2,ev2,hy2⟩:=jeG hval2 h2
 obtain ⟨x1,ev3,hx1⟩:=jgw hval3 h3
 have run:=jem (W:=W) (f:=6) (args:= #[v0,v1,v2,v3]) (by rw [ev0,ev1,ev2,ev3];exact f6_t [] rds hcs rdw rdb y y2 x1 hy hy2 hx1)
 obtain ⟨M,last,o,w',t',r1,r2,r3,r4⟩:=run
 refine ⟨M,last,o,w',t',r1,r2,r3,r4.mono fun v hF=>?_⟩
 obtain ⟨rfl,hbelow⟩:v= .bool true∧RowKit.Below W.heap.size W w':=hF
 have hq:DataW.TrodAll enc Tryz.prog w' 0 (fun b=>decide (b<W.heap.size)) true Tryz.f6.params.toList #[v0,v1,v2,v3].toList [d0,d1,d2,d3] (p0++(p1++(p2++(p3++[])))):=by rw [Tryz.params6];exact (jay (Below.trod jbA zK (of_decide_eq_true zK) h0 hbelow hlt0) (jay (Below.trod jbA zK (of_decide_eq_true zK) h1 hbelow hlt1) (jay (Below.trod jbA zK (of_decide_eq_true zK) h2 hbelow hlt2) (jay (Below.trod jbA zK (of_decide_eq_true zK) h3 hbelow hlt3) rfl))))
 exact E81
theorem jrc: Tryz.pinned.checked.prog.inPlace 6=Rows.offsetsTurnedRow.inPlace:=by kernel_rfl
theorem jrb: Tryz.pinned.checked.prog.unfollowed 6=Rows.offsetsTurnedRow.unfollowed:=by kernel_rfl
theorem jra: Tryz.pinned.checked.prog.recurses 6=Rows.offsetsTurnedRow.recurses:=by kernel_rfl
theorem jq9: Tryz.pinned.checked.prog.varsNamed 6=Rows.offsetsTurnedRow.named:=by kernel_rfl
theorem jq8:namedTie Tryz.pinned.checked.prog Rows.offsetsTurnedRow.named Rows.offsetsTurnedSpec.vars=true:=by kernel_rfl
theorem jkw:joinedFacts Tryz.pinned.checked.prog 6 Tryz.f6 Rows.offsetsTurnedSpec Rows.offsetsTurnedRow=true:=by
 unfold joinedFacts
 rw [jrc,jrb,jra,jq9,jq8,jfb];kernel_rfl
theorem jlR:Rows.OffsetsTurnedSaid:=
 OpenClaim.holds_of_wide_leaving 6 Tryz.f6 rfl rfl rfl rfl rfl rfl rfl ⟨rfl,rfl,rfl,rfl,rfl⟩ rfl rfl rfl rfl rfl zK Tryz.func6 jkw
  (of_decide_eq_true zK) (by unfold Func.isWrapper;first|(rw [if_pos (by decide+kernel)];kernel_rfl)|(rw [if_neg (by decide+kernel)];exact ⟨rfl,rfl⟩))
  (fun os started H enc _=>jkv os started H enc)
theorem jq7:Rows.offsetsTurnedRow.wfByText (OpenSpec.ofChange Rows.offsetsTurnedSpec)=true:=by kernel_rfl
theorem jno:true=Rows.offsetsTurnedRow.goesBy Tryz.pinned.checked.prog:=by kernel_rfl
theorem oturned_named: Tryz.prog.funcNamed "ribband/ribbandlaw01.OffsetsTurned" =some 6:=by kernel_rfl
theorem joI:(Tryz.f6.params.toList.all fun u=>!Tryz.prog.wantsStandIn u)=true:=by kernel_rfl
theorem oturned_card:Rows.OffsetsTurnedCardSaid:=
 jgN .later [.data,.data,.data,.data,.funcsDeep] true (true, "efa58da0d05803ae4d87aecc1d7dc94e05dff7fe0015b2fcbfa254297eea66aa") false
  jlR jq7 offsetsTurned_row_tie rfl ⟨rfl,rfl⟩ je5 rfl
  (fun f fn hf hfn=>by
   obtain rfl:f=6:=Option.some.inj (oturned_named.symm.trans hf)|>.symm
   obtain rfl:fn= Tryz.f6:=(Option.some.inj (Tryz.func6.symm.trans hfn)).symm
   exact ⟨jeh,fun j t ht=>by
    rw [Tryz.params6] at ht
    have hm:=Array.mem_of_getElem? ht
    have hall:=joI
    rw [Tryz.params6] at hall
    exact E82⟩)
  jno
#print axioms oturned_card
end Go.Proofs.YtggpepeiedkbbaaGreatDoor
