/- PROVED: the law OffsetsSplit (the boats of a table are those in which a cell is wrong, and for each measure of Can those in which it is that one; a cell is wrong as sure as these say), on every schedule of its goroutines; its row and its tied card. Conditions: those of the row: the offsets' tables are as the program's text lays them. -/
import Derived.Test.YtggpepeiedkbbaaGreatDoorWXLOsplit1
set_option linter.all false
set_option maxHeartbeats 4000000
set_option maxRecDepth 100000
set_option synthInstance.maxHeartbeats 1000000
set_option synthInstance.maxSize 100000
namespace Go.Proofs.YtggpepeiedkbbaaGreatDoor
open Go Go.Lo Go.ChangeShapes Go.WideShapes Go.ChangeAt Go.RowKit Go.Conc
theorem jlS (os:Os) (started:os.Started) (H:Type) (enc:TypeId×Value→H):
  ReturnsInLeavingWide {} Tryz.checked os 4 .any (fun w args=>(Rows.offsetsSplitSpec.pre enc Tryz.prog Tryz.f4 [] false w args∧laidMetH Tryz.prog laidL w)∧sizedMet enc Tryz.prog Tryz.f4 (OpenSpec.ofChange Rows.offsetsSplitSpec) false w args)
   (Rows.offsetsSplitSpec.post enc Tryz.prog Tryz.f4 false true false false):=by
 refine jaB (C:= Tryz.checked) (X:=fun w _=>laidMetH Tryz.prog laidL w) (fun _ _ _ hh h=>h.of_heap hh) own started Tryz.func4
  (ChangeSpec.witness_shaped (enc:=enc) (C:= Tryz.checked) (os:=os) (X:=fun w _=>laidMetH Tryz.prog laidL w) false (World.doorLaid Tryz.prog 36 os) #[.agg #[.int .i64 0,.slice none 0 0,.slice none 0 0,.slice none 0 0],.int .u8 0] 8 rfl (World.shaped_of_RefB zK zK) zK zK zK (jfi os _)) ?_
 intro W base args ds gs jbX hval0 hW hL
 have hval: ∀(j:Nat) t v,Tryz.f4.params[j]?=some t→args[j]?=some v→Value.okWide Tryz.prog W .any base t v:=hval0
 have hW':=hW
 obtain ⟨p,q,hA0,hV,rfl,hfz,hnd⟩:=hW
 have hA:DataW.TrodAll enc Tryz.prog W 0 (fun _=>true) true Tryz.f4.params.toList args.toList ds p:=hA0
 rw [Tryz.params4] at hA hval
 obtain ⟨v0,vr0,d0,dr0,p0,q0,ea0,ed0,ep0,h0,hA0⟩:=jaz hA
 obtain ⟨v1,vr1,d1,dr1,p1,q1,ea1,ed1,ep1,h1,hA1⟩:=jaz hA0
 obtain ⟨ez1,ez2,ez3⟩:=jcV hA1
 subst ez1 ez2 ez3
 subst ea1 ed1 ep1
 subst ed0 ep0
 obtain rfl:=Array.ext' (show args.toList= #[v0,v1].toList from ea0)
 obtain ⟨rfl,rfl⟩:=trodVars_none hV
 have hval0:=hval 0 _ v0 rfl rfl
 have hval1:=hval 1 _ v1 rfl rfl
 have hlt0: ∀x∈p0,x.block<W.heap.size:=fun x hx=>hW'.lt x (by simp [hx])
 have hlt1: ∀x∈p1,x.block<W.heap.size:=fun x hx=>hW'.lt x (by simp [hx])
 haveI:=jgK hL
 obtain ⟨b,ps,ns,ks,pw,nw,cw,pb,nb,cb,ev0,hcs,rds,rdw,rdb,hin⟩:=ji5 hval0 h0
 obtain ⟨y,ev1,hy⟩:=jeG hval1 h1
 have run:=jem (W:=W) (f:=4) (args:= #[v0,v1]) (by rw [ev0,ev1];exact f4_t [] rds hcs rdw rdb y hy)
 obtain ⟨M,last,o,w',t',r1,r2,r3,r4⟩:=run
 refine ⟨M,last,o,w',t',r1,r2,r3,r4.mono fun v hF=>?_⟩
 obtain ⟨rfl,hbelow⟩:v= .bool true∧RowKit.Below W.heap.size W w':=hF
 have hq:DataW.TrodAll enc Tryz.prog w' 0 (fun b=>decide (b<W.heap.size)) true Tryz.f4.params.toList #[v0,v1].toList [d0,d1] (p0++(p1++[])):=by rw [Tryz.params4];exact (jay (Below.trod jbA zK (of_decide_eq_true zK) h0 hbelow hlt0) (jay (Below.trod jbA zK (of_decide_eq_true zK) h1 hbelow hlt1) rfl))
 exact E81
theorem jtg: Tryz.pinned.checked.prog.inPlace 4=Rows.offsetsSplitRow.inPlace:=by kernel_rfl
theorem jtf: Tryz.pinned.checked.prog.unfollowed 4=Rows.offsetsSplitRow.unfollowed:=by kernel_rfl
theorem jte: Tryz.pinned.checked.prog.recurses 4=Rows.offsetsSplitRow.recurses:=by kernel_rfl
theorem jtd: Tryz.pinned.checked.prog.varsNamed 4=Rows.offsetsSplitRow.named:=by kernel_rfl
theorem jtc:namedTie Tryz.pinned.checked.prog Rows.offsetsSplitRow.named Rows.offsetsSplitSpec.vars=true:=by kernel_rfl
theorem jlT:joinedFacts Tryz.pinned.checked.prog 4 Tryz.f4 Rows.offsetsSplitSpec Rows.offsetsSplitRow=true:=by
 unfold joinedFacts
 rw [jtg,jtf,jte,jtd,jtc,jfb];kernel_rfl
theorem jnp:Rows.OffsetsSplitSaid:=
 OpenClaim.holds_of_wide_leaving 4 Tryz.f4 rfl rfl rfl rfl rfl rfl rfl ⟨rfl,rfl,rfl,rfl,rfl⟩ rfl rfl rfl rfl rfl zK Tryz.func4 jlT
  (of_decide_eq_true zK) (by unfold Func.isWrapper;first|(rw [if_pos (by decide+kernel)];kernel_rfl)|(rw [if_neg (by decide+kernel)];exact ⟨rfl,rfl⟩))
  (fun os started H enc _=>jlS os started H enc)
theorem jtb:Rows.offsetsSplitRow.wfByText (OpenSpec.ofChange Rows.offsetsSplitSpec)=true:=by kernel_rfl
theorem joJ:true=Rows.offsetsSplitRow.goesBy Tryz.pinned.checked.prog:=by kernel_rfl
theorem osplit_named: Tryz.prog.funcNamed "ribband/ribbandlaw01.OffsetsSplit" =some 4:=by kernel_rfl
theorem jrd:(Tryz.f4.params.toList.all fun u=>!Tryz.prog.wantsStandIn u)=true:=by kernel_rfl
theorem osplit_card:Rows.OffsetsSplitCardSaid:=
 jgN .later [.data,.data,.data,.data,.funcsDeep] true (true, "efa58da0d05803ae4d87aecc1d7dc94e05dff7fe0015b2fcbfa254297eea66aa") false
  jnp jtb offsetsSplit_row_tie rfl ⟨rfl,rfl⟩ je5 rfl
  (fun f fn hf hfn=>by
   obtain rfl:f=4:=Option.some.inj (osplit_named.symm.trans hf)|>.symm
   obtain rfl:fn= Tryz.f4:=(Option.some.inj (Tryz.func4.symm.trans hfn)).symm
   exact ⟨jeh,fun j t ht=>by
    rw [Tryz.params4] at ht
    have hm:=Array.mem_of_getElem? ht
    have hall:=jrd
    rw [Tryz.params4] at hall
    exact E82⟩)
  joJ
#print axioms osplit_card
end Go.Proofs.YtggpepeiedkbbaaGreatDoor
