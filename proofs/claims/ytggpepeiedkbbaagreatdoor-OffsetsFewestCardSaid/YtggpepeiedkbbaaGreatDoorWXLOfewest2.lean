/- PROVED: the law OffsetsFewest (if the cells of Fewest were not measured the table is sound; no fewer cells do, nor as many and a lesser list; there is a boat just if there are no more of them than Wrong allows), on every schedule of its goroutines; its row and its tied card. Conditions: those of the row: the offsets' tables are as the program's text lays them. -/
import Derived.Test.YtggpepeiedkbbaaGreatDoorWXLOfewest1
set_option linter.all false
namespace Go.Proofs.YtggpepeiedkbbaaGreatDoor
open Go Go.Lo Go.ChangeShapes Go.WideShapes Go.ChangeAt Go.RowKit Go.Conc
set_option maxRecDepth 100000
theorem jhX (os:Os) (started:os.Started) (H:Type) (enc:TypeId×Value→H):
  ReturnsInLeavingWide {} Tryz.checked os 8 .any (fun w args=>(Rows.offsetsFewestSpec.pre enc Tryz.prog Tryz.f8 [] false w args∧laidMetH Tryz.prog laidL w)∧sizedMet enc Tryz.prog Tryz.f8 (OpenSpec.ofChange Rows.offsetsFewestSpec) false w args)
   (Rows.offsetsFewestSpec.post enc Tryz.prog Tryz.f8 false true false false):=by
 refine jbV (C:= Tryz.checked) (X:=fun w _=>laidMetH Tryz.prog laidL w) (fun _ _ _ hh h=>h.of_heap hh) own started Tryz.func8
  (ChangeSpec.witness_shaped (enc:=enc) (C:= Tryz.checked) (os:=os) (X:=fun w _=>laidMetH Tryz.prog laidL w) false (World.doorLaid Tryz.prog 36 os) #[.agg #[.int .i64 0,.slice none 0 0,.slice none 0 0,.slice none 0 0],.int .u16 0] 8 rfl (World.shaped_of_RefB zK zK) zK zK zK (door_met os _)) ?_
 intro W base args ds gs ja5 hval0 hW hL
 have hval: ∀(j:Nat) t v,Tryz.f8.params[j]?=some t→args[j]?=some v→Value.okWide Tryz.prog W .any base t v:=hval0
 have hW':=hW
 obtain ⟨p,q,hA0,hV,rfl,hfz,hnd⟩:=hW
 have hA:DataW.TrodAll enc Tryz.prog W 0 (fun _=>true) true Tryz.f8.params.toList args.toList ds p:=hA0
 rw [Tryz.params8] at hA hval
 obtain ⟨v0,vr0,d0,dr0,p0,q0,ea0,ed0,ep0,h0,hA0⟩:=jf4 hA
 obtain ⟨v1,vr1,d1,dr1,p1,q1,ea1,ed1,ep1,h1,hA1⟩:=jf4 hA0
 obtain ⟨ez1,ez2,ez3⟩:=jkN hA1
 subst ez1 ez2 ez3
 subst ea1 ed1 ep1
 subst ed0 ep0
 obtain rfl:=Array.ext' (show args.toList= #[v0,v1].toList from ea0)
 obtain ⟨rfl,rfl⟩:=trodVars_none hV
 have hval0:=hval 0 _ v0 rfl rfl
 have hval1:=hval 1 _ v1 rfl rfl
 have hlt0: ∀x∈p0,x.block<W.heap.size:=fun x hx=>hW'.lt x (by simp [hx])
 have hlt1: ∀x∈p1,x.block<W.heap.size:=fun x hx=>hW'.lt x (by simp [hx])
 haveI:=laid_of hL
 obtain ⟨b,ps,ns,ks,pw,nw,cw,pb,nb,cb,ev0,hcs,rds,rdw,rdb,hin⟩:=tb_arg hval0 h0
 obtain ⟨y,ev1,hy⟩:=u16_arg hval1 h1
 have run:=joA (W:=W) (f:=8) (args:= #[v0,v1]) (by rw [ev0,ev1];exact f8_t [] rds hcs rdw rdb y hy)
 obtain ⟨M,last,o,w',t',r1,r2,r3,r4⟩:=run
 refine ⟨M,last,o,w',t',r1,r2,r3,r4.mono fun v hF=>?_⟩
 obtain ⟨rfl,hbelow⟩:v= .bool true∧RowKit.Below W.heap.size W w':=hF
 have hq:DataW.TrodAll enc Tryz.prog w' 0 (fun b=>decide (b<W.heap.size)) true Tryz.f8.params.toList #[v0,v1].toList [d0,d1] (p0++(p1++[])):=by rw [Tryz.params8];exact (jf3 (Below.trod jk6 zK (of_decide_eq_true zK) h0 hbelow hlt0) (jf3 (Below.trod jk6 zK (of_decide_eq_true zK) h1 hbelow hlt1) rfl))
 exact ⟨_,_,_,[],_,[],hW',trodAll_mk1 (shut_bool Tryz.underlying4 _),hq,rfl,hbelow.frame _,fun h=>by cases h⟩
theorem jm3: Tryz.pinned.checked.prog.inPlace 8=Rows.offsetsFewestRow.inPlace:=by kernel_rfl
theorem jm2: Tryz.pinned.checked.prog.unfollowed 8=Rows.offsetsFewestRow.unfollowed:=by kernel_rfl
theorem jm1: Tryz.pinned.checked.prog.recurses 8=Rows.offsetsFewestRow.recurses:=by kernel_rfl
theorem jm0: Tryz.pinned.checked.prog.varsNamed 8=Rows.offsetsFewestRow.named:=by kernel_rfl
theorem jmZ:namedTie Tryz.pinned.checked.prog Rows.offsetsFewestRow.named Rows.offsetsFewestSpec.vars=true:=by kernel_rfl
theorem jhY:joinedFacts Tryz.pinned.checked.prog 8 Tryz.f8 Rows.offsetsFewestSpec Rows.offsetsFewestRow=true:=by
 unfold joinedFacts
 rw [jm3,jm2,jm1,jm0,jmZ,laidOutP];kernel_rfl
theorem ji0:Rows.OffsetsFewestSaid:=
 OpenClaim.holds_of_wide_leaving 8 Tryz.f8 rfl rfl rfl rfl rfl rfl rfl ⟨rfl,rfl,rfl,rfl,rfl⟩ rfl rfl rfl rfl rfl zK Tryz.func8 jhY
  (of_decide_eq_true zK) (by unfold Func.isWrapper;first|(rw [if_pos (by decide+kernel)];kernel_rfl)|(rw [if_neg (by decide+kernel)];exact ⟨rfl,rfl⟩))
  (fun os started H enc _=>jhX os started H enc)
theorem jmY:Rows.offsetsFewestRow.wfByText (OpenSpec.ofChange Rows.offsetsFewestSpec)=true:=by kernel_rfl
theorem jj5:true=Rows.offsetsFewestRow.goesBy Tryz.pinned.checked.prog:=by kernel_rfl
theorem ofewest_named: Tryz.prog.funcNamed "ribband/ribbandlaw01.OffsetsFewest" =some 8:=by kernel_rfl
theorem jk3:(Tryz.f8.params.toList.all fun u=>!Tryz.prog.wantsStandIn u)=true:=by kernel_rfl
theorem ofewest_card:Rows.OffsetsFewestCardSaid:=
 card_of .later [.data,.data,.data,.data,.funcsDeep] true (true, "efa58da0d05803ae4d87aecc1d7dc94e05dff7fe0015b2fcbfa254297eea66aa") false
  ji0 jmY offsetsFewest_row_tie rfl ⟨rfl,rfl⟩ pin_main rfl
  (fun f fn hf hfn=>by
   obtain rfl:f=8:=Option.some.inj (ofewest_named.symm.trans hf)|>.symm
   obtain rfl:fn= Tryz.f8:=(Option.some.inj (Tryz.func8.symm.trans hfn)).symm
   exact ⟨jod,fun j t ht=>by
    rw [Tryz.params8] at ht
    have hm:=Array.mem_of_getElem? ht
    have hall:=jk3
    rw [Tryz.params8] at hall
    exact (show Tryz.prog.wantsStandIn t=false by simpa using List.all_eq_true.1 hall t (by simpa using hm))⟩)
  jj5
#print axioms ofewest_card
end Go.Proofs.YtggpepeiedkbbaaGreatDoor
