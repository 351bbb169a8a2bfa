/- PROVED: the law OffsetsFigures (figures, measures and cells agree with the specification), on every schedule of its goroutines; its row and its tied card. Conditions: those of the row: the offsets' tables are as the program's text lays them. -/
import Derived.Test.YtggpepeiedkbbaaGreatDoorWXLOfigures1
set_option linter.all false
namespace Go.Proofs.YtggpepeiedkbbaaGreatDoor
open Go Go.Lo Go.ChangeShapes Go.WideShapes Go.ChangeAt Go.RowKit Go.Conc
set_option maxRecDepth 100000
theorem jgR (os:Os) (started:os.Started) (H:Type) (enc:TypeId×Value→H):
  ReturnsInLeavingWide {} Tryz.checked os 14 .any (fun w args=>(Rows.offsetsFiguresSpec.pre enc Tryz.prog Tryz.f14 [] false w args∧laidMetH Tryz.prog laidL w)∧sizedMet enc Tryz.prog Tryz.f14 (OpenSpec.ofChange Rows.offsetsFiguresSpec) false w args)
   (Rows.offsetsFiguresSpec.post enc Tryz.prog Tryz.f14 false true false false):=by
 refine jbL (C:= Tryz.checked) (X:=fun w _=>laidMetH Tryz.prog laidL w) (fun _ _ _ hh h=>h.of_heap hh) own started Tryz.func14
  (ChangeSpec.witness_shaped (enc:=enc) (C:= Tryz.checked) (os:=os) (X:=fun w _=>laidMetH Tryz.prog laidL w) false (World.doorLaid Tryz.prog 36 os) #[.agg #[.int .i64 0,.slice none 0 0,.slice none 0 0,.slice none 0 0],.string ⟨#[]⟩,.int .i64 0] 8 rfl (World.shaped_of_RefB zK zK) zK zK zK (door_met os _)) ?_
 intro W base args ds gs jbf hval0 hW hL
 have hval: ∀(j:Nat) t v,Tryz.f14.params[j]?=some t→args[j]?=some v→Value.okWide Tryz.prog W .any base t v:=hval0
 have hW':=hW
 obtain ⟨p,q,hA0,hV,rfl,hfz,hnd⟩:=hW
 have hA:DataW.TrodAll enc Tryz.prog W 0 (fun _=>true) true Tryz.f14.params.toList args.toList ds p:=hA0
 rw [Tryz.params14] at hA hval
 obtain ⟨v0,vr0,d0,dr0,p0,q0,ea0,ed0,ep0,h0,hA0⟩:=jdE hA
 obtain ⟨v1,vr1,d1,dr1,p1,q1,ea1,ed1,ep1,h1,hA1⟩:=jdE hA0
 obtain ⟨v2,vr2,d2,dr2,p2,q2,ea2,ed2,ep2,h2,hA2⟩:=jdE hA1
 obtain ⟨ez1,ez2,ez3⟩:=jkp hA2
 subst ez1 ez2 ez3
 subst ea2 ed2 ep2
 subst ea1 ed1 ep1
 subst ed0 ep0
 obtain rfl:=Array.ext' (show args.toList= #[v0,v1,v2].toList from ea0)
 obtain ⟨rfl,rfl⟩:=trodVars_none hV
 have hval0:=hval 0 _ v0 rfl rfl
 have hval1:=hval 1 _ v1 rfl rfl
 have hval2:=hval 2 _ v2 rfl rfl
 have hlt0: ∀x∈p0,x.block<W.heap.size:=fun x hx=>hW'.lt x (by simp [hx])
 have hlt1: ∀x∈p1,x.block<W.heap.size:=fun x hx=>hW'.lt x (by simp [hx])
 have hlt2: ∀x∈p2,x.block<W.heap.size:=fun x hx=>hW'.lt x (by simp [hx])
 haveI:=laid_of hL
 obtain ⟨b,ps,ns,ks,pw,nw,cw,pb,nb,cb,ev0,hcs,rds,rdw,rdb,hin⟩:=tb_arg hval0 h0
 obtain ⟨s,ev1,hs⟩:=str_arg hval1 h1
 obtain ⟨x,ev2,hx⟩:=i64_arg hval2 h2
 have run:=jnY (W:=W) (f:=14) (args:= #[v0,v1,v2]) (by rw [ev0,ev1,ev2];exact f14_t [] rds hcs rdw rdb s x)
 obtain ⟨M,last,o,w',t',r1,r2,r3,r4⟩:=run
 refine ⟨M,last,o,w',t',r1,r2,r3,r4.mono fun v hF=>?_⟩
 obtain ⟨rfl,hbelow⟩:v= .bool true∧RowKit.Below W.heap.size W w':=hF
 have hq:DataW.TrodAll enc Tryz.prog w' 0 (fun b=>decide (b<W.heap.size)) true Tryz.f14.params.toList #[v0,v1,v2].toList [d0,d1,d2] (p0++(p1++(p2++[]))):=by rw [Tryz.params14];exact (jdD (Below.trod jiH zK (of_decide_eq_true zK) h0 hbelow hlt0) (jdD (Below.trod jiH zK (of_decide_eq_true zK) h1 hbelow hlt1) (jdD (Below.trod jiH zK (of_decide_eq_true zK) h2 hbelow hlt2) rfl)))
 exact ⟨_,_,_,[],_,[],hW',trodAll_mk1 (shut_bool Tryz.underlying4 _),hq,rfl,hbelow.frame _,fun h=>by cases h⟩
theorem jkL: Tryz.pinned.checked.prog.inPlace 14=Rows.offsetsFiguresRow.inPlace:=by kernel_rfl
theorem jkK: Tryz.pinned.checked.prog.unfollowed 14=Rows.offsetsFiguresRow.unfollowed:=by kernel_rfl
theorem jkJ: Tryz.pinned.checked.prog.recurses 14=Rows.offsetsFiguresRow.recurses:=by kernel_rfl
theorem jkI: Tryz.pinned.checked.prog.varsNamed 14=Rows.offsetsFiguresRow.named:=by kernel_rfl
theorem jkH:namedTie Tryz.pinned.checked.prog Rows.offsetsFiguresRow.named Rows.offsetsFiguresSpec.vars=true:=by kernel_rfl
theorem jgS:joinedFacts Tryz.pinned.checked.prog 14 Tryz.f14 Rows.offsetsFiguresSpec Rows.offsetsFiguresRow=true:=by
 unfold joinedFacts
 rw [jkL,jkK,jkJ,jkI,jkH,laidOutP];kernel_rfl
theorem jhz:Rows.OffsetsFiguresSaid:=
 OpenClaim.holds_of_wide_leaving 14 Tryz.f14 rfl rfl rfl rfl rfl rfl rfl ⟨rfl,rfl,rfl,rfl,rfl⟩ rfl rfl rfl rfl rfl zK Tryz.func14 jgS
  (of_decide_eq_true zK) (by unfold Func.isWrapper;first|(rw [if_pos (by decide+kernel)];kernel_rfl)|(rw [if_neg (by decide+kernel)];exact ⟨rfl,rfl⟩))
  (fun os started H enc _=>jgR os started H enc)
theorem jkG:Rows.offsetsFiguresRow.wfByText (OpenSpec.ofChange Rows.offsetsFiguresSpec)=true:=by kernel_rfl
theorem jiC:true=Rows.offsetsFiguresRow.goesBy Tryz.pinned.checked.prog:=by kernel_rfl
theorem ofigures_named: Tryz.prog.funcNamed "ribband/ribbandlaw01.OffsetsFigures" =some 14:=by kernel_rfl
theorem jjH:(Tryz.f14.params.toList.all fun u=>!Tryz.prog.wantsStandIn u)=true:=by kernel_rfl
theorem ofigures_card:Rows.OffsetsFiguresCardSaid:=
 card_of .later [.data,.data,.data,.data,.funcsDeep] true (true, "efa58da0d05803ae4d87aecc1d7dc94e05dff7fe0015b2fcbfa254297eea66aa") false
  jhz jkG offsetsFigures_row_tie rfl ⟨rfl,rfl⟩ pin_main rfl
  (fun f fn hf hfn=>by
   obtain rfl:f=14:=Option.some.inj (ofigures_named.symm.trans hf)|>.symm
   obtain rfl:fn= Tryz.f14:=(Option.some.inj (Tryz.func14.symm.trans hfn)).symm
   exact ⟨jnF,fun j t ht=>by
    rw [Tryz.params14] at ht
    have hm:=Array.mem_of_getElem? ht
    have hall:=jjH
    rw [Tryz.params14] at hall
    exact (show Tryz.prog.wantsStandIn t=false by simpa using List.all_eq_true.1 hall t (by simpa using hm))⟩)
  jiC
#print axioms ofigures_card
end Go.Proofs.YtggpepeiedkbbaaGreatDoor
