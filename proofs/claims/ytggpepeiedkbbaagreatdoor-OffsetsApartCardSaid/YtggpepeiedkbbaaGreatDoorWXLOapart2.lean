/- PROVED: the law OffsetsApart (without wrong cells the boats of a table are as many as those of its stations, multiplied; the fewest wrong cells are those of all stations together; what lies between is what its station says), on every schedule of its goroutines; its row and its tied card. Conditions: those of the row: the offsets' tables are as the program's text lays them. -/
import Derived.Test.YtggpepeiedkbbaaGreatDoorWXLOapart1
set_option linter.all false
set_option maxRecDepth 100000
namespace Go.Proofs.YtggpepeiedkbbaaGreatDoor
open Go Go.Lo Go.ChangeShapes Go.WideShapes Go.ChangeAt Go.RowKit Go.Conc
theorem jl0 (os:Os) (started:os.Started) (H:Type) (enc:TypeId×Value→H):
  ReturnsInLeavingWide {} Tryz.checked os 7 .any (fun w args=>(Rows.offsetsApartSpec.pre enc Tryz.prog Tryz.f7 [] false w args∧laidMetH Tryz.prog laidL w)∧sizedMet enc Tryz.prog Tryz.f7 (OpenSpec.ofChange Rows.offsetsApartSpec) false w args)
   (Rows.offsetsApartSpec.post enc Tryz.prog Tryz.f7 false true false false):=by
 refine jaB (C:= Tryz.checked) (X:=fun w _=>laidMetH Tryz.prog laidL w) (fun _ _ _ hh h=>h.of_heap hh) own started Tryz.func7
  (ChangeSpec.witness_shaped (enc:=enc) (C:= Tryz.checked) (os:=os) (X:=fun w _=>laidMetH Tryz.prog laidL w) false (World.doorLaid Tryz.prog 36 os) #[.agg #[.int .i64 0,.slice none 0 0,.slice none 0 0,.slice none 0 0],.int .u8 0,.int .u16 0] 8 rfl (World.shaped_of_RefB zK zK) zK zK zK (jfi os _)) ?_
 intro W base args ds gs jbX hval0 hW hL
 have hval: ∀(j:Nat) t v,Tryz.f7.params[j]?=some t→args[j]?=some v→Value.okWide Tryz.prog W .any base t v:=hval0
 have hW':=hW
 obtain ⟨p,q,hA0,hV,rfl,hfz,hnd⟩:=hW
 have hA:DataW.TrodAll enc Tryz.prog W 0 (fun _=>true) true Tryz.f7.params.toList args.toList ds p:=hA0
 rw [Tryz.params7] at hA hval
 obtain ⟨v0,vr0,d0,dr0,p0,q0,ea0,ed0,ep0,h0,hA0⟩:=jaz hA
 obtain ⟨v1,vr1,d1,dr1,p1,q1,ea1,ed1,ep1,h1,hA1⟩:=jaz hA0
 obtain ⟨v2,vr2,d2,dr2,p2,q2,ea2,ed2,ep2,h2,hA2⟩:=jaz hA1
 obtain ⟨ez1,ez2,ez3⟩:=jcV hA2
 subst ez1 ez2 ez3
 subst ea2 ed2 ep2
 subst ea1 ed1 ep1
 subst ed0 ep0
 obtain rfl:=Array.ext' (show args.toList= #[v0,v1,v2].toList from ea0)
 obtain ⟨rfl,rfl⟩:=trodVars_none hV
 have hval0:=hval 0 _ v0 rfl rfl
 have hval1:=hval 1 _ v1 rfl rfl
 have hval2:=hval 2 _ v2 rfl rfl
 have hlt0: ∀x∈p0,x.block<W.heap.size:=fun x hx=>hW'.lt x (by simp [hx])
 have hlt1: ∀x∈p1,x.block<W.heap.size:=fun x hx=>hW'.lt x (by simp [hx])
 have hlt2: ∀x∈p2,x.block<W.heap.size:=fun x hx=>hW'.lt x (by simp [hx])
 haveI:=jgK hL
 obtain ⟨a,ps,ns,ks,pw,nw,cw,pb,nb,cb,ev0,hcs,rds,rdw,rdb,hin⟩:=ji5 hval0 h0
 obtain ⟨y,ev1,hy⟩:=jeG hval1 h1
 obtain ⟨x1,ev2,hx1⟩:=jgw hval2 h2
 have run:=jem (W:=W) (f:=7) (args:= #[v0,v1,v2]) (by rw [ev0,ev1,ev2];exact f7_t [] rds hcs rdw rdb y x1 hy hx1)
 obtain ⟨M,last,o,w',t',r1,r2,r3,r4⟩:=run
 refine ⟨M,last,o,w',t',r1,r2,r3,r4.mono fun v hF=>?_⟩
 obtain ⟨rfl,hbelow⟩:v= .bool true∧RowKit.Below W.heap.size W w':=hF
 have hq:DataW.TrodAll enc Tryz.prog w' 0 (fun b=>decide (b<W.heap.size)) true Tryz.f7.params.toList #[v0,v1,v2].toList [d0,d1,d2] (p0++(p1++(p2++[]))):=by rw [Tryz.params7];exact E92
 exact E81
theorem jtq: Tryz.pinned.checked.prog.inPlace 7=Rows.offsetsApartRow.inPlace:=by kernel_rfl
theorem jtp: Tryz.pinned.checked.prog.unfollowed 7=Rows.offsetsApartRow.unfollowed:=by kernel_rfl
theorem jto: Tryz.pinned.checked.prog.recurses 7=Rows.offsetsApartRow.recurses:=by kernel_rfl
theorem jtn: Tryz.pinned.checked.prog.varsNamed 7=Rows.offsetsApartRow.named:=by kernel_rfl
theorem jtm:namedTie Tryz.pinned.checked.prog Rows.offsetsApartRow.named Rows.offsetsApartSpec.vars=true:=by kernel_rfl
theorem jl1:joinedFacts Tryz.pinned.checked.prog 7 Tryz.f7 Rows.offsetsApartSpec Rows.offsetsApartRow=true:=by
 unfold joinedFacts
 rw [jtq,jtp,jto,jtn,jtm,jfb];kernel_rfl
theorem jnw:Rows.OffsetsApartSaid:=
 OpenClaim.holds_of_wide_leaving 7 Tryz.f7 rfl rfl rfl rfl rfl rfl rfl ⟨rfl,rfl,rfl,rfl,rfl⟩ rfl rfl rfl rfl rfl zK Tryz.func7 jl1
  (of_decide_eq_true zK) (by unfold Func.isWrapper;first|(rw [if_pos (by decide+kernel)];kernel_rfl)|(rw [if_neg (by decide+kernel)];exact ⟨rfl,rfl⟩))
  (fun os started H enc _=>jl0 os started H enc)
theorem jtl:Rows.offsetsApartRow.wfByText (OpenSpec.ofChange Rows.offsetsApartSpec)=true:=by kernel_rfl
theorem joW:true=Rows.offsetsApartRow.goesBy Tryz.pinned.checked.prog:=by kernel_rfl
theorem oapart_named: Tryz.prog.funcNamed "ribband/ribbandlaw01.OffsetsApart" =some 7:=by kernel_rfl
theorem jrm:(Tryz.f7.params.toList.all fun u=>!Tryz.prog.wantsStandIn u)=true:=by kernel_rfl
theorem oapart_card:Rows.OffsetsApartCardSaid:=
 jgN .later [.data,.data,.data,.data,.funcsDeep] true (true, "efa58da0d05803ae4d87aecc1d7dc94e05dff7fe0015b2fcbfa254297eea66aa") false
  jnw jtl offsetsApart_row_tie rfl ⟨rfl,rfl⟩ je5 rfl
  (fun f fn hf hfn=>by
   obtain rfl:f=7:=Option.some.inj (oapart_named.symm.trans hf)|>.symm
   obtain rfl:fn= Tryz.f7:=(Option.some.inj (Tryz.func7.symm.trans hfn)).symm
   exact ⟨jeh,fun j t ht=>by
    rw [Tryz.params7] at ht
    have hm:=Array.mem_of_getElem? ht
    have hall:=jrm
    rw [Tryz.params7] at hall
    exact E82⟩)
  joW
#print axioms oapart_card
end Go.Proofs.YtggpepeiedkbbaaGreatDoor
