/- A part of the proof of a law. Condition of each theorem: as its statement says. -/
import Derived.Test.YtggpepeiedkbbaaGreatDoorVN9
import Derived.SevenTiedAt
import Derived.LaidOnce
import Derived.LaidSub
import Derived.Test.YtggpepeiedkbbaaGreatDoorCards
import Derived.Test.YtggpepeiedkbbaaGreatDoorTie
set_option linter.all false
variable {W:Go.World}
set_option maxRecDepth 100000
namespace Go.Proofs.YtggpepeiedkbbaaGreatDoor
open Go Go.Lo Go.ChangeShapes Go.WideShapes Go.ChangeAt Go.RowKit Go.Conc
theorem jk1 (Lk:Looks) {p:Pinned} {s:OpenSpec} {k:StoodClaim8} {ks:List StandKind} (kinds:List LaidKind) (tests:Bool) (h:Claim7.holdsNew p (.plain s) {stood:=k,kinds:=ks}) (hw:k.row.wfByText s=true):
  Claim7.holdsNew p (.plain s) {stood:=k,kinds:=ks,goes:=true,laidByText:=true,laidKinds:=kinds,laidTests:=tests,laidLooks:=Lk}:=by
 obtain ⟨_,rest⟩:=h
 exact ⟨hw,rest⟩
theorem jrW (Lk:Looks) {p:Pinned} {s:OpenSpec} {c:OpenClaim} (kinds:List LaidKind) (tests:Bool) (har:Bool×String) (lk:Bool)
  (hc:c.holds p s) (hw:c.wfByText s=true) (htie:c.laidByTextAt Lk p kinds tests)
  (hst:c.start= .entering) (hnb:c.noBlocks=false∧c.again=false) (hm:p.checked.prog.mainIs=some (har.1,har.2.toList)) (hn:(!har.1&&har.2.isEmpty&&!lk)=false)
  (hl: ∀f fn,p.checked.prog.funcNamed c.func=some f→p.checked.prog.funcs[f]?=some fn→lk=p.checked.prog.looks []∧ ∀(j:Nat) t,fn.params[j]?=some t→p.checked.prog.wantsStandIn t=false)
  (hg:true=c.goesBy p.checked.prog):
  Claim7.holds p (.plain s) {stood:={row:=c,standIns:=[],harness:=har,looks:=lk},kinds:=[],alts:=[],goes:=true,laidByText:=true,laidKinds:=kinds,laidTests:=tests,laidLooks:=Lk}:=by
 have h6: ∀r:OpenClaim,Claim7.isSixth {stood:={row:=r,standIns:=[],harness:=har,looks:=lk},kinds:=[]}=false:=fun r=>by simpa [Claim7.isSixth] using hn
 exact ⟨jk1 Lk kinds tests (Claim7.new_of_sixth hc har lk hst hnb hm (h6 c) hl) hw,(fun D hD=>by cases hD),htie,(fun h=>by cases h),hg⟩
theorem own:ownKnob Tryz.prog.godebug=none:=by kernel_rfl
theorem jil:laidOutB Tryz.prog=true:=by kernel_rfl
theorem jnX:laidOutB Tryz.pinned.checked.prog=true:=jil
def laidL:List (String×DataW Unit):=[("math/bits.deBruijn32tab",Rows.laid_math_bits_deBruijn32tab),("math/bits.deBruijn64tab",Rows.laid_math_bits_deBruijn64tab),("internal/strconv.uint64pow10",Rows.laid_internal_strconv_uint64pow10),("ribband/offsets.mosts",Rows.laid_ribband_offsets_mosts),("ribband/offsets.halves",Rows.laid_ribband_offsets_halves)]
theorem joi (os:Os) (args:Array Value):laidMetH Tryz.prog laidL ((World.doorLaid Tryz.prog 36 os).forCall (fun _ _=>0) ⟨#[],args,[]⟩).memory:=by
 have d:((DataW.laidRun Tryz.prog ((World.doorLaid Tryz.prog 36 os).forCall (fun _ _=>0) ⟨#[],args,[]⟩).memory 8 ((laidL.filter fun x=>x.2.handleName?.isNone).map (·.1))).bind fun x=>
   if nodupBits 65 x.2 0&&laidRowsB Tryz.prog ((World.doorLaid Tryz.prog 36 os).forCall (fun _ _=>0) ⟨#[],args,[]⟩).memory x.2&&(laidL.filter fun x=>x.2.handleName?.isSome&&x.2.funcsIn?.isNone).all (handleAtB Tryz.prog ((World.doorLaid Tryz.prog 36 os).forCall (fun _ _=>0) ⟨#[],args,[]⟩).memory)
   then (funcsRun Tryz.prog ((World.doorLaid Tryz.prog 36 os).forCall (fun _ _=>0) ⟨#[],args,[]⟩).memory 8 ((funcsListed laidL).map (·.1))).map fun y=>(x.1,y) else none)=some (laidL.filter fun x=>x.2.handleName?.isNone,(funcsListed laidL).map (·.2.funcsOut)):=by kernel_rfl
 simp only [Option.bind_eq_some_iff] at d
 obtain ⟨x,hx,d⟩:=d
 split at d
 ·rename_i hb
  simp only [Bool.and_eq_true] at hb
  simp only [Option.map_eq_some_iff,Prod.mk.injEq] at d
  obtain ⟨y,hy,e1,e2⟩:=d
  exact laidMetH_of_parts3 (fuel:=8) (laidMet_of_run (ps:=x.2) 8 (by rw [hx,←e1]) (decide_eq_true (nodupBits_sound hb.1.1).1) hb.1.2) hb.2 (by rw [hy,e2])
 ·cases d
theorem str_lit {s:ByteArray} {l:List UInt8} (h:s.data.toList=l):Value.string s=str l:=by subst h;exact str_of s
theorem jri (h:laidMetH Tryz.prog laidL W): ∃t f,W.heap[0]?=some (.cells [str [119,97,116,101,114],.bool false,.func (.func 261) #[] #[],str [98,117,116,116],.bool true,.func (.func 262) #[] #[]].toArray t f):=by
 obtain ⟨g,t,cs,fuel,p,hg,ht,hv,hd⟩:=h.funcs (n:= "ribband/offsets.halves") (List.mem_cons_of_mem _ (List.mem_cons_of_mem _ (List.mem_cons_of_mem _ (List.mem_cons_of_mem _ (List.mem_cons_self ..)))))
 obtain rfl:=Option.some.inj ((show Tryz.prog.globalNamed "ribband/offsets.halves" =some 0 by kernel_rfl).symm.trans hg)
 obtain rfl:=Option.some.inj ((show (Tryz.prog.globals[0]?).map (·.type)=some 185 by kernel_rfl).symm.trans ht)
 have hu: Tryz.prog.underlying 185=some (.array 2 184):=by kernel_rfl
 obtain ⟨fs,hs,hfs⟩: ∃fs,Tryz.prog.underlying 184=some (.struct fs)∧fs.toList.map (fun f=>(f.offset,f.type))=[(0,9),(1,4),(2,182)]:=⟨_,Tryz.underlying184,by kernel_rfl⟩
 have c3: Tryz.prog.cellsOf 184=3:=by kernel_rfl
 have k9: Tryz.prog.cellsOf 9=1:=by kernel_rfl
 have k4: Tryz.prog.cellsOf 4=1:=by kernel_rfl
 have kf: Tryz.prog.cellsOf 182=1:=by kernel_rfl
 have u9: Tryz.prog.underlying 9=some .string:=by kernel_rfl
 have u4: Tryz.prog.underlying 4=some .bool:=by kernel_rfl
 obtain ⟨qs,rs,va,hfun⟩: ∃qs rs va,Tryz.prog.underlying 182=some (.func qs rs va):=⟨_,_,_,Tryz.underlying182⟩
 obtain ⟨f0,f1,f2,rfl⟩: ∃f0 f1 f2,fs= #[f0,f1,f2]:=by
  obtain ⟨fl⟩:=fs
  have hlen:fl.length=3:=by simpa using congrArg List.length hfs
  match fl,hlen with
  |[f0,f1,f2],_=>exact ⟨_,_,_,rfl⟩
 simp only [List.map_cons,List.map_nil,List.cons.injEq,Prod.mk.injEq,and_true] at hfs
 obtain ⟨⟨o0,t0⟩,⟨o1,t1⟩,o2,t2⟩:=hfs
 obtain ⟨xs,m,_,ex,hl,hxl,hx⟩:=DataW.trod_array hu hd
 have hl6:cs.toList.length=6:=hl.trans zK
 obtain ⟨cl⟩:=cs
 obtain ⟨c0,c1,c2,d0,d1,d2,rfl⟩: ∃c0 c1 c2 d0 d1 d2,cl=[c0,c1,c2,d0,d1,d2]:=by
  match cl,hl6 with
  |[c0,c1,c2,d0,d1,d2],_=>exact ⟨_,_,_,_,_,_,rfl⟩
 obtain ⟨y0,y1,rfl⟩: ∃y0 y1,xs=[y0,y1]:=by
  match xs,hxl with
  |[y0,y1],_=>exact ⟨_,_,rfl⟩
 have e2: ∃a b:List UInt8,(Rows.laid_ribband_offsets_halves:DataW Unit)= .iface "func table" (.agg [.agg [.lit (.string [119,97,116,101,114]),.lit (.bool false),.iface "func" (.lit (.string a))],.agg [.lit (.string [98,117,116,116]),.lit (.bool true),.iface "func" (.lit (.string b))]])∧
   ((List.range Tryz.prog.funcs.size).filter fun f=>(Tryz.prog.funcs[f]?).any (·.name.toUTF8.data.toList==a))=[261]∧((List.range Tryz.prog.funcs.size).filter fun f=>(Tryz.prog.funcs[f]?).any (·.name.toUTF8.data.toList==b))=[262]∧a≠[]∧b≠[]∧
   [y0.1,y1.1]=[.agg [.lit (.string [119,97,116,101,114]),.lit (.bool false),.held a],.agg [.lit (.string [98,117,116,116]),.lit (.bool true),.held b]]:=by
  refine ⟨_,_,rfl,by kernel_rfl,by kernel_rfl,by simp,by simp,?_⟩
  have:=congrArg Prod.fst ex
  simp only [DataW.funcsOut,DataW.funcsOutAll,List.map_cons,List.map_nil] at this
  injection this with this
  exact this.symm
 obtain ⟨a,b,_,fa,fb,na,nb,e3⟩:=e2
 simp only [List.cons.injEq,and_true] at e3
 obtain ⟨z0,z1⟩:=e3
 have key: ∀(u0 u1 u2:Value) (y:DataW (List UInt8)×List MemPlace) (s:List UInt8) (bb:Bool) (l:List UInt8) (fn:FuncId),DataW.trod (funcToken Tryz.prog) Tryz.prog W 0 (fun _=>true) true m 184 [u0,u1,u2]=some y→y.1= .agg [.lit (.string s),.lit (.bool bb),.held l]→l≠[]→((List.range Tryz.prog.funcs.size).filter fun f=>(Tryz.prog.funcs[f]?).any (·.name.toUTF8.data.toList==l))=[fn]→u0=str s∧u1= .bool bb∧u2= .func (.func fn) #[] #[]:=by
  intro u0 u1 u2 y s bb l fn h1 h2 h3 h4
  obtain ⟨ys,k,_,ey,_,hyl,hy⟩:=DataW.trod_struct hs h1
  obtain ⟨w0,w1,w2,rfl⟩: ∃w0 w1 w2,ys=[w0,w1,w2]:=by
   match ys,hyl with
   |[w0,w1,w2],_=>exact ⟨_,_,_,rfl⟩
  have g0:=hy 0 f0 rfl
  have g1:=hy 1 f1 rfl
  have g2:=hy 2 f2 rfl
  rw [t0,o0,k9] at g0
  rw [t1,o1,k4] at g1
  rw [t2,o2,kf] at g2
  obtain ⟨s0,q0,x0,_⟩:=DataW.trod_string u9 g0
  obtain ⟨b0,q1,x1⟩:=DataW.trod_bool u4 g1
  subst ey
  simp only [List.map_cons,List.map_nil,DataW.agg.injEq,List.cons.injEq,and_true] at h2
  obtain ⟨e0,e1,e2⟩:=h2
  rw [x0] at e0
  rw [x1] at e1
  have q0':=List.head_eq_of_cons_eq (show [u0]=[Value.string s0] from q0)
  have q1':=List.head_eq_of_cons_eq (show [u1]=[Value.bool b0] from q1)
  refine ⟨by rw [q0'];exact str_lit (by simpa using e0),by rw [q1'];congr 1;simpa using e1,?_⟩
  obtain ⟨w21,w22⟩:=w2
  obtain rfl:w21= .held l:=e2
  cases l with
  |nil=>exact absurd rfl h3
  |cons b0 r0=>exact func_of_trod hfun h4 g2
 have g0:=hx 0 zO
 have g1:=hx 1 zO
 rw [c3] at g0 g1
 obtain ⟨rfl,rfl,rfl⟩:=key c0 c1 c2 y0 _ _ a 261 g0 z0 na fa
 obtain ⟨rfl,rfl,rfl⟩:=key d0 d1 d2 y1 _ _ b 262 g1 z1 nb fb
 unfold World.var? at hv
 rw [hg] at hv
 simp only [Option.bind_some] at hv
 split at hv
 ·rename_i cs t f hb
  obtain rfl:=Option.some.inj hv
  exact ⟨t,f,hb⟩
 ·cases hv
theorem mosts_of (h:laidMetH Tryz.prog laidL W): ∃t f,W.heap[1]?=some (.cells [.int .i64 9,.int .i64 11,.int .i64 7].toArray t f):=by
 obtain ⟨ps,hl,_,_⟩:=(laidMetH_iff.1 h).1
 have e:(laidL.filter fun x=>x.2.handleName?.isNone)=[("math/bits.deBruijn32tab",Rows.laid_math_bits_deBruijn32tab),("math/bits.deBruijn64tab",Rows.laid_math_bits_deBruijn64tab),("internal/strconv.uint64pow10",Rows.laid_internal_strconv_uint64pow10),("ribband/offsets.mosts",Rows.laid_ribband_offsets_mosts)]:=by kernel_rfl
 rw [e] at hl
 obtain ⟨_,_,_,_,_,_,_,_,_,_,hl,_⟩:=hl
 obtain ⟨_,_,_,_,_,_,_,_,_,_,hl,_⟩:=hl
 obtain ⟨_,_,_,_,_,_,_,_,_,_,hl,_⟩:=hl
 obtain ⟨g,t,cs,fuel,p,q,hg,ht,hv,hd,_,_⟩:=hl
 obtain rfl:=Option.some.inj ((show Tryz.prog.globalNamed "ribband/offsets.mosts" =some 1 by kernel_rfl).symm.trans hg)
 obtain rfl:=Option.some.inj ((show (Tryz.prog.globals[1]?).map (·.type)=some 145 by kernel_rfl).symm.trans ht)
 have hu: Tryz.prog.underlying 145=some (.array 3 3):=by kernel_rfl
 have h3: Tryz.prog.underlying 3=some (.int .i64):=by kernel_rfl
 have c3: Tryz.prog.cellsOf 3=1:=by kernel_rfl
 obtain ⟨xs,m,_,ex,hl3,hxl,hx⟩:=DataW.trod_array hu hd
 have hl3:cs.toList.length=3:=hl3.trans zK
 obtain ⟨cl⟩:=cs
 obtain ⟨c0,c1,c2,rfl⟩: ∃c0 c1 c2,cl=[c0,c1,c2]:=by
  match cl,hl3 with
  |[c0,c1,c2],_=>exact ⟨_,_,_,rfl⟩
 obtain ⟨y0,y1,y2,rfl⟩: ∃y0 y1 y2,xs=[y0,y1,y2]:=by
  match xs,hxl with
  |[y0,y1,y2],_=>exact ⟨_,_,_,rfl⟩
 have g0:=hx 0 zO
 have g1:=hx 1 zO
 have g2:=hx 2 zO
 rw [c3] at g0 g1 g2
 obtain ⟨n0,q0,x0,_⟩:=DataW.trod_int h3 g0
 obtain ⟨n1,q1,x1,_⟩:=DataW.trod_int h3 g1
 obtain ⟨n2,q2,x2,_⟩:=DataW.trod_int h3 g2
 obtain rfl:=List.head_eq_of_cons_eq (show [c0]=[Value.int .i64 n0] from q0)
 obtain rfl:=List.head_eq_of_cons_eq (show [c1]=[Value.int .i64 n1] from q1)
 obtain rfl:=List.head_eq_of_cons_eq (show [c2]=[Value.int .i64 n2] from q2)
 have ex1:=congrArg Prod.fst ex
 have ex2:(DataW.agg [.lit (.int .i64 9),.lit (.int .i64 11),.lit (.int .i64 7)]:DataW Unit)= .agg [y0.1,y1.1,y2.1]:=ex1
 rw [x0,x1,x2] at ex2
 simp only [DataW.agg.injEq,List.cons.injEq,DataW.lit.injEq,Lit.int.injEq,true_and,and_true] at ex2
 obtain ⟨rfl,rfl,rfl⟩:=ex2
 unfold World.var? at hv
 rw [hg] at hv
 simp only [Option.bind_some] at hv
 split at hv
 ·rename_i cs t f hb
  obtain rfl:=Option.some.inj hv
  exact ⟨t,f,hb⟩
 ·cases hv
theorem jqU (h:laidMetH Tryz.prog laidL W):LaidO W.heap:=⟨jri h,mosts_of h⟩
theorem jnG: Tryz.pinned.checked.prog.mainIs=some (true, "efa58da0d05803ae4d87aecc1d7dc94e05dff7fe0015b2fcbfa254297eea66aa".toList):=by kernel_rfl
theorem jlv:false= Tryz.pinned.checked.prog.looks []:=by kernel_rfl
end Go.Proofs.YtggpepeiedkbbaaGreatDoor
