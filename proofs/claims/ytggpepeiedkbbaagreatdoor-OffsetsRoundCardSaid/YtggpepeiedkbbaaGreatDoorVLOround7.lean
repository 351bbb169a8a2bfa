/- A part of the proof of a law: my own separation logic over the machine, and walks of the program. Condition of each theorem: as its statement says. -/
import Derived.Test.YtggpepeiedkbbaaGreatDoorVLOround6
set_option linter.all false
namespace Go.Proofs
open Go.Lo
open Go.Conc (G)
set_option maxRecDepth 100000
set_option synthInstance.maxSize 100000
set_option synthInstance.maxHeartbeats 1000000
set_option maxHeartbeats 4000000
variable {B:Array Obj}
variable [LaidO B]
theorem ja3 {ls:List Ln} {i:Nat} (h:0<i):prevL ls i=some (ls.getD (i-1) default).lat:=by
 match i,h with
 |i+1,_=>rfl
theorem jbA (lps:List Lp) (i:Nat) (h:i<lps.length):(lps.map (·.ln)).getD i default=(lps.getD i default).ln:=by
 rw [List.getD_eq_getElem?_getD,List.getElem?_map,List.getElem?_eq_getElem h,List.getD_eq_getElem?_getD,List.getElem?_eq_getElem h];rfl
theorem f170_c (m:Md Tryz.prog B) (h:Hp) {b:Tb} {ps:Option Addr} {ns ks:Nat} {pw:Option Addr} {nw cw:Nat} {pb:Option Addr} {nb cb:Nat} (rds:RdS B h 1 (.slice ps ns ks) ns (encs b.sts)) (hcs:ns≤ks) (hns:ns≤1000) (hsl: ∀s∈b.sts,s.length≤100000) {pl:Option Addr} {nl cl:Nat} {lns:List Ln} (hln:RdLn B h (.slice pl nl cl) nl lns) (hnl:nl≤1000) (hsm: ∀l∈lns,l.figs.length≤1000∧ ∀f∈l.figs,f.length≤100000):FnC m 170 #[tbV b ps ns ks pw nw cw pb nb cb,.slice pl nl cl] h fun v h'=>h'=h∧v= .int .i64 (ja0 b.sts.length lns):=by
 have hml:=rds.elen zA
 obtain ⟨lps,rfl,rl,hfig⟩:=hln
 have hll:=rl.elen zA
 refine jae Tryz.func170 rfl rfl (l:=(tbV b ps ns ks pw nw cw pb nb cb)::(.slice pl nl cl)::uu67) rfl ?_
 intro cf cs K hK
 refine rs2 ?_;refine jaP rfl zq (fun q2=>k_hp (jab ?_));refine D122 ?_;refine D170 ?_
 refine jaJ rfl zq (fun hc=>?_) (fun hc=>?_)
 ·refine D154 ?_;refine D70 ?_;refine D5 ?_
  refine ⟨rfl,congrArg (Value.int .i64) ?_⟩
  first
   |(rw [ja0,if_pos zI];done)
   |(rw [ja0,if_neg zI,hlm];first
     |(rw [List.drop_eq_nil_of_le zI];rfl)
     |(rw [hdr];first
       |exact (jdr zO).symm
       |exact E8
       |exact E9
       |exact E10))
 ·refine D140 ?_;refine rs3 ?_;refine Z3 ?_;refine D143 ?_
  refine jam (fun nn l h'=> ∃(i:Nat),nn=nl-i∧(i≤nl)∧(jbM b.sts.length none (lps.map (·.ln))=jbM b.sts.length (prevL (lps.map (·.ln)) i) ((lps.map (·.ln)).drop i))∧(∃U:Nat→Value,l=((tbV b ps ns ks pw nw cw pb nb cb)::(.slice pl nl cl)::(.pointer (some ⟨q2,0,none⟩))::vw11 U 3 ((.slice pl nl cl)::(.int .i64 (nl:Int))::(.int .i64 (i:Int))::vw52 U 17 [])))∧h++[⟨true,q2,.cells (tbL b ps ns ks pw nw cw pb nb cb).toArray 127 (0,0)⟩]=h') _ ⟨0,rfl,by omega,rfl,exU rfl,rfl⟩ ?_;rintro nn l h' ⟨i,rfl,hi,hlm,⟨U,rfl⟩,rfl⟩ hnext1;refine rs1 ?_;refine jaq rfl zq (fun hc=>?_) (fun hc=>?_)
  ·refine D156 ?_
   obtain ⟨rl_b,rl_o,rfl⟩:=rl.ptr zO
   refine rr6 ?_;refine Zs ?_;refine D47 ?_;refine jcB (vs:=[.int .i64 (lps.getD i default).ln.lat,.slice (lps.getD i default).p (lps.getD i default).ln.figs.length (lps.getD i default).c]) rfl zq rfl (rl.eat i zO zO) ?_;obtain ⟨x,hx⟩: ∃x,x=lps.getD i default:=⟨_,rfl⟩
   rw [←hx];refine jat rfl zq (fun q6=>k_hp (jab ?_));refine Zs ?_;refine D20 ?_;refine D120 ?_;refine D15 ?_;refine D3 ?_
   have hxm:x∈lps:=hx▸jan zO
   obtain ⟨hxc,rdf0⟩:=hfig x hxm
   have hdr:(lps.map (·.ln)).drop i=x.ln::(lps.map (·.ln)).drop (i+1):=by rw [jnP zI,jbA _ _ zO,←hx]
   obtain ⟨hfl,hfs⟩:=hsm x.ln (List.mem_map.2 ⟨x,hxm,rfl⟩)
   refine rr5 ?_;refine Z2 ?_;refine D42 ?_;rintro v (⟨hc,rfl⟩|⟨hc,rfl⟩)
   ·refine D7 ?_;refine D63 ?_;refine D132 ?_;refine D3 ?_;refine jaz [(0,.pure),(1,.pure),(2,.pure),(3,.pure),(5,.pure),(6,.pure),(7,.pure),(8,.pure),(9,.pure),(4,.read),(10,.read),(11,.pure),(12,.pure),(13,.pure)] zK zK (List.Sublist.refl _) ?_;refine Zs ?_
    refine jaJ rfl zq (fun hc=>?_) (fun hc=>?_)
    ·refine Z4 ?_;refine k_sub rfl rfl zL ?_;refine jdU rfl rfl rfl zO zO ?_;refine Zs ?_;refine k_ldh rfl rfl ?_;refine k_ld (v:= .int .i64 (lps.getD (i-1) default).ln.lat) rfl rfl (rl.fat (i-1) 0 zO zO rfl) ?_
     refine jiW rfl rfl (fun hc=>?_) (fun hc=>?_)
     ·refine D21 ?_;refine D184 ?_;refine D70 ?_;refine D5 ?_
      refine ⟨rfl,congrArg (Value.int .i64) ?_⟩
      first
       |(rw [ja0,if_pos zI];done)
       |(rw [ja0,if_neg zI,hlm];first
         |(rw [List.drop_eq_nil_of_le zI];rfl)
         |(rw [hdr];first
           |exact (jdr zO).symm
           |exact E8
           |exact E9
           |exact E10))
     ·refine D190 ?_;refine D3 ?_
      have hnu: ¬jgY (prevL (lps.map (·.ln)) i) x.ln.lat:=by
       rintro ⟨y,e1,e2⟩;first
        |(have hi0:i=0:=by omega
          subst hi0
          cases e1)
        |(rw [ja3 zO,jbA _ _ zO] at e1;have e3:=Option.some.inj e1;omega)
      refine rr9 ?_;refine Z7 ?_;refine jaY rfl zq (fun hc=>?_) (fun hc=>?_)
      ·refine D184 ?_;refine D70 ?_;refine D5 ?_
       refine ⟨rfl,congrArg (Value.int .i64) ?_⟩
       first
        |(rw [ja0,if_pos zI];done)
        |(rw [ja0,if_neg zI,hlm];first
          |(rw [List.drop_eq_nil_of_le zI];rfl)
          |(rw [hdr];first
            |exact (jdr zO).symm
            |exact E8
            |exact E9
            |exact E10))
      ·refine D132 ?_;refine D8 ?_;refine D17 ?_;refine rs4 ?_;refine Z4 ?_;refine D143 ?_
       refine jam (fun nn l h'=> ∃(k:Nat),nn=x.ln.figs.length-k∧(k≤x.ln.figs.length)∧(∀j,j<k→jbm (x.ln.figs.getD j [])=true)∧(∃U:Nat→Value,l=((tbV b ps ns ks pw nw cw pb nb cb)::(.slice (some ⟨rl_b,rl_o,none⟩) nl cl)::(.pointer (some ⟨q2,0,none⟩))::vw11 U 3 ((.slice (some ⟨rl_b,rl_o,none⟩) nl cl)::(.int .i64 (nl:Int))::(.int .i64 (i:Int))::vw33 U 17 ((.slice x.p x.ln.figs.length x.c)::(.int .i64 (x.ln.figs.length:Int))::(.int .i64 (k:Int))::vw16 U 53 []))))∧h++[⟨true,q2,.cells (tbL b ps ns ks pw nw cw pb nb cb).toArray 127 (0,0)⟩,⟨true,q6,.cells [.int .i64 x.ln.lat,.slice x.p x.ln.figs.length x.c].toArray 121 (0,0)⟩]=h') _ ⟨0,rfl,by omega,fun j hj=>absurd hj zO,exU rfl,rfl⟩ ?_;rintro nn l h' ⟨k,rfl,hk,hfk,⟨U,rfl⟩,rfl⟩ hnext2;refine rs1 ?_;refine jaq rfl zq (fun hc=>?_) (fun hc=>?_)
       ·refine D156 ?_
        have rdf:=rdf0 zO
        obtain ⟨fb,fo,hfp⟩:=rdf.ptr zO
        have rdg:=rdf
        rw [hfp] at rdg
        have hsk:(x.ln.figs.getD k []).length≤100000:=hfs _ (jan (l:=x.ln.figs) zO)
        refine rr3 ?_;refine D115 ?_;refine k_ld rfl zq (rdg.sat k zO zO) ?_;refine D0 ?_;refine rs8 ?_;refine Zs ?_;refine jak (Post:=fun v=>v=_) rfl zq zK (fun H' hH=>f119_c m H' _ hsk) ?_;rintro v rfl;refine D7 ?_;refine Z3 ?_
        refine jat rfl zq (fun q9=>k_hp (jab ?_));refine D55 ?_;refine D122 ?_
        cases hfo:jaN (x.ln.figs.getD k [])
        all_goals
         refine rr6 ?_;refine Zs ?_
        ·refine D64 ?_;refine Z2 ?_
         by_cases hda:x.ln.figs.getD k []=[45]
         ·refine jjO rfl rfl hda ?_;refine D21 ?_;refine D149 ?_;exact m.weak jaa (hnext2 _ _ _ zO ⟨k+1,rfl,by omega,fun j hj=>by
           by_cases e:j<k
           ·exact hfk j e
           ·obtain rfl:j=k:=by omega
            first|(rw [jbm,hfo];rfl)|(rw [jbm,decide_eq_true (show x.ln.figs.getD j []=dash from hda)];simp),exU rfl,rfl⟩)
         ·refine jm1 rfl rfl hda ?_;refine D21 ?_;refine D154 ?_;refine D70 ?_;refine D5 ?_;refine ⟨rfl,congrArg (Value.int .i64) ?_⟩
          first
           |(rw [ja0,if_pos zI];done)
           |(rw [ja0,if_neg zI,hlm];first
             |(rw [List.drop_eq_nil_of_le zI];rfl)
             |(rw [hdr];first
               |exact (jdr zO).symm
               |exact E8
               |exact E9
               |exact E10))
        ·refine D63 ?_;refine Z3 ?_;refine D10 ?_;refine D149 ?_
         exact m.weak jaa (hnext2 _ _ _ zO ⟨k+1,rfl,by omega,fun j hj=>by
          by_cases e:j<k
          ·exact hfk j e
          ·obtain rfl:j=k:=by omega
           first|(rw [jbm,hfo];rfl)|(rw [jbm,decide_eq_true (show x.ln.figs.getD j []=dash from hda)];simp),exU rfl,rfl⟩)
       ·refine D137 ?_;refine D17 ?_
        have hall: ∀f∈x.ln.figs,jbm f=true:=fun f hf=>by
         obtain ⟨j,hj,e⟩:=List.mem_iff_getElem.1 hf
         have:=hfk j zO
         rw [List.getD_eq_getElem?_getD,List.getElem?_eq_getElem hj] at this
         exact e▸this
        refine D125 ?_
        exact E11
    ·refine Z10 ?_;refine D164 ?_;refine D3 ?_
     have hnu: ¬jgY (prevL (lps.map (·.ln)) i) x.ln.lat:=by
      rintro ⟨y,e1,e2⟩;first
       |(have hi0:i=0:=by omega
         subst hi0
         cases e1)
       |(rw [ja3 zO,jbA _ _ zO] at e1;have e3:=Option.some.inj e1;omega)
     refine rr9 ?_;refine Z7 ?_;refine jaY rfl zq (fun hc=>?_) (fun hc=>?_)
     ·refine D184 ?_;refine D70 ?_;refine D5 ?_
      refine ⟨rfl,congrArg (Value.int .i64) ?_⟩
      first
       |(rw [ja0,if_pos zI];done)
       |(rw [ja0,if_neg zI,hlm];first
         |(rw [List.drop_eq_nil_of_le zI];rfl)
         |(rw [hdr];first
           |exact (jdr zO).symm
           |exact E8
           |exact E9
           |exact E10))
     ·refine D132 ?_;refine D8 ?_;refine D17 ?_;refine rs4 ?_;refine Z4 ?_;refine D143 ?_
      refine jam (fun nn l h'=> ∃(k:Nat),nn=x.ln.figs.length-k∧(k≤x.ln.figs.length)∧(∀j,j<k→jbm (x.ln.figs.getD j [])=true)∧(∃U:Nat→Value,l=((tbV b ps ns ks pw nw cw pb nb cb)::(.slice (some ⟨rl_b,rl_o,none⟩) nl cl)::(.pointer (some ⟨q2,0,none⟩))::vw11 U 3 ((.slice (some ⟨rl_b,rl_o,none⟩) nl cl)::(.int .i64 (nl:Int))::(.int .i64 (i:Int))::vw33 U 17 ((.slice x.p x.ln.figs.length x.c)::(.int .i64 (x.ln.figs.length:Int))::(.int .i64 (k:Int))::vw16 U 53 []))))∧h++[⟨true,q2,.cells (tbL b ps ns ks pw nw cw pb nb cb).toArray 127 (0,0)⟩,⟨true,q6,.cells [.int .i64 x.ln.lat,.slice x.p x.ln.figs.length x.c].toArray 121 (0,0)⟩]=h') _ ⟨0,rfl,by omega,fun j hj=>absurd hj zO,exU rfl,rfl⟩ ?_;rintro nn l h' ⟨k,rfl,hk,hfk,⟨U,rfl⟩,rfl⟩ hnext2;refine rs1 ?_;refine jaq rfl zq (fun hc=>?_) (fun hc=>?_)
      ·refine D156 ?_
       have rdf:=rdf0 zO
       obtain ⟨fb,fo,hfp⟩:=rdf.ptr zO
       have rdg:=rdf
       rw [hfp] at rdg
       have hsk:(x.ln.figs.getD k []).length≤100000:=hfs _ (jan (l:=x.ln.figs) zO)
       refine rr3 ?_;refine D115 ?_;refine k_ld rfl zq (rdg.sat k zO zO) ?_;refine D0 ?_;refine rs8 ?_;refine Zs ?_;refine jak (Post:=fun v=>v=_) rfl zq zK (fun H' hH=>f119_c m H' _ hsk) ?_;rintro v rfl;refine D7 ?_;refine Z3 ?_
       refine jat rfl zq (fun q9=>k_hp (jab ?_));refine D55 ?_;refine D122 ?_
       cases hfo:jaN (x.ln.figs.getD k [])
       all_goals
        refine rr6 ?_;refine Zs ?_
       ·refine D64 ?_;refine Z2 ?_
        by_cases hda:x.ln.figs.getD k []=[45]
        ·refine jjO rfl rfl hda ?_;refine D21 ?_;refine D149 ?_;exact m.weak jaa (hnext2 _ _ _ zO ⟨k+1,rfl,by omega,fun j hj=>by
          by_cases e:j<k
          ·exact hfk j e
          ·obtain rfl:j=k:=by omega
           first|(rw [jbm,hfo];rfl)|(rw [jbm,decide_eq_true (show x.ln.figs.getD j []=dash from hda)];simp),exU rfl,rfl⟩)
        ·refine jm1 rfl rfl hda ?_;refine D21 ?_;refine D154 ?_;refine D70 ?_;refine D5 ?_;refine ⟨rfl,congrArg (Value.int .i64) ?_⟩
         first
          |(rw [ja0,if_pos zI];done)
          |(rw [ja0,if_neg zI,hlm];first
            |(rw [List.drop_eq_nil_of_le zI];rfl)
            |(rw [hdr];first
              |exact (jdr zO).symm
              |exact E8
              |exact E9
              |exact E10))
       ·refine D63 ?_;refine Z3 ?_;refine D10 ?_;refine D149 ?_
        exact m.weak jaa (hnext2 _ _ _ zO ⟨k+1,rfl,by omega,fun j hj=>by
         by_cases e:j<k
         ·exact hfk j e
         ·obtain rfl:j=k:=by omega
          first|(rw [jbm,hfo];rfl)|(rw [jbm,decide_eq_true (show x.ln.figs.getD j []=dash from hda)];simp),exU rfl,rfl⟩)
      ·refine D137 ?_;refine D17 ?_
       have hall: ∀f∈x.ln.figs,jbm f=true:=fun f hf=>by
        obtain ⟨j,hj,e⟩:=List.mem_iff_getElem.1 hf
        have:=hfk j zO
        rw [List.getD_eq_getElem?_getD,List.getElem?_eq_getElem hj] at this
        exact e▸this
       refine D125 ?_
       exact E11
   ·refine D7 ?_;refine D64 ?_;refine D184 ?_;refine D70 ?_;refine D5 ?_
    refine ⟨rfl,congrArg (Value.int .i64) ?_⟩
    first
     |(rw [ja0,if_pos zI];done)
     |(rw [ja0,if_neg zI,hlm];first
       |(rw [List.drop_eq_nil_of_le zI];rfl)
       |(rw [hdr];first
         |exact (jdr zO).symm
         |exact E8
         |exact E9
         |exact E10))
  ·refine D137 ?_;refine D129 ?_;refine D70 ?_;refine D5 ?_
   refine ⟨rfl,congrArg (Value.int .i64) ?_⟩
   first
    |(rw [ja0,if_pos zI];done)
    |(rw [ja0,if_neg zI,hlm];first
      |(rw [List.drop_eq_nil_of_le zI];rfl)
      |(rw [hdr];first
        |exact (jdr zO).symm
        |exact E8
        |exact E9
        |exact E10))
def halvesL:List Value:=[str [119,97,116,101,114],.bool false,.func (.func 261) #[] #[],str [98,117,116,116],.bool true,.func (.func 262) #[] #[]]
def hwS (i:Nat):Str:=if i=0 then [119,97,116,101,114] else [98,117,116,116]
def hbS (i:Nat):Bool:=decide (i≠0)
def hL (b:Tb) (i:Nat):List Ln:=if i=0 then b.waters else b.butts
theorem half_get (i:Nat) (hi:i<2):(halvesL.drop ((i:Int).toNat*3)).take 3=[str (hwS i),.bool (hbS i),.func (.func (261+i)) #[] #[]]:=by
 rcases (by omega:i=0∨i=1) with rfl|rfl<;>rfl
theorem jgw (i:Nat) (hi:i<2):jbg Tryz.prog (261+i)=true:=by
 rcases (by omega:i=0∨i=1) with rfl|rfl<;>kernel_rfl
theorem jio {α:Type} [Inhabited α] (f:α→Nat) (xs:List α) (k:Nat) (h:k<xs.length):((xs.take (k+1)).map f).sum=((xs.take k).map f).sum+f (xs.getD k default):=by
 rw [jdg xs k h,List.map_append,List.sum_append];simp
theorem jin {α:Type} (f:α→Nat) (c:Nat): ∀(xs:List α),(∀x∈xs,f x≤c)→(xs.map f).sum≤xs.length*c
 |[],_=>by simp
 |x::r,h=>by
  have h1:=h x zD
  have h2:=jin f c r fun y hy=>h y (by simp [hy])
  simp only [List.map_cons,List.sum_cons,List.length_cons,Nat.add_mul]
  omega
theorem jjD (s:Str):smuF s≤3:=by
 have:=List.countP_le_length (p:=fun x:Int=>decide (x= -1)) (l:=jao s)
 rw [(jaK s).len] at this
 exact this
theorem jmd {l:Ln} (h:l.figs.length≤1000):smuN l≤3000:=by
 have:=jin smuF 3 l.figs fun s _=>jjD s
 unfold smuN
 omega
theorem jme {ls:List Ln} (h:ls.length≤1000) (hf: ∀l∈ls,l.figs.length≤1000):smuL ls≤3000000:=by
 have:=jin smuN 3000 ls fun l hl=>jmd (hf l hl)
 unfold smuL
 omega
theorem jcX {h:Hp} {p:Option Addr} {n c:Nat} {ls:List Ln} (r:RdLn B h (.slice p n c) n ls):ls.length=n:=by
 obtain ⟨lps,hle,rl,_⟩:=r
 rw [←hle,List.length_map,rl.elen zA]
def cntH (b:Tb) (i:Nat):Nat:=((List.range i).map fun j=>smuL (hL b j)).sum
theorem jnU (b:Tb) (i:Nat):cntH b (i+1)=cntH b i+smuL (hL b i):=by
 rw [cntH,List.range_succ,List.map_append,List.sum_append];simp [cntH]
theorem f261_c (m:Md Tryz.prog B) (h:Hp) (q:Nat):FnC m 261 #[.pointer (some ⟨q,0,none⟩)] h fun v h'=>h'=h∧v= .pointer (some ⟨q,2,none⟩):=by
 refine jae Tryz.func261 rfl rfl (l:=[.pointer (some ⟨q,0,none⟩),undef,undef,undef,undef,undef]) rfl ?_
 intro cf cs K hK
 refine D145 ?_;refine D176 ?_
 refine jai rfl zq ?_;refine D194 ?_;refine jac (h) rfl Tryz.func261 rfl jaa ?_;refine D5 ?_
 exact ⟨rfl,rfl⟩
theorem f262_c (m:Md Tryz.prog B) (h:Hp) (q:Nat):FnC m 262 #[.pointer (some ⟨q,0,none⟩)] h fun v h'=>h'=h∧v= .pointer (some ⟨q,3,none⟩):=by
 refine jae Tryz.func262 rfl rfl (l:=[.pointer (some ⟨q,0,none⟩),undef,undef,undef,undef,undef]) rfl ?_
 intro cf cs K hK
 refine D145 ?_;refine D176 ?_
 refine jai rfl zq ?_;refine D194 ?_;refine jac (h) rfl Tryz.func262 rfl jaa ?_;refine D5 ?_
 exact ⟨rfl,rfl⟩
theorem jnr (m:Md Tryz.prog B) (h:Hp) (q i:Nat) (hi:i<2):FnC m (261+i) #[.pointer (some ⟨q,0,none⟩)] h fun v h'=>h'=h∧v= .pointer (some ⟨q,2+i,none⟩):=by
 rcases (by omega:i=0∨i=1) with rfl|rfl
 ·exact f261_c m h q
 ·exact f262_c m h q
theorem jnp {h:Hp} {b:Tb} {ps:Option Addr} {ns ks:Nat} {pw:Option Addr} {nw cw:Nat} {pb:Option Addr} {nb cb:Nat} (rdw:RdLn B h (.slice pw nw cw) nw b.waters) (hw:nw≤1000) (rdb:RdLn B h (.slice pb nb cb) nb b.butts) (hb:nb≤1000) (i:Nat) (hi:i<2):
  ∃pl nl cl,(tbL b ps ns ks pw nw cw pb nb cb)[2+i]?=some (.slice pl nl cl)∧RdLn B h (.slice pl nl cl) nl (hL b i)∧nl≤1000:=by
 rcases (by omega:i=0∨i=1) with rfl|rfl
 ·exact ⟨pw,nw,cw,rfl,rdw,hw⟩
 ·exact ⟨pb,nb,cb,rfl,rdb,hb⟩
theorem jiJ {h:Hp} {q o:Nat} {rw:Bool} {cs:List Value} {t:TypeId} {f:Nat×Nat} {v:Value} [x:Has h q rw (.cells cs.toArray t f)] (e:cs[o]?=some v):Rd B h ⟨q,o,none⟩ v:=Rd.held x.mem (by simpa using e)
theorem f122_c (m:Md Tryz.prog B) (h:Hp) {b:Tb} {ps:Option Addr} {ns ks:Nat} {pw:Option Addr} {nw cw:Nat} {pb:Option Addr} {nb cb:Nat} (rds:RdS B h 1 (.slice ps ns ks) ns (encs b.sts)) (hcs:ns≤ks) (hns:ns≤1000) (hsl: ∀s∈b.sts,s.length≤100000) (rdw:RdLn B h (.slice pw nw cw) nw b.waters) (hnw:nw≤1000) (rdb:RdLn B h (.slice pb nb cb) nb b.butts) (hnb:nb≤1000) (hsm:TbSm b):FnC m 122 #[tbV b ps ns ks pw nw cw pb nb cb] h fun v h'=>h'=h∧v= .int .i64 (jjp b):=by
 have hml:=rds.elen zA
 have hsw:=jme (ls:=b.waters) (by rw [jcX rdw];exact hnw) fun l hl=>(hsm.wat l hl).1
 have hsb:=jme (ls:=b.butts) (by rw [jcX rdb];exact hnb) fun l hl=>(hsm.but l hl).1
 refine jae Tryz.func122 rfl rfl (l:=(tbV b ps ns ks pw nw cw pb nb cb)::uu56) rfl ?_
 intro cf cs K hK
 refine rs2 ?_;refine jaP rfl zq (fun q1=>k_hp (jab ?_));refine D0 ?_;refine D139 ?_;refine rs2 ?_;refine jcB (vs:=halvesL) rfl zq rfl jeg ?_;refine D195 ?_
 refine jam (fun nn l h'=> ∃(i:Nat),nn=2-i∧(i≤2)∧(∀j,j<i→ja0 b.sts.length (hL b j)=0)∧(∃U:Nat→Value,l=((tbV b ps ns ks pw nw cw pb nb cb)::(.pointer (some ⟨q1,0,none⟩))::(U 2)::(.int .i64 (cntH b i:Int))::vw10 U 4 ((.agg halvesL.toArray)::(.int .i64 (i:Int))::vw41 U 16 [])))∧h++[⟨true,q1,.cells (tbL b ps ns ks pw nw cw pb nb cb).toArray 127 (0,0)⟩]=h') _ ⟨0,rfl,by omega,fun j hj=>absurd hj zO,exU rfl,rfl⟩ ?_;rintro nn l h' ⟨i,rfl,hi,hz,⟨U,rfl⟩,rfl⟩ hnext1;have hcb:cntH b i≤i*3000000:=by
  rcases (by omega:i=0∨i=1∨i=2) with rfl|rfl|rfl<;>simp [cntH,List.range_succ,hL]<;>omega
 refine rs1 ?_;refine jaq rfl zq (fun hc=>?_) (fun hc=>?_)
 ·refine D135 ?_;refine rs3 ?_;refine jkJ rfl zq zO zO (half_get i zO) ?_
  refine jat rfl zq (fun q5=>k_hp (jab ?_));refine D20 ?_;refine D120 ?_
  obtain ⟨pl,nl,cl,hsl1,hln,hnl⟩:=jnp (B:=B) (b:=b) (ps:=ps) (ns:=ns) (ks:=ks) rdw hnw rdb hnb i zO
  have hsmi: ∀l∈hL b i,l.figs.length≤1000∧ ∀f∈l.figs,f.length≤100000:=by
   unfold hL
   split
   ·exact hsm.wat
   ·exact hsm.but
  refine rr7 ?_;refine Z3 ?_;refine D92 ?_;rintro v rfl;refine D7 ?_
  refine jai rfl zq ?_;refine k_ld (v:= .slice pl nl cl) rfl zq (jiJ hsl1) ?_;refine D122 ?_;refine rs4 ?_;refine Z2 ?_;refine jak (Post:=fun v=>v=_) rfl zq zK (fun H' hH=>f170_c m H' (rds.keeps (sq hH)) hcs hns hsl (hln.keeps (sq hH)) hnl hsmi) ?_;rintro v rfl;refine D7 ?_;refine D163 ?_
  refine jaY rfl zq (fun hc=>?_) (fun hc=>?_)
  ·refine D121 ?_;refine D165 ?_;refine jac (h) rfl Tryz.func122 rfl jaa ?_;refine D5 ?_
   refine ⟨rfl,congrArg (Value.int .i64) ?_⟩
   rcases (by omega:i=0∨i=1) with rfl|rfl
   ·rw [jjp,if_pos (show ja0 b.sts.length b.waters≠0 by assumption)];rfl
   ·rw [jjp,if_neg (fun e=>e (hz 0 zO)),if_pos (show ja0 b.sts.length b.butts≠0 by assumption)];rfl
  ·refine D140 ?_
   obtain ⟨lps,hle,rl,hfig⟩:=hln
   have hll:=rl.elen zA
   have hln2:(hL b i).length=nl:=by rw [←hle,List.length_map,hll]
   refine rr3 ?_;refine Z3 ?_;refine D143 ?_;rw [show (cntH b i:Int)=((cntH b i+((hL b i).take 0|>.map smuN).sum:Nat):Int) by simp];refine jam (fun nn l h'=> ∃(k:Nat),nn=nl-k∧(k≤nl)∧(∃U:Nat→Value,l=((tbV b ps ns ks pw nw cw pb nb cb)::(.pointer (some ⟨q1,0,none⟩))::(U 2)::(.int .i64 ((cntH b i+((hL b i).take k|>.map smuN).sum:Nat):Int))::vw10 U 4 ((.agg halvesL.toArray)::(.int .i64 (i:Int))::vw14 U 16 ((.slice pl nl cl)::(.int .i64 (nl:Int))::(.int .i64 (k:Int))::vw24 U 33 []))))∧h++[⟨true,q1,.cells (tbL b ps ns ks pw nw cw pb nb cb).toArray 127 (0,0)⟩,⟨true,q5,.cells [str (hwS i),.bool (hbS i),.func (.func (261+i)) #[] #[]].toArray 184 (0,0)⟩]=h') _ ⟨0,rfl,by omega,exU rfl,rfl⟩ ?_;rintro nn l h' ⟨k,rfl,hk,⟨U,rfl⟩,rfl⟩ hnext2;have hsk:((hL b i).take k|>.map smuN).sum≤k*3000:=Nat.le_trans (jin smuN 3000 _ fun l hl=>jmd (hsmi l (List.mem_of_mem_take hl)).1) (Nat.mul_le_mul_right _ zN)
   refine rs1 ?_;refine jaq rfl zq (fun hc=>?_) (fun hc=>?_)
   ·refine D156 ?_
    obtain ⟨rl_b,rl_o,rfl⟩:=rl.ptr zO
    refine rr4 ?_;refine D47 ?_;refine D69 ?_;obtain ⟨x,hx⟩: ∃x,x=lps.getD k default:=⟨_,rfl⟩
    rw [←hx];refine jat rfl zq (fun q9=>k_hp (jab ?_));refine D20 ?_;refine D120 ?_
    have hxm:x∈lps:=hx▸jan zO
    obtain ⟨hxc,rdf0⟩:=hfig x hxm
    have hxl:(hL b i).getD k default=x.ln:=by rw [←hle,jbA _ _ zO,←hx]
    obtain ⟨hfl,hfs⟩:=hsmi x.ln (hxl▸jan zO)
    have hkb:k*3000≤1000*3000:=Nat.mul_le_mul_right _ zO
    refine rr4 ?_;refine Z4 ?_;refine D143 ?_;rw [show ((cntH b i+((hL b i).take k|>.map smuN).sum:Nat):Int)=((cntH b i+((hL b i).take k|>.map smuN).sum+((x.ln.figs.take 0).map smuF).sum:Nat):Int) by simp];refine jam (fun nn l h'=> ∃(j:Nat),nn=x.ln.figs.length-j∧(j≤x.ln.figs.length)∧(∃U:Nat→Value,l=((tbV b ps ns ks pw nw cw pb nb cb)::(.pointer (some ⟨q1,0,none⟩))::(U 2)::(.int .i64 ((cntH b i+((hL b i).take k|>.map smuN).sum+((x.ln.figs.take j).map smuF).sum:Nat):Int))::vw10 U 4 ((.agg halvesL.toArray)::(.int .i64 (i:Int))::vw14 U 16 ((.slice (some ⟨rl_b,rl_o,none⟩) nl cl)::(.int .i64 (nl:Int))::(.int .i64 (k:Int))::vw4 U 33 ((.slice x.p x.ln.figs.length x.c)::(.int .i64 (x.ln.figs.length:Int))::(.int .i64 (j:Int))::vw17 U 40 [])))))∧h++[⟨true,q1,.cells (tbL b ps ns ks pw nw cw pb nb cb).toArray 127 (0,0)⟩,⟨true,q5,.cells [str (hwS i),.bool (hbS i),.func (.func (261+i)) #[] #[]].toArray 184 (0,0)⟩,⟨true,q9,.cells [.int .i64 x.ln.lat,.slice x.p x.ln.figs.length x.c].toArray 121 (0,0)⟩]=h') _ ⟨0,rfl,by omega,exU rfl,rfl⟩ ?_;rintro nn l h' ⟨j,rfl,hj,⟨U,rfl⟩,rfl⟩ hnext3;have hsj:((x.ln.figs.take j).map smuF).sum≤j*3:=Nat.le_trans (jin smuF 3 _ fun s _=>jjD s) (Nat.mul_le_mul_right _ zN)
    refine rs1 ?_;refine jaq rfl zq (fun hc=>?_) (fun hc=>?_);refine D156 ?_
    have rdf:=rdf0 zO
    obtain ⟨fb,fo,hfp⟩:=rdf.ptr zO
    have rdg:=rdf
    rw [hfp] at rdg
    have hsk2:(x.ln.figs.getD j []).length≤100000:=hfs _ (jan (l:=x.ln.figs) zO)
    refine rr3 ?_;refine D115 ?_;refine k_ld rfl zq (rdg.sat j zO zO) ?_;refine D0 ?_;refine rs8 ?_;refine Zs ?_;refine jak (Post:=fun v=>v=_) rfl zq zK (fun H' hH=>f119_c m H' _ hsk2) ?_;rintro v rfl;refine D7 ?_;refine Z3 ?_
    refine jat rfl zq (fun q12=>k_hp (jab ?_));refine D55 ?_;refine D0 ?_;refine rr5 ?_;refine Zs ?_;refine D49 ?_;refine jak (Post:=fun v=>v= .int .i64 (smuF (x.ln.figs.getD j []):Int)) rfl zq zK (fun H' hH=>f171_c m H' (jaK _).len) ?_
    rintro v rfl;refine D7 ?_
    have hfj:=jjD (x.ln.figs.getD j [])
    refine Zs ?_;refine D0 ?_;refine D17 ?_
    rotate_left
    refine D137 ?_;refine D17 ?_
    have hjn:j=x.ln.figs.length:=by omega
    all_goals
     refine D125 ?_
    ·rw [hjn,List.take_of_length_le (Nat.le_refl _),show cntH b i+((hL b i).take k|>.map smuN).sum+(x.ln.figs.map smuF).sum=cntH b i+((hL b i).take (k+1)|>.map smuN).sum by rw [jio smuN _ _ zO,hxl,Nat.add_assoc];rfl];exact m.weak jaa (hnext2 _ _ _ zO ⟨k+1,rfl,by omega,exU rfl,rfl⟩)
    ·rw [show ((cntH b i+((hL b i).take k|>.map smuN).sum+((x.ln.figs.take j).map smuF).sum:Nat):Int)+(smuF (x.ln.figs.getD j []):Int)=((cntH b i+((hL b i).take k|>.map smuN).sum+((x.ln.figs.take (j+1)).map smuF).sum:Nat):Int) by rw [jio smuF _ _ zO];show _+((smuF (x.ln.figs.getD j default):Nat):Int)=_;omega];exact m.weak jaa (hnext3 _ _ _ zO ⟨j+1,rfl,by omega,exU rfl,rfl⟩)
   ·refine D137 ?_;refine D17 ?_
    have hkn:k=nl:=by omega
    have hin2:i<2:=by omega
    refine D125 ?_
    rw [hkn,List.take_of_length_le zO,show cntH b i+((hL b i).map smuN).sum=cntH b (i+1) from (jnU b i).symm];exact m.weak jaa (hnext1 _ _ _ zO ⟨i+1,rfl,by omega,fun j hj=>by
     by_cases e:j<i
     ·exact hz j e
     ·obtain rfl:j=i:=by omega
      omega,exU rfl,rfl⟩)
 ·refine D137 ?_;refine D3 ?_;refine D3 ?_
  have hi2:i=2:=by omega
  subst hi2
  have hz0:=hz 0 zO
  have hz1:=hz 1 zO
  rw [show hL b 0=b.waters from rfl] at hz0
  rw [show hL b 1=b.butts from rfl] at hz1
  have hc2:cntH b 2=smuL b.waters+smuL b.butts:=by simp [cntH,List.range_succ,hL]
  refine D167 ?_
  refine jaJ rfl zq (fun hc=>?_) (fun hc=>?_);refine D121 ?_
  rotate_left
  refine D119 ?_
  all_goals
   refine D129 ?_;refine jac (h) rfl Tryz.func122 rfl jaa ?_;refine D5 ?_
  ·exact ⟨rfl,by rw [jjp,if_neg (fun e=>e hz0),if_neg (fun e=>e hz1),if_neg zO]⟩
  ·exact ⟨rfl,by rw [jjp,if_neg (fun e=>e hz0),if_neg (fun e=>e hz1),if_pos zO]⟩
def chkT (b:Tb) (k:Nat):Int:=if k=0 then jeG b else jjp b
theorem jjn {b:Tb} {k:Nat} (hk:k<2) (h: ∀i,i<k→chkT b i=0) (hs:chkT b k≠0):tbS b=chkT b k:=by
 rcases (by omega:k=0∨k=1) with rfl|rfl
 ·rw [tbS,if_pos (show jeG b≠0 from hs)];rfl
 ·rw [tbS,if_neg (fun e=>e (show jeG b=0 from h 0 zO))];rfl
theorem jhw {b:Tb} (h: ∀i,i<2→chkT b i=0):tbS b=0:=by
 rw [tbS,if_neg (fun e=>e (show jeG b=0 from h 0 zO))];exact h 1 zO
theorem chkT_get (v:Value) (k:Nat) (hk:k<2):([Value.func (.func 121) #[v] #[],.func (.func 122) #[v] #[]].toArray)[(k:Int).toNat*1]?=some (.func (.func (121+k)) #[v] #[]):=by
 rcases (by omega:k=0∨k=1) with rfl|rfl<;>rfl
theorem jnW (k:Nat) (hk:k<2):jbg Tryz.prog (121+k)=true:=by
 rcases (by omega:k=0∨k=1) with rfl|rfl<;>kernel_rfl
theorem chkT_c (m:Md Tryz.prog B) (h:Hp) {b:Tb} {ps:Option Addr} {ns ks:Nat} {pw:Option Addr} {nw cw:Nat} {pb:Option Addr} {nb cb:Nat} (rds:RdS B h 1 (.slice ps ns ks) ns (encs b.sts)) (hcs:ns≤ks) (hns:ns≤1000) (hsl: ∀s∈b.sts,s.length≤100000) (rdw:RdLn B h (.slice pw nw cw) nw b.waters) (hnw:nw≤1000) (rdb:RdLn B h (.slice pb nb cb) nb b.butts) (hnb:nb≤1000) (hsm:TbSm b) (k:Nat) (hk:k<2):FnC m (121+k) #[tbV b ps ns ks pw nw cw pb nb cb] h fun v h'=>h'=h∧v= .int .i64 (chkT b k):=by
 rcases (by omega:k=0∨k=1) with rfl|rfl
 ·exact f121_c m h rds hcs hns hsl
 ·exact f122_c m h rds hcs hns hsl rdw hnw rdb hnb hsm
theorem f65_c (m:Md Tryz.prog B) (h:Hp) {b:Tb} {ps:Option Addr} {ns ks:Nat} {pw:Option Addr} {nw cw:Nat} {pb:Option Addr} {nb cb:Nat} (rds:RdS B h 1 (.slice ps ns ks) ns (encs b.sts)) (hcs:ns≤ks) (hns:ns≤1000) (hsl: ∀s∈b.sts,s.length≤100000) (rdw:RdLn B h (.slice pw nw cw) nw b.waters) (hnw:nw≤1000) (rdb:RdLn B h (.slice pb nb cb) nb b.butts) (hnb:nb≤1000) (hsm:TbSm b):FnC m 65 #[tbV b ps ns ks pw nw cw pb nb cb] h fun v h'=>h'=h∧v= .int .i64 (tbS b):=by
 refine jae Tryz.func65 rfl rfl (l:=(tbV b ps ns ks pw nw cw pb nb cb)::uu24) rfl ?_
 intro cf cs K hK
 refine rs2 ?_;refine jaP rfl zq (fun q1=>k_hp (jab ?_));refine D0 ?_;refine D176 ?_;refine D52 ?_
 refine jat rfl zq (fun q3=>k_hp (jab ?_));refine D20 ?_;refine D120 ?_;refine D166 ?_;refine jfF rfl zq ?_;refine Zs ?_;refine jfF rfl zq ?_
 refine k_bs kdq rfl zq zA zA rfl (fun q13=>k_hp (jab ?_));refine D124 ?_;refine D15 ?_
 refine jam (fun nn l h'=> ∃(k:Nat),nn=2-k∧(k≤2)∧(∀i,i<k→chkT b i=0)∧(∃U:Nat→Value,l=((tbV b ps ns ks pw nw cw pb nb cb)::vw12 U 1 ((.slice (some ⟨q13,0,none⟩) 2 2)::(.int .i64 (2:Int))::(.int .i64 (k:Int))::vw9 U 16 [])))∧h++[⟨true,q1,.cells (tbL b ps ns ks pw nw cw pb nb cb).toArray 25 (0,0)⟩,⟨true,q3,.cells (tbL b ps ns ks pw nw cw pb nb cb).toArray 127 (0,0)⟩,⟨true,q13,.cells [.func (.func 121) #[tbV b ps ns ks pw nw cw pb nb cb] #[],.func (.func 122) #[tbV b ps ns ks pw nw cw pb nb cb] #[]].toArray 158 (0,0)⟩]=h') _ ⟨0,rfl,by omega,fun i hi=>by omega,exU rfl,rfl⟩ ?_;rintro nn l h' ⟨k,rfl,hk3,he,⟨U,rfl⟩,rfl⟩ hnext;refine rs1 ?_;refine jaq rfl zq (fun hc=>?_) (fun hc=>?_)
 ·refine D135 ?_;refine rs3 ?_;refine D47 ?_;refine k_ld (v:= .func (.func (121+k)) #[tbV b ps ns ks pw nw cw pb nb cb] #[]) rfl zq (Rd.held (Has.mem (b:=q13)) (by simpa using chkT_get _ k zO)) ?_;refine D0 ?_;refine D151 ?_;refine jeC (Post:=fun v=>v=_) rfl zq (jnW k zO) (fun H' hH=>chkT_c m H' (rds.keeps (sq hH)) hcs hns hsl (rdw.keeps (sq hH)) hnw (rdb.keeps (sq hH)) hnb hsm k zO) ?_
  rintro v rfl;refine D7 ?_;refine D163 ?_
  refine jaY rfl zq (fun hc=>?_) (fun hc=>?_)
  ·refine D121 ?_;refine D165 ?_;refine jac (h) rfl Tryz.func65 rfl jaa ?_;refine D5 ?_
   refine ⟨rfl,congrArg (Value.int .i64) ?_⟩
   first
    |exact (jjn zO he zS).symm
    |exact (jhw (fun i hi=>he i zO)).symm
  ·refine D149 ?_
   exact m.weak jaa (hnext _ _ _ zO ⟨k+1,rfl,by omega,fun i hi=>by
    by_cases e:i<k
    ·exact he i e
    ·obtain rfl:i=k:=by omega
     first|assumption|omega,exU rfl,rfl⟩)
 ·refine D137 ?_;refine D129 ?_;refine jac (h) rfl Tryz.func65 rfl jaa ?_;refine D5 ?_
  refine ⟨rfl,congrArg (Value.int .i64) ?_⟩
  first
   |exact (jjn zO he zS).symm
   |exact (jhw (fun i hi=>he i zO)).symm
end Go.Proofs
namespace Go.Proofs
open Go.Lo
open Go.Conc (G)
set_option maxRecDepth 100000
set_option synthInstance.maxSize 100000
set_option synthInstance.maxHeartbeats 1000000
set_option maxHeartbeats 4000000
theorem get_at {s:Str} {i:Nat} (h:i<s.length):s[((i:Nat):Int).toNat]?=some (s.getD i 0):=by
 rw [Int.toNat_natCast,List.getElem?_eq_getElem h,List.getD_eq_getElem?_getD,List.getElem?_eq_getElem h];rfl
end Go.Proofs
namespace Go.Proofs
open Go.Lo
open Go.Conc (G)
set_option maxRecDepth 100000
set_option synthInstance.maxSize 100000
set_option synthInstance.maxHeartbeats 1000000
set_option maxHeartbeats 4000000
variable {B:Array Obj}
def jbL (s:Str) (c:UInt8):Nat→List Str×Nat
 |0=>([],0)
 |i+1=>if i=s.length∨s.getD i 0=c then ((jbL s c i).1++[(s.take i).drop (jbL s c i).2],i+1) else jbL s c i
def cutS (s:Str) (c:UInt8):List Str:=(jbL s c (s.length+1)).1
theorem jnR {s:Str} {c:UInt8} {i:Nat} (h:i=s.length∨s.getD i 0=c):jbL s c (i+1)=((jbL s c i).1++[(s.take i).drop (jbL s c i).2],i+1):=by rw [jbL,if_pos h]
theorem cut_no {s:Str} {c:UInt8} {i:Nat} (h:i≠s.length) (h2:s.getD i 0≠c):jbL s c (i+1)=jbL s c i:=by rw [jbL,if_neg (by rintro (e|e);exact h e;exact h2 e)]
theorem cut_le (s:Str) (c:UInt8): ∀i,(jbL s c i).2≤i∧(jbL s c i).1.length≤i
 |0=>by simp [jbL]
 |i+1=>by
  have:=cut_le s c i
  unfold jbL
  split
  ·simp
   omega
  ·omega
theorem byte_eq {a c:UInt8} (h:(a.toNat:Int)=c.toNat):a=c:=UInt8.toNat_inj.1 zO
theorem byte_ne {a c:UInt8} (h: ¬(a.toNat:Int)=c.toNat):a≠c:=fun e=>h (by rw [e])
theorem jhs (ss:List Str) (s:Str):encs (ss++[s])=encs ss++[str s]:=by rw [jbW,jbW,List.map_append];rfl
theorem f63_c (m:Md Tryz.prog B) (h:Hp) (s:Str) (hl:s.length≤100000) (c:UInt8):FnC m 63 #[str s,.int .u8 (c.toNat:Int)] h fun w h'=> ∃new,h'=h++new∧OwnS 9 1 w (cutS s c).length (encs (cutS s c)) new:=by
 refine jae Tryz.func63 rfl rfl (l:=(str s)::(.int .u8 (c.toNat:Int))::uu33) rfl ?_
 intro cf cs K hK
 refine D145 ?_;refine D145 ?_;refine D139 ?_;refine D145 ?_;refine D15 ?_
 refine jam (fun nn l h'=> ∃(i:Nat) (wp:Option Addr) (wc:Nat) (M:Hp) (f:Nat),nn=s.length+1-i∧(i≤s.length+1)∧(f=(jbL s c i).2)∧(OwnS 9 1 (.slice wp (jbL s c i).1.length wc) (jbL s c i).1.length (encs (jbL s c i).1) M)∧(∃U:Nat→Value,l=((str s)::(.int .u8 (c.toNat:Int))::(U 2)::(U 3)::(U 4)::(.slice wp (jbL s c i).1.length wc)::(.int .i64 (f:Int))::(.int .i64 (i:Int))::vw27 U 8 []))∧h++M=h') _ ⟨0,none,0,[],0,rfl,by omega,rfl,OwnS.nil,exU rfl,zD⟩ ?_;rintro nn l h' ⟨i,wp,wc,M,f,rfl,hi,hf,how,⟨U,rfl⟩,rfl⟩ hnext;obtain ⟨hfl,hpl⟩:=cut_le s c i
 refine D3 ?_;refine rs4 ?_;refine Z2 ?_;refine D105 ?_
 refine jiW rfl zq (fun hc=>?_) (fun hc=>?_)
 ·refine D121 ?_;refine D131 ?_;refine rs11 ?_;refine Z2 ?_;refine D105 ?_
  refine jaM rfl zq (fun hc=>?_) (fun hc=>?_)
  ·refine Z6 ?_;refine D189 ?_;refine rs8 ?_;refine Z4 ?_;refine jfN (j:=f) (k:=i) rfl zq und9 zO zO ?_
   refine k_bs kdq rfl zq zA zA rfl (fun q30=>k_hp (jab ?_));refine jaZ rfl zq rfl how kdq zO zO (fun w9 n9 o9=>jab ?_);obtain ⟨p9,c9,rfl,hc9,r9⟩:=jar (B:=B) o9
   refine D0 ?_;refine D157 ?_;refine D188 ?_
   have hks:=jnR (s:=s) (c:=c) (i:=i) (.inl zO)
   have hkl:(jbL s c (i+1)).1.length=(jbL s c i).1.length+1:=by rw [hks];simp
   have hk2:(jbL s c (i+1)).2=i+1:=by rw [hks]
   rw [←hkl];exact E12
  ·refine Z3 ?_;refine k_sidx (c:=s.getD i 0) rfl rfl und9 zO (get_at zO) ?_;refine Zs ?_
   refine jaM rfl rfl (fun hc=>?_) (fun hc=>?_);refine D10 ?_;refine D121 ?_;refine rs8 ?_;refine Z4 ?_;refine jfN (j:=f) (k:=i) rfl zq und9 zO zO ?_
   refine k_bs kdq rfl zq zA zA rfl (fun q30=>k_hp (jab ?_));refine jaZ rfl zq rfl how kdq zO zO (fun w9 n9 o9=>jab ?_);obtain ⟨p9,c9,rfl,hc9,r9⟩:=jar (B:=B) o9
   refine D0 ?_;refine D157 ?_
   rotate_left
   refine D10 ?_;refine D119 ?_
   all_goals
    refine D188 ?_
   ·have hks:jbL s c (i+1)=jbL s c i:=cut_no zO (byte_ne zS)
    rw [←hks];exact m.weak jaa (hnext _ _ _ zO ⟨i+1,wp,wc,M,f,rfl,by omega,by rw [hks];exact hf,by rw [hks];exact how,exU rfl,rfl⟩)
   ·have hks:=jnR (s:=s) (c:=c) (i:=i) (.inr (byte_eq zS))
    have hkl:(jbL s c (i+1)).1.length=(jbL s c i).1.length+1:=by rw [hks];simp
    have hk2:(jbL s c (i+1)).2=i+1:=by rw [hks]
    rw [←hkl];exact E12
 ·refine D118 ?_;refine D31 ?_;refine D165 ?_;refine jac (h++M) rfl Tryz.func63 rfl jaa ?_;refine D5 ?_
  obtain rfl:i=s.length+1:=by omega
  exact ⟨M,rfl,how⟩
end Go.Proofs
namespace Go.Proofs
open Go.Lo
open Go.Conc (G)
set_option maxRecDepth 100000
set_option synthInstance.maxSize 100000
set_option synthInstance.maxHeartbeats 1000000
set_option maxHeartbeats 4000000
variable {B:Array Obj}
variable [LaidO B]
structure RdTb (B:Array Obj) (h:Hp) (b:Tb) (ps:Option Addr) (ns ks:Nat) (pw:Option Addr) (nw cw:Nat) (pb:Option Addr) (nb cb:Nat):Prop where
 s:RdS B h 1 (.slice ps ns ks) ns (encs b.sts)
 sc:ns≤ks
 w:RdLn B h (.slice pw nw cw) nw b.waters
 u:RdLn B h (.slice pb nb cb) nb b.butts
 sm:TbSm b
 n1:1≤ns
 n3:ns≤3
 w2:nw≤2
 b2:nb≤2
 wf: ∀l∈b.waters,l.figs.length=ns∧ ∀f∈l.figs,jbm f=true
 bf: ∀l∈b.butts,l.figs.length=ns∧ ∀f∈l.figs,jbm f=true
section
variable {h H:Hp} {b:Tb} {ps:Option Addr} {ns ks:Nat} {pw:Option Addr} {nw cw:Nat} {pb:Option Addr} {nb cb:Nat}
theorem RdTb.keeps (r:RdTb B h b ps ns ks pw nw cw pb nb cb) (s:h.Sublist H):RdTb B H b ps ns ks pw nw cw pb nb cb:=
 ⟨r.s.keeps s,r.sc,r.w.keeps s,r.u.keeps s,r.sm,r.n1,r.n3,r.w2,r.b2,r.wf,r.bf⟩
theorem RdTb.sl (r:RdTb B h b ps ns ks pw nw cw pb nb cb):b.sts.length=ns:=r.s.elen zA
theorem RdTb.wl (r:RdTb B h b ps ns ks pw nw cw pb nb cb):b.waters.length=nw:=jcX r.w
theorem RdTb.bl (r:RdTb B h b ps ns ks pw nw cw pb nb cb):b.butts.length=nb:=jcX r.u
end
abbrev cV (bt:Bool) (li st:Int):Value:= .agg [.bool bt,.int .i64 li,.int .i64 st].toArray
def jgo (b:Tb) (c:Ce):Bool:=hasT b c&&decide (figT b c≠dash)
def rowK (b:Tb) (bt:Bool) (j k:Nat):List Ce:=((List.range k).map fun (s:Nat)=>(⟨bt,(j:Int),(s:Int)⟩:Ce)).filter (jgo b)
def accJ (b:Tb) (bt:Bool) (j:Nat):List Ce:=(List.range j).flatMap fun j'=>rowK b bt j' b.sts.length
def accI (b:Tb) (i:Nat):List Ce:=(List.range i).flatMap fun i'=>accJ b (decide (i'=1)) 2
def accC (b:Tb) (i j k:Nat):List Ce:=accI b i++accJ b (decide (i=1)) j++rowK b (decide (i=1)) j k
theorem rowK_yes {b:Tb} {bt:Bool} {j k:Nat} (h:jgo b ⟨bt,(j:Int),(k:Int)⟩=true):rowK b bt j (k+1)=rowK b bt j k++[⟨bt,(j:Int),(k:Int)⟩]:=by
 rw [rowK,List.range_succ,List.map_append,List.filter_append];simp [h,rowK]
theorem rowK_no {b:Tb} {bt:Bool} {j k:Nat} (h:jgo b ⟨bt,(j:Int),(k:Int)⟩=false):rowK b bt j (k+1)=rowK b bt j k:=by
 rw [rowK,List.range_succ,List.map_append,List.filter_append];simp [h,rowK]
theorem jbX {b:Tb} {i j k:Nat} (h:jgo b ⟨decide (i=1),(j:Int),(k:Int)⟩=true):accC b i j (k+1)=accC b i j k++[⟨decide (i=1),(j:Int),(k:Int)⟩]:=by
 rw [accC,rowK_yes h,accC];simp only [List.append_assoc]
theorem accC_no {b:Tb} {i j k:Nat} (h:jgo b ⟨decide (i=1),(j:Int),(k:Int)⟩=false):accC b i j (k+1)=accC b i j k:=by
 rw [accC,rowK_no h,accC]
theorem jjt (b:Tb) (i j:Nat):accC b i j b.sts.length=accC b i (j+1) 0:=by
 rw [accC,accC,accJ,accJ,List.range_succ,List.flatMap_append];simp [rowK]
theorem jn1 (b:Tb) (i:Nat):accC b i 2 0=accC b (i+1) 0 0:=by
 rw [accC,accC,accI,accI,List.range_succ,List.flatMap_append];simp [rowK,accJ]
theorem jk1 (b:Tb):accC b 2 0 0=jad b:=by
 have e (bt:Bool) (j:Nat):rowT b bt j=rowK b bt j b.sts.length:=rfl
 have z (bt:Bool) (j:Nat):rowK b bt j 0=[]:=rfl
 rw [jad,e,e,e,e];simp [accC,accI,accJ,z,List.range_succ]
theorem jhN (b:Tb) (bt:Bool) (j k:Nat):(rowK b bt j k).length≤k:=by
 have:=List.length_filter_le (jgo b) ((List.range k).map fun (s:Nat)=>(⟨bt,(j:Int),(s:Int)⟩:Ce))
 simpa [rowK] using this
theorem jj4 (b:Tb) (bt:Bool) {j:Nat} (hj:j≤2):(accJ b bt j).length≤j*b.sts.length:=by
 rcases (by omega:j=0∨j=1∨j=2) with rfl|rfl|rfl
 ·simp [accJ]
 ·have:=jhN b bt 0 b.sts.length
  simp [accJ,List.range_succ]
  omega
 ·have:=jhN b bt 0 b.sts.length
  have:=jhN b bt 1 b.sts.length
  simp [accJ,List.range_succ]
  omega
instance:KeyCT Tryz.prog 37:=⟨by kernel_rfl⟩
theorem jgv (i:Nat) (hi:i<2):(halvesL.drop ((i:Int).toNat*3)).take 3=[str (hwS i),.bool (decide (i=1)),.func (.func (261+i)) #[] #[]]:=by
 rcases (by omega:i=0∨i=1) with rfl|rfl<;>rfl
theorem jhY (b:Tb) {i:Nat} (hi:i<2):hL b i=jbh b (decide (i=1)):=by
 rcases (by omega:i=0∨i=1) with rfl|rfl<;>rfl
theorem jnn {b:Tb} {i k j:Nat} (hi:i<2):hasT b ⟨decide (i=1),(k:Int),(j:Int)⟩=true↔k<(hL b i).length∧j<b.sts.length:=by
 rw [jfb,jhY b hi];simp only
 omega
theorem figT_at {b:Tb} {i k j:Nat} (hi:i<2):figT b ⟨decide (i=1),(k:Int),(j:Int)⟩=((hL b i).getD k default).figs.getD j []:=by
 rw [figT,jey,jhY b hi];simp only [Int.toNat_natCast]
theorem jiC {b:Tb} {i k n:Nat} (hi:i<2) (hk:(hL b i).length≤k):rowK b (decide (i=1)) k n=[]:=by
 rw [rowK,List.filter_eq_nil_iff];intro c hc
 obtain ⟨s,_,rfl⟩:=List.mem_map.1 hc
 rw [jgo];cases hh:hasT b ⟨decide (i=1),(k:Int),(s:Int)⟩ with
 |false=>simp
 |true=>have:=(jnn hi).1 hh;omega
theorem jlS (b:Tb) {i k:Nat} (hi:i<2) (hk:k≤2) (hl:(hL b i).length≤k):accC b i k 0=accC b (i+1) 0 0:=by
 rw [←jn1];have one: ∀k,(hL b i).length≤k→accC b i k 0=accC b i (k+1) 0:=fun k hk=>by
  rw [←jjt,accC,accC,jiC hi hk,jiC hi hk]
 rcases (by omega:k=0∨k=1∨k=2) with rfl|rfl|rfl
 ·rw [one 0 hl,one 1 zO]
 ·rw [one 1 hl]
 ·rfl
theorem jhT {b:Tb} {bt:Bool} {j k:Nat} {c:Ce} (h:c∈rowK b bt j k):c.butt=bt∧c.line=j∧0≤c.st∧c.st<k:=by
 rw [rowK,List.mem_filter,List.mem_map] at h
 obtain ⟨⟨s,hs,rfl⟩,_⟩:=h
 rw [List.mem_range] at hs
 exact ⟨rfl,rfl,by simp only;omega,by simp only;omega⟩
theorem accC_new {b:Tb} {i k j:Nat} (hi:i<2):(⟨decide (i=1),(k:Int),(j:Int)⟩:Ce)∉accC b i k j:=by
 intro h
 rw [accC,List.mem_append,List.mem_append] at h
 rcases h with (h|h)|h
 ·simp only [accI,accJ,List.mem_flatMap,List.mem_range] at h
  obtain ⟨i',hi',j',_,h⟩:=h
  have:=(jhT h).1
  simp only at this
  rw [decide_eq_decide] at this
  omega
 ·simp only [accJ,List.mem_flatMap,List.mem_range] at h
  obtain ⟨j',hj',h⟩:=h
  have:=(jhT h).2.1
  simp only at this
  omega
 ·have:=(jhT h).2.2.2
  simp only at this
  omega
theorem jk0 (b:Tb) {i k j:Nat} (hi:i≤2) (hk:k≤2) (h3:b.sts.length≤3):(accC b i k j).length≤(i*2+k)*3+j:=by
 have h1:=jj4 b (decide (i=1)) hk
 have h2:=jhN b (decide (i=1)) k j
 have h4:(accI b i).length≤i*6:=by
  have a0:=jj4 b (decide (0=1)) (Nat.le_refl 2)
  have a1:=jj4 b (decide (1=1)) (Nat.le_refl 2)
  rcases (by omega:i=0∨i=1∨i=2) with rfl|rfl|rfl<;>simp [accI,List.range_succ] at* <;>omega
 have h5:k*b.sts.length≤k*3:=Nat.mul_le_mul_left k h3
 rw [accC,List.length_append,List.length_append];omega
def shC (tb:List Value) (cv mv:Value) (la:List Int) (cl:List Value):List Value:=tb++[cv,mv]++(ints la++cl)
section
variable {a0 a1 a2 a3 cv mv:Value} {la:List Int} {cl:List Value}
instance:At (shC [a0,a1,a2,a3] cv mv la cl) 4 cv:=⟨rfl⟩
instance:At (shC [a0,a1,a2,a3] cv mv la cl) 5 mv:=⟨rfl⟩
instance {u:Value}:SetSeg (shC [a0,a1,a2,a3] cv mv la cl) 4 [u] (shC [a0,a1,a2,a3] u mv la cl):=⟨by simp [shC],by simp [shC]⟩
theorem jcf {l l':List Value} {i:Nat} {v:Value} (h:i<l.length) (e:l'=l.set i v):SetSeg l i [v] l':=⟨by
 rw [e,List.set_eq_take_append_cons_drop,if_pos h];simp,by simp;omega⟩
theorem jcx {k:Nat} (h:k<la.length) (z:Int):SetSeg (shC [a0,a1,a2,a3] cv mv la cl) (6+(k:Int).toNat*1) [.int .i64 z] (shC [a0,a1,a2,a3] cv mv (la.set k z) cl):=by
 rw [Int.toNat_natCast,Nat.mul_one];have hk:k<(ints la).length:=by simpa using h
 refine jcf (by simp [shC];omega) ?_
 rw [shC,shC,List.set_append_right _ _ zD,show 6+k-([a0,a1,a2,a3]++[cv,mv]).length=k by simp,List.set_append_left _ _ hk,ints,ints,List.map_set]
theorem jcy {k:Nat} (hl:la.length=12) (h:k<cl.length) (u:Value):SetSeg (shC [a0,a1,a2,a3] cv mv la cl) (18+(k:Int).toNat*1) [u] (shC [a0,a1,a2,a3] cv mv la (cl.set k u)):=by
 rw [Int.toNat_natCast,Nat.mul_one];refine jcf (by simp [shC,hl];omega) ?_
 rw [shC,shC,List.set_append_right _ _ zN,List.set_append_right _ _ (by simp [hl];omega),show 18+k-([a0,a1,a2,a3]++[cv,mv]).length-(ints la).length=k by simp [hl];omega]
theorem jmi {k:Nat} (h:k<la.length):(shC [a0,a1,a2,a3] cv mv la cl)[6+k]?=some (.int .i64 (la.getD k 0)):=by
 have e:shC [a0,a1,a2,a3] cv mv la cl=[a0,a1,a2,a3,cv,mv]++(ints la++cl):=rfl
 rw [e,List.getElem?_append_right zD,show 6+k-[a0,a1,a2,a3,cv,mv].length=k by simp,List.getElem?_append_left (by simpa using h),List.getElem?_map,List.getElem?_eq_getElem h,List.getD_eq_getElem?_getD,List.getElem?_eq_getElem h];rfl
theorem jmj {k:Nat} (h:la.length=12):(shC [a0,a1,a2,a3] cv mv la cl)[18+k]?=cl[k]?:=by
 have e:shC [a0,a1,a2,a3] cv mv la cl=([a0,a1,a2,a3,cv,mv]++ints la)++cl:=by simp [shC]
 rw [e,List.getElem?_append_right (by simp [h]),show 18+k-([a0,a1,a2,a3,cv,mv]++ints la).length=k by simp [h]]
end
def LatOk (b:Tb) (cs:List Ce) (la:List Int):Prop:=la.length=12∧ ∀x,x<cs.length→la.getD x 0=(jey b (cs.getD x default)).lat
def CanOk (B:Array Obj) (M:Hp) (b:Tb) (cs:List Ce) (cl:List Value):Prop:=cl.length=12∧ ∀x,x<cs.length→ ∃p c,cl[x]?=some (.slice p (meaS (figT b (cs.getD x default))).length c)∧(meaS (figT b (cs.getD x default))).length≤c∧RdS B M 1 (.slice p (meaS (figT b (cs.getD x default))).length c) (meaS (figT b (cs.getD x default))).length (ints (meaS (figT b (cs.getD x default))))
theorem jeH {α:Type} {d:α} {l:List α} {a:α} (x:Nat):(l++[a]).getD x d=if x<l.length then l.getD x d else if x=l.length then a else d:=by
 rw [List.getD_eq_getElem?_getD,List.getElem?_append];split
 ·rw [List.getD_eq_getElem?_getD]
 ·rename_i h
  split
  ·rename_i e
   subst e
   simp
  ·rw [List.getElem?_eq_none zN];rfl
theorem LatOk.snoc {b:Tb} {cs:List Ce} {la:List Int} (h:LatOk b cs la) {c:Ce} {z:Int} (hl:cs.length<12) (hz:z=(jey b c).lat):LatOk b (cs++[c]) (la.set cs.length z):=by
 refine ⟨by simpa using h.1,fun x hx=>?_⟩
 rw [List.length_append,List.length_singleton] at hx
 rw [jeH,List.getD_eq_getElem?_getD,List.getElem?_set];by_cases e:x<cs.length
 ·rw [if_pos e,if_neg zO,←List.getD_eq_getElem?_getD,h.2 x e]
 ·obtain rfl:x=cs.length:=by omega
  rw [if_neg e,if_pos rfl,if_pos rfl,if_pos (by rw [h.1];exact hl),hz];rfl
theorem CanOk.snoc {B:Array Obj} {M:Hp} {b:Tb} {cs:List Ce} {cl:List Value} (h:CanOk B M b cs cl) {c:Ce} (hl:cs.length<12) {nw:Hp} {u:Value} {f:Str} (hf:f=figT b c) (o:OwnS 3 1 u (meaS f).length (ints (meaS f)) nw):CanOk B (M++nw) b (cs++[c]) (cl.set cs.length u):=by
 subst hf
 refine ⟨by simpa using h.1,fun x hx=>?_⟩
 rw [List.length_append,List.length_singleton] at hx
 rw [jeH,List.getElem?_set];by_cases e:x<cs.length
 ·rw [if_pos e,if_neg zO];obtain ⟨p,c',e1,e2,e3⟩:=h.2 x e
  exact ⟨p,c',e1,e2,e3.keeps (List.sublist_append_left _ _)⟩
 ·obtain rfl:x=cs.length:=by omega
  rw [if_neg e,if_pos rfl,if_pos rfl,if_pos (by rw [h.1];exact hl)];obtain ⟨p,c',rfl,hc,rd⟩:=jar (B:=B) o
  exact ⟨p,c',rfl,hc,rd.keeps (List.sublist_append_right _ _)⟩
theorem LatOk.nil (b:Tb):LatOk b [] (List.replicate 12 0):=⟨rfl,fun x hx=>by simp at hx⟩
theorem CanOk.nil (B:Array Obj) (b:Tb):CanOk B [] b [] (List.replicate 12 (.slice none 0 0)):=⟨rfl,fun x hx=>by simp at hx⟩
structure Sheet (B:Array Obj) (H:Hp) (b:Tb) (q:Nat) (tv:List Value):Prop where
 twelve:(jad b).length≤12
 tb:RdN B H q 0 tv
 cells: ∃p c,Rd B H ⟨q,4,none⟩ (.slice p (jad b).length c)∧(jad b).length≤c∧RdS B H 3 (.slice p (jad b).length c) (jad b).length (encs (jad b))
 map: ∃rw qm,Rd B H ⟨q,5,none⟩ (.map (some qm))∧(⟨rw,qm,mapC (jad b)⟩:Chunk)∈H
 lat: ∀i,i<(jad b).length→Rd B H ⟨q,6+i,none⟩ (.int .i64 (dA (cdT b) i).lat)
 can: ∀i,i<(jad b).length→ ∃p c,Rd B H ⟨q,18+i,none⟩ (.slice p (dA (cdT b) i).can.length c)∧(dA (cdT b) i).can.length≤c∧RdS B H 1 (.slice p (dA (cdT b) i).can.length c) (dA (cdT b) i).can.length (ints (dA (cdT b) i).can)
theorem Sheet.keeps {B:Array Obj} {H H':Hp} {b:Tb} {q:Nat} {tv:List Value} (s:Sheet B H b q tv) (k:H.Sublist H'):Sheet B H' b q tv:=by
 obtain ⟨h0,h1,⟨p,c,h2,h3,h4⟩,⟨rw,qm,h5,h6⟩,h7,h8⟩:=s
 refine ⟨h0,fun j hj=>(h1 j hj).keeps k,⟨p,c,h2.keeps k,h3,h4.keeps k⟩,⟨rw,qm,h5.keeps k,k.subset h6⟩,fun i hi=>(h7 i hi).keeps k,fun i hi=>?_⟩
 obtain ⟨p,c,a1,a2,a3⟩:=h8 i hi
 exact ⟨p,c,a1.keeps k,a2,a3.keeps k⟩
theorem sheet_of {B:Array Obj} {W M:Hp} {b:Tb} {qm q:Nat} {a0 a1 a2 a3:Value} {wp:Option Addr} {wc:Nat} {la:List Int} {cl:List Value} (hn:(jad b).length≤12)
  (o:OwnS 37 3 (.slice wp (jad b).length wc) (jad b).length (encs (jad b)) W) (hla:LatOk b (jad b) la) (hcl:CanOk B M b (jad b) cl):
  Sheet B ([⟨true,qm,mapC (jad b)⟩,⟨true,q,.cells (shC [a0,a1,a2,a3] (.slice wp (jad b).length wc) (.map (some qm)) la cl).toArray 132 (0,0)⟩]++W++M) b q [a0,a1,a2,a3]:=by
 have hin:(⟨true,q,.cells (shC [a0,a1,a2,a3] (.slice wp (jad b).length wc) (.map (some qm)) la cl).toArray 132 (0,0)⟩:Chunk)∈[⟨true,qm,mapC (jad b)⟩,⟨true,q,.cells (shC [a0,a1,a2,a3] (.slice wp (jad b).length wc) (.map (some qm)) la cl).toArray 132 (0,0)⟩]++W++M:=by simp
 have rd: ∀o v,(shC [a0,a1,a2,a3] (.slice wp (jad b).length wc) (.map (some qm)) la cl)[o]?=some v→Rd B ([⟨true,qm,mapC (jad b)⟩,⟨true,q,.cells (shC [a0,a1,a2,a3] (.slice wp (jad b).length wc) (.map (some qm)) la cl).toArray 132 (0,0)⟩]++W++M) ⟨q,o,none⟩ v:=fun o v e=>Rd.held hin (by simpa using e)
 obtain ⟨p',c',e,hc,r⟩:=jar (B:=B) o
 cases e
 refine ⟨hn,fun j hj=>?_,⟨wp,wc,rd _ _ rfl,hc,r.keeps (List.Sublist.trans (List.sublist_append_right _ _) (List.sublist_append_left _ _))⟩,⟨true,qm,rd _ _ rfl,by simp⟩,fun i hi=>?_,fun i hi=>?_⟩
 ·rw [Nat.zero_add];refine rd _ _ ?_
  simp only [List.length_cons,List.length_nil] at hj
  rcases (by omega:j=0∨j=1∨j=2∨j=3) with rfl|rfl|rfl|rfl<;>rfl
 ·rw [jap b hi];refine rd _ _ ?_
  rw [jmi (by rw [hla.1];omega),hla.2 i hi];rfl
 ·rw [jap b hi];obtain ⟨p,c,e1,e2,e3⟩:=hcl.2 i hi
  exact ⟨p,c,rd _ _ (by rw [jmj hla.1];exact e1),e2,e3.keeps (List.sublist_append_right _ _)⟩
theorem jdc {B:Array Obj} {h' F1 F2 F3 H X Y Z:Hp} [a:Off h' Z F1] [b:Off F1 Y F2] [c:Off F2 X F3] [s:SubH H F3]:Weak B h' (H++X++(Y++Z)):=by
 rw [←List.append_assoc];exact (Weak.perm a.perm).trans (((Weak.perm b.perm).trans (((Weak.perm c.perm).trans ((Weak.sub s.sub).apps X)).apps Y)).apps Z)
theorem f95_c (m:Md Tryz.prog B) (h:Hp) {b:Tb} {ps:Option Addr} {ns ks:Nat} {pw:Option Addr} {nw cw:Nat} {pb:Option Addr} {nb cb:Nat} (rd:RdTb B h b ps ns ks pw nw cw pb nb cb):FnC m 95 #[tbV b ps ns ks pw nw cw pb nb cb] h fun v h'=> ∃new q,h'=h++new∧v= .pointer (some ⟨q,0,none⟩)∧Sheet B new b q (tbL b ps ns ks pw nw cw pb nb cb):=by
 have hsl:=rd.sl
 have hn1:=rd.n1
 have hn3:=rd.n3
 have hw2:=rd.w2
 have hb2:=rd.b2
 refine jae Tryz.func95 rfl rfl (l:=(tbV b ps ns ks pw nw cw pb nb cb)::uu94) rfl ?_
 intro cf cs K hK
 refine rs2 ?_;refine jaP rfl zq (fun q1=>k_hp (jab ?_));refine D0 ?_;refine rs6 ?_;refine Zs ?_;refine D52 ?_
 refine k_mkmapC rfl zq (fun qm=>k_hp (jab ?_));refine D52 ?_
 refine jaP rfl zq (fun q18=>k_hp (jab ?_));refine D122 ?_;refine rs2 ?_;refine jcB (vs:=halvesL) rfl zq rfl jeg ?_;refine D195 ?_
 refine jam (fun nn l h'=> ∃(i:Nat) (wp1:Option Addr) (wc1:Nat) (W1 M1:Hp) (la1:List Int) (cl1:List Value),nn=2-i∧(i≤2)∧(OwnS 37 3 (.slice wp1 (accC b i 0 0).length wc1) (accC b i 0 0).length (encs (accC b i 0 0)) W1)∧(LatOk b (accC b i 0 0) la1)∧(CanOk B M1 b (accC b i 0 0) cl1)∧(∃U:Nat→Value,l=((tbV b ps ns ks pw nw cw pb nb cb)::(.pointer (some ⟨q1,0,none⟩))::(U 2)::(.pointer (some ⟨q18,0,none⟩))::vw15 U 4 ((.agg halvesL.toArray)::(.int .i64 (i:Int))::vw74 U 21 [])))∧h++[⟨true,q1,.cells (tbL b ps ns ks pw nw cw pb nb cb).toArray 25 (0,0)⟩,⟨true,qm,mapC (accC b i 0 0)⟩,⟨true,q18,.cells (shC (tbL b ps ns ks pw nw cw pb nb cb) (.slice wp1 (accC b i 0 0).length wc1) (.map (some qm)) la1 cl1).toArray 132 (0,0)⟩]++W1++M1=h') _ ⟨0,none,0,[],[],List.replicate 12 0,List.replicate 12 (.slice none 0 0),rfl,by omega,OwnS.nil,LatOk.nil b,CanOk.nil B b,exU rfl,(by rw [List.append_nil,List.append_nil];rfl)⟩ ?_;rintro nn l h' ⟨i,wp1,wc1,W1,M1,la1,cl1,rfl,hi,how1,hla1,hcl1,⟨U,rfl⟩,rfl⟩ hnext1;refine rs1 ?_;refine jaq rfl zq (fun hc=>?_) (fun hc=>?_)
 ·refine D135 ?_;refine rs3 ?_;refine jkJ rfl zq zO zO (jgv i zO) ?_
  refine jat rfl zq (fun q5=>k_hp (jab ?_));refine D20 ?_;refine D120 ?_
  have hin:i<2:=by omega
  obtain ⟨pl,nl,cl0,hsl1,hln,hnl⟩:=jnp (B:=B) (b:=b) (ps:=ps) (ns:=ns) (ks:=ks) rd.w (show nw≤1000 by omega) rd.u (show nb≤1000 by omega) i hin
  have hsmi: ∀l∈hL b i,l.figs.length=ns∧ ∀f∈l.figs,f.length≤100000∧jbm f=true:=by
   unfold hL
   split
   ·exact fun l hl=>⟨(rd.wf l hl).1,fun f hf=>⟨(rd.sm.wat l hl).2 f hf,(rd.wf l hl).2 f hf⟩⟩
   ·exact fun l hl=>⟨(rd.bf l hl).1,fun f hf=>⟨(rd.sm.but l hl).2 f hf,(rd.bf l hl).2 f hf⟩⟩
  have hnl2:nl≤2:=by
   have h1:=jcX hln
   unfold hL at h1
   have h2:=rd.wl
   have h3:=rd.bl
   split at h1<;>omega
  refine rr7 ?_;refine Z2 ?_;refine D92 ?_;rintro v rfl;refine D7 ?_
  refine jai rfl zq ?_;refine k_ld (v:= .slice pl nl cl0) rfl zq (jiJ hsl1) ?_;refine D124 ?_;refine D15 ?_;obtain ⟨lps,hle,rl,hfig⟩:=hln
  have hll:=rl.elen zA
  have hln2:(hL b i).length=nl:=by rw [←hle,List.length_map,hll]
  refine m.weak (h':=h++[⟨true,q1,.cells (tbL b ps ns ks pw nw cw pb nb cb).toArray 25 (0,0)⟩,⟨true,qm,mapC (accC b i 0 0)⟩,⟨true,q18,.cells (shC (tbL b ps ns ks pw nw cw pb nb cb) (.slice wp1 (accC b i 0 0).length wc1) (.map (some qm)) la1 cl1).toArray 132 (0,0)⟩]++[⟨true,q5,.cells [str (hwS i),.bool (decide (i=1)),.func (.func (261+i)) #[] #[]].toArray 184 (0,0)⟩]++W1++M1) jdF ?_
  refine jam (fun nn l h'=> ∃(k:Nat) (wp2:Option Addr) (wc2:Nat) (W2 M2:Hp) (la2:List Int) (cl2:List Value),nn=nl-k∧(k≤nl)∧(OwnS 37 3 (.slice wp2 (accC b i k 0).length wc2) (accC b i k 0).length (encs (accC b i k 0)) W2)∧(LatOk b (accC b i k 0) la2)∧(CanOk B M2 b (accC b i k 0) cl2)∧(∃U:Nat→Value,l=((tbV b ps ns ks pw nw cw pb nb cb)::(.pointer (some ⟨q1,0,none⟩))::(U 2)::(.pointer (some ⟨q18,0,none⟩))::(U 4)::(.pointer (some ⟨q5,0,none⟩))::vw13 U 6 ((.agg halvesL.toArray)::(.int .i64 (i:Int))::vw6 U 21 ((.slice pl nl cl0)::(.int .i64 (nl:Int))::(.int .i64 (k:Int))::vw65 U 30 []))))∧h++[⟨true,q1,.cells (tbL b ps ns ks pw nw cw pb nb cb).toArray 25 (0,0)⟩,⟨true,qm,mapC (accC b i k 0)⟩,⟨true,q18,.cells (shC (tbL b ps ns ks pw nw cw pb nb cb) (.slice wp2 (accC b i k 0).length wc2) (.map (some qm)) la2 cl2).toArray 132 (0,0)⟩]++[⟨true,q5,.cells [str (hwS i),.bool (decide (i=1)),.func (.func (261+i)) #[] #[]].toArray 184 (0,0)⟩]++W2++M2=h') _ ⟨0,wp1,wc1,W1,M1,la1,cl1,rfl,by omega,how1,hla1,hcl1,exU rfl,rfl⟩ ?_;rintro nn l h' ⟨k,wp2,wc2,W2,M2,la2,cl2,rfl,hk,how2,hla2,hcl2,⟨U,rfl⟩,rfl⟩ hnext2;refine rs1 ?_;refine jaq rfl zq (fun hc=>?_) (fun hc=>?_)
  ·refine D156 ?_
   obtain ⟨rl_b,rl_o,rfl⟩:=rl.ptr zO
   refine rr6 ?_;refine Zs ?_;refine D47 ?_;refine D69 ?_;obtain ⟨x,hx⟩: ∃x,x=lps.getD k default:=⟨_,rfl⟩
   rw [←hx];refine jat rfl zq (fun q7=>k_hp (jab ?_));refine Zs ?_;refine D160 ?_;refine jmn ?_;refine D3 ?_;refine jmp ?_;refine D3 ?_
   have hxm:x∈lps:=hx▸jan zO
   obtain ⟨hxc,rdf0⟩:=hfig x hxm
   have hxl:(hL b i).getD k default=x.ln:=by rw [←hle,jbA _ _ zO,←hx]
   obtain ⟨hfl,hfs⟩:=hsmi x.ln (hxl▸jan zO)
   refine rr4 ?_;refine Z4 ?_;refine D143 ?_;refine m.weak (h':=h++[⟨true,q1,.cells (tbL b ps ns ks pw nw cw pb nb cb).toArray 25 (0,0)⟩,⟨true,qm,mapC (accC b i k 0)⟩,⟨true,q18,.cells (shC (tbL b ps ns ks pw nw cw pb nb cb) (.slice wp2 (accC b i k 0).length wc2) (.map (some qm)) la2 cl2).toArray 132 (0,0)⟩]++[⟨true,q5,.cells [str (hwS i),.bool (decide (i=1)),.func (.func (261+i)) #[] #[]].toArray 184 (0,0)⟩]++[⟨true,q7,.cells [.int .i64 x.ln.lat,.slice x.p x.ln.figs.length x.c].toArray 121 (0,0)⟩]++W2++M2) jdF ?_;refine jam (fun nn l h'=> ∃(j:Nat) (wp3:Option Addr) (wc3:Nat) (W3 M3:Hp) (la3:List Int) (cl3:List Value),nn=x.ln.figs.length-j∧(j≤x.ln.figs.length)∧(OwnS 37 3 (.slice wp3 (accC b i k j).length wc3) (accC b i k j).length (encs (accC b i k j)) W3)∧(LatOk b (accC b i k j) la3)∧(CanOk B M3 b (accC b i k j) cl3)∧(∃U:Nat→Value,l=((tbV b ps ns ks pw nw cw pb nb cb)::(.pointer (some ⟨q1,0,none⟩))::(U 2)::(.pointer (some ⟨q18,0,none⟩))::(U 4)::(.pointer (some ⟨q5,0,none⟩))::(.int .i64 (k:Int))::(.pointer (some ⟨q7,0,none⟩))::vw11 U 8 ((.agg halvesL.toArray)::(.int .i64 (i:Int))::vw6 U 21 ((.slice (some ⟨rl_b,rl_o,none⟩) nl cl0)::(.int .i64 (nl:Int))::(.int .i64 (k:Int))::vw5 U 30 ((.slice x.p x.ln.figs.length x.c)::(.int .i64 (x.ln.figs.length:Int))::(.int .i64 (j:Int))::vw57 U 38 [])))))∧h++[⟨true,q1,.cells (tbL b ps ns ks pw nw cw pb nb cb).toArray 25 (0,0)⟩,⟨true,qm,mapC (accC b i k j)⟩,⟨true,q18,.cells (shC (tbL b ps ns ks pw nw cw pb nb cb) (.slice wp3 (accC b i k j).length wc3) (.map (some qm)) la3 cl3).toArray 132 (0,0)⟩]++[⟨true,q5,.cells [str (hwS i),.bool (decide (i=1)),.func (.func (261+i)) #[] #[]].toArray 184 (0,0)⟩]++[⟨true,q7,.cells [.int .i64 x.ln.lat,.slice x.p x.ln.figs.length x.c].toArray 121 (0,0)⟩]++W3++M3=h') _ ⟨0,wp2,wc2,W2,M2,la2,cl2,rfl,by omega,how2,hla2,hcl2,exU rfl,rfl⟩ ?_
   rintro nn l h' ⟨j,wp3,wc3,W3,M3,la3,cl3,rfl,hj,how3,hla3,hcl3,⟨U,rfl⟩,rfl⟩ hnext3;refine rs1 ?_;refine jaq rfl zq (fun hc=>?_) (fun hc=>?_)
   ·refine D156 ?_
    have rdf:=rdf0 zO
    obtain ⟨fb,fo,hfp⟩:=rdf.ptr zO
    have rdg:=rdf
    rw [hfp] at rdg
    obtain ⟨hsk2,hsk3⟩:=hfs _ (jan (l:=x.ln.figs) (show j<x.ln.figs.length by omega))
    replace hsk2:(x.ln.figs.getD j []).length≤100000:=hsk2
    replace hsk3:jbm (x.ln.figs.getD j [])=true:=hsk3
    have hht:hasT b (⟨decide (i=1),(k:Int),(j:Int)⟩:Ce)=true:=(jnn hin).2 ⟨by omega,by omega⟩
    have hft:figT b (⟨decide (i=1),(k:Int),(j:Int)⟩:Ce)=x.ln.figs.getD j []:=by rw [figT_at hin,hxl]
    have hn12:(accC b i k j).length<12:=by
     have:=jk0 b (i:=i) (k:=k) (j:=j) zO zO zO
     omega
    refine rr5 ?_;refine Zs ?_;refine D115 ?_;refine k_ld rfl zq (rdg.sat j zO zO) ?_;refine Zs ?_;refine D178 ?_;by_cases hda:x.ln.figs.getD j []=[45]
    ·refine jm3 rfl zq hda ?_;have hkc:jgo b (⟨decide (i=1),(k:Int),(j:Int)⟩:Ce)=false:=by rw [jgo,hht,hft,decide_eq_false (fun e=>e hda)];rfl
     refine D121 ?_;refine D31 ?_;refine D125 ?_
     have hks:=accC_no hkc
     rw [←hks];refine m.weak (h':=h++[⟨true,q1,.cells (tbL b ps ns ks pw nw cw pb nb cb).toArray 25 (0,0)⟩,⟨true,qm,mapC (accC b i k (j+1))⟩,⟨true,q18,.cells (shC (tbL b ps ns ks pw nw cw pb nb cb) (.slice wp3 (accC b i k (j+1)).length wc3) (.map (some qm)) la3 cl3).toArray 132 (0,0)⟩]++[⟨true,q5,.cells [str (hwS i),.bool (decide (i=1)),.func (.func (261+i)) #[] #[]].toArray 184 (0,0)⟩]++[⟨true,q7,.cells [.int .i64 x.ln.lat,.slice x.p x.ln.figs.length x.c].toArray 121 (0,0)⟩]++W3++M3) jdF ?_
     exact hnext3 _ _ _ zO ⟨j+1,wp3,wc3,W3,M3,la3,cl3,rfl,by omega,by rw [hks];exact how3,by rw [hks];exact hla3,by rw [hks];exact hcl3,exU rfl,rfl⟩
    ·refine jm4 rfl zq hda ?_;have hkc:jgo b (⟨decide (i=1),(k:Int),(j:Int)⟩:Ce)=true:=by rw [jgo,hht,hft,decide_eq_true (show x.ln.figs.getD j []≠dash from hda)];rfl
     have hfo:jaN (x.ln.figs.getD j [])=true:=by
      rw [jbm,Bool.or_eq_true] at hsk3
      exact hsk3.resolve_right fun e=>hda (of_decide_eq_true e)
     have hms:meaS (x.ln.figs.getD j [])=meaP (jao (x.ln.figs.getD j [])):=by rw [meaS,if_pos hfo]
     have hnew:=accC_new (b:=b) (i:=i) (k:=k) (j:=j) hin
     have hlat:x.ln.lat=(jey b (⟨decide (i=1),(k:Int),(j:Int)⟩:Ce)).lat:=by rw [jey,←jhY b hin];simp only [Int.toNat_natCast];rw [hxl]
     refine D140 ?_;refine jaz [(0,.pure),(1,.pure),(2,.pure),(5,.pure),(7,.pure),(8,.pure),(3,.read),(4,.pure),(6,.read),(9,.pure),(10,.alloc),(11,.pure),(12,.free)] zK zK (List.Sublist.refl _) ?_;refine Zs ?_
     refine jai rfl zq ?_;refine Z7 ?_;refine D52 ?_
     refine jat rfl zq (fun q11=>k_hp (jab ?_));refine Zs ?_;refine D160 ?_;refine rs8 ?_;refine Zs ?_;refine jak (Post:=fun v=>v=_) rfl zq zK (fun H' hH=>f119_c m H' _ hsk2) ?_
     rintro v rfl;refine D7 ?_;refine Z3 ?_
     refine jat rfl zq (fun q12=>k_hp (jab ?_));refine D55 ?_;refine D0 ?_;refine jbY (S:=h++[⟨true,q1,.cells (tbL b ps ns ks pw nw cw pb nb cb).toArray 25 (0,0)⟩]++[⟨true,q5,.cells [str (hwS i),.bool (decide (i=1)),.func (.func (261+i)) #[] #[]].toArray 184 (0,0)⟩]++[⟨true,q7,.cells [.int .i64 x.ln.lat,.slice x.p x.ln.figs.length x.c].toArray 121 (0,0)⟩]++[⟨true,q11,.cells [.bool (decide (i=1)),.int .i64 (k:Int),.int .i64 (j:Int)].toArray 37 (0,0)⟩,⟨true,q12,.cells (ints (jao (x.ln.figs.getD j []))).toArray 145 (0,0)⟩]) [0,1,2,3,4,5,6,7,8,9,10,11,12,13,14,15,16,17,18,19,20,21,22,23,24,25,26,27,28,29,30,31,32,33,34,35] zK zK SubH.sub ?_
     refine DrawT.split 4 13 zA (DrawT.split 4 15 zA (DrawT.split 13 15 zA ?_ ?_) ?_) (DrawT.split 4 15 zA ?_ (DrawT.split 4 16 zA (DrawT.split 13 15 zA ?_ ?_) (DrawT.split 4 21 zA (DrawT.split 13 15 zA ?_ ?_) (DrawT.split 13 15 zA ?_ ?_))))
     refine DrawT.leaf [(0,.pure),(1,.pure),(2,.pure),(3,.pure),(6,.pure),(7,.pure),(8,.pure),(9,.pure),(10,.pure),(11,.pure),(12,.pure),(17,.pure),(18,.pure),(28,.pure),(29,.pure),(32,.pure),(33,.pure),(5,.read),(14,.read),(19,.read),(20,.read),(4,.keep),(13,.keep),(15,.keep),(16,.keep),(21,.keep),(22,.pure),(23,.pure),(24,.keep),(25,.keep),(26,.pure),(27,.keep),(30,.pure),(31,.keep),(34,.pure),(35,.keep)] zK ?_
     rotate_left
     refine DrawT.leaf [(0,.pure),(1,.pure),(2,.pure),(3,.pure),(6,.pure),(7,.pure),(8,.pure),(9,.pure),(10,.pure),(11,.pure),(12,.pure),(17,.pure),(18,.pure),(28,.pure),(29,.pure),(32,.pure),(33,.pure),(5,.read),(14,.read),(19,.read),(20,.read),(4,.keep),(15,.keep),(13,.keep),(16,.keep),(21,.keep),(22,.pure),(23,.pure),(24,.keep),(25,.keep),(26,.pure),(27,.keep),(30,.pure),(31,.keep),(34,.pure),(35,.keep)] zK ?_
     rotate_left
     refine DrawT.leaf [(0,.pure),(1,.pure),(2,.pure),(3,.pure),(6,.pure),(7,.pure),(8,.pure),(9,.pure),(10,.pure),(11,.pure),(12,.pure),(17,.pure),(18,.pure),(28,.pure),(29,.pure),(32,.pure),(33,.pure),(5,.read),(14,.read),(19,.read),(20,.read),(15,.keep),(4,.keep),(13,.keep),(16,.keep),(21,.keep),(22,.pure),(23,.pure),(24,.keep),(25,.keep),(26,.pure),(27,.keep),(30,.pure),(31,.keep),(34,.pure),(35,.keep)] zK ?_
     rotate_left
     refine DrawT.leaf [(0,.pure),(1,.pure),(2,.pure),(3,.pure),(6,.pure),(7,.pure),(8,.pure),(9,.pure),(10,.pure),(11,.pure),(12,.pure),(17,.pure),(18,.pure),(28,.pure),(29,.pure),(32,.pure),(33,.pure),(5,.read),(14,.read),(19,.read),(20,.read),(13,.keep),(4,.keep),(15,.keep),(16,.keep),(21,.keep),(22,.pure),(23,.pure),(24,.keep),(25,.keep),(26,.pure),(27,.keep),(30,.pure),(31,.keep),(34,.pure),(35,.keep)] zK ?_
     rotate_left
     refine DrawT.leaf [(0,.pure),(1,.pure),(2,.pure),(3,.pure),(6,.pure),(7,.pure),(8,.pure),(9,.pure),(10,.pure),(11,.pure),(12,.pure),(17,.pure),(18,.pure),(28,.pure),(29,.pure),(32,.pure),(33,.pure),(5,.read),(14,.read),(19,.read),(20,.read),(13,.keep),(15,.keep),(4,.keep),(16,.keep),(21,.keep),(22,.pure),(23,.pure),(24,.keep),(25,.keep),(26,.pure),(27,.keep),(30,.pure),(31,.keep),(34,.pure),(35,.keep)] zK ?_
     rotate_left
     refine DrawT.leaf [(0,.pure),(1,.pure),(2,.pure),(3,.pure),(6,.pure),(7,.pure),(8,.pure),(9,.pure),(10,.pure),(11,.pure),(12,.pure),(17,.pure),(18,.pure),(28,.pure),(29,.pure),(32,.pure),(33,.pure),(5,.read),(14,.read),(19,.read),(20,.read),(15,.keep),(13,.keep),(4,.keep),(16,.keep),(21,.keep),(22,.pure),(23,.pure),(24,.keep),(25,.keep),(26,.pure),(27,.keep),(30,.pure),(31,.keep),(34,.pure),(35,.keep)] zK ?_
     rotate_left
     refine DrawT.leaf [(0,.pure),(1,.pure),(2,.pure),(3,.pure),(6,.pure),(7,.pure),(8,.pure),(9,.pure),(10,.pure),(11,.pure),(12,.pure),(17,.pure),(18,.pure),(28,.pure),(29,.pure),(32,.pure),(33,.pure),(5,.read),(14,.read),(19,.read),(20,.read),(13,.keep),(15,.keep),(16,.keep),(4,.keep),(21,.keep),(22,.pure),(23,.pure),(24,.keep),(25,.keep),(26,.pure),(27,.keep),(30,.pure),(31,.keep),(34,.pure),(35,.keep)] zK ?_
     rotate_left
     refine DrawT.leaf [(0,.pure),(1,.pure),(2,.pure),(3,.pure),(6,.pure),(7,.pure),(8,.pure),(9,.pure),(10,.pure),(11,.pure),(12,.pure),(17,.pure),(18,.pure),(28,.pure),(29,.pure),(32,.pure),(33,.pure),(5,.read),(14,.read),(19,.read),(20,.read),(15,.keep),(13,.keep),(16,.keep),(4,.keep),(21,.keep),(22,.pure),(23,.pure),(24,.keep),(25,.keep),(26,.pure),(27,.keep),(30,.pure),(31,.keep),(34,.pure),(35,.keep)] zK ?_
     rotate_left
     refine DrawT.leaf [(0,.pure),(1,.pure),(2,.pure),(3,.pure),(6,.pure),(7,.pure),(8,.pure),(9,.pure),(10,.pure),(11,.pure),(12,.pure),(17,.pure),(18,.pure),(28,.pure),(29,.pure),(32,.pure),(33,.pure),(5,.read),(14,.read),(19,.read),(20,.read),(13,.keep),(15,.keep),(16,.keep),(21,.keep),(4,.keep),(22,.pure),(23,.pure),(24,.keep),(25,.keep),(26,.pure),(27,.keep),(30,.pure),(31,.keep),(34,.pure),(35,.keep)] zK ?_
     rotate_left
     refine DrawT.leaf [(0,.pure),(1,.pure),(2,.pure),(3,.pure),(6,.pure),(7,.pure),(8,.pure),(9,.pure),(10,.pure),(11,.pure),(12,.pure),(17,.pure),(18,.pure),(28,.pure),(29,.pure),(32,.pure),(33,.pure),(5,.read),(14,.read),(19,.read),(20,.read),(15,.keep),(13,.keep),(16,.keep),(21,.keep),(4,.keep),(22,.pure),(23,.pure),(24,.keep),(25,.keep),(26,.pure),(27,.keep),(30,.pure),(31,.keep),(34,.pure),(35,.keep)] zK ?_
     all_goals
      refine Z2 ?_
      refine jai rfl zq ?_
     ·refine Z6 ?_
      refine jai rfl zq ?_;refine Z3 ?_
      refine jai rfl zq ?_;refine Zs ?_
      refine jai rfl zq ?_;refine Z4 ?_;refine D49 ?_
      refine k_bs kdq rfl zq zA zA rfl (fun q74=>k_hp (jab ?_));refine Zs ?_
      refine jaZ rfl zq rfl how3 zF zO zO (fun w9 n9 o9=>jab ?_);obtain ⟨p9,c9,rfl,hc9,r9⟩:=jar (B:=B) o9
      refine D14 ?_
      rintro w80 n80 o80;refine jaH (jab ?_);rw [←hms] at o80
      obtain ⟨p80,c80,rfl,_⟩:=jar (B:=B) o80
      have hfig80:=hft.symm
      refine Zs ?_
      refine jai rfl zq ?_;refine D193 ?_
      refine jaT (c:=(⟨decide (i=1),(k:Int),(j:Int)⟩:Ce)) (cs:=(accC b i k j)) (k:=37) (e:=3) zK rfl zq hnew (jab ?_);refine Zs ?_;refine D28 ?_;refine Zs ?_
      haveI hss1:=jcx (a0:= .int .i64 b.wrong) (a1:= .slice ps ns ks) (a2:= .slice pw nw cw) (a3:= .slice pb nb cb) (cv:= .slice p9 ((accC b i k j).length+1) c9) (mv:= .map (some qm)) (la:=la3) (cl:=cl3) (k:=(accC b i k j).length) (by rw [hla3.1];exact hn12) x.ln.lat
      refine D26 ?_;refine Zs ?_
      haveI hss2:=jcy (a0:= .int .i64 b.wrong) (a1:= .slice ps ns ks) (a2:= .slice pw nw cw) (a3:= .slice pb nb cb) (cv:= .slice p9 ((accC b i k j).length+1) c9) (mv:= .map (some qm)) (la:=la3.set (accC b i k j).length x.ln.lat) (cl:=cl3) (k:=(accC b i k j).length) (by simpa using hla3.1) (by rw [hcl3.1];exact hn12) (.slice p80 (meaS (x.ln.figs.getD j [])).length c80)
      refine D168 ?_
      have hks:=jbX hkc
      have hkl:(accC b i k (j+1)).length=(accC b i k j).length+1:=by rw [hks];simp
      rw [←hkl,←hks];refine D2 ?_
      exact E13
     ·refine Z6 ?_
      refine jai rfl zq ?_;refine Z3 ?_
      refine jai rfl zq ?_;refine Zs ?_
      refine jai rfl zq ?_;refine Z4 ?_;refine D49 ?_;refine Z2 ?_
      refine k_bs kdq rfl zq zA zA rfl (fun q74=>k_hp (jab ?_));refine jaZ rfl zq rfl how3 zF zO zO (fun w9 n9 o9=>jab ?_);obtain ⟨p9,c9,rfl,hc9,r9⟩:=jar (B:=B) o9
      refine D14 ?_
      rintro w80 n80 o80;refine jaH (jab ?_);rw [←hms] at o80
      obtain ⟨p80,c80,rfl,_⟩:=jar (B:=B) o80
      have hfig80:=hft.symm
      refine jai rfl zq ?_;refine D193 ?_
      refine jaT (c:=(⟨decide (i=1),(k:Int),(j:Int)⟩:Ce)) (cs:=(accC b i k j)) (k:=37) (e:=3) zK rfl zq hnew (jab ?_);refine Zs ?_;refine D28 ?_;refine Zs ?_
      haveI hss1:=jcx (a0:= .int .i64 b.wrong) (a1:= .slice ps ns ks) (a2:= .slice pw nw cw) (a3:= .slice pb nb cb) (cv:= .slice p9 ((accC b i k j).length+1) c9) (mv:= .map (some qm)) (la:=la3) (cl:=cl3) (k:=(accC b i k j).length) (by rw [hla3.1];exact hn12) x.ln.lat
      refine D26 ?_;refine Zs ?_
      haveI hss2:=jcy (a0:= .int .i64 b.wrong) (a1:= .slice ps ns ks) (a2:= .slice pw nw cw) (a3:= .slice pb nb cb) (cv:= .slice p9 ((accC b i k j).length+1) c9) (mv:= .map (some qm)) (la:=la3.set (accC b i k j).length x.ln.lat) (cl:=cl3) (k:=(accC b i k j).length) (by simpa using hla3.1) (by rw [hcl3.1];exact hn12) (.slice p80 (meaS (x.ln.figs.getD j [])).length c80)
      refine D168 ?_
      have hks:=jbX hkc
      have hkl:(accC b i k (j+1)).length=(accC b i k j).length+1:=by rw [hks];simp
      rw [←hkl,←hks];refine D2 ?_
      exact E13
     ·refine Z6 ?_
      refine jai rfl zq ?_;refine Z3 ?_
      refine jai rfl zq ?_;refine Zs ?_
      refine jai rfl zq ?_;refine Z4 ?_;refine D49 ?_;refine Zs ?_
      refine k_bs kdq rfl zq zA zA rfl (fun q74=>k_hp (jab ?_));refine Zs ?_
      refine jaZ rfl zq rfl how3 zF zO zO (fun w9 n9 o9=>jab ?_);obtain ⟨p9,c9,rfl,hc9,r9⟩:=jar (B:=B) o9
      refine D14 ?_
      rintro w80 n80 o80;refine jaH (jab ?_);rw [←hms] at o80
      obtain ⟨p80,c80,rfl,_⟩:=jar (B:=B) o80
      have hfig80:=hft.symm
      refine jai rfl zq ?_;refine D193 ?_
      refine jaT (c:=(⟨decide (i=1),(k:Int),(j:Int)⟩:Ce)) (cs:=(accC b i k j)) (k:=37) (e:=3) zK rfl zq hnew (jab ?_);refine Zs ?_;refine D28 ?_;refine Zs ?_
      haveI hss1:=jcx (a0:= .int .i64 b.wrong) (a1:= .slice ps ns ks) (a2:= .slice pw nw cw) (a3:= .slice pb nb cb) (cv:= .slice p9 ((accC b i k j).length+1) c9) (mv:= .map (some qm)) (la:=la3) (cl:=cl3) (k:=(accC b i k j).length) (by rw [hla3.1];exact hn12) x.ln.lat
      refine D26 ?_;refine Zs ?_
      haveI hss2:=jcy (a0:= .int .i64 b.wrong) (a1:= .slice ps ns ks) (a2:= .slice pw nw cw) (a3:= .slice pb nb cb) (cv:= .slice p9 ((accC b i k j).length+1) c9) (mv:= .map (some qm)) (la:=la3.set (accC b i k j).length x.ln.lat) (cl:=cl3) (k:=(accC b i k j).length) (by simpa using hla3.1) (by rw [hcl3.1];exact hn12) (.slice p80 (meaS (x.ln.figs.getD j [])).length c80)
      refine D168 ?_
      have hks:=jbX hkc
      have hkl:(accC b i k (j+1)).length=(accC b i k j).length+1:=by rw [hks];simp
      rw [←hkl,←hks];refine D2 ?_
      exact E13
     ·refine Z6 ?_
      refine jai rfl zq ?_;refine Z3 ?_
      refine jai rfl zq ?_;refine Zs ?_
      refine jai rfl zq ?_;refine Z4 ?_;refine D49 ?_
      refine k_bs kdq rfl zq zA zA rfl (fun q74=>k_hp (jab ?_));refine Z2 ?_
      refine jaZ rfl zq rfl how3 zF zO zO (fun w9 n9 o9=>jab ?_);obtain ⟨p9,c9,rfl,hc9,r9⟩:=jar (B:=B) o9
      refine D14 ?_
      rintro w80 n80 o80;refine jaH (jab ?_);rw [←hms] at o80
      obtain ⟨p80,c80,rfl,_⟩:=jar (B:=B) o80
      have hfig80:=hft.symm
      refine jai rfl zq ?_;refine D193 ?_
      refine jaT (c:=(⟨decide (i=1),(k:Int),(j:Int)⟩:Ce)) (cs:=(accC b i k j)) (k:=37) (e:=3) zK rfl zq hnew (jab ?_);refine Zs ?_;refine D28 ?_;refine Zs ?_
      haveI hss1:=jcx (a0:= .int .i64 b.wrong) (a1:= .slice ps ns ks) (a2:= .slice pw nw cw) (a3:= .slice pb nb cb) (cv:= .slice p9 ((accC b i k j).length+1) c9) (mv:= .map (some qm)) (la:=la3) (cl:=cl3) (k:=(accC b i k j).length) (by rw [hla3.1];exact hn12) x.ln.lat
      refine D26 ?_;refine Zs ?_
      haveI hss2:=jcy (a0:= .int .i64 b.wrong) (a1:= .slice ps ns ks) (a2:= .slice pw nw cw) (a3:= .slice pb nb cb) (cv:= .slice p9 ((accC b i k j).length+1) c9) (mv:= .map (some qm)) (la:=la3.set (accC b i k j).length x.ln.lat) (cl:=cl3) (k:=(accC b i k j).length) (by simpa using hla3.1) (by rw [hcl3.1];exact hn12) (.slice p80 (meaS (x.ln.figs.getD j [])).length c80)
      refine D168 ?_
      have hks:=jbX hkc
      have hkl:(accC b i k (j+1)).length=(accC b i k j).length+1:=by rw [hks];simp
      rw [←hkl,←hks];refine D2 ?_
      exact E13
     ·refine Z6 ?_
      refine jai rfl zq ?_;refine Z3 ?_
      refine jai rfl zq ?_;refine Zs ?_
      refine jai rfl zq ?_;refine Z4 ?_;refine D49 ?_;refine Z2 ?_
      refine k_bs kdq rfl zq zA zA rfl (fun q74=>k_hp (jab ?_));refine jaZ rfl zq rfl how3 zF zO zO (fun w9 n9 o9=>jab ?_);obtain ⟨p9,c9,rfl,hc9,r9⟩:=jar (B:=B) o9
      refine D14 ?_
      rintro w80 n80 o80;refine jaH (jab ?_);rw [←hms] at o80
      obtain ⟨p80,c80,rfl,_⟩:=jar (B:=B) o80
      have hfig80:=hft.symm
      refine jai rfl zq ?_;refine D193 ?_
      refine jaT (c:=(⟨decide (i=1),(k:Int),(j:Int)⟩:Ce)) (cs:=(accC b i k j)) (k:=37) (e:=3) zK rfl zq hnew (jab ?_);refine Zs ?_;refine D28 ?_;refine Zs ?_
      haveI hss1:=jcx (a0:= .int .i64 b.wrong) (a1:= .slice ps ns ks) (a2:= .slice pw nw cw) (a3:= .slice pb nb cb) (cv:= .slice p9 ((accC b i k j).length+1) c9) (mv:= .map (some qm)) (la:=la3) (cl:=cl3) (k:=(accC b i k j).length) (by rw [hla3.1];exact hn12) x.ln.lat
      refine D26 ?_;refine Zs ?_
      haveI hss2:=jcy (a0:= .int .i64 b.wrong) (a1:= .slice ps ns ks) (a2:= .slice pw nw cw) (a3:= .slice pb nb cb) (cv:= .slice p9 ((accC b i k j).length+1) c9) (mv:= .map (some qm)) (la:=la3.set (accC b i k j).length x.ln.lat) (cl:=cl3) (k:=(accC b i k j).length) (by simpa using hla3.1) (by rw [hcl3.1];exact hn12) (.slice p80 (meaS (x.ln.figs.getD j [])).length c80)
      refine D168 ?_
      have hks:=jbX hkc
      have hkl:(accC b i k (j+1)).length=(accC b i k j).length+1:=by rw [hks];simp
      rw [←hkl,←hks];refine D2 ?_
      exact E13
     ·refine Z6 ?_
      refine jai rfl zq ?_;refine Z3 ?_
      refine jai rfl zq ?_;refine Zs ?_
      refine jai rfl zq ?_;refine Z4 ?_;refine D49 ?_;refine Zs ?_
      refine k_bs kdq rfl zq zA zA rfl (fun q74=>k_hp (jab ?_));refine Zs ?_
      refine jaZ rfl zq rfl how3 zF zO zO (fun w9 n9 o9=>jab ?_);obtain ⟨p9,c9,rfl,hc9,r9⟩:=jar (B:=B) o9
      refine D14 ?_
      rintro w80 n80 o80;refine jaH (jab ?_);rw [←hms] at o80
      obtain ⟨p80,c80,rfl,_⟩:=jar (B:=B) o80
      have hfig80:=hft.symm
      refine jai rfl zq ?_;refine D193 ?_
      refine jaT (c:=(⟨decide (i=1),(k:Int),(j:Int)⟩:Ce)) (cs:=(accC b i k j)) (k:=37) (e:=3) zK rfl zq hnew (jab ?_);refine Zs ?_;refine D28 ?_;refine Zs ?_
      haveI hss1:=jcx (a0:= .int .i64 b.wrong) (a1:= .slice ps ns ks) (a2:= .slice pw nw cw) (a3:= .slice pb nb cb) (cv:= .slice p9 ((accC b i k j).length+1) c9) (mv:= .map (some qm)) (la:=la3) (cl:=cl3) (k:=(accC b i k j).length) (by rw [hla3.1];exact hn12) x.ln.lat
      refine D26 ?_;refine Zs ?_
      haveI hss2:=jcy (a0:= .int .i64 b.wrong) (a1:= .slice ps ns ks) (a2:= .slice pw nw cw) (a3:= .slice pb nb cb) (cv:= .slice p9 ((accC b i k j).length+1) c9) (mv:= .map (some qm)) (la:=la3.set (accC b i k j).length x.ln.lat) (cl:=cl3) (k:=(accC b i k j).length) (by simpa using hla3.1) (by rw [hcl3.1];exact hn12) (.slice p80 (meaS (x.ln.figs.getD j [])).length c80)
      refine D168 ?_
      have hks:=jbX hkc
      have hkl:(accC b i k (j+1)).length=(accC b i k j).length+1:=by rw [hks];simp
      rw [←hkl,←hks];refine D2 ?_
      exact E13
     ·refine Z6 ?_
      refine jai rfl zq ?_;refine Z3 ?_
      refine jai rfl zq ?_;refine Zs ?_
      refine jai rfl zq ?_;refine Z4 ?_;refine D49 ?_
      refine k_bs kdq rfl zq zA zA rfl (fun q74=>k_hp (jab ?_));refine Z2 ?_
      refine jaZ rfl zq rfl how3 zF zO zO (fun w9 n9 o9=>jab ?_);obtain ⟨p9,c9,rfl,hc9,r9⟩:=jar (B:=B) o9
      refine D14 ?_
      rintro w80 n80 o80;refine jaH (jab ?_);rw [←hms] at o80
      obtain ⟨p80,c80,rfl,_⟩:=jar (B:=B) o80
      have hfig80:=hft.symm
      refine jai rfl zq ?_;refine D193 ?_
      refine jaT (c:=(⟨decide (i=1),(k:Int),(j:Int)⟩:Ce)) (cs:=(accC b i k j)) (k:=37) (e:=3) zK rfl zq hnew (jab ?_);refine Zs ?_;refine D28 ?_;refine Zs ?_
      haveI hss1:=jcx (a0:= .int .i64 b.wrong) (a1:= .slice ps ns ks) (a2:= .slice pw nw cw) (a3:= .slice pb nb cb) (cv:= .slice p9 ((accC b i k j).length+1) c9) (mv:= .map (some qm)) (la:=la3) (cl:=cl3) (k:=(accC b i k j).length) (by rw [hla3.1];exact hn12) x.ln.lat
      refine D26 ?_;refine Zs ?_
      haveI hss2:=jcy (a0:= .int .i64 b.wrong) (a1:= .slice ps ns ks) (a2:= .slice pw nw cw) (a3:= .slice pb nb cb) (cv:= .slice p9 ((accC b i k j).length+1) c9) (mv:= .map (some qm)) (la:=la3.set (accC b i k j).length x.ln.lat) (cl:=cl3) (k:=(accC b i k j).length) (by simpa using hla3.1) (by rw [hcl3.1];exact hn12) (.slice p80 (meaS (x.ln.figs.getD j [])).length c80)
      refine D168 ?_
      have hks:=jbX hkc
      have hkl:(accC b i k (j+1)).length=(accC b i k j).length+1:=by rw [hks];simp
      rw [←hkl,←hks];refine D2 ?_
      exact E13
     ·refine Z6 ?_
      refine jai rfl zq ?_;refine Z3 ?_
      refine jai rfl zq ?_;refine Zs ?_
      refine jai rfl zq ?_;refine Z4 ?_;refine D49 ?_;refine Zs ?_
      refine k_bs kdq rfl zq zA zA rfl (fun q74=>k_hp (jab ?_));refine jaZ rfl zq rfl how3 zF zO zO (fun w9 n9 o9=>jab ?_);obtain ⟨p9,c9,rfl,hc9,r9⟩:=jar (B:=B) o9
      refine Zs ?_;refine D14 ?_
      rintro w80 n80 o80;refine jaH (jab ?_);rw [←hms] at o80
      obtain ⟨p80,c80,rfl,_⟩:=jar (B:=B) o80
      have hfig80:=hft.symm
      refine jai rfl zq ?_;refine D193 ?_
      refine jaT (c:=(⟨decide (i=1),(k:Int),(j:Int)⟩:Ce)) (cs:=(accC b i k j)) (k:=37) (e:=3) zK rfl zq hnew (jab ?_);refine Zs ?_;refine D28 ?_;refine Zs ?_
      haveI hss1:=jcx (a0:= .int .i64 b.wrong) (a1:= .slice ps ns ks) (a2:= .slice pw nw cw) (a3:= .slice pb nb cb) (cv:= .slice p9 ((accC b i k j).length+1) c9) (mv:= .map (some qm)) (la:=la3) (cl:=cl3) (k:=(accC b i k j).length) (by rw [hla3.1];exact hn12) x.ln.lat
      refine D26 ?_;refine Zs ?_
      haveI hss2:=jcy (a0:= .int .i64 b.wrong) (a1:= .slice ps ns ks) (a2:= .slice pw nw cw) (a3:= .slice pb nb cb) (cv:= .slice p9 ((accC b i k j).length+1) c9) (mv:= .map (some qm)) (la:=la3.set (accC b i k j).length x.ln.lat) (cl:=cl3) (k:=(accC b i k j).length) (by simpa using hla3.1) (by rw [hcl3.1];exact hn12) (.slice p80 (meaS (x.ln.figs.getD j [])).length c80)
      refine D168 ?_
      have hks:=jbX hkc
      have hkl:(accC b i k (j+1)).length=(accC b i k j).length+1:=by rw [hks];simp
      rw [←hkl,←hks];refine D2 ?_
      exact E13
     ·refine Z6 ?_
      refine jai rfl zq ?_;refine Z3 ?_
      refine jai rfl zq ?_;refine Zs ?_
      refine jai rfl zq ?_;refine Z4 ?_;refine D49 ?_
      refine k_bs kdq rfl zq zA zA rfl (fun q74=>k_hp (jab ?_));refine Zs ?_
      refine jaZ rfl zq rfl how3 zF zO zO (fun w9 n9 o9=>jab ?_);obtain ⟨p9,c9,rfl,hc9,r9⟩:=jar (B:=B) o9
      refine Zs ?_;refine D14 ?_
      rintro w80 n80 o80;refine jaH (jab ?_);rw [←hms] at o80
      obtain ⟨p80,c80,rfl,_⟩:=jar (B:=B) o80
      have hfig80:=hft.symm
      refine jai rfl zq ?_;refine D193 ?_
      refine jaT (c:=(⟨decide (i=1),(k:Int),(j:Int)⟩:Ce)) (cs:=(accC b i k j)) (k:=37) (e:=3) zK rfl zq hnew (jab ?_);refine Zs ?_;refine D28 ?_;refine Zs ?_
      haveI hss1:=jcx (a0:= .int .i64 b.wrong) (a1:= .slice ps ns ks) (a2:= .slice pw nw cw) (a3:= .slice pb nb cb) (cv:= .slice p9 ((accC b i k j).length+1) c9) (mv:= .map (some qm)) (la:=la3) (cl:=cl3) (k:=(accC b i k j).length) (by rw [hla3.1];exact hn12) x.ln.lat
      refine D26 ?_;refine Zs ?_
      haveI hss2:=jcy (a0:= .int .i64 b.wrong) (a1:= .slice ps ns ks) (a2:= .slice pw nw cw) (a3:= .slice pb nb cb) (cv:= .slice p9 ((accC b i k j).length+1) c9) (mv:= .map (some qm)) (la:=la3.set (accC b i k j).length x.ln.lat) (cl:=cl3) (k:=(accC b i k j).length) (by simpa using hla3.1) (by rw [hcl3.1];exact hn12) (.slice p80 (meaS (x.ln.figs.getD j [])).length c80)
      refine D168 ?_
      have hks:=jbX hkc
      have hkl:(accC b i k (j+1)).length=(accC b i k j).length+1:=by rw [hks];simp
      rw [←hkl,←hks];refine D2 ?_
      exact E13
     ·refine Z6 ?_
      refine jai rfl zq ?_;refine Z3 ?_
      refine jai rfl zq ?_;refine Zs ?_
      refine jai rfl zq ?_;refine Z4 ?_;refine D49 ?_;refine Zs ?_
      refine k_bs kdq rfl zq zA zA rfl (fun q74=>k_hp (jab ?_));refine jaZ rfl zq rfl how3 zF zO zO (fun w9 n9 o9=>jab ?_);obtain ⟨p9,c9,rfl,hc9,r9⟩:=jar (B:=B) o9
      refine D14 ?_
      rintro w80 n80 o80;refine jaH (jab ?_);rw [←hms] at o80
      obtain ⟨p80,c80,rfl,_⟩:=jar (B:=B) o80
      have hfig80:=hft.symm
      refine Zs ?_
      refine jai rfl zq ?_;refine D193 ?_
      refine jaT (c:=(⟨decide (i=1),(k:Int),(j:Int)⟩:Ce)) (cs:=(accC b i k j)) (k:=37) (e:=3) zK rfl zq hnew (jab ?_);refine Zs ?_;refine D28 ?_;refine Zs ?_
      haveI hss1:=jcx (a0:= .int .i64 b.wrong) (a1:= .slice ps ns ks) (a2:= .slice pw nw cw) (a3:= .slice pb nb cb) (cv:= .slice p9 ((accC b i k j).length+1) c9) (mv:= .map (some qm)) (la:=la3) (cl:=cl3) (k:=(accC b i k j).length) (by rw [hla3.1];exact hn12) x.ln.lat
      refine D26 ?_;refine Zs ?_
      haveI hss2:=jcy (a0:= .int .i64 b.wrong) (a1:= .slice ps ns ks) (a2:= .slice pw nw cw) (a3:= .slice pb nb cb) (cv:= .slice p9 ((accC b i k j).length+1) c9) (mv:= .map (some qm)) (la:=la3.set (accC b i k j).length x.ln.lat) (cl:=cl3) (k:=(accC b i k j).length) (by simpa using hla3.1) (by rw [hcl3.1];exact hn12) (.slice p80 (meaS (x.ln.figs.getD j [])).length c80)
      refine D168 ?_
      have hks:=jbX hkc
      have hkl:(accC b i k (j+1)).length=(accC b i k j).length+1:=by rw [hks];simp
      rw [←hkl,←hks];refine D2 ?_
      exact E13
   ·refine D137 ?_;refine jjE ?_;refine D126 ?_
    have hac:accC b i k j=accC b i (k+1) 0:=by rw [show j=b.sts.length by omega];exact jjt b i k
    rw [hac];refine m.weak (h':=h++[⟨true,q1,.cells (tbL b ps ns ks pw nw cw pb nb cb).toArray 25 (0,0)⟩,⟨true,qm,mapC (accC b i (k+1) 0)⟩,⟨true,q18,.cells (shC (tbL b ps ns ks pw nw cw pb nb cb) (.slice wp3 (accC b i (k+1) 0).length wc3) (.map (some qm)) la3 cl3).toArray 132 (0,0)⟩]++[⟨true,q5,.cells [str (hwS i),.bool (decide (i=1)),.func (.func (261+i)) #[] #[]].toArray 184 (0,0)⟩]++W3++M3) jdF ?_
    exact hnext2 _ _ _ zO ⟨k+1,wp3,wc3,W3,M3,la3,cl3,rfl,by omega,by rw [←hac];exact how3,by rw [←hac];exact hla3,by rw [←hac];exact hcl3,exU rfl,rfl⟩
  ·refine D137 ?_;refine D126 ?_
   have hac:=jlS b hin (show k≤2 by omega) zO
   rw [hac];refine m.weak (h':=h++[⟨true,q1,.cells (tbL b ps ns ks pw nw cw pb nb cb).toArray 25 (0,0)⟩,⟨true,qm,mapC (accC b (i+1) 0 0)⟩,⟨true,q18,.cells (shC (tbL b ps ns ks pw nw cw pb nb cb) (.slice wp2 (accC b (i+1) 0 0).length wc2) (.map (some qm)) la2 cl2).toArray 132 (0,0)⟩]++W2++M2) jdF ?_
   exact hnext1 _ _ _ zO ⟨i+1,wp2,wc2,W2,M2,la2,cl2,rfl,by omega,by rw [←hac];exact how2,by rw [←hac];exact hla2,by rw [←hac];exact hcl2,exU rfl,rfl⟩
 ·refine D137 ?_;refine D3 ?_
  obtain rfl:i=2:=by omega
  rw [jk1] at how1 hla1 hcl1⊢
  have hc12:(jad b).length≤12:=by
   rw [←jk1];have:=jk0 b (i:=2) (k:=0) (j:=0) zO zO zO
   omega
  refine D167 ?_;refine D117 ?_;refine jac (h++[⟨true,qm,mapC (jad b)⟩,⟨true,q18,.cells (shC (tbL b ps ns ks pw nw cw pb nb cb) (.slice wp1 (jad b).length wc1) (.map (some qm)) la1 cl1).toArray 132 (0,0)⟩]++W1++M1) rfl Tryz.func95 rfl jaa ?_;refine D5 ?_
  exact ⟨[⟨true,qm,mapC (jad b)⟩,⟨true,q18,.cells (shC (tbL b ps ns ks pw nw cw pb nb cb) (.slice wp1 (jad b).length wc1) (.map (some qm)) la1 cl1).toArray 132 (0,0)⟩]++W1++M1,q18,by rw [←List.append_assoc,←List.append_assoc],rfl,sheet_of hc12 how1 hla1 hcl1⟩
def jdV (a c:Cd) (n m:Int):Bool:=!riC a c n m
theorem jaB {a c:Cd} {n m:Int} (h:a.st≠c.st):jdV a c n m=false:=by rw [jdV,riC,if_pos h];rfl
theorem jaA {a c:Cd} {n m:Int} (h:a.st=c.st) (hb:a.butt=c.butt):jdV a c n m=decide ((a.lat<c.lat∧m<n)∨(c.lat<a.lat∧n<m)):=by
 rw [jdV,riC,if_neg (fun e=>e h),if_pos hb];have:=jjG (la:=a.lat) (lc:=c.lat) (ma:=n) (mc:=m)
 cases hr:riL a.lat c.lat n m with
 |true=>have:=this.1 hr;exact (decide_eq_false zO).symm
 |false=>exact E16
theorem jau {a c:Cd} {n m:Int} (h:a.st=c.st) (ha:a.butt=false) (hc:c.butt=true):jdV a c n m=decide ((m<a.lat∧n<c.lat)∨(a.lat<m∧c.lat<n)):=by
 rw [jdV,riC,if_neg (fun e=>e h),if_neg (by rw [ha,hc];simp),if_neg (by rw [ha];simp)];have:=riX_iff (la:=a.lat) (lc:=c.lat) (ma:=n) (mc:=m)
 cases hr:riX a.lat c.lat n m with
 |true=>have:=this.1 hr;exact (decide_eq_false zO).symm
 |false=>exact E16
theorem fall_turn {a c:Cd} {n m:Int}:jdV a c n m=jdV c a m n:=by rw [jdV,jdV,jfJ]
section
variable {B:Array Obj} {H H':Hp} {b:Tb} {q:Nat} {tv:List Value}
theorem Sheet.latI (s:Sheet B H b q tv) {i:Nat} (hi:i<(jad b).length):Rd B H ⟨q,6+(i:Int).toNat*1,none⟩ (.int .i64 (cdOf b ((jad b).getD i default)).lat):=by
 rw [Int.toNat_natCast,Nat.mul_one,←jap b hi];exact s.lat i hi
end
theorem rdTb_of {h:Hp} {b:Tb} {ps:Option Addr} {ns ks:Nat} {pw:Option Addr} {nw cw:Nat} {pb:Option Addr} {nb cb:Nat} (rds:RdS B h 1 (.slice ps ns ks) ns (encs b.sts)) (hcs:ns≤ks) (rdw:RdLn B h (.slice pw nw cw) nw b.waters) (rdb:RdLn B h (.slice pb nb cb) nb b.butts) (hsm:TbSm b) (k:TbOk b):RdTb B h b ps ns ks pw nw cw pb nb cb:=by
 have hml:b.sts.length=ns:=rds.elen zA
 have h1:=k.n1
 have h3:=k.n3
 have hw:=k.waters.two
 have hb:=k.butts.two
 rw [jcX rdw] at hw
 rw [jcX rdb] at hb
 exact ⟨rds,hcs,rdw,rdb,hsm,by omega,by omega,hw,hb,fun l hl=>⟨hml▸(k.waters.ok l hl).len,(k.waters.ok l hl).fig⟩,fun l hl=>⟨hml▸(k.butts.ok l hl).len,(k.butts.ok l hl).fig⟩⟩
theorem f98_b (m:Md Tryz.prog B) (h:Hp) (s i:Nat) (hs:s<4096) (hi:i<12):FnC m 98 #[.int .u64 (s:Int),.int .i64 (i:Int)] h fun v h'=>h'=h∧IsB (s.testBit i=true) v:=
 CallF.mono (f98_c m h s i hs hi) fun v h' ⟨e1,e2⟩=>⟨e1,by rw [e2];cases s.testBit i;exact .inr ⟨by simp,rfl⟩;exact .inl ⟨rfl,rfl⟩⟩
theorem f176n_c (m:Md Tryz.prog B) (h:Hp) {b:Tb} {q:Nat} {tv:List Value} (sh:Sheet B h b q tv) {i k:Nat} (hi:i<(jad b).length) (hk:k<(jad b).length) (mi mk:Int) (hn:(cdOf b ((jad b).getD i default)).butt=(cdOf b ((jad b).getD k default)).butt∨(cdOf b ((jad b).getD i default)).butt=false):FnC m 176 #[.pointer (some ⟨q,0,none⟩),.int .i64 (i:Int),.int .i64 (k:Int),.int .i64 mi,.int .i64 mk] h fun v h'=>h'=h∧v= .bool (jdV (dA (cdT b) i) (dA (cdT b) k) mi mk):=by
 have h12:=sh.twelve
 obtain ⟨pc,cc,hcv,hcc,hcr⟩:=sh.cells
 obtain ⟨pcb,pco,hpc⟩:=hcr.ptr zO
 refine D75 ?_
 intro cf cs K hK
 refine D139 ?_;refine D51 ?_;refine Zs ?_
 refine jai rfl zq ?_;refine Z3 ?_
 refine jai rfl zq ?_;refine Z2 ?_;refine D73 ?_;refine D95 ?_;refine D60 ?_;refine D73 ?_;refine D95 ?_;refine D61 ?_
 refine jat rfl zq (fun q11=>k_hp (jab ?_));refine jat rfl zq (fun q12=>k_hp (jab ?_));refine D20 ?_;refine D20 ?_;refine D120 ?_;refine D15 ?_;refine rs6 ?_;refine Z4 ?_
 refine jaY rfl zq (fun hc=>?_) (fun hc=>?_)
 ·refine D184 ?_;refine D30 ?_;refine D5 ?_
  refine ⟨rfl,?_⟩
  rw [jap b hi,jap b hk];first
   |(rw [jaB zS];done)
   |(rw [jaA zS hbt];exact E17)
   |(rw [jau zS hbf hbg];exact E17)
 ·refine D132 ?_;refine rs6 ?_;refine Z4 ?_
  refine jiZ rfl zq zK (fun hbt=>?_) (fun hbt=>?_)
  ·refine D161 ?_;refine D3 ?_;refine D29 ?_;refine Z2 ?_
   refine jai rfl zq ?_;refine Z4 ?_
   refine jai rfl zq ?_;refine Z2 ?_;refine D81 ?_;refine k_ld rfl zq ((sh.latI (i:=k) zO).keeps SubH.sub) ?_
   refine jaq rfl zq (fun hc=>?_) (fun hc=>?_)
   ·refine Z3 ?_
    refine jaJ rfl rfl (fun hc=>?_) (fun hc=>?_)
    ·refine D21 ?_;refine Z19 ?_;refine D21 ?_;refine D153 ?_
     refine ⟨rfl,?_⟩
     rw [jap b hi,jap b hk];first
      |(rw [jaB zS];done)
      |(rw [jaA zS hbt];exact E17)
      |(rw [jau zS hbf hbg];exact E17)
    ·refine D21 ?_;refine Z3 ?_
     refine jai rfl rfl ?_;refine Z4 ?_
     refine jai rfl rfl ?_;refine Z2 ?_;refine D53 ?_;refine D43 ?_
     refine jaJ rfl rfl (fun hc=>?_) (fun hc=>?_)
     ·refine Z3 ?_
      refine jaq rfl rfl (fun hc=>?_) (fun hc=>?_);all_goals
       refine D66 ?_;refine D162 ?_
       refine ⟨rfl,?_⟩
       rw [jap b hi,jap b hk];first
        |(rw [jaB zS];done)
        |(rw [jaA zS hbt];exact E17)
        |(rw [jau zS hbf hbg];exact E17)
     ·refine Z4 ?_;refine D48 ?_;refine D162 ?_
      refine ⟨rfl,?_⟩
      rw [jap b hi,jap b hk];first
       |(rw [jaB zS];done)
       |(rw [jaA zS hbt];exact E17)
       |(rw [jau zS hbf hbg];exact E17)
   ·refine Z4 ?_;refine D10 ?_;refine Z3 ?_
    refine jai rfl rfl ?_;refine Z4 ?_
    refine jai rfl rfl ?_;refine Z2 ?_;refine D53 ?_;refine D43 ?_
    refine jaJ rfl rfl (fun hc=>?_) (fun hc=>?_)
    ·refine Z3 ?_
     refine jaq rfl rfl (fun hc=>?_) (fun hc=>?_);all_goals
      refine D66 ?_;refine D162 ?_
      refine ⟨rfl,?_⟩
      rw [jap b hi,jap b hk];first
       |(rw [jaB zS];done)
       |(rw [jaA zS hbt];exact E17)
       |(rw [jau zS hbf hbg];exact E17)
    ·refine Z4 ?_;refine D48 ?_;refine D162 ?_
     refine ⟨rfl,?_⟩
     rw [jap b hi,jap b hk];first
      |(rw [jaB zS];done)
      |(rw [jaA zS hbt];exact E17)
      |(rw [jau zS hbf hbg];exact E17)
  ·refine D132 ?_;refine rs3 ?_;refine D152 ?_
   refine jep (fun hc=>?_) (fun hc=>?_)
   ·first|replace hc:=of_decide_eq_true hc|replace hc:=of_decide_eq_false hc|skip
    refine D3 ?_
    exact absurd hn (by rintro (e|e);exact hbt e;rw [e] at hc;cases hc)
   ·first|replace hc:=of_decide_eq_true hc|replace hc:=of_decide_eq_false hc|skip
    refine D8 ?_;refine D17 ?_;refine D3 ?_
    have hbf:(cdOf b ((jad b).getD i default)).butt=false:=hc
    have hbg:(cdOf b ((jad b).getD k default)).butt=true:=by cases e:(cdOf b ((jad b).getD k default)).butt;exact absurd (hbf.trans e.symm) hbt;rfl
    refine rr39 ?_;refine Z3 ?_;refine jai rfl zq ?_;refine Z2 ?_;refine D81 ?_
    refine jaq rfl zq (fun hc=>?_) (fun hc=>?_)
    ·refine Z4 ?_
     refine jai rfl rfl ?_;refine Z2 ?_;refine D43 ?_
     refine jaq rfl rfl (fun hc=>?_) (fun hc=>?_)
     ·refine D21 ?_;refine Z19 ?_;refine D21 ?_;refine D153 ?_
      refine ⟨rfl,?_⟩
      rw [jap b hi,jap b hk];first
       |(rw [jaB zS];done)
       |(rw [jaA zS hbt];exact E17)
       |(rw [jau zS hbf hbg];exact E17)
     ·refine D21 ?_;refine Z4 ?_
      refine jai rfl rfl ?_;refine Z2 ?_;refine D53 ?_
      refine jaJ rfl rfl (fun hc=>?_) (fun hc=>?_)
      ·refine Z4 ?_
       refine jai rfl rfl ?_;refine Z2 ?_;refine D43 ?_
       refine jaJ rfl rfl (fun hc=>?_) (fun hc=>?_);all_goals
        refine D66 ?_;refine D162 ?_
        refine ⟨rfl,?_⟩
        rw [jap b hi,jap b hk];first
         |(rw [jaB zS];done)
         |(rw [jaA zS hbt];exact E17)
         |(rw [jau zS hbf hbg];exact E17)
      ·refine Z9 ?_;refine D48 ?_;refine D162 ?_
       refine ⟨rfl,?_⟩
       rw [jap b hi,jap b hk];first
        |(rw [jaB zS];done)
        |(rw [jaA zS hbt];exact E17)
        |(rw [jau zS hbf hbg];exact E17)
    ·refine Z9 ?_;refine D10 ?_;refine Z4 ?_
     refine jai rfl rfl ?_;refine Z2 ?_;refine D53 ?_
     refine jaJ rfl rfl (fun hc=>?_) (fun hc=>?_)
     ·refine Z4 ?_
      refine jai rfl rfl ?_;refine Z2 ?_;refine D43 ?_
      refine jaJ rfl rfl (fun hc=>?_) (fun hc=>?_);all_goals
       refine D66 ?_;refine D162 ?_
       refine ⟨rfl,?_⟩
       rw [jap b hi,jap b hk];first
        |(rw [jaB zS];done)
        |(rw [jaA zS hbt];exact E17)
        |(rw [jau zS hbf hbg];exact E17)
     ·refine Z9 ?_;refine D48 ?_;refine D162 ?_
      refine ⟨rfl,?_⟩
      rw [jap b hi,jap b hk];first
       |(rw [jaB zS];done)
       |(rw [jaA zS hbt];exact E17)
       |(rw [jau zS hbf hbg];exact E17)
theorem f176_c (m:Md Tryz.prog B) (h:Hp) {b:Tb} {q:Nat} {tv:List Value} (sh:Sheet B h b q tv) {i k:Nat} (hi:i<(jad b).length) (hk:k<(jad b).length) (mi mk:Int):FnC m 176 #[.pointer (some ⟨q,0,none⟩),.int .i64 (i:Int),.int .i64 (k:Int),.int .i64 mi,.int .i64 mk] h fun v h'=>h'=h∧v= .bool (jdV (dA (cdT b) i) (dA (cdT b) k) mi mk):=by
 have h12:=sh.twelve
 obtain ⟨pc,cc,hcv,hcc,hcr⟩:=sh.cells
 obtain ⟨pcb,pco,hpc⟩:=hcr.ptr zO
 refine D75 ?_
 intro cf cs K hK
 refine D139 ?_;refine D51 ?_;refine Zs ?_
 refine jai rfl zq ?_;refine Z3 ?_
 refine jai rfl zq ?_;refine Z2 ?_;refine D73 ?_;refine D95 ?_;refine D60 ?_;refine D73 ?_;refine D95 ?_;refine D61 ?_
 refine jat rfl zq (fun q11=>k_hp (jab ?_));refine jat rfl zq (fun q12=>k_hp (jab ?_));refine D20 ?_;refine D20 ?_;refine D120 ?_;refine D15 ?_;refine rs6 ?_;refine Z4 ?_
 refine jaY rfl zq (fun hc=>?_) (fun hc=>?_)
 ·refine D184 ?_;refine D30 ?_;refine D5 ?_
  first
   |exact E19
   |(refine ⟨rfl,?_⟩
     rw [jap b hi,jap b hk];first
      |(rw [jaB zS];done)
      |(rw [jaA zS hbt];exact E17)
      |(rw [jau zS hbf hbg];exact E17))
 ·refine D132 ?_;refine rs6 ?_;refine Z4 ?_
  refine jiZ rfl zq zK (fun hbt=>?_) (fun hbt=>?_)
  ·refine D161 ?_;refine D3 ?_;refine D29 ?_;refine Z2 ?_
   refine jai rfl zq ?_;refine Z4 ?_
   refine jai rfl zq ?_;refine Z2 ?_;refine D81 ?_;refine k_ld rfl zq ((sh.latI (i:=k) zO).keeps SubH.sub) ?_
   refine jaq rfl zq (fun hc=>?_) (fun hc=>?_)
   ·refine Z3 ?_
    refine jaJ rfl rfl (fun hc=>?_) (fun hc=>?_)
    ·refine D21 ?_;refine Z19 ?_;refine D21 ?_;refine D153 ?_
     first
      |exact E19
      |(refine ⟨rfl,?_⟩
        rw [jap b hi,jap b hk];first
         |(rw [jaB zS];done)
         |(rw [jaA zS hbt];exact E17)
         |(rw [jau zS hbf hbg];exact E17))
    ·refine D21 ?_;refine Z3 ?_
     refine jai rfl rfl ?_;refine Z4 ?_
     refine jai rfl rfl ?_;refine Z2 ?_;refine D53 ?_;refine D43 ?_
     refine jaJ rfl rfl (fun hc=>?_) (fun hc=>?_)
     ·refine Z3 ?_
      refine jaq rfl rfl (fun hc=>?_) (fun hc=>?_);all_goals
       refine D66 ?_;refine D162 ?_
       first
        |exact E19
        |(refine ⟨rfl,?_⟩
          rw [jap b hi,jap b hk];first
           |(rw [jaB zS];done)
           |(rw [jaA zS hbt];exact E17)
           |(rw [jau zS hbf hbg];exact E17))
     ·refine Z4 ?_;refine D48 ?_;refine D162 ?_
      first
       |exact E19
       |(refine ⟨rfl,?_⟩
         rw [jap b hi,jap b hk];first
          |(rw [jaB zS];done)
          |(rw [jaA zS hbt];exact E17)
          |(rw [jau zS hbf hbg];exact E17))
   ·refine Z4 ?_;refine D10 ?_;refine Z3 ?_
    refine jai rfl rfl ?_;refine Z4 ?_
    refine jai rfl rfl ?_;refine Z2 ?_;refine D53 ?_;refine D43 ?_
    refine jaJ rfl rfl (fun hc=>?_) (fun hc=>?_)
    ·refine Z3 ?_
     refine jaq rfl rfl (fun hc=>?_) (fun hc=>?_);all_goals
      refine D66 ?_;refine D162 ?_
      first
       |exact E19
       |(refine ⟨rfl,?_⟩
         rw [jap b hi,jap b hk];first
          |(rw [jaB zS];done)
          |(rw [jaA zS hbt];exact E17)
          |(rw [jau zS hbf hbg];exact E17))
    ·refine Z4 ?_;refine D48 ?_;refine D162 ?_
     first
      |exact E19
      |(refine ⟨rfl,?_⟩
        rw [jap b hi,jap b hk];first
         |(rw [jaB zS];done)
         |(rw [jaA zS hbt];exact E17)
         |(rw [jau zS hbf hbg];exact E17))
  ·refine D132 ?_;refine rs3 ?_;refine D152 ?_
   refine jep (fun hc=>?_) (fun hc=>?_)
   ·first|replace hc:=of_decide_eq_true hc|replace hc:=of_decide_eq_false hc|skip
    refine D3 ?_
    have hab:(cdOf b ((jad b).getD i default)).butt=true:=hc
    have hkb:(cdOf b ((jad b).getD k default)).butt=false:=by cases e:(cdOf b ((jad b).getD k default)).butt;rfl;exact absurd (hab.trans e.symm) hbt
    refine rr7 ?_;refine Z5 ?_;refine jak (Post:=fun v=>v= .bool (jdV (dA (cdT b) k) (dA (cdT b) i) mk mi)) rfl zq zK (fun H' hH=>f176n_c m H' (sh.keeps (sq hH)) hk hi mk mi (.inr hkb)) ?_;rintro v rfl;refine D7 ?_;refine D153 ?_
    first
     |exact E19
     |(refine ⟨rfl,?_⟩
       rw [jap b hi,jap b hk];first
        |(rw [jaB zS];done)
        |(rw [jaA zS hbt];exact E17)
        |(rw [jau zS hbf hbg];exact E17))
   ·first|replace hc:=of_decide_eq_true hc|replace hc:=of_decide_eq_false hc|skip
    refine D8 ?_;refine D17 ?_;refine D3 ?_
    have hbf:(cdOf b ((jad b).getD i default)).butt=false:=hc
    have hbg:(cdOf b ((jad b).getD k default)).butt=true:=by cases e:(cdOf b ((jad b).getD k default)).butt;exact absurd (hbf.trans e.symm) hbt;rfl
    refine rr39 ?_;refine Z3 ?_;refine jai rfl zq ?_;refine Z2 ?_;refine D81 ?_
    refine jaq rfl zq (fun hc=>?_) (fun hc=>?_)
    ·refine Z4 ?_
     refine jai rfl rfl ?_;refine Z2 ?_;refine D43 ?_
     refine jaq rfl rfl (fun hc=>?_) (fun hc=>?_)
     ·refine D21 ?_;refine Z19 ?_;refine D21 ?_;refine D153 ?_
      first
       |exact E19
       |(refine ⟨rfl,?_⟩
         rw [jap b hi,jap b hk];first
          |(rw [jaB zS];done)
          |(rw [jaA zS hbt];exact E17)
          |(rw [jau zS hbf hbg];exact E17))
     ·refine D21 ?_;refine Z4 ?_
      refine jai rfl rfl ?_;refine Z2 ?_;refine D53 ?_
      refine jaJ rfl rfl (fun hc=>?_) (fun hc=>?_)
      ·refine Z4 ?_
       refine jai rfl rfl ?_;refine Z2 ?_;refine D43 ?_
       refine jaJ rfl rfl (fun hc=>?_) (fun hc=>?_);all_goals
        refine D66 ?_;refine D162 ?_
        first
         |exact E19
         |(refine ⟨rfl,?_⟩
           rw [jap b hi,jap b hk];first
            |(rw [jaB zS];done)
            |(rw [jaA zS hbt];exact E17)
            |(rw [jau zS hbf hbg];exact E17))
      ·refine Z9 ?_;refine D48 ?_;refine D162 ?_
       first
        |exact E19
        |(refine ⟨rfl,?_⟩
          rw [jap b hi,jap b hk];first
           |(rw [jaB zS];done)
           |(rw [jaA zS hbt];exact E17)
           |(rw [jau zS hbf hbg];exact E17))
    ·refine Z9 ?_;refine D10 ?_;refine Z4 ?_
     refine jai rfl rfl ?_;refine Z2 ?_;refine D53 ?_
     refine jaJ rfl rfl (fun hc=>?_) (fun hc=>?_)
     ·refine Z4 ?_
      refine jai rfl rfl ?_;refine Z2 ?_;refine D43 ?_
      refine jaJ rfl rfl (fun hc=>?_) (fun hc=>?_);all_goals
       refine D66 ?_;refine D162 ?_
       first
        |exact E19
        |(refine ⟨rfl,?_⟩
          rw [jap b hi,jap b hk];first
           |(rw [jaB zS];done)
           |(rw [jaA zS hbt];exact E17)
           |(rw [jau zS hbf hbg];exact E17))
     ·refine Z9 ?_;refine D48 ?_;refine D162 ?_
      first
       |exact E19
       |(refine ⟨rfl,?_⟩
         rw [jap b hi,jap b hk];first
          |(rw [jaB zS];done)
          |(rw [jaA zS hbt];exact E17)
          |(rw [jau zS hbf hbg];exact E17))
end Go.Proofs
namespace Go.Proofs
open Go.Lo
theorem jh3 (n:Nat):(jdy n).length=n:=by simp [jdy]
theorem jeQ: ∀xs:List Int,ja5 xs xs=false
 |[]=>rfl
 |a::r=>by unfold ja5;rw [if_pos rfl];exact jeQ r
theorem jfC: ∀xs ys zs:List Int,ja5 xs ys=true→ja5 ys zs=true→ja5 xs zs=true
 |[],[],_,h,_=>by simp [ja5] at h
 |[],_::_,[],_,h=>by simp [ja5] at h
 |[],_::_,_::_,_,_=>rfl
 |_::_,[],_,h,_=>by simp [ja5] at h
 |_::_,_::_,[],_,h=>by simp [ja5] at h
 |a::r,c::s,d::t,h1,h2=>by
  unfold ja5 at h1 h2⊢
  by_cases e1:a=c
  ·by_cases e2:c=d
   ·rw [if_pos e1] at h1
    rw [if_pos e2] at h2
    rw [if_pos (e1.trans e2)];exact jfC r s t h1 h2
   ·rw [if_neg e2] at h2
    rw [if_neg (e1▸e2),e1];exact h2
  ·rw [if_neg e1] at h1
   have h1:=of_decide_eq_true h1
   by_cases e2:c=d
   ·rw [if_neg (e2▸e1),←e2];exact decide_eq_true h1
   ·rw [if_neg e2] at h2
    have h2:=of_decide_eq_true h2
    rw [if_neg zO];exact decide_eq_true zO
theorem jjc (xs:List Int): ¬jdz xs xs:=by
 rintro (h|⟨_,h⟩)
 ·omega
 ·rw [jeQ] at h
  cases h
theorem jgF {xs ys zs:List Int} (h1:jdz xs ys) (h2:jdz ys zs):jdz xs zs:=by
 rcases h1 with h1|⟨h1,h1'⟩<;>rcases h2 with h2|⟨h2,h2'⟩
 ·exact .inl zO
 ·exact .inl zO
 ·exact .inl zO
 ·exact .inr ⟨by omega,jfC _ _ _ h1' h2'⟩
theorem jjq: ∀xs ys:List Int,xs=ys∨ja5 xs ys=true∨ja5 ys xs=true
 |[],[]=> .inl rfl
 |[],_::_=> .inr (.inl rfl)
 |_::_,[]=> .inr (.inr rfl)
 |a::r,c::s=>by
  unfold ja5
  by_cases e:a=c
  ·rw [if_pos e,if_pos e.symm];rcases jjq r s with h|h|h
   ·exact .inl (by rw [e,h])
   ·exact .inr (.inl h)
   ·exact .inr (.inr h)
  ·rw [if_neg e,if_neg (fun x=>e x.symm)];rcases Int.lt_or_gt_of_ne e with h|h
   ·exact .inr (.inl (decide_eq_true h))
   ·exact .inr (.inr (decide_eq_true h))
theorem jkT (xs ys:List Int):xs=ys∨jdz xs ys∨jdz ys xs:=by
 unfold jdz
 rcases jjq xs ys with h|h|h
 ·exact .inl h
 ·rcases Nat.lt_trichotomy xs.length ys.length with e|e|e
  ·exact .inr (.inl (.inl e))
  ·exact .inr (.inl (.inr ⟨e,h⟩))
  ·exact .inr (.inr (.inl e))
 ·rcases Nat.lt_trichotomy xs.length ys.length with e|e|e
  ·exact .inr (.inl (.inl e))
  ·exact .inr (.inr (.inr ⟨e.symm,h⟩))
  ·exact .inr (.inr (.inl e))
theorem je5 {p:Int→Bool} {k:Nat} {z:Int}:z∈(jdy k).filter p↔ ∃i:Nat,i<k∧z=(i:Int)∧p i=true:=by
 rw [List.mem_filter];unfold jdy
 rw [List.mem_map];constructor
 ·rintro ⟨⟨i,hi,rfl⟩,h⟩;exact ⟨i,List.mem_range.1 hi,rfl,h⟩
 ·rintro ⟨i,hi,rfl,h⟩;exact ⟨⟨i,List.mem_range.2 hi,rfl⟩,h⟩
theorem jlQ {xs:List Int} (h:Asc xs) (p:Int→Bool):Asc (xs.filter p):=List.Pairwise.sublist List.filter_sublist h
theorem jlP (k:Nat):Asc (jdy k):=by
 unfold jdy
 refine List.pairwise_map.2 ?_
 exact List.Pairwise.imp (fun h=>by omega) List.pairwise_lt_range
theorem jjs (mm k:Nat):Asc (jba mm k):=jlQ (jlP _) _
theorem jm0 {mm k:Nat} (h:bitN mm k=1):jba mm (k+1)=jba mm k++[(k:Int)]:=by
 rw [jba,jgB,List.filter_append,←jba,List.filter_cons,Int.toNat_natCast,if_pos (decide_eq_true h)];rfl
theorem keptI_no {mm k:Nat} (h:bitN mm k≠1):jba mm (k+1)=jba mm k:=by
 rw [jba,jgB,List.filter_append,←jba,List.filter_cons,Int.toNat_natCast,if_neg (by rw [decide_eq_true_iff];exact h)];simp
theorem jhV (mm k:Nat):(jba mm k).length≤k:=by
 have:=List.length_filter_le (fun i:Int=>decide (bitN mm i.toNat=1)) (jdy k)
 rw [jh3] at this
 exact this
def jgP (p:Nat→Bool):Nat→Nat
 |0=>0
 |n+1=>if p n then 2^n+jgP p n else jgP p n
theorem jgO (p:Nat→Bool): ∀n,jgP p n<2^n
 |0=>Nat.one_pos
 |n+1=>by
  have:=jgO p n
  rw [jgP,Nat.pow_succ];split<;>omega
theorem jfh (p:Nat→Bool): ∀n i,i<n→(jgP p n).testBit i=p i
 |0,i,h=>by omega
 |n+1,i,h=>by
  rw [jgP];by_cases e:i=n
  ·subst e
   have h1:=Nat.testBit_lt_two_pow (jgO p i)
   split
   ·rw [Nat.testBit_two_pow_add_eq,h1];rename_i h
    rw [h];rfl
   ·rename_i h
    rw [h1];exact (Bool.eq_false_iff.2 h).symm
  ·have ih:=jfh p n i zO
   split
   ·rw [Nat.testBit_two_pow_add_gt zO];exact ih
   ·exact ih
theorem jb0 (mm i:Nat):bitN mm i=1↔mm.testBit i=true:=by
 rw [Nat.testBit_eq_decide_div_mod_eq];unfold bitN
 simp
theorem jcn {mm k:Nat} {z:Int}:z∈jba mm k↔ ∃i:Nat,i<k∧z=(i:Int)∧bitN mm i=1:=by
 unfold jba
 rw [je5];simp
theorem jmZ {n:Nat} {xs:List Int} (ha:Asc xs) (h: ∀x∈xs,0≤x∧x<n): ∃mm,mm<2^n∧xs=jba mm n:=by
 refine ⟨jgP (fun i=>decide ((i:Int)∈xs)) n,jgO _ _,Asc.eq ha (jjs _ _) fun z=>?_⟩
 rw [jcn];constructor
 ·intro hz
  have h1:=h z hz
  refine ⟨z.toNat,by omega,by omega,(jb0 _ _).2 ?_⟩
  rw [jfh _ _ _ zO,show ((z.toNat:Nat):Int)=z by omega];exact decide_eq_true hz
 ·rintro ⟨i,hi,rfl,hb⟩;have:=(jb0 _ _).1 hb
  rw [jfh _ _ _ hi] at this
  exact of_decide_eq_true this
theorem jjr {ys:List Int} (h:Asc ys):ys.Nodup:=List.Pairwise.imp (fun h=>by omega) h
end Go.Proofs
namespace Go.Proofs
open Go.Lo
open Go.Conc (G)
set_option maxRecDepth 100000
set_option synthInstance.maxSize 100000
set_option synthInstance.maxHeartbeats 1000000
set_option maxHeartbeats 4000000
variable {B:Array Obj}
variable [LaidO B]
def btL (s:Nat) (ms:List Int):List Value:= .int .u64 (s:Int)::ints ms
abbrev btV (s:Nat) (ms:List Int):Value:= .agg (btL s ms).toArray
theorem btL_one (s:Nat) (ms:List Int): ∀u∈btL s ms,u.oneCell'=true:=by
 intro u hu
 rcases List.mem_cons.1 hu with rfl|hu
 ·rfl
 ·obtain ⟨n,_,rfl⟩:=List.mem_map.1 hu
  rfl
instance {s:Nat} {ms:List Int}:Ones (btL s ms):=⟨btL_one s ms⟩
instance {s:Nat} {ms:List Int}:At (btL s ms) 0 (.int .u64 (s:Int)):=⟨rfl⟩
theorem bt_at {h:Hp} {q e:Nat} {rw:Bool} {f:Nat×Nat} {s:Nat} {ms:List Int} [x:Has h q rw (.cells (btL s ms).toArray e f)] (i:Nat) (hi:i<ms.length):Rd B h ⟨q,1+(i:Int).toNat*1,none⟩ (.int .i64 (ms.getD i 0)):=by
 refine Rd.held x.mem ?_
 rw [show 1+(i:Int).toNat*1=i+1 by omega,List.getElem?_toArray,btL,List.getElem?_cons_succ,List.getElem?_map,List.getElem?_eq_getElem hi,List.getD_eq_getElem?_getD,List.getElem?_eq_getElem hi];rfl
theorem isB_of {p:Bool} {v:Value} (h:v= .bool p):IsB (p=true) v:=by
 rw [h];cases p
 exact .inr ⟨by simp,rfl⟩
 exact .inl ⟨rfl,rfl⟩
def fitsN (D:List Cd) (s:Nat) (ms:List Int) (i k:Nat):Prop:= ∀j,j<k→s.testBit j=false→riC (dA D j) (dA D i) (ms.getD j 0) (ms.getD i 0)=true
theorem f156_c (m:Md Tryz.prog B) (h:Hp) (s:Nat) (hs:s<4096):FnC m 156 #[.int .u64 (s:Int)] h fun v h'=> ∃new,h'=h++new∧OwnS 3 1 v (jba s 12).length (ints (jba s 12)) new:=by
 refine jae Tryz.func156 rfl rfl (l:=(.int .u64 (s:Int))::uu16) rfl ?_
 intro cf cs K hK
 refine D145 ?_;refine D139 ?_;refine rs1 ?_;refine D195 ?_
 refine jam (fun nn l h'=> ∃(k:Nat) (wp:Option Addr) (wc:Nat) (M:Hp),nn=12-k∧(k≤12)∧(OwnS 3 1 (.slice wp (jba s k).length wc) (jba s k).length (ints (jba s k)) M)∧(∃U:Nat→Value,l=((.int .u64 (s:Int))::(U 1)::(U 2)::(.slice wp (jba s k).length wc)::(U 4)::(.int .i64 (k:Int))::vw11 U 6 []))∧h++M=h') _ ⟨0,none,0,[],rfl,by omega,OwnS.nil,exU rfl,zD⟩ ?_;rintro nn l h' ⟨k,wp,wc,M,rfl,hk,how,⟨U,rfl⟩,rfl⟩ hnext;have hkl:=jhV s k
 refine rs1 ?_;refine jaq rfl zq (fun hc=>?_) (fun hc=>?_);refine D135 ?_
 rotate_left
 refine D137 ?_
 all_goals
  refine D127 ?_;refine D0 ?_
 ·refine D4 ?_;refine jac (h++M) rfl Tryz.func156 rfl jaa ?_;refine D5 ?_
  obtain rfl:k=12:=by omega
  exact ⟨M,rfl,how⟩
 ·refine D170 ?_;refine jak (Post:=fun v=>IsB _ v) rfl zq zK (fun H' hH=>f98_b m H' s k hs zO) ?_
  rintro v (⟨hc,rfl⟩|⟨hc,rfl⟩);refine D7 ?_;refine D121 ?_;refine rr5 ?_;refine Z2 ?_
  refine k_bs kdq rfl zq zA zA rfl (fun q13=>k_hp (jab ?_));refine jaZ rfl zq rfl how kdq zO zO (fun w9 n9 o9=>jab ?_);obtain ⟨p9,c9,rfl,hc9,r9⟩:=jar (B:=B) o9
  refine D0 ?_
  rotate_left
  refine D7 ?_;refine D119 ?_
  all_goals
   refine D126 ?_
  ·have hks:=keptI_no (mm:=s) (k:=k) (fun e=>hc ((jb0 s k).1 e))
   rw [←hks];exact E6
  ·have hks:=jm0 (mm:=s) (k:=k) ((jb0 s k).2 hc)
   have hkl1:(jba s (k+1)).length=(jba s k).length+1:=by rw [hks];simp
   rw [←hkl1];exact m.weak jaa (hnext _ _ _ zO ⟨k+1,p9,c9,n9,rfl,by omega,by rw [hkl1,hks,jcp];exact o9,exU rfl,rfl⟩)
theorem f139_c (m:Md Tryz.prog B) (h:Hp) {b:Tb} {q:Nat} {tv:List Value} (sh:Sheet B h b q tv) {i:Nat} (hi:i<(jad b).length) (s:Nat) (hs:s<4096) {ms:List Int} (hm:ms.length=12):FnC m 139 #[.pointer (some ⟨q,0,none⟩),btV s ms,.int .i64 (i:Int)] h fun v h'=>h'=h∧IsB (fitsN (cdT b) s ms i i) v:=by
 have h12:=sh.twelve
 refine jae Tryz.func139 rfl rfl (l:=(.pointer (some ⟨q,0,none⟩))::(btV s ms)::(.int .i64 (i:Int))::uu29) rfl ?_
 intro cf cs K hK
 refine rs2 ?_;refine jaP rfl zq (fun q4=>k_hp (jab ?_));refine D122 ?_;refine rs2 ?_;refine D124 ?_;refine D15 ?_
 refine jam (fun nn l h'=> ∃(k:Nat),nn=i-k∧(k≤i)∧(fitsN (cdT b) s ms i k)∧(∃U:Nat→Value,l=((.pointer (some ⟨q,0,none⟩))::(btV s ms)::(.int .i64 (i:Int))::(U 3)::(.pointer (some ⟨q4,0,none⟩))::(U 5)::(U 6)::(U 7)::(.int .i64 (i:Int))::(.int .i64 (k:Int))::vw22 U 10 []))∧h++[⟨true,q4,.cells (btL s ms).toArray 136 (0,0)⟩]=h') _ ⟨0,rfl,by omega,fun j hj=>absurd hj zO,exU rfl,rfl⟩ ?_;rintro nn l h' ⟨k,rfl,hk,hno,⟨U,rfl⟩,rfl⟩ hnext;refine rs1 ?_;refine jaq rfl zq (fun hc=>?_) (fun hc=>?_)
 ·refine D135 ?_;refine D127 ?_;refine D122 ?_;refine jaz [(0,.pure),(2,.pure),(1,.read),(3,.keep),(4,.pure),(5,.pure),(6,.pure),(7,.pure),(8,.pure),(9,.pure),(10,.pure),(11,.pure),(13,.pure),(14,.pure),(15,.pure),(12,.read),(16,.read),(17,.keep),(18,.pure)] zK zK (List.Sublist.refl _) ?_;refine Z3 ?_;refine jak (Post:=fun v=>IsB _ v) rfl zq zK (fun H' hH=>f98_b m H' s k hs zO) ?_
  rintro v (⟨hc,rfl⟩|⟨hc,rfl⟩)
  ·refine D7 ?_
   have hbt:s.testBit k=true:=hc
   refine D63 ?_;refine Z13 ?_;refine D10 ?_;refine D149 ?_
   exact m.weak jaa (hnext _ _ _ zO ⟨k+1,rfl,by omega,fun j hj hb=>by
    by_cases e:j<k
    ·exact hno j e hb
    ·obtain rfl:j=k:=by omega
     first|(rw [hc] at hb;cases hb;done)|(rw [hbt] at hb;cases hb;done)|(have hf:=hc;rw [jdV] at hf;simpa using hf),exU rfl,rfl⟩)
  ·refine D7 ?_
   have hbf:s.testBit k=false:=by simpa using hc
   refine D64 ?_;refine Z10 ?_;refine k_ld rfl rfl (bt_at k zO) ?_;refine k_ld rfl rfl (bt_at i zO) ?_;refine jak (Post:=fun v=>IsB _ v) rfl rfl zK (fun H' hH=>CallF.mono (f176_c m H' (sh.keeps (sq hH)) (i:=k) (k:=i) zO hi (ms.getD k 0) (ms.getD i 0)) fun v h' ⟨e1,e2⟩=>⟨e1,isB_of e2⟩) ?_
   rintro v (⟨hc,rfl⟩|⟨hc,rfl⟩)
   ·refine D7 ?_;refine D21 ?_;refine D154 ?_;refine jac (h) rfl Tryz.func139 rfl jaa ?_;refine D5 ?_
    refine ⟨rfl,IsB.no fun e=>?_⟩
    have:=e k zO hbf
    rw [jdV,this] at hc
    cases hc
   ·refine D7 ?_;refine D21 ?_;refine D149 ?_
    exact m.weak jaa (hnext _ _ _ zO ⟨k+1,rfl,by omega,fun j hj hb=>by
     by_cases e:j<k
     ·exact hno j e hb
     ·obtain rfl:j=k:=by omega
      first|(rw [hc] at hb;cases hb;done)|(rw [hbt] at hb;cases hb;done)|(have hf:=hc;rw [jdV] at hf;simpa using hf),exU rfl,rfl⟩)
 ·refine D137 ?_;refine D129 ?_;refine jac (h) rfl Tryz.func139 rfl jaa ?_;refine D5 ?_
  obtain rfl:k=i:=by omega
  exact ⟨rfl,IsB.yes hno⟩
theorem jlR {D:List Cd} {x:Bo} {d:Cd} {v:Int} (h:x.length≤D.length):jas d v D x=jas d v (D.take x.length) x:=by
 have hl:x.length=(D.take x.length).length:=by rw [List.length_take];omega
 have:=jcO (d:=d) (v:=v) (C:=D.drop x.length) hl
 rwa [List.take_append_drop] at this
theorem jhp {D:List Cd} {x:Bo} {v:Int} (h:x.length<D.length) (h12:D.length≤12):fitsN D (jbH (x++[some v])) (padM (x++[some v])) x.length x.length↔jas (dA D x.length) v D x=true:=by
 have hl:x.length=(D.take x.length).length:=by rw [List.length_take];omega
 rw [jlR zO,jci hl];have hv:(padM (x++[some v])).getD x.length 0=v:=by
  rw [jee zO,xA,List.getD_eq_getElem?_getD];simp
 have hj: ∀j,j<x.length→(padM (x++[some v])).getD j 0=(xA x j).getD 0:=fun j hj=>by
  rw [jee zO,xA,xA,List.getD_eq_getElem?_getD,List.getElem?_append_left hj,List.getD_eq_getElem?_getD]
 have hd: ∀j,j<x.length→dA (D.take x.length) j=dA D j:=fun j hj=>by
  rw [dA,dA,List.getD_eq_getElem?_getD,List.getElem?_take,if_pos hj,List.getD_eq_getElem?_getD]
 have hb: ∀j,j<x.length→((jbH (x++[some v])).testBit j=false↔ ∃u,xA x j=some u):=fun j hj=>by
  rw [jhx,jcs];cases hx:xA x j with
  |none=>simp [hj]
  |some u=>simp
 constructor
 ·intro hh j u hu
  have hjl:j<x.length:=Classical.byContradiction fun e=>by
   rw [xA,List.getD_eq_getElem?_getD,List.getElem?_eq_none zO] at hu
   cases hu
  have:=hh j hjl ((hb j hjl).2 ⟨u,hu⟩)
  rw [hv,hj j hjl,hu] at this
  rw [hd j hjl,jfJ];exact this
 ·intro hh j hjl hbj
  obtain ⟨u,hu⟩:=(hb j hjl).1 hbj
  have:=hh j u hu
  rw [hd j hjl,jfJ] at this
  rw [hv,hj j hjl,hu];exact this
theorem meaS_960 (s:Str):(meaS s).length≤960:=by
 rw [meaS];split
 ·rw [meaP,List.length_map];have:=List.length_filter_le (jc3 (jao s)) (List.range 960)
  rwa [List.length_range] at this
 ·simp
theorem can_960 (b:Tb) {i:Nat} (hi:i<(jad b).length):(dA (cdT b) i).can.length≤960:=by
 rw [jap b hi];exact meaS_960 _
theorem bo_some {x:Bo} {v:Int} (h:x.length<12):SetSeg (boL x) (1+(x.length:Int).toNat*1) [.int .i64 v] (boL (x++[some v])):=by
 refine jcf (by rw [jav];omega) ?_
 rw [boL,boL,jhx,jmB h,show 1+(x.length:Int).toNat*1=x.length+1 by omega,List.set_cons_succ,List.map_set]
theorem jnY {x:Bo} (h:x.length<12):SetSeg (boL x) 0 [.int .u64 ((jbH x|||2^x.length:Nat):Int)] (boL (x++[none])):=by
 refine jcf (by rw [jav];omega) ?_
 rw [boL,boL,jlO,jmC h,List.set_cons_zero]
instance {x:Bo}:Ones (boL x):=⟨jnZ x⟩
instance {x:Bo}:LenIs (boL x) 13:=⟨jav x⟩
instance {x:Bo}:At (boL x) 0 (.int .u64 (jbH x:Int)):=⟨rfl⟩
theorem seg_all {l:List Value} {n:Nat} (h:l.length=n):Seg l 0 n l:=⟨by rw [List.drop_zero];exact List.take_of_length_le zO,h⟩
instance {x:Bo}:Seg (boL x) 0 13 (boL x):=seg_all (jav x)
theorem jg9 {l r:List Value} (h:l.length=r.length):SetSeg l 0 r r:=⟨by rw [List.drop_eq_nil_of_le zO];simp,by omega⟩
instance {v1 v2 v3 v4 v5 v6 v7 v8 v9 v10 v11 v12 v13:Value} {x:Bo}:SetSeg [v1,v2,v3,v4,v5,v6,v7,v8,v9,v10,v11,v12,v13] 0 (boL x) (boL x):=jg9 (by rw [jav];rfl)
theorem CallV.fn' {P:Program} {B:Array Obj} {m:Md P B} {f:FuncId} {first cap vs:Array Value} {args:List Value} {h:Hp} {Post:Value→Hp→Prop} (hf:jbg P f=true) (e:first++args.toArray++cap=vs) (c:FnC m f vs h Post):CallV m (.func (.func f) first cap) args h Post:=CallV.fn hf (e▸c)
theorem jfQ:jbg Tryz.prog 180=true:=by kernel_rfl
def EachO {P:Program} {B:Array Obj} (m:Md P B) (h0:Hp) (G:List Bo) (N:Nat) (yv:Value) (YI:List Bo→Hp→Prop) (YS:Hp→Prop):Prop:=
 ∀(F R:Hp) (dn:List Bo) (x:Bo),h0.Sublist F→x∈G→dn.length<N→YI dn R→CallV m yv [boV x] (F++R) fun v h'=> ∃R',h'=F++R'∧((v= .bool true∧YI (dn++[x]) R')∨(v= .bool false∧YS R'))
theorem f180_c (m:Md Tryz.prog B) {h0:Hp} {b:Tb} {q:Nat} {tv:List Value} (sh:Sheet B h0 b q tv) {qx qm qc:Nat} (rx:Rd B h0 ⟨qx,0,none⟩ (.pointer (some ⟨q,0,none⟩))) {must can:Nat} (rm:Rd B h0 ⟨qm,0,none⟩ (.int .u64 (must:Int))) (rc:Rd B h0 ⟨qc,0,none⟩ (.int .u64 (can:Int))) (hmu:must<4096) (hca:can<4096) {yv:Value} [CellsV yv [yv]] {G:List Bo} {N:Nat} {YI:List Bo→Hp→Prop} {YS:Hp→Prop} (hY:EachO m h0 G N yv YI YS) (qy qn:Nat):
  ∀(d w:Nat) (x:Bo) (dn:List Bo) (X R:Hp),x.length+d=(jad b).length→w≤100→(∀y∈genM (cdT b) can must d w x,y∈G)→dn.length+(genM (cdT b) can must d w x).length≤N→YI dn R→
   FnC m 180 #[boV x,.int .i64 (x.length:Int),.int .i64 (w:Int),.pointer (some ⟨qx,0,none⟩),.pointer (some ⟨qy,0,none⟩),.pointer (some ⟨qm,0,none⟩),.pointer (some ⟨qn,0,none⟩),.pointer (some ⟨qc,0,none⟩)] (((h0++[⟨true,qy,.cells [yv].toArray 220 (0,0)⟩,⟨true,qn,.cells [.func (.func 180) #[] [.pointer (some ⟨qx,0,none⟩),.pointer (some ⟨qy,0,none⟩),.pointer (some ⟨qm,0,none⟩),.pointer (some ⟨qn,0,none⟩),.pointer (some ⟨qc,0,none⟩)].toArray].toArray 221 (0,0)⟩])++X)++R) fun v h'=> ∃R',h'=((h0++[⟨true,qy,.cells [yv].toArray 220 (0,0)⟩,⟨true,qn,.cells [.func (.func 180) #[] [.pointer (some ⟨qx,0,none⟩),.pointer (some ⟨qy,0,none⟩),.pointer (some ⟨qm,0,none⟩),.pointer (some ⟨qn,0,none⟩),.pointer (some ⟨qc,0,none⟩)].toArray].toArray 221 (0,0)⟩])++X)++R'∧((v= .bool true∧YI (dn++genM (cdT b) can must d w x) R')∨(v= .bool false∧YS R')):=by
 intro d
 induction d using Nat.strongRecOn
 rename_i d ih
 intro w x dn X R hid hw hok hdn hR
 have h12:=sh.twelve
 obtain ⟨pc,cc0,hcv,hcc,hcr0⟩:=sh.cells
 refine jae Tryz.func180 rfl rfl (l:=(boV x)::(.int .i64 (x.length:Int))::(.int .i64 (w:Int))::(.pointer (some ⟨qx,0,none⟩))::(.pointer (some ⟨qy,0,none⟩))::(.pointer (some ⟨qm,0,none⟩))::(.pointer (some ⟨qn,0,none⟩))::(.pointer (some ⟨qc,0,none⟩))::uu71) rfl ?_
 intro cf cs K hK
 refine rs2 ?_;refine jaP rfl zq (fun q8=>jiQ (Weak.mid ((h0++[⟨true,qy,.cells [yv].toArray 220 (0,0)⟩,⟨true,qn,.cells [.func (.func 180) #[] [.pointer (some ⟨qx,0,none⟩),.pointer (some ⟨qy,0,none⟩),.pointer (some ⟨qm,0,none⟩),.pointer (some ⟨qn,0,none⟩),.pointer (some ⟨qc,0,none⟩)].toArray].toArray 221 (0,0)⟩])++X) R _) (jab ?_));refine D122 ?_;refine D166 ?_;refine D113 ?_
 refine jai rfl zq ?_;refine Zs ?_;refine D73 ?_;refine Zs ?_
 refine jaM rfl zq (fun hc=>?_) (fun hc=>?_)
 ·obtain rfl:d=0:=by omega
  have hgn:genM (cdT b) can must 0 w x=[x]:=rfl
  rw [hgn] at hdn hok
  refine D121 ?_;refine rs4 ?_;refine Z2 ?_
  have hcv2:=hY (((h0++[⟨true,qy,.cells [yv].toArray 220 (0,0)⟩,⟨true,qn,.cells [.func (.func 180) #[] [.pointer (some ⟨qx,0,none⟩),.pointer (some ⟨qy,0,none⟩),.pointer (some ⟨qm,0,none⟩),.pointer (some ⟨qn,0,none⟩),.pointer (some ⟨qc,0,none⟩)].toArray].toArray 221 (0,0)⟩])++X)++[⟨true,q8,.cells (boL x).toArray 136 (0,0)⟩]) R dn x zD (hok x zD) (by simp at hdn;omega) hR
  refine je7 rfl zq hcv2 ?_;rintro v h' ⟨R2,rfl,hh⟩;refine D182 ?_;refine D24 ?_;refine D5 ?_
  exact ⟨R2,rfl,by rw [hgn];exact hh⟩
 ·obtain ⟨d1,rfl⟩: ∃d1,d=d1+1:=⟨d-1,by omega⟩
  have hxl:x.length<(jad b).length:=by omega
  have hx12:x.length<12:=by omega
  have hbs:=jbR (x:=x) zO
  refine D140 ?_;refine rs4 ?_;refine k_ld rfl zq (rm.keeps SubH.sub) ?_;refine Zs ?_;refine jak (Post:=fun v=>IsB _ v) rfl zq zK (fun H' hH=>f98_b m H' must x.length hmu hx12) ?_
  rintro v (⟨hc,rfl⟩|⟨hc,rfl⟩)
  ·refine D7 ?_
   have hmb:must.testBit x.length=true:=hc
   have hgm:=ji6 (D:=cdT b) (can:=can) (f:=d1) (w:=w) hmb
   refine D63 ?_;refine D140 ?_;refine D3 ?_
   first
    |have hpre: ∃pre,genM (cdT b) can must (d1+1) w x=pre++(if w=0∨can.testBit x.length=false then [] else genM (cdT b) can must d1 (w-1) (x++[none]))∧YI (dn++pre) R1:=⟨_,hgf j zO,hR1⟩
    |have hpre: ∃pre,genM (cdT b) can must (d1+1) w x=pre++(if w=0∨can.testBit x.length=false then [] else genM (cdT b) can must d1 (w-1) (x++[none]))∧YI (dn++pre) R:=⟨[],hgm,by rw [List.append_nil];exact hR⟩
   obtain ⟨pre,hgp,hRp⟩:=hpre
   refine rr8 ?_;refine Zs ?_;refine jaM rfl zq (fun hc=>?_) (fun hc=>?_)
   ·refine Z5 ?_;refine D21 ?_;refine D154 ?_;refine D40 ?_;refine D5 ?_
    exact E20
   ·refine Zs ?_;refine k_ld rfl rfl (rc.keeps SubH.sub) ?_;refine Zs ?_;refine jak (Post:=fun v=>IsB _ v) rfl rfl zK (fun H' hH=>f98_b m H' can x.length hca hx12) ?_
    rintro v (⟨hc,rfl⟩|⟨hc,rfl⟩)
    ·refine D7 ?_;refine jgp rfl rfl ?_;refine D10 ?_;refine D119 ?_;refine rs6 ?_;refine Z3 ?_;refine D82 ?_
     rintro v rfl;refine D7 ?_;refine Zs ?_
     haveI hsn:=jnY (x:=x) hx12
     refine D142 ?_;refine rs8 ?_;refine Z6 ?_
     have hw1:w≠0:=by omega
     have hcb:can.testBit x.length=true:=by assumption
     have hgg:(if w=0∨can.testBit x.length=false then [] else genM (cdT b) can must d1 (w-1) (x++[none]))=genM (cdT b) can must d1 (w-1) (x++[none]):=if_neg (by rw [hcb];simp;exact hw1)
     have hrec:=ih d1 zO (w-1) (x++[none]) (dn++pre) (X++[⟨true,q8,.cells (boL (x++[none])).toArray 136 (0,0)⟩]) _ zN zO (fun y hy=>hok y (by
      rw [hgp,hgg];exact List.mem_append_right _ hy)) (by
      rw [hgp,hgg,List.length_append] at hdn
      rw [List.length_append];omega) hRp
     rw [show (((x++[none]:Bo).length:Nat):Int)=(x.length:Int)+1 by simp,show ((w-1:Nat):Int)=(w:Int)-1 by omega,←List.append_assoc (h0++_) X] at hrec
     have hcv2:=CallV.fn' (first:= #[]) (args:=[boV (x++[none]),.int .i64 ((x.length:Int)+1),.int .i64 ((w:Int)-1)]) (cap:=[Value.pointer (some ⟨qx,0,none⟩),Value.pointer (some ⟨qy,0,none⟩),Value.pointer (some ⟨qm,0,none⟩),Value.pointer (some ⟨qn,0,none⟩),Value.pointer (some ⟨qc,0,none⟩)].toArray) jfQ zD hrec
     refine je7 rfl zq hcv2 ?_;clear hcv2 hrec
     rintro v h' ⟨R2,rfl,hh⟩;refine D182 ?_;refine D24 ?_;refine D5 ?_
     exact ⟨R2,rfl,by rw [hgp,hgg,←List.append_assoc];exact hh⟩
    ·refine D7 ?_;refine jiS rfl rfl ?_;refine D10 ?_;refine D154 ?_;refine D40 ?_;refine D5 ?_
     exact E20
  ·refine D7 ?_
   have hmb:must.testBit x.length=false:=by simpa using hc
   have hgf:=fun j=>jnv (D:=cdT b) (can:=can) (f:=d1) (w:=w) (j:=j) hmb
   obtain ⟨cp,cc,hcan,hccl,hcr⟩:=sh.can x.length hxl
   have h960:=can_960 b hxl
   have hcan2:Rd B h0 ⟨q,18+(x.length:Int).toNat*1,none⟩ (.slice cp (dA (cdT b) x.length).can.length cc):=by rw [Int.toNat_natCast,Nat.mul_one];exact hcan
   refine D64 ?_;refine D121 ?_;refine rs8 ?_;refine D113 ?_;refine Zs ?_
   refine jai rfl zq ?_;refine Z2 ?_;refine k_ld rfl zq (hcan2.keeps SubH.sub) ?_;refine D124 ?_;refine D15 ?_
   refine jam (fun nn l h'=> ∃(j:Nat) (R1:Hp),nn=(dA (cdT b) x.length).can.length-j∧(j≤(dA (cdT b) x.length).can.length)∧(YI (dn++jeI (cdT b) can must d1 w x j) R1)∧(∃U:Nat→Value,l=((boV x)::(.int .i64 (x.length:Int))::(.int .i64 (w:Int))::(.pointer (some ⟨qx,0,none⟩))::(.pointer (some ⟨qy,0,none⟩))::(.pointer (some ⟨qm,0,none⟩))::(.pointer (some ⟨qn,0,none⟩))::(.pointer (some ⟨qc,0,none⟩))::(.pointer (some ⟨q8,0,none⟩))::vw25 U 9 ((.slice cp (dA (cdT b) x.length).can.length cc)::(.int .i64 ((dA (cdT b) x.length).can.length:Int))::(.int .i64 (j:Int))::vw42 U 37 [])))∧(((h0++[⟨true,qy,.cells [yv].toArray 220 (0,0)⟩,⟨true,qn,.cells [.func (.func 180) #[] [.pointer (some ⟨qx,0,none⟩),.pointer (some ⟨qy,0,none⟩),.pointer (some ⟨qm,0,none⟩),.pointer (some ⟨qn,0,none⟩),.pointer (some ⟨qc,0,none⟩)].toArray].toArray 221 (0,0)⟩])++X)++[⟨true,q8,.cells (boL x).toArray 136 (0,0)⟩])++R1=h') _ ⟨0,R,rfl,by omega,by rw [jlG,List.append_nil];exact hR,exU rfl,rfl⟩ ?_;rintro nn l h' ⟨j,R1,rfl,hj,hR1,⟨U,rfl⟩,rfl⟩ hnext1;refine rs1 ?_;refine jaq rfl zq (fun hc=>?_) (fun hc=>?_)
   ·refine D156 ?_
    obtain ⟨cpb,cpo,hcp⟩:=hcr.ptr zO
    have hcr':=hcr
    rw [hcp] at hcr'
    refine rr3 ?_;refine jdU rfl zq hcp zO zO ?_;refine k_ld rfl zq (hcr'.iat j zO zO) ?_;refine D0 ?_;refine D151 ?_;refine jat rfl zq (fun q14=>jiQ (Weak.mid (((h0++[⟨true,qy,.cells [yv].toArray 220 (0,0)⟩,⟨true,qn,.cells [.func (.func 180) #[] [.pointer (some ⟨qx,0,none⟩),.pointer (some ⟨qy,0,none⟩),.pointer (some ⟨qm,0,none⟩),.pointer (some ⟨qn,0,none⟩),.pointer (some ⟨qc,0,none⟩)].toArray].toArray 221 (0,0)⟩])++X)++[⟨true,q8,.cells (boL x).toArray 136 (0,0)⟩]) R1 _) (jab ?_));refine jiR rfl zq (jav x) ?_;refine D1 ?_;refine rs5 ?_;refine Z4 ?_;haveI hss:=bo_some (x:=x) (v:=((dA (cdT b) x.length).can.getD j 0)) hx12
    refine D142 ?_;refine rs13 ?_;refine D113 ?_;refine Z2 ?_;refine jak (Post:=fun v=>IsB _ v) rfl zq zK (fun H' hH=>f139_c m H' (sh.keeps (sq hH)) hxl (jbH (x++[some ((dA (cdT b) x.length).can.getD j 0)])) (jbR zN) (ms:=padM (x++[some ((dA (cdT b) x.length).can.getD j 0)])) (ja1 _)) ?_
    rintro v (⟨hc,rfl⟩|⟨hc,rfl⟩)
    ·refine D7 ?_
     have hag:=(jhp (by rw [jaD];exact hxl) (by rw [jaD];exact h12)).1 hc
     have hgs:=jnw (D:=cdT b) (can:=can) (must:=must) (f:=d1) (w:=w) (j:=j) zO hag
     refine Zs ?_;refine k_ldh rfl rfl ?_;refine Z2 ?_;refine k_add rfl rfl zL ?_;refine Zs ?_
     have hle:=genMJ_le (D:=cdT b) (can:=can) (f:=d1) (w:=w) (j:=j+1) hmb
     have hgfl:=hgf _ (Nat.le_refl _)
     have hrec:=ih d1 zO w (x++[some ((dA (cdT b) x.length).can.getD j 0)]) (dn++jeI (cdT b) can must d1 w x j) (X++([⟨true,q8,.cells (boL x).toArray 136 (0,0)⟩]++[⟨true,q14,.cells (boL (x++[some ((dA (cdT b) x.length).can.getD j 0)])).toArray 136 (0,0)⟩])) R1 zN hw (fun y hy=>hok y (by
      rw [hgfl];refine List.mem_append_left _ ?_
      rw [jho (Nat.le_refl _)];refine List.mem_flatMap.2 ⟨_,List.mem_filter.2 ⟨?_,hag⟩,hy⟩
      rw [List.getD_eq_getElem?_getD,List.getElem?_eq_getElem zO];exact List.getElem_mem _)) (by
      rw [hgs,List.length_append] at hle
      rw [List.length_append];omega) hR1
     rw [show (((x++[some ((dA (cdT b) x.length).can.getD j 0)]).length:Nat):Int)=(x.length:Int)+1 by simp,←List.append_assoc (h0++_) X,←List.append_assoc (_++X) _ _] at hrec
     have hcv2:=CallV.fn' (first:= #[]) (args:=[boV (x++[some ((dA (cdT b) x.length).can.getD j 0)]),.int .i64 ((x.length:Int)+1),.int .i64 (w:Int)]) (cap:=[Value.pointer (some ⟨qx,0,none⟩),Value.pointer (some ⟨qy,0,none⟩),Value.pointer (some ⟨qm,0,none⟩),Value.pointer (some ⟨qn,0,none⟩),Value.pointer (some ⟨qc,0,none⟩)].toArray) jfQ zD hrec
     refine je7 rfl rfl hcv2 ?_;clear hcv2 hrec
     rintro v h' ⟨R2,rfl,(⟨rfl,hR2⟩|⟨rfl,hR2⟩)⟩
     ·refine D7 ?_;refine jgp rfl rfl ?_;refine D21 ?_;refine D149 ?_
      exact m.weak jaa (hnext1 _ _ _ zO ⟨j+1,R2,rfl,by omega,by rw [hgs,←List.append_assoc];exact hR2,exU rfl,rfl⟩)
     ·refine D7 ?_;refine jiS rfl rfl ?_;refine D21 ?_;refine D154 ?_;refine D24 ?_;refine D5 ?_
      exact ⟨R2,rfl,.inr ⟨rfl,hR2⟩⟩
    ·refine D7 ?_
     have hag:jas (dA (cdT b) x.length) ((dA (cdT b) x.length).can.getD j 0) (cdT b) x=false:=by
      cases e:jas (dA (cdT b) x.length) ((dA (cdT b) x.length).can.getD j 0) (cdT b) x with
      |false=>rfl
      |true=>exact absurd ((jhp (by rw [jaD];exact hxl) (by rw [jaD];exact h12)).2 e) hc
     have hgs:=genMJ_no (D:=cdT b) (can:=can) (must:=must) (f:=d1) (w:=w) (j:=j) zO hag
     refine Z8 ?_;refine D10 ?_;refine D149 ?_
     exact m.weak jaa (hnext1 _ _ _ zO ⟨j+1,R1,rfl,by omega,by rw [hgs];exact hR1,exU rfl,rfl⟩)
   ·refine D137 ?_;refine D3 ?_;refine D3 ?_
    first
     |have hpre: ∃pre,genM (cdT b) can must (d1+1) w x=pre++(if w=0∨can.testBit x.length=false then [] else genM (cdT b) can must d1 (w-1) (x++[none]))∧YI (dn++pre) R1:=⟨_,hgf j zO,hR1⟩
     |have hpre: ∃pre,genM (cdT b) can must (d1+1) w x=pre++(if w=0∨can.testBit x.length=false then [] else genM (cdT b) can must d1 (w-1) (x++[none]))∧YI (dn++pre) R:=⟨[],hgm,by rw [List.append_nil];exact hR⟩
    obtain ⟨pre,hgp,hRp⟩:=hpre
    refine rr8 ?_;refine Zs ?_;refine jaM rfl zq (fun hc=>?_) (fun hc=>?_)
    ·refine Z5 ?_;refine D21 ?_;refine D154 ?_;refine D38 ?_;refine D5 ?_
     exact E20
    ·refine Zs ?_;refine k_ld rfl rfl (rc.keeps SubH.sub) ?_;refine Zs ?_;refine jak (Post:=fun v=>IsB _ v) rfl rfl zK (fun H' hH=>f98_b m H' can x.length hca hx12) ?_
     rintro v (⟨hc,rfl⟩|⟨hc,rfl⟩)
     ·refine D7 ?_;refine jgp rfl rfl ?_;refine D10 ?_;refine D119 ?_;refine rs6 ?_;refine Z3 ?_;refine D82 ?_
      rintro v rfl;refine D7 ?_;refine Zs ?_
      haveI hsn:=jnY (x:=x) hx12
      refine D142 ?_;refine rs8 ?_;refine Z6 ?_
      have hw1:w≠0:=by omega
      have hcb:can.testBit x.length=true:=by assumption
      have hgg:(if w=0∨can.testBit x.length=false then [] else genM (cdT b) can must d1 (w-1) (x++[none]))=genM (cdT b) can must d1 (w-1) (x++[none]):=if_neg (by rw [hcb];simp;exact hw1)
      have hrec:=ih d1 zO (w-1) (x++[none]) (dn++pre) (X++[⟨true,q8,.cells (boL (x++[none])).toArray 136 (0,0)⟩]) _ zN zO (fun y hy=>hok y (by
       rw [hgp,hgg];exact List.mem_append_right _ hy)) (by
       rw [hgp,hgg,List.length_append] at hdn
       rw [List.length_append];omega) hRp
      rw [show (((x++[none]:Bo).length:Nat):Int)=(x.length:Int)+1 by simp,show ((w-1:Nat):Int)=(w:Int)-1 by omega,←List.append_assoc (h0++_) X] at hrec
      have hcv2:=CallV.fn' (first:= #[]) (args:=[boV (x++[none]),.int .i64 ((x.length:Int)+1),.int .i64 ((w:Int)-1)]) (cap:=[Value.pointer (some ⟨qx,0,none⟩),Value.pointer (some ⟨qy,0,none⟩),Value.pointer (some ⟨qm,0,none⟩),Value.pointer (some ⟨qn,0,none⟩),Value.pointer (some ⟨qc,0,none⟩)].toArray) jfQ zD hrec
      refine je7 rfl zq hcv2 ?_;clear hcv2 hrec
      rintro v h' ⟨R2,rfl,hh⟩;refine D182 ?_;refine D24 ?_;refine D5 ?_
      exact ⟨R2,rfl,by rw [hgp,hgg,←List.append_assoc];exact hh⟩
     ·refine D7 ?_;refine jiS rfl rfl ?_;refine D10 ?_;refine D154 ?_;refine D38 ?_;refine D5 ?_
      exact E20
theorem jhC {B:Array Obj} {h' F1 H L:Hp} [a:Off h' L F1] [s:SubH H F1]:Weak B h' (H++L):=(Weak.perm a.perm).trans ((Weak.sub s.sub).apps L)
theorem weak_beg {B:Array Obj} (F nw:Hp) (a b c d:Chunk):Weak B ((F++[a,b])++c::(nw++[d])) (F++[a,b,c,d]++nw):=Weak.perm (by
 rw [List.append_assoc,List.append_assoc];refine List.Perm.append_left F ?_
 show (a::b::c::(nw++[d])).Perm (a::b::c::d::nw)
 exact .cons _ (.cons _ (.cons _ (List.perm_append_comm (l₁:=nw) (l₂:=[d])))))
theorem weak179 {B:Array Obj} (h0 R:Hp) (y n:Chunk):Weak B ((h0++R)++[y,n]) (((h0++[y,n])++[])++R):=Weak.perm (by
 rw [List.append_nil,List.append_assoc,List.append_assoc];exact List.Perm.append_left h0 List.perm_append_comm)
theorem negs_smu (s:Str):negs (jao s)=smuF s:=by
 rw [negs,smuF];refine List.countP_congr fun x hx=>?_
 obtain ⟨j,hj,rfl⟩:=List.mem_iff_getElem.1 hx
 have:=(jaK s).lo j
 rw [List.getD_eq_getElem?_getD,List.getElem?_eq_getElem hj] at this
 simp only [Option.getD_some] at this
 simp only [decide_eq_true_eq]
 omega
theorem smuF_nil:smuF []=0:=by decide
theorem smu_line {l:Ln} {n:Nat} (h:l.figs.length≤n):((List.range n).map fun j=>smuF (l.figs.getD j [])).sum=smuN l:=by
 rw [smuN,←jgT (l.figs.map smuF) n (by simpa using h)];congr 1
 refine List.map_congr_left fun j _=>?_
 simp only [List.getD_eq_getElem?_getD,List.getElem?_map]
 cases l.figs[j]? with
 |none=>simp [smuF_nil]
 |some f=>rfl
theorem jis:smuN default=0:=by decide
theorem jmb {ls:List Ln} (h:ls.length≤2):smuN (ls.getD 0 default)+smuN (ls.getD 1 default)=smuL ls:=by
 match ls,h with
 |[],_=>decide
 |[a],_=>simp [smuL,jis]
 |[a,c],_=>simp [smuL]
theorem jmc {b:Tb} (k:TbOk b):((jad b).map fun c=>smuF (figT b c)).sum≤2:=by
 have h1:((jad b).map fun c=>smuF (figT b c)).sum≤((jdl b.sts.length).map fun c=>smuF (figT b c)).sum:=by
  rw [jc7];exact jem _ _ _
 have row: ∀(bt:Bool) (i:Nat),((rowP b.sts.length bt i).map fun c=>smuF (figT b c)).sum=smuN ((jbh b bt).getD i default):=by
  intro bt i
  have hl:((jbh b bt).getD i default).figs.length≤b.sts.length:=by
   by_cases hi:i<(jbh b bt).length
   ·rw [((k.lines bt).ok _ (jan hi)).len];exact Nat.le_refl _
   ·rw [List.getD_eq_getElem?_getD,List.getElem?_eq_none zO];exact Nat.zero_le _
  rw [←smu_line hl,rowP,List.map_map];congr 1
 have h2:((jdl b.sts.length).map fun c=>smuF (figT b c)).sum=smuL b.waters+smuL b.butts:=by
  rw [jdl];simp only [List.map_append,List.sum_append,row]
  rw [show jbh b false=b.waters from rfl,show jbh b true=b.butts from rfl,jmb k.waters.two,jmb k.butts.two]
 have:=k.smu
 omega
theorem meaS_12 (s:Str):(meaS s).length≤12^smuF s:=by
 rw [meaS];split
 ·rw [←negs_smu];exact meaP_12 (jaK s).len
 ·exact Nat.zero_le _
theorem prod_144 {b:Tb} (k:TbOk b):jdR (cdT b)≤144:=by
 have gen: ∀l:List Ce,jdR (l.map (cdOf b))≤12^(l.map fun c=>smuF (figT b c)).sum:=by
  intro l
  induction l with
  |nil=>simp [jdR]
  |cons c l ih=>
   rw [List.map_cons,jdR,List.map_cons,List.sum_cons,Nat.pow_add];refine Nat.mul_le_mul ?_ ih
   have h1:=meaS_12 (figT b c)
   have h2:1≤12^smuF (figT b c):=Nat.pow_pos zO
   show max 1 (meaS (figT b c)).length≤_
   omega
 refine Nat.le_trans (gen _) ?_
 have:=Nat.pow_le_pow_right (show 0<12 by omega) (jmc k)
 exact this
theorem jbG {b:Tb} (k:TbOk b):(jaf b).length≤12000:=by
 have h1:=jfg (cdT b) b.wrong.toNat
 have h2:=prod_144 k
 have h3:subN (cdT b).length b.wrong.toNat≤subN 12 2:=jdi (by rw [jaD];exact jbn k) (by have:=k.wrong;omega)
 have h4:subN 12 2=79:=by decide
 have h5:=Nat.mul_le_mul (Nat.le_trans h3 (Nat.le_of_eq h4)) h2
 rw [jaf];omega
instance {a:List Value}:AppL a [] a:=⟨List.append_nil a⟩
theorem jnO {x:Bo}:encs [x]=boL x:=by simp [encs,Enc.enc]
abbrev B4 (q qx qw qc qm w can must:Nat):Hp:=[⟨true,qx,.cells [.pointer (some ⟨q,0,none⟩)].toArray 109 (0,0)⟩,⟨true,qw,.cells [.int .i64 (w:Int)].toArray 3 (0,0)⟩,⟨true,qc,.cells [.int .u64 (can:Int)].toArray 134 (0,0)⟩,⟨true,qm,.cells [.int .u64 (must:Int)].toArray 134 (0,0)⟩]
theorem B4.x {B:Array Obj} {h:Hp} {q qx qw qc qm w can must:Nat}:Rd B (h++B4 q qx qw qc qm w can must) ⟨qx,0,none⟩ (.pointer (some ⟨q,0,none⟩)):=Rd.held (c:=[.pointer (some ⟨q,0,none⟩)].toArray) (t:=109) (f:=(0,0)) (rw:=true) (List.mem_append_right _ List.mem_cons_self) rfl
theorem B4.w {B:Array Obj} {h:Hp} {q qx qw qc qm w can must:Nat}:Rd B (h++B4 q qx qw qc qm w can must) ⟨qw,0,none⟩ (.int .i64 (w:Int)):=Rd.held (c:=[.int .i64 (w:Int)].toArray) (t:=3) (f:=(0,0)) (rw:=true) (List.mem_append_right _ (List.mem_cons_of_mem _ List.mem_cons_self)) rfl
theorem B4.c {B:Array Obj} {h:Hp} {q qx qw qc qm w can must:Nat}:Rd B (h++B4 q qx qw qc qm w can must) ⟨qc,0,none⟩ (.int .u64 (can:Int)):=Rd.held (c:=[.int .u64 (can:Int)].toArray) (t:=134) (f:=(0,0)) (rw:=true) (List.mem_append_right _ (List.mem_cons_of_mem _ (List.mem_cons_of_mem _ List.mem_cons_self))) rfl
theorem B4.m {B:Array Obj} {h:Hp} {q qx qw qc qm w can must:Nat}:Rd B (h++B4 q qx qw qc qm w can must) ⟨qm,0,none⟩ (.int .u64 (must:Int)):=Rd.held (c:=[.int .u64 (must:Int)].toArray) (t:=134) (f:=(0,0)) (rw:=true) (List.mem_append_right _ (List.mem_cons_of_mem _ (List.mem_cons_of_mem _ (List.mem_cons_of_mem _ List.mem_cons_self)))) rfl
theorem f148_c (m:Md Tryz.prog B) (h:Hp) {q w can must:Nat}:FnC m 148 #[.pointer (some ⟨q,0,none⟩),.int .i64 (w:Int),.int .u64 (can:Int),.int .u64 (must:Int)] h fun v h'=> ∃qx qw qc qm,h'=h++B4 q qx qw qc qm w can must∧v= .func (.func 179) #[] [.pointer (some ⟨qx,0,none⟩),.pointer (some ⟨qm,0,none⟩),.pointer (some ⟨qc,0,none⟩),.pointer (some ⟨qw,0,none⟩)].toArray:=by
 refine jae Tryz.func148 rfl rfl (l:=(.pointer (some ⟨q,0,none⟩))::(.int .i64 (w:Int))::(.int .u64 (can:Int))::(.int .u64 (must:Int))::uu6) rfl ?_
 intro cf cs K hK
 refine rs5 ?_;refine jaP rfl zq (fun qx=>k_hp (jab ?_));refine jaP rfl zq (fun qw=>k_hp (jab ?_));refine jaP rfl zq (fun qc=>k_hp (jab ?_));refine jaP rfl zq (fun qm=>k_hp (jab ?_));refine D0 ?_;refine rs2 ?_;refine jfF rfl zq ?_;refine D117 ?_;refine jac (h++B4 q qx qw qc qm w can must) rfl Tryz.func148 rfl jaa ?_;refine D5 ?_
 exact ⟨qx,qw,qc,qm,rfl,rfl⟩
theorem f179_c (m:Md Tryz.prog B) {h0:Hp} {b:Tb} {q:Nat} {tv:List Value} (sh:Sheet B h0 b q tv) {qx qm qc:Nat} (rx:Rd B h0 ⟨qx,0,none⟩ (.pointer (some ⟨q,0,none⟩))) {must can:Nat} (rm:Rd B h0 ⟨qm,0,none⟩ (.int .u64 (must:Int))) (rc:Rd B h0 ⟨qc,0,none⟩ (.int .u64 (can:Int))) (hmu:must<4096) (hca:can<4096) {qw w:Nat} (rw:Rd B h0 ⟨qw,0,none⟩ (.int .i64 (w:Int))) (hw:w≤100) {yv:Value} [CellsV yv [yv]] {G:List Bo} {N:Nat} {YI:List Bo→Hp→Prop} {YS:Hp→Prop} (hY:EachO m h0 G N yv YI YS) (hG:G=genM (cdT b) can must (jad b).length w []) (hN:G.length≤N) {R:Hp} (hR:YI [] R):
  FnC m 179 #[yv,.pointer (some ⟨qx,0,none⟩),.pointer (some ⟨qm,0,none⟩),.pointer (some ⟨qc,0,none⟩),.pointer (some ⟨qw,0,none⟩)] (h0++R) fun v h'=>v= .tuple [].toArray∧ ∃R',h'=h0++R'∧(YI G R'∨YS R'):=by
 refine jae Tryz.func179 rfl rfl (l:=yv::(.pointer (some ⟨qx,0,none⟩))::(.pointer (some ⟨qm,0,none⟩))::(.pointer (some ⟨qc,0,none⟩))::(.pointer (some ⟨qw,0,none⟩))::uu7) rfl ?_
 intro cf cs K hK
 refine rs1 ?_;refine jaP rfl zq (fun qy=>k_hp (jab ?_));refine D1 ?_;refine rs1 ?_
 refine jat rfl zq (fun qn=>k_hp (jab ?_));refine D1 ?_;refine rs2 ?_;refine jfF rfl zq ?_;refine D142 ?_;refine rr4 ?_;refine Zs ?_;refine D52 ?_;refine k_ld rfl zq (rw.keeps SubH.sub) ?_;refine jiQ (weak179 h0 R _ _) ?_
 have hw2:=f180_c m sh rx rm rc hmu hca hY qy qn (jad b).length w [] [] [] R zD hw (fun y hy=>hG▸hy) (by rw [←hG];simpa using hN) hR
 rw [←hG,List.nil_append] at hw2
 have hcv:=CallV.fn' (first:= #[]) (args:=[boV [],.int .i64 0,.int .i64 (w:Int)]) (cap:=[Value.pointer (some ⟨qx,0,none⟩),Value.pointer (some ⟨qy,0,none⟩),Value.pointer (some ⟨qm,0,none⟩),Value.pointer (some ⟨qn,0,none⟩),Value.pointer (some ⟨qc,0,none⟩)].toArray) jfQ zD hw2
 refine je7 rfl zq hcv ?_;clear hcv hw2
 rintro v h' ⟨R2,rfl,hh⟩;refine D7 ?_;refine D1 ?_;refine jcT rfl ?_;refine jac (h0++R2) rfl Tryz.func179 rfl jaa ?_;refine D5 ?_
 exact ⟨rfl,R2,rfl,hh.elim (fun h=> .inl h.2) (fun h=> .inr h.2)⟩
theorem f96_c (m:Md Tryz.prog B) (h:Hp) {b:Tb} {q:Nat} {a1 a2 a3:Value} (sh:Sheet B h b q [.int .i64 b.wrong,a1,a2,a3]) (hk:TbOk b):FnC m 96 #[.pointer (some ⟨q,0,none⟩)] h fun v h'=> ∃nw,h'=h++nw∧OwnS 136 13 v (jaf b).length (encs (jaf b)) nw:=by
 have hwr:=hk.wrong
 refine jae Tryz.func96 rfl rfl (l:=(.pointer (some ⟨q,0,none⟩))::uu19) rfl ?_
 intro cf cs K hK
 refine D145 ?_;refine rs1 ?_
 refine jat rfl zq (fun q3=>k_hp (jab ?_));refine D120 ?_;refine D3 ?_;refine jaz [(0,.pure),(1,.pure),(2,.pure),(3,.pure),(4,.pure),(5,.pure),(6,.read),(7,.keep),(8,.keep)] zK zK (List.Sublist.refl _) ?_;refine Z2 ?_
 refine jai rfl zq ?_;refine Z3 ?_;refine k_ld rfl zq ((sh.tb 0 zD).keeps SubH.sub) ?_;refine jak (Post:=fun v=>v=_) rfl zq zK (fun H' hH=>f106_c m H' 12 zO) ?_
 rintro v rfl;refine D7 ?_
 refine jaV (Post:=fun v nw=> ∃qx qw qc qm,nw=B4 q qx qw qc qm b.wrong.toNat 4095 0∧v= .func (.func 179) #[] [.pointer (some ⟨qx,0,none⟩),.pointer (some ⟨qm,0,none⟩),.pointer (some ⟨qc,0,none⟩),.pointer (some ⟨qw,0,none⟩)].toArray) rfl zq zK (fun H' hH=>by
  have h1:=f148_c m H' (q:=q) (w:=b.wrong.toNat) (can:=4095) (must:=0)
  rw [show ((b.wrong.toNat:Nat):Int)=b.wrong by omega] at h1
  exact CallF.mono h1 fun v h' ⟨qx,qw,qc,qm,e1,e2⟩=>⟨_,e1,qx,qw,qc,qm,rfl,e2⟩) ?_
 rintro v _ ⟨qx,qw,qc,qm,rfl,rfl⟩;refine D7 ?_;refine jiQ (Weak.mid h [⟨true,q3,.cells [.slice none 0 0].toArray 110 (0,0)⟩] (B4 q qx qw qc qm b.wrong.toNat 4095 0)) ?_;refine D143 ?_
 refine jhb rfl rfl zK (fun q11 q12=>?_);generalize hrec:lrec _ _ _ _ _ _ LoopState.ready=rec0
 have hY:EachO m (h++B4 q qx qw qc qm b.wrong.toNat 4095 0) (jaf b) 12000 (.func (.yield q12) #[] #[]) (fun dn R=> ∃bp bc nw,R=[⟨true,q3,.cells [.slice bp dn.length bc].toArray 110 (0,0)⟩,⟨true,q11,.deferred (some [])⟩,⟨true,q12,rec0⟩]++nw∧OwnS 136 13 (.slice bp dn.length bc) dn.length (encs dn) nw) (fun _=>False):=?hY
 rotate_left
 intro F R dn x hF hx hdn hR
 obtain ⟨bp,bc,nw,rfl,ho⟩:=hR
 subst hrec
 haveI hsF:SubH (h++B4 q qx qw qc qm b.wrong.toNat 4095 0) F:=⟨hF⟩
 refine CallV.yield (rw:=true) (q1:=q11) (st:= .ready) (List.mem_append_right _ (List.mem_append_left _ (List.mem_cons_of_mem _ (List.mem_cons_of_mem _ List.mem_cons_self)))) rfl (by simp;rfl) ?_
 intro cf2 cs2 K2 hK2
 ·refine rr2 ?_;refine jat rfl zq (fun q14=>k_hp (jab ?_));refine jiR rfl zq (jav x) ?_;refine D1 ?_;apply jdZ (F:=F++[⟨true,q3,.cells [.slice bp dn.length bc].toArray 110 (0,0)⟩,⟨true,q11,.deferred (some [])⟩]) (E:=nw++[⟨true,q14,.cells (boL x).toArray 136 (0,0)⟩])
  case hh=>
   simp only [List.append_assoc,List.cons_append,List.nil_append]
   rfl
  generalize hbz:lrec _ _ _ _ _ _ LoopState.busy=rec1
  refine m.weak (h':=F++[⟨true,q3,.cells [.slice bp dn.length bc].toArray 110 (0,0)⟩,⟨true,q11,.deferred (some [])⟩,⟨true,q12,rec1⟩,⟨true,q14,.cells (boL x).toArray 136 (0,0)⟩]++nw) (weak_beg _ _ _ _ _ _) ?_;refine D15 ?_;refine rr5 ?_;refine Z2 ?_
  refine k_bs kdq rfl zq zA zA rfl (fun q17=>k_hp (jab ?_));refine jaZ rfl zq (jav x) ho kdq zO zO (fun w9 n9 o9=>jab ?_);obtain ⟨p9,c9,rfl,hc9,r9⟩:=jar (B:=B) o9
  have e1:dn.length+1=(dn++[x]).length:=by simp
  have e2:encs dn++boL x=encs (dn++[x]):=by rw [jay,jnO]
  have ho2:=o9
  rw [e2,e1] at ho2
  rw [e1];refine D142 ?_;refine D17 ?_;refine m.weak (h':=F++[⟨true,q3,.cells [.slice p9 (dn++[x]).length c9].toArray 110 (0,0)⟩,⟨true,q11,.deferred (some [])⟩,⟨true,q12,rec1⟩]++n9) jhC ?_
  subst hbz
  apply jiB (F:=F++[⟨true,q3,.cells [.slice p9 (dn++[x]).length c9].toArray 110 (0,0)⟩,⟨true,q11,.deferred (some [])⟩]) (E:=n9)
  case hh=>
   simp only [List.append_assoc,List.cons_append,List.nil_append]
   rfl
  rw [show F++[⟨true,q3,.cells [.slice p9 (dn++[x]).length c9].toArray 110 (0,0)⟩,⟨true,q11,.deferred (some [])⟩]++(_::n9)=F++([⟨true,q3,.cells [.slice p9 (dn++[x]).length c9].toArray 110 (0,0)⟩,⟨true,q11,.deferred (some [])⟩,_]++n9) by simp;rfl];exact hK2 _ _ ⟨_,rfl,.inl ⟨rfl,_,_,n9,rfl,ho2⟩⟩
 ·have hl:=f179_c m (sh.keeps (List.sublist_append_left _ _)) B4.x B4.m B4.c zO zO B4.w (by have:=hk.wrong;omega) hY (by rw [jaf,←jaD];exact (genM_all fun i hi=>by
   have:=jbn hk
   rw [jaD] at hi
   rw [show 4095=2^12-1 by rfl,Nat.testBit_two_pow_sub_one];exact decide_eq_true zO).symm) (jbG hk) (R:=[⟨true,q3,.cells [.slice none 0 0].toArray 110 (0,0)⟩,⟨true,q11,.deferred (some [])⟩,⟨true,q12,rec0⟩]) ⟨none,0,[],by simp,OwnS.nil⟩
  rw [show (h++B4 q qx qw qc qm b.wrong.toNat 4095 0)++[⟨true,q3,.cells [.slice none 0 0].toArray 110 (0,0)⟩,⟨true,q11,.deferred (some [])⟩,⟨true,q12,rec0⟩]=(h++B4 q qx qw qc qm b.wrong.toNat 4095 0)++[⟨true,q3,.cells [.slice none 0 0].toArray 110 (0,0)⟩]++[⟨true,q11,.deferred (some [])⟩,⟨true,q12,rec0⟩] by simp] at hl
  refine CallF.mono hl ?_
  rintro v h' ⟨rfl,R',rfl,(⟨bp,bc,nw,rfl,ho⟩|hF)⟩;case inr=>exact hF.elim
  subst hrec
  apply jfp (F:=(h++B4 q qx qw qc qm b.wrong.toNat 4095 0)++[⟨true,q3,.cells [.slice bp (jaf b).length bc].toArray 110 (0,0)⟩,⟨true,q11,.deferred (some [])⟩]) (E:=nw)
  case hh=>
   simp only [List.append_assoc,List.cons_append,List.nil_append]
   rfl
  case hst=>exact .inl rfl
  refine D17 ?_;refine D165 ?_;refine jcU (F:=(h++B4 q qx qw qc qm b.wrong.toNat 4095 0)++[⟨true,q3,.cells [.slice bp (jaf b).length bc].toArray 110 (0,0)⟩]) (E:=nw) zD ?_;refine jac (h++nw) rfl Tryz.func96 rfl jaa ?_;refine D5 ?_
  exact ⟨nw,rfl,ho⟩
theorem f104_c (m:Md Tryz.prog B) (h:Hp) {b:Tb} {q:Nat} {tv:List Value} (sh:Sheet B h b q tv) {s:Nat} (hs:s<4096):FnC m 104 #[.pointer (some ⟨q,0,none⟩),.int .u64 (s:Int)] h fun v h'=>h'=h∧IsB (patA (cdT b) (patN s (jad b).length)≠[]) v:=by
 refine jae Tryz.func104 rfl rfl (l:=(.pointer (some ⟨q,0,none⟩))::(.int .u64 (s:Int))::uu8) rfl ?_
 intro cf cs K hK
 refine rs1 ?_;refine jat rfl zq (fun q4=>k_hp (jab ?_));refine D120 ?_;refine D181 ?_;refine jc2 (Post:=fun v h'=> ∃qx qw qc qm,h'=h++[⟨true,q4,.cells [.bool false].toArray 4 (0,0)⟩]++B4 q qx qw qc qm 12 s s∧v= .func (.func 179) #[] [.pointer (some ⟨qx,0,none⟩),.pointer (some ⟨qm,0,none⟩),.pointer (some ⟨qc,0,none⟩),.pointer (some ⟨qw,0,none⟩)].toArray) rfl zq zK (f148_c m _ (q:=q) (w:=12) (can:=s) (must:=s)) ?_
 rintro v _ ⟨qx,qw,qc,qm,rfl,rfl⟩;refine D7 ?_;refine jiQ (Weak.mid h [⟨true,q4,.cells [.bool false].toArray 4 (0,0)⟩] (B4 q qx qw qc qm 12 s s)) ?_;refine D143 ?_
 refine jhb rfl rfl zK (fun q11 q12=>?_);generalize hrec:lrec _ _ _ _ _ _ LoopState.ready=rec0
 obtain ⟨GS,hGS⟩: ∃GS,GS=genM (cdT b) s s (jad b).length 12 []:=⟨_,rfl⟩
 have hY:EachO m (h++B4 q qx qw qc qm 12 s s) GS (GS.length+1) (.func (.yield q12) #[] #[]) (fun dn R=>dn=[]∧R=[⟨true,q4,.cells [.bool false].toArray 4 (0,0)⟩,⟨true,q11,.deferred (some [])⟩,⟨true,q12,rec0⟩]) (fun R=>GS≠[]∧ ∃fn9 l9 ps9 a9 c9,R=[⟨true,q4,.cells [.bool true].toArray 4 (0,0)⟩,⟨true,q11,.deferred (some [])⟩,⟨true,q12,jlw fn9 l9 ps9 a9 c9 q11⟩]):=?hY
 rotate_left
 intro F R dn x hF hx hdn hR
 obtain ⟨rfl,rfl⟩:=hR
 subst hrec
 haveI hsF:SubH (h++B4 q qx qw qc qm 12 s s) F:=⟨hF⟩
 refine CallV.yield (rw:=true) (q1:=q11) (st:= .ready) (List.mem_append_right _ (List.mem_cons_of_mem _ (List.mem_cons_of_mem _ List.mem_cons_self))) rfl (by simp;rfl) ?_
 intro cf2 cs2 K2 hK2
 ·refine D8 ?_
  apply jdZ (F:=F++[⟨true,q4,.cells [.bool false].toArray 4 (0,0)⟩,⟨true,q11,.deferred (some [])⟩]) (E:=[])
  case hh=>
   simp only [List.append_assoc,List.cons_append,List.nil_append]
   rfl
  generalize hbz:lrec _ _ _ _ _ _ LoopState.busy=rec1
  refine D15 ?_;refine rs1 ?_;refine D142 ?_
  subst hbz
  apply jiz (F:=F++[⟨true,q4,.cells [.bool true].toArray 4 (0,0)⟩,⟨true,q11,.deferred (some [])⟩]) (E:=[])
  case hh=>
   simp only [List.append_assoc,List.cons_append,List.nil_append]
   rfl
  rw [List.append_assoc];exact hK2 _ _ ⟨_,rfl,.inr ⟨rfl,(fun e=>by rw [e] at hx;cases hx),_,_,_,_,_,rfl⟩⟩
 ·have hl:=f179_c m (sh.keeps (List.sublist_append_left _ _)) B4.x B4.m B4.c hs hs B4.w zO hY hGS zO (R:=[⟨true,q4,.cells [.bool false].toArray 4 (0,0)⟩,⟨true,q11,.deferred (some [])⟩,⟨true,q12,rec0⟩]) ⟨rfl,rfl⟩
  rw [show (h++B4 q qx qw qc qm 12 s s)++[⟨true,q4,.cells [.bool false].toArray 4 (0,0)⟩,⟨true,q11,.deferred (some [])⟩,⟨true,q12,rec0⟩]=(h++B4 q qx qw qc qm 12 s s)++[⟨true,q4,.cells [.bool false].toArray 4 (0,0)⟩]++[⟨true,q11,.deferred (some [])⟩,⟨true,q12,rec0⟩] by simp] at hl
  have hG2:GS=patA (cdT b) (patN s (jad b).length):=by
   rw [hGS,←jaD];exact jnu (by rw [jaD];exact sh.twelve)
  refine CallF.mono hl ?_
  rintro v h' ⟨rfl,R',rfl,(⟨hbo,rfl⟩|⟨hbo,fn9,l9,ps9,a9,c9,rfl⟩)⟩
  ·subst hrec
   apply jfp (F:=(h++B4 q qx qw qc qm 12 s s)++[⟨true,q4,.cells [.bool false].toArray 4 (0,0)⟩,⟨true,q11,.deferred (some [])⟩]) (E:=[])
   case hh=>
    simp only [List.append_assoc,List.cons_append,List.nil_append]
    rfl
   case hst=>exact .inl rfl
   refine D17 ?_;refine rs1 ?_;refine D142 ?_;refine D4 ?_;refine jcU (F:=(h++B4 q qx qw qc qm 12 s s)++[⟨true,q4,.cells [.bool false].toArray 4 (0,0)⟩]) (E:=[]) zD ?_;refine jac (h) rfl Tryz.func104 rfl jaa ?_;refine D5 ?_
   first|exact ⟨rfl,IsB.yes (hG2▸hbo)⟩|exact ⟨rfl,IsB.no fun e=>e (hG2▸hbo)⟩
  ·apply jhM (F:=(h++B4 q qx qw qc qm 12 s s)++[⟨true,q4,.cells [.bool true].toArray 4 (0,0)⟩,⟨true,q11,.deferred (some [])⟩]) (E:=[])
   case hh=>
    simp only [List.append_assoc,List.cons_append,List.nil_append]
    rfl
   refine D4 ?_;refine jcU (F:=(h++B4 q qx qw qc qm 12 s s)++[⟨true,q4,.cells [.bool true].toArray 4 (0,0)⟩]) (E:=[]) zD ?_;refine jac (h) rfl Tryz.func104 rfl jaa ?_;refine D5 ?_
   first|exact ⟨rfl,IsB.yes (hG2▸hbo)⟩|exact ⟨rfl,IsB.no fun e=>e (hG2▸hbo)⟩
end Go.Proofs
