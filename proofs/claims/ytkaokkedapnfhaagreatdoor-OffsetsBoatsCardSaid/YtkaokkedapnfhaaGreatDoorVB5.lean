/- A part of the proof of a law. Condition of each theorem: as its statement says. -/
import Derived.Test.YtkaokkedapnfhaaGreatDoorVB4
import Derived.Conc.EventLaws
import Derived.Conc.LeavingOf
import Derived.Deep.Slices
import Derived.OpenShut
import Derived.Carry
import Derived.LaidMore
import Derived.Stop.Joined
set_option linter.all false
variable {B:Array Go.Obj} {W w':Go.World} {K:Go.Goroutine→Go.Lo.Hp→Prop} {gs gs':Array Go.Goroutine} {i j r n wt ws N D:Nat} {cl z:Bool} {Q:Go.Lo.ProC} {d:Option Go.Tmp} {h Shp:Go.Lo.Hp} {old Sh:Nat→Prop} {wa a:Go.Addr} {Hl:Nat→Go.Lo.Hp} {Tf:Nat→Go.Lo.TrU} {Dl:Nat→Nat} {y:Go.Goroutine} {Post:Go.Value→Go.World→Prop} {v:Go.Value} {k todo:List Go.Item} {got rest ms:List Nat} {l l' vs va:List Go.Value} {ds:List Go.Deferred} {cs:List Go.Frame} {ops:Array Go.Oper} {args:List Go.Operand} {f f0:Go.FuncId} {b kf:Go.Frame} {t ty:Go.TypeId} {pos:String} {af:Array Go.Edge} {ats:Array Go.TypeId} {body:Go.Code} {A:Prop} {L:List Go.Lo.Bo}
set_option maxRecDepth 100000
namespace Go.Lo
open Go.Conc
section
variable {P:Program}
def jeU (Q:ProC) (z:Value) (g:Goroutine):Goroutine:=parked g #[rcase Q.r z] (.recv true)
def upRecv (Q:ProC) (z:Value) (g:Goroutine):Goroutine:={jeU Q z g with status:= .running}
def formC (Q:ProC) (par:Option Value) (g g0:Goroutine):Prop:=g0=g∨ ∃z,par=some z∧(g0=jeU Q z g∨g0=upRecv Q z g)
def jnT (gs:Array Goroutine):Prop:= ∀(i:Nat) x,i≠0→gs[i]?=some x→x.status= .blocked→x.offers=none
theorem jne {g g':Goroutine} {x:Goroutine} {r:Option Nat} (q: ∀(i:Nat) g,gs[i]?=some g→QuietC r g) (ch: ∀q,r=some q→ ∃k tm,w'.heap[q]?=some (.chan 0 #[] cl k k tm)) (hx:(after P g g' w' gs i)[j]?=some x) (e:j≠i): ∃y,gs[j]?=some y∧(x=y∨(x.status= .running)):=by
  have hlt:j<gs.size:=by have:=(gH.1 hx).1;rwa [ja0] at this
  have hy:gs[j]?=some gs[j]:=gR hlt
  rw [jbU q ch (fun h=>e h.symm) hy] at hx
  obtain rfl:=gF hx
  refine ⟨_,hy,?_⟩
  split
  · unfold jbJ
    split
    · split
      · exact .inr rfl
      · exact .inl rfl
    · exact .inl rfl
  · exact .inl rfl
theorem jee {d:Nat} {s:Q.S} {g:Goroutine} (hg:g.status= .running) (par:Option Value) (hd:par≠none→d=0)
    (own: ∀(old:Nat→Prop) (F:Nat→Option Q.S) (cl:Bool) (Shp:Hp) (gs:Array Goroutine) (w:World) (sl:Option (Nat×Nat)) (t:Trace) (Hl:Nat→Hp) (Tf:Nat→TrU) (Dl:Nat→Nat) (g0:Goroutine),gs[0]?=some g0→formC Q par g g0→g0.status= .running→Hl 0=h→F 0=some s→Dl 0=d→CfC P B W Q old F cl Shp gs w t Hl Tf Dl→
      (∃gs1 w1 u,runT P (crowd gs w sl) 0=(.next (crowd gs1 w1 sl),u)∧FinC P B W K gs1 w1 sl (t++u))∨
      (∃z,par=some z∧cl=false∧jnT gs∧runT P (crowd gs w sl) 0=(.next (crowd (gs.setIfInBounds 0 (jeU Q z g)) w sl),#[])))
    (meets: ∀(old:Nat→Prop) (F:Nat→Option Q.S) (Shp:Hp) (gs:Array Goroutine) (w:World) (sl:Option (Nat×Nat)) (t:Trace) (Hl:Nat→Hp) (Tf:Nat→TrU) (Dl:Nat→Nat) (z:Value) (i:Nat) (x:Goroutine),par=some z→gs[0]?=some (jeU Q z g)→Hl 0=h→F 0=some s→Dl 0=d→CfC P B W Q old F false Shp gs w t Hl Tf Dl→jnT gs→
      i≠0→gs[i]?=some x→x.status= .running→AtPost P B Q F w Hl Tf Dl i x→ ∃gs1 w1 u,runT P (crowd gs w sl) i=(.next (crowd gs1 w1 sl),u)∧FinC P B W K gs1 w1 sl (t++u))
    (lv:par≠none→ ∀Shp F,Q.Inv false Shp F→F 0=some s→ ∃i x,i≠0∧F i=some x∧ ¬Q.Blk x Shp):
    ∀(old:Nat→Prop) (F:Nat→Option Q.S) (cl:Bool) (Shp:Hp) (gs:Array Goroutine) (w:World) (sl:Option (Nat×Nat)) (t:Trace) (Hl:Nat→Hp) (Tf:Nat→TrU) (Dl:Nat→Nat),gs[0]?=some g→Hl 0=h→F 0=some s→Dl 0=d→CfC P B W Q old F cl Shp gs w t Hl Tf Dl→FinC P B W K gs w sl t:=by
  have gen: ∀(m:Nat) (Tf:Nat→TrU),Acc (ULt m) Tf→ ∀(n:Nat) (old:Nat→Prop) (F:Nat→Option Q.S) (cl:Bool) (Shp:Hp) (gs:Array Goroutine) (w:World) (sl:Option (Nat×Nat)) (t:Trace) (Hl:Nat→Hp) (Dl:Nat→Nat) (g0:Goroutine),gs.size=m→cntR gs gs.size=n→gs[0]?=some g0→formC Q par g g0→(g0.status= .blocked→cl=false∧jnT gs)→Hl 0=h→F 0=some s→Dl 0=d→CfC P B W Q old F cl Shp gs w t Hl Tf Dl→FinC P B W K gs w sl t:=by
    intro m Tf acc
    induction acc with
    |intro Tf _ ihT=>
      intro n
      induction n using Nat.strongRecOn with
      |_ n ihn=>
        intro old F cl Shp gs w sl t Hl Dl g0 hm hn h0 hg0 hbl hh hF hD c
        have hpos:0<gs.size:=(gH.1 h0).1
        --how goroutine 0 stands
        have stat:g0.status= .running∨ ∃z,par=some z∧g0=jeU Q z g:=by
          rcases hg0 with rfl|⟨z,hz,rfl|rfl⟩
          · exact .inl hg
          · exact .inr ⟨z,hz,rfl⟩
          · exact .inl rfl
        have some1: ∃(i:Nat) (x:Goroutine),gs[i]?=some x∧x.status= .running:=by
          rcases stat with h|⟨z,hz,rfl⟩
          · exact ⟨0,g0,h0,h⟩
          · obtain ⟨rfl,np⟩:=hbl rfl
            obtain ⟨i,x,hi0,hi,hb⟩:=lv (by rw [hz];simp) Shp F c.inv hF
            have hlt:i<gs.size:=Nat.lt_of_not_le fun hle=>by rw [c.dom i hle] at hi;cases hi
            have hx:gs[i]?=some gs[i]:=gR hlt
            have k:=c.kids i _ hi0 hx
            have hnp:=np i _ hi0 hx
            rw [hi] at k
            refine ⟨i,_,hx,?_⟩
            generalize Tf i=T1 at k
            generalize Dl i=d1 at k
            generalize Hl i=h1 at k
            generalize gs[i]=y at k hnp⊢
            cases k with
            |run c=>exact c.running
            |wait c hb' ho b=>exact absurd b hb
            |post hst m n=>exact absurd (hnp rfl) (by simp [parked])
        obtain ⟨i,x,dd,sl',hi,hx,hst⟩:=c.core.pick (P:=P) sl some1
        have c':CfC P B W Q old F cl Shp gs (w.at dd) t Hl Tf Dl:=⟨c.core.at dd,c.inv,c.deaf,c.kids,c.dom⟩
        by_cases e:i=0
        · subst e
          rw [h0] at hi
          obtain rfl:=gF hi
          rcases own old F cl Shp gs (w.at dd) sl' t Hl Tf Dl g0 h0 hg0 hx hh hF hD c' with ⟨gs1,w1,u,r1,f⟩|⟨z,hz,rfl,np,r1⟩
          · exact FinC.step (hst.trans r1) f
          · refine FinC.step (hst.trans r1) ?_
            rw [Vj];have others: ∀j,j≠0→(gs.setIfInBounds 0 (jeU Q z g))[j]?=gs[j]?:=fun j hj=>set_other hj
            have hcnt:=jm8 h0 hx (jdM (x:=jeU Q z g) h0) (by simp [jeU,parked]) others gs.size hpos
            refine ihn _ (by rw [←hn];rw [GM];exact hcnt) old F false Shp _ (w.at dd) sl' t Hl Dl (jeU Q z g) (by rw [GM];exact hm) rfl (jdM h0) (.inr ⟨z,hz,.inl rfl⟩) (fun _=>⟨rfl,fun j y hj hy=>np j y hj (by rw [←others j hj];exact hy)⟩) hh hF hD
              ⟨c'.core.park (.parks rfl rfl),c.inv,c.deaf,fun j y hj hy=>c.kids j y hj (by rw [←others j hj];exact hy),fun j hj=>c.dom j (by rwa [GM] at hj)⟩
        · have hk:=c'.kids i x e hi
          have hlt:i<gs.size:=(gH.1 hi).1
          have fin:MovedC P B W Q old F cl gs (w.at dd) sl' t Hl Tf Dl i x→FinC P B W K gs w sl t:=by
            rintro ⟨g',w',u,F',cl',Shp',Hl',Tf',Dl',r1,r2,r3,r4,r5,r6,r7,r8⟩;refine FinC.step (hst.trans r1) ?_
            have ch:=r2.core.wake
            have main:(after P x g' w' gs i)[0]?=some (if mayWake P x&&g'.status != .blocked&&g'.status != .waiting then jbJ cl' g0 else g0):=jbU c.core.quiet ch e h0
            have form':formC Q par g (if mayWake P x&&g'.status != .blocked&&g'.status != .waiting then jbJ cl' g0 else g0)∧((if mayWake P x&&g'.status != .blocked&&g'.status != .waiting then jbJ cl' g0 else g0).status= .blocked→cl'=false∧g0.status= .blocked):=by
              rcases stat with hr|⟨z,hz,rfl⟩
              · rw [ji4 hr,ite_self];exact ⟨hg0,fun h=>by rw [hr] at h;cases h⟩
              · split
                · cases cl' with
                  |true=>exact ⟨.inr ⟨z,hz,.inr rfl⟩,fun h=>by cases h⟩
                  |false=>exact ⟨.inr ⟨z,hz,.inl rfl⟩,fun _=>⟨rfl,rfl⟩⟩
                · rename_i hnw
                  refine ⟨hg0,fun _=>⟨?_,rfl⟩⟩
                  rcases r7 with h|h
                  · rw [h];exact (hbl rfl).1
                  · exact absurd h hnw
            have np':(if mayWake P x&&g'.status != .blocked&&g'.status != .waiting then jbJ cl' g0 else g0).status= .blocked→cl'=false∧jnT (after P x g' w' gs i):=fun hb=>by
              obtain ⟨hc,hb0⟩:=form'.2 hb
              refine ⟨hc,fun j y hj hy hyb=>?_⟩
              by_cases ej:j=i
              · subst ej
                rw [jbb hi] at hy
                obtain rfl:=gF hy
                exact r6 hyb
              · obtain ⟨y0,hy0,h1|h1⟩:=jne c.core.quiet ch hy ej
                · subst h1;exact (hbl hb0).2 j y hj hy0 hyb
                · rw [h1] at hyb;cases hyb
            rcases r8 with hu|⟨rfl,hb⟩
            · exact ihT Tf' (by rw [←hm];exact hu) _ old F' cl' Shp' _ w' sl' _ Hl' Dl' _ (by rw [ja0];exact hm) rfl main form'.1 np' (r3.trans hh) (r4.trans hF) (r5.trans hD) r2
            · have hnw:(mayWake P x&&g'.status != .blocked&&g'.status != .waiting)=false:=by rw [hb];simp
              have others: ∀j,j≠i→(after P x g' w' gs i)[j]?=gs[j]?:=fun j hj=>by
                by_cases hlt:j<gs.size
                · have hy:gs[j]?=some gs[j]:=gR hlt
                  rw [jbU c.core.quiet ch (fun e=>hj e.symm) hy,hnw,hy];rfl
                · rw [vF (by rw [ja0];omega),vF zO]
              have hcnt:=jm8 hi hx (jbb (P:=P) (w':=w') (g:=x) (g':=g') hi) (by rw [hb];decide) others gs.size hlt
              exact ihn _ (by rw [←hn];rw [ja0];exact hcnt) old F' cl' Shp' _ w' sl' _ Hl' Dl' _ (by rw [ja0];exact hm) rfl main form'.1 np' (r3.trans hh) (r4.trans hF) (r5.trans hD) r2
          generalize hT:Tf i=T at hk
          generalize hDi:Dl i=di at hk
          generalize hFi:F i=fi at hk
          generalize hHi:Hl i=hi' at hk
          cases hk with
          | @run _ _ s1 _ _ cr=>
            rcases kidC_run (sl:=sl') cr e Hl hi hHi hT hDi hFi c' with mv|ap
            · exact fin mv
            · have hclF:cl=false:=by
                cases cl with
                |false=>rfl
                |true=>have:=c.shut rfl e;rw [hFi] at this;cases this
              subst hclF
              rcases stat with hr|⟨z,hz,rfl⟩
              · --it stands at the channel,for goroutine 0 is not there
                obtain ⟨s0,s',hr',hp,v,z,T',a1,a2,a3,a4,a5,a6,a7,a8⟩:=ap
                obtain ⟨nn,tm,hch⟩:=jiW c'
                have nobody:partners (gs.setIfInBounds i ph) Q.r false=[]:=partners_nil fun j y hy=>by
                  rcases getElem?_stand gs i j y hy with ⟨_,rfl⟩|⟨hji,hy'⟩
                  · exact offersAt_ph _ _
                  · by_cases e0:j=0
                    · subst e0
                      rw [h0] at hy'
                      obtain rfl:=gF hy'
                      exact offersAt_of_not_blocked (by rw [hr];simp) _ _
                    · have k:=c.kids j y e0 hy'
                      generalize Tf j=T1 at k
                      generalize Dl j=d1 at k
                      generalize Hl j=h1 at k
                      generalize F j=f1 at k
                      cases k with
                      |run cc=>exact offersAt_of_not_blocked (by rw [cc.running];simp) _ _
                      |wait cc hb' ho b=>unfold offersAt;rw [hb',ho]
                      |post hst m n=>exact offersAt_parked_send' _ _ _ _ _ _
                      |left q=>exact offersAt_of_not_blocked (by rcases q.status with h|h<;>rw [h]<;>simp) _ _
                have hz0:(i==0)=false:=by simpa using e
                have hw:=crowd_waits (P:=P) (sl:=sl') (w:=w.at dd) (w₁:=w.at dd) (es:= #[]) (g₂:=x) hi (by rw [hz0];exact a4) (fun cc hcc=>by
                  simp only [Vt,gO,vP,or_false] at hcc
                  subst hcc
                  exact ⟨made_send v z hch,by simp [ways,scase,hch,nobody]⟩)
                refine FinC.step (hst.trans hw) ?_
                have others: ∀j,j≠i→(gs.setIfInBounds i (parked x #[scase Q.r v z] .send))[j]?=gs[j]?:=fun j hj=>set_other hj
                rw [show MemOp.ofEvents i x.frame.fn x.frame.place #[]= #[] by simp [ofEvents_eq],Vj];refine ihT (jlb Tf i (.node Unit fun _=>T')) (by rw [←hm];exact jd8 hlt (by rw [a7];exact TrU.lt (fun _:Unit=>TrU.node Unit fun _=>T') ())) _ old F false Shp _ (w.at dd) sl' t (jcr Hl i (hr'++hp)) Dl g0 (by rw [GM];exact hm) rfl (by rw [others 0 (fun h=>e h.symm)];exact h0) hg0 (fun h=>by rw [hr] at h;cases h) (by rw [jao _ _ (fun h=>e h.symm)];exact hh) hF hD
                  ⟨(c'.core.weak a2).park (.parks rfl rfl),c.inv,c.deaf,fun j y hj hy=>?_,fun j hj=>c.dom j (by rwa [GM] at hj)⟩
                by_cases ej:j=i
                · subst ej
                  rw [jdM hi] at hy
                  obtain rfl:=gF hy
                  rw [updH_same,updU_same,a1,a3];exact .post a6 a5 a8
                · rw [jao _ _ ej,jd7 _ _ ej];exact c.kids j y hj (by rw [←others j ej];exact hy)
              · obtain ⟨gs1,w1,u,r1,f⟩:=meets old F Shp gs (w.at dd) sl' t Hl Tf Dl z i x hz h0 hh hF hD c' (hbl rfl).2 e hi hx ap
                exact FinC.step (hst.trans r1) f
          |wait cr hb ho b=>rw [hb] at hx;cases hx
          |post hst m n=>cases hx
          | @left k _ _ q=>
            refine fin ?_
            cases k with
            |zero=>have:=q.1;rw [this] at hx;cases hx
            |succ k=>
              rcases q with ⟨hq,_⟩|⟨_,g',es,hme,hstep,hq⟩
              · rw [hq] at hx;cases hx
              · have hz:(i==0)=false:=by simpa using e
                have hq':=hq.status
                obtain ⟨r1,r2⟩:=c'.core.slip (P:=P) (sl:=sl') hi (by rw [hz];exact hstep _) hme (fun h h'=>c.shutG h h') (hq'.elim .runs .ended)
                have hnb:g'.status≠ .blocked:=by rcases hq' with h|h<;>rw [h]<;>decide
                refine ⟨g',w.at dd,_,F,cl,Shp,Hl,jlb Tf i (.ofNat k),jmr Dl i (deafBehind di es),r1,⟨r2,c.inv,fun j=>?_,fun j y hj hy=>?_,fun j hj=>c.dom j (by rwa [ja0] at hj)⟩,rfl,rfl,jcs _ _ (fun x=>e x.symm),fun h=>absurd h hnb,.inl rfl,.inl (jd8 hlt (by rw [hT];exact TrU.lt (fun _:Unit=>TrU.ofNat k) ()))⟩
                · by_cases ej:j=i
                  · subst ej;rw [updN_same,Deaf_own,c.deaf j,hDi]
                  · rw [jcs _ _ ej,Deaf_other t (fun x=>ej x.symm) _ fun op hop=>by obtain ⟨e',_,rfl⟩:=jdO hop;rfl];exact c.deaf j
                · by_cases ej:j=i
                  · subst ej
                    rw [jbb hi] at hy
                    obtain rfl:=gF hy
                    rw [hFi,hHi,updU_same,updN_same];exact .left hq
                  · rw [jd7 _ _ ej,jcs _ _ ej];exact jcg c.core.quiet r2.wake c.kids (.inl rfl) hj ej (fun h=>c.shut h hj) hy
  intro old F cl Shp gs w sl t Hl Tf Dl h0 hh hF hD c
  exact gen gs.size Tf (ULt.acc _ _) _ old F cl Shp gs w sl t Hl Dl g rfl rfl h0 (.inl rfl) (fun h=>by rw [hg] at h;cases h) hh hF hD c
end
section
variable {P:Program} {w w':World} {t:Trace} {Hl Hl':Nat→Hp} {sl:Option (Nat×Nat)}
theorem Cf0C.pickable (c:Cf0C P B W old wa gs w t Hl Tf Dl) {g:Goroutine} (h0:gs[0]?=some g) (hg:g.status= .running) {x:Goroutine} (hi:gs[i]?=some x):x.status≠ .blocked:=by
  by_cases e:i=0
  · subst e;rw [h0] at hi;obtain rfl:=gF hi;rw [hg];decide
  · obtain ⟨k,_,q,_⟩:=c.kids i x e hi
    rcases q.status with h|h<;>rw [h]<;>decide
theorem jjO (X:Array Goroutine→World→Option (Nat×Nat)→Trace→Prop) (hX: ∀{gs gs1:Array Goroutine} {w w1:World} {sl sl1:Option (Nat×Nat)} {t u:Trace},stepT P (crowd gs w sl)=(.next (crowd gs1 w1 sl1),u)→X gs1 w1 sl1 (t++u)→X gs w sl t)
    {g:Goroutine} (hg:g.status= .running)
    (own: ∀(old:Nat→Prop) (wa:Addr) (gs:Array Goroutine) (w w0:World) (sl sl0:Option (Nat×Nat)) (t:Trace) (Hl:Nat→Hp) (Tf:Nat→TrU) (Dl:Nat→Nat),gs[0]?=some g→Hl 0=h→Cf0C P B W old wa gs w t Hl Tf Dl→stepT P (crowd gs w0 sl0)=runT P (crowd gs w sl) 0→X gs w0 sl0 t):
    ∀(old:Nat→Prop) (wa:Addr) (gs:Array Goroutine) (w:World) (sl:Option (Nat×Nat)) (t:Trace) (Hl:Nat→Hp) (Tf:Nat→TrU) (Dl:Nat→Nat),gs[0]?=some g→Hl 0=h→Cf0C P B W old wa gs w t Hl Tf Dl→X gs w sl t:=by
  have gen: ∀(m:Nat) (Tf:Nat→TrU),Acc (ULt m) Tf→ ∀(old:Nat→Prop) (wa:Addr) (gs:Array Goroutine) (w:World) (sl:Option (Nat×Nat)) (t:Trace) (Hl:Nat→Hp) (Dl:Nat→Nat),gs.size=m→gs[0]?=some g→Hl 0=h→Cf0C P B W old wa gs w t Hl Tf Dl→X gs w sl t:=by
    intro m Tf acc
    induction acc with
    |intro Tf _ ihT=>
      intro old wa gs w sl t Hl Dl hm h0 hh c
      obtain ⟨i,x,dd,sl',hi,hx,hst⟩:=c.core.pick (P:=P) sl ⟨0,g,h0,hg⟩
      have c':Cf0C P B W old wa gs (w.at dd) t Hl Tf Dl:=⟨c.core.at dd,c.deaf,c.d0,c.kids,c.hk⟩
      by_cases e:i=0
      · subst e
        exact own old wa gs (w.at dd) w sl' sl t Hl Tf Dl h0 hh c' hst
      · obtain ⟨k,hT,q,hH⟩:=c.kids i x e hi
        have hlt:i<gs.size:=(gH.1 hi).1
        cases k with
        |zero=>have:=q.1;rw [this] at hx;cases hx
        |succ k=>
          rcases q with ⟨hq,_⟩|⟨_,g',es,hme,hstep,hq⟩
          · rw [hq] at hx;cases hx
          · have hz:(i==0)=false:=by simpa using e
            have hq':=hq.status
            obtain ⟨r1,r2⟩:=c'.core.slip (P:=P) (sl:=sl') hi (by rw [hz];exact hstep _) hme (fun h=>by cases h) (hq'.elim .runs .ended)
            have others: ∀{j:Nat} {y:Goroutine},j≠i→gs[j]?=some y→(after P x g' (w.at dd) gs i)[j]?=some y:=fun {j y} hj hy=>by
              rw [jbU c.core.quiet r2.wake (fun e=>hj e.symm) hy,jg3 (c.pickable h0 hg hy)];split<;>rfl
            refine hX (hst.trans r1) (ihT (jlb Tf i (.ofNat k)) (by rw [←hm];exact jd8 hlt (by rw [hT];exact TrU.lt (fun _:Unit=>TrU.ofNat k) ())) old wa _ (w.at dd) sl' _ Hl (jmr Dl i (deafBehind (Dl i) es)) (by rw [ja0];exact hm) (others (fun x=>e x.symm) h0) hh ⟨r2,fun j=>?_,by rw [jcs _ _ (fun x=>e x.symm)];exact c.d0,fun j y hj hy=>?_,fun j y hy hy0 hct=>?_⟩)
            · by_cases ej:j=i
              · subst ej;rw [updN_same,Deaf_own,c.deaf j]
              · rw [jcs _ _ ej,Deaf_other t (fun x=>ej x.symm) _ fun op hop=>by obtain ⟨e',_,rfl⟩:=jdO hop;rfl];exact c.deaf j
            · by_cases ej:j=i
              · subst ej
                rw [jbb hi] at hy
                obtain rfl:=gF hy
                exact ⟨k,updU_same _ _ _,by rw [updN_same];exact hq,hH⟩
              · have hlt':j<gs.size:=by have:=(gH.1 hy).1;rwa [ja0] at this
                rw [others ej (gR hlt')] at hy
                obtain rfl:=gF hy
                obtain ⟨k',a1,a2,a3⟩:=c.kids j _ hj (gR hlt')
                exact ⟨k',by rw [jd7 _ _ ej];exact a1,by rw [jcs _ _ ej];exact a2,a3⟩
            · rcases getElem?_append_cases hy with ⟨_,hy'⟩|⟨_,hyu⟩
              · exact (c.hk j y hy' hy0 ((counts_old (gH.1 hy').1).1 hct)).app _
              · obtain ⟨a,ha,_⟩:=hct
                obtain ⟨z,hz',hza⟩:=touch_of ha
                rw [hy] at hz'
                obtain rfl:=gF hz'
                obtain ⟨e',he',rfl⟩:=jdO hyu
                have hm':=hme e' he'
                obtain ⟨lc,wr,sy⟩:=e'
                cases lc with
                |mark m=>cases m<;>first|(exfalso;cases hm';done)|cases hza
                |_=>cases hm'
  intro old wa gs w sl t Hl Tf Dl h0 hh c
  exact gen gs.size Tf (ULt.acc _ _) old wa gs w sl t Hl Dl rfl h0 hh c
end
section
variable {P:Program}
theorem TC.reopen {lim gn:Nat} {wa':Addr} {r':Nat} {Gone Live Live' Heir Say:Nat→Prop} {t:Trace} (T:TC n lim gn Hl Sh wa r cl Gone Live Heir Say t) (hk: ∀(i:Nat) (x:MemOp),t[i]?=some x→x.g≠0→t.counts i→Knows t 0 i) (hl: ∀g,Live' g→Live g):
    TC n lim gn Hl Sh wa' r' false (fun g=>g≠0) Live' (fun _=>False) (fun g=>g=0) t:=by
  refine ⟨T.clean,T.low,T.base,T.plain,T.known,fun b hb i a ha hx=>⟨fun h g hg=>(T.sh b hb i a ha hx).1 h g (hl g hg),fun h g hg=>?_⟩,fun _ i x hx hg hct=> .inr (hk i x hx hg hct),fun _ j hj=>hj.elim,(fun h=>by cases h),T.norel,T.gs⟩
  subst hg
  obtain ⟨x,hx',hxa⟩:=touch_of ha
  by_cases e0:x.g=0
  · have:=knows_own hx'
    rwa [e0] at this
  · refine hk i x hx' e0 ⟨a,ha,?_,.inl (by rw [h];decide)⟩
    cases hloc:a.loc<;>rw [hloc] at hx<;>first|rfl|cases hx
theorem deaf_met (t:Trace) (fh:FuncId) (ph':String) (fj:FuncId) (pj:String) (c k cap j:Nat):Deaf (t++met i 0 fh ph' fj pj c k cap) j=Deaf t j:=by
  have e:t++met i 0 fh ph' fj pj c k cap=t++ #[{g:=i,fn:=fh,pos:=ph',act:= .send c k}]++ #[{g:=0,fn:=fj,pos:=pj,act:= .recv c k cap}]++ #[{g:=i,fn:=fh,pos:=ph',act:= .sendDone c k}]++ #[{g:=0,fn:=fj,pos:=pj,act:= .recvDone c k}]:=by
    apply vG
    simp [met]
  rw [e,Deaf_push,Deaf_push,Deaf_push,Deaf_push];simp [deafStep]
theorem CfC.met {F:Nat→Option Q.S} {w:World} {t:Trace} (c:CfC P B W Q old F false Shp gs w t Hl Tf Dl) {d:Nat} {s s' x x':Q.S} {hr hp:Hp} {tm:Bool} {g1 gi:Goroutine} {T':TrU}
    (hi0:i≠0) (hlt:i<gs.size) (h0l:0<gs.size) (hF:F 0=some s) (hFi:F i=some x) (hD0:Dl 0=0) (hDi:Dl i=0) (wk:Weak B (Hl i) (hr++hp)) (hch:w.heap[Q.r]?=some (.chan 0 #[] false n n tm)) (stay:jkn Q x x') (cr:CRunCT P B Q i T' 0 x' (Conc.served gi undef) hr)
    (ok:(Q.heir s'→Q.heir s)∧(Q.say s'→Q.say s)∧Q.Inv false Shp (ja6 (ja6 F i (some x')) 0 (some s'))) (hgs:gs'.size=gs.size) (hgi:gs'[i]?=some (Conc.served gi undef)) (hg0:gs'[0]?=some g1) (hr1:g1.status= .running) (hgo: ∀j,j≠i→j≠0→gs'[j]?=gs[j]?)
    (fh:FuncId) (ph':String) (fj:FuncId) (pj:String):
    CfC P B W Q old (ja6 (ja6 F i (some x')) 0 (some s')) false Shp gs' ((w.at d).setChan Q.r 0 #[] false (n+1) (n+1) tm) (t++Conc.met i 0 fh ph' fj pj Q.r n 0) (jcr (jcr Hl i hr) 0 (Hl 0++hp)) (jlb Tf i T') Dl:=by
  have h0i:(0:Nat)≠i:=fun e=>hi0 e.symm
  have hFi':ja6 (ja6 F i (some x')) 0 (some s') i=some x':=by rw [jam _ _ hi0,updS_same]
  have hF0':ja6 (ja6 F i (some x')) 0 (some s') 0=some s':=updS_same _ _ _
  have hFo: ∀j,j≠i→j≠0→ja6 (ja6 F i (some x')) 0 (some s') j=F j:=fun j h1 h2=>by rw [jam _ _ h2,jam _ _ h1]
  have qn: ∀(l:Nat) y,gs'[l]?=some y→QuietC (some Q.r) y:=fun l y hy=>by
    by_cases e1:l=i
    · subst e1
      rw [hgi] at hy
      obtain rfl:=gF hy
      exact .runs rfl
    · by_cases e2:l=0
      · subst e2
        rw [hg0] at hy
        obtain rfl:=gF hy
        exact .runs hr1
      · exact c.core.quiet l y (by rw [←hgo l e1 e2];exact hy)
  have c2:=(c.core.weak wk).meet (d:=d) hi0 hlt h0l rfl hch (updH_same _ _ _) ((c.deaf i).trans hDi) ((c.deaf 0).trans hD0) fh ph' fj pj gs' hgs qn
  rw [jpR,jao _ _ h0i] at c2
  have core:=c2.less (Gone':=jdP Q (ja6 (ja6 F i (some x')) 0 (some s'))) (Live':=je9 Q (ja6 (ja6 F i (some x')) 0 (some s'))) (Heir':=jhz Q (ja6 (ja6 F i (some x')) 0 (some s'))) (Say':=jpy Q (ja6 (ja6 F i (some x')) 0 (some s')))
    (fun j hj=>by
      by_cases e2:j=0
      · exact .inl e2
      · by_cases e1:j=i
        · subst e1;exact .inr (by rw [hFi];simp)
        · unfold je9 at hj;rw [hFo j e1 e2] at hj;exact hj)
    (fun j hj=>by
      refine ⟨hj.1,fun y hy=>?_⟩
      by_cases e1:j=i
      · subst e1
        rw [hFi] at hy
        obtain rfl:=gF hy
        exact stay.1 (hj.2 x' hFi')
      · exact hj.2 y (by rw [hFo j e1 hj.1];exact hy))
    (fun j hj=>by
      obtain ⟨y,hy,hh⟩:=hj
      by_cases e2:j=0
      · subst e2
        rw [hF0'] at hy
        obtain rfl:=gF hy
        exact ⟨s,hF,ok.1 hh⟩
      · by_cases e1:j=i
        · subst e1
          rw [hFi'] at hy
          obtain rfl:=gF hy
          exact ⟨x,hFi,stay.2.1 hh⟩
        · rw [hFo j e1 e2] at hy;exact ⟨y,hy,hh⟩)
    (fun j hj=>by
      obtain ⟨y,hy,hh⟩:=hj
      by_cases e2:j=0
      · subst e2
        rw [hF0'] at hy
        obtain rfl:=gF hy
        exact ⟨s,hF,ok.2.1 hh⟩
      · by_cases e1:j=i
        · subst e1
          rw [hFi'] at hy
          obtain rfl:=gF hy
          exact ⟨x,hFi,stay.2.2 hh⟩
        · rw [hFo j e1 e2] at hy;exact ⟨y,hy,hh⟩)
  refine ⟨core,ok.2.2,fun j=>by rw [deaf_met];exact c.deaf j,fun j y hj hy=>?_,fun j hj=>?_⟩
  · by_cases e1:j=i
    · subst e1
      rw [hgi] at hy
      obtain rfl:=gF hy
      rw [jao _ _ hj,updH_same,updU_same,hFi',hDi];exact .run cr
    · rw [jao _ _ hj,jao _ _ e1,jd7 _ _ e1,hFo j e1 hj];exact c.kids j y hj (by rw [←hgo j e1 hj];exact hy)
  · rw [hgs] at hj
    rw [hFo j zO zO];exact c.dom j hj
def GoalC (P:Program) (B:Array Obj) (W:World) (K:Goroutine→Hp→Prop) (M:Option MStC) (g:Goroutine) (h:Hp):Prop:=
  match M with
  |none=> ∀(old:Nat→Prop) (wa:Addr) (gs:Array Goroutine) (w:World) (sl:Option (Nat×Nat)) (t:Trace) (Hl:Nat→Hp) (Tf:Nat→TrU) (Dl:Nat→Nat),gs[0]?=some g→Hl 0=h→Cf0C P B W old wa gs w t Hl Tf Dl→FinC P B W K gs w sl t
  |some m=> ∀(old:Nat→Prop) (F:Nat→Option m.Q.S) (cl:Bool) (Shp:Hp) (gs:Array Goroutine) (w:World) (sl:Option (Nat×Nat)) (t:Trace) (Hl:Nat→Hp) (Tf:Nat→TrU) (Dl:Nat→Nat),gs[0]?=some g→Hl 0=h→F 0=some m.s→Dl 0=m.d→CfC P B W m.Q old F cl Shp gs w t Hl Tf Dl→FinC P B W K gs w sl t
theorem jiL {g g0:Goroutine} (h:formC Q none g g0):g0=g:=by
  rcases h with h|⟨z,h,_⟩
  · exact h
  · cases h
theorem jjT (Q:ProC) (F:Nat→Option Q.S): ¬jdP Q F 0:=fun h=>h.1 rfl
theorem jpS {z:Value} {g:Goroutine} (h:g.status= .running):upRecv Q z g={g with offers:=some (#[rcase Q.r z],.recv true)}:=by
  obtain ⟨a,b,c,d,e⟩:=g
  simp only at h
  subst h
  rfl
theorem jgb {T:TrU} {d:Nat} {o:Option Q.S} (k:KidC P B Q j Shp T d o y h):(offersAt y Q.r true=[]∧(y.status= .blocked→y.offers=none))∨ ∃s s' gj hr hp v z T',o=some s∧d=0∧T= .node Unit (fun _=>T')∧h=hr++hp∧y=parked gj #[scase Q.r v z] .send∧jkn Q s s'∧Q.Msg v hp s s'∧CRunCT P B Q j T' 0 s' (Conc.served gj undef) hr:=by
  cases k with
  |run c=>exact .inl ⟨offersAt_of_not_blocked (by rw [c.running];simp) _ _,fun h=>by rw [c.running] at h;cases h⟩
  |wait c hb ho b=>exact .inl ⟨by unfold offersAt;rw [hb,ho],fun _=>ho⟩
  |post hst m n=>exact .inr ⟨_,_,_,_,_,_,_,_,rfl,rfl,rfl,rfl,rfl,hst,m,n⟩
  |left q=>exact .inl ⟨offersAt_of_not_blocked (by rcases q.status with h|h<;>rw [h]<;>simp) _ _,fun hb=>by rcases q.status with h|h<;>rw [h] at hb<;>cases hb⟩
theorem jo6 {T:TrU} {d:Nat} {o:Option Q.S} (k:KidC P B Q j Shp T d o y h):offersAt y Q.r false=[]:=by
  cases k with
  |run cc=>exact offersAt_of_not_blocked (by rw [cc.running];simp) _ _
  |wait cc hb' ho b=>unfold offersAt;rw [hb',ho]
  |post hst m n=>exact offersAt_parked_send' _ _ _ _ _ _
  |left q=>exact offersAt_of_not_blocked (by rcases q.status with h|h<;>rw [h]<;>simp) _ _
theorem jqg (hK: ∀g h,K g h→g.status= .running) {M:Option MStC} {g:Goroutine} (r:MRunC P B K M g h):GoalC P B W K M g h:=by
  induction r with
  | @stop g h k=>
    intro old wa gs w sl t Hl Tf Dl h0 hh c
    exact ⟨0,g,gs,w,sl,t,Hl,Tf,Dl,old,wa,rfl,h0,by rw [hh];exact k,c⟩
  | @weak M g h h' k _ ih=>
    cases M with
    |none=>
      intro old wa gs w sl t Hl Tf Dl h0 hh c
      exact ih old wa gs w sl t (jcr Hl 0 h') Tf Dl h0 (updH_same _ _ _) ⟨c.core.weak (by rw [hh];exact k),c.deaf,c.d0,fun i x hi hx=>by rw [jao _ _ hi];exact c.kids i x hi hx,c.hk⟩
    |some m=>
      intro old F cl Shp gs w sl t Hl Tf Dl h0 hh hF hD c
      exact ih old F cl Shp gs w sl t (jcr Hl 0 h') Tf Dl h0 (updH_same _ _ _) hF hD ⟨c.core.weak (by rw [hh];exact k),c.inv,c.deaf,fun i x hi hx=>by rw [jao _ _ hi];exact c.kids i x hi hx,c.dom⟩
  | @step M g h K' s cr ih=>
    cases M with
    |none=>
      intro old wa gs w sl t Hl Tf Dl h0 hh c
      refine jjO (FinC P B W K) (fun a b=>FinC.step a b) s.1 (fun old wa gs w w0 sl sl0 t Hl Tf Dl h0 hh c hst=>?_) old wa gs w sl t Hl Tf Dl h0 hh c
      obtain ⟨g',w',es,h',hs,st,hk⟩:=s.2 w (by rw [←hh];exact c.core.sat 0)
      obtain ⟨r1,r2⟩:=c.core.own (P:=P) (sl:=sl) h0 hs (by rw [hh];exact st) (fun x=>x rfl) (fun h=>by cases h) (.runs ((cr _ _ hk).running hK))
      refine FinC.step (hst.trans r1) (ih g' h' hk old wa _ w' sl _ (jcr Hl 0 h') Tf Dl (jbb h0) (updH_same _ _ _) ⟨r2,fun j=>(jkY st t 0 _ _ j).trans (c.deaf j),c.d0,fun j y hj hy=>?_,fun j y hy hy0 hct=>?_⟩)
      · have hlt':j<gs.size:=by have:=(gH.1 hy).1;rwa [ja0] at this
        rw [jbU c.core.quiet r2.wake (fun e=>hj e.symm) (gR hlt'),jg3 (c.pickable h0 s.1 (gR hlt'))] at hy
        have hy:gs[j]=y:=by split at hy<;>exact gF hy
        subst hy
        rw [jao _ _ hj];exact c.kids j _ hj (gR hlt')
      · rcases getElem?_append_cases hy with ⟨_,hy'⟩|⟨_,hyu⟩
        · exact (c.hk j y hy' hy0 ((counts_old (gH.1 hy').1).1 hct)).app _
        · obtain ⟨e',_,rfl⟩:=jdO hyu
          exact absurd rfl hy0
    |some m=>
      intro old F cl Shp gs w sl t Hl Tf Dl h0 hh hF hD c
      refine jee (s:=m.s) (d:=m.d) (h:=h) s.1 none (fun h=>absurd rfl h) (fun old F cl Shp gs w sl t Hl Tf Dl g0 h0 hf hr hh hF hD c=> .inl ?_) (fun _ _ _ _ _ _ _ _ _ _ _ _ _ hz=>by cases hz) (fun h=>absurd rfl h) old F cl Shp gs w sl t Hl Tf Dl h0 hh hF hD c
      obtain rfl:=(jiL hf).symm
      obtain ⟨g',w',es,h',hs,st,hk⟩:=s.2 w (by rw [←hh];exact c.core.sat 0)
      obtain ⟨r1,r2⟩:=c.core.own (P:=P) (sl:=sl) h0 hs (by rw [hh];exact st) (fun x=>x.1 rfl) (fun _=>rfl) (.runs ((cr _ _ hk).running hK))
      refine ⟨_,_,_,r1,ih g' h' hk old F cl Shp _ w' sl _ (jcr Hl 0 h') Tf Dl (jbb h0) (updH_same _ _ _) hF hD ⟨r2,c.inv,fun j=>(jkY st t 0 _ _ j).trans (c.deaf j),fun j y hj hy=>?_,fun j hj=>c.dom j (by rwa [ja0] at hj)⟩⟩
      rw [jao _ _ hj];exact jcg c.core.quiet r2.wake c.kids (.inl rfl) hj hj (fun h=>c.shut h hj) hy
  | @phase g h' Shp Q s0 hrw hs0 inv _ ih=>
    intro old wa gs w sl t Hl Tf Dl h0 hh c
    have cc:=c.core
    have hF: ∀j,j≠0→(fun j=>if j=0 then some s0 else none:Nat→Option Q.S) j=none:=fun j hj=>by simp [hj]
    have mem0: ∀{x:Chunk},x∈h'∨x∈Shp∨x=⟨true,Q.r,.chan 0 #[] false 0 0 false⟩→x∈Hl 0:=fun {x} hx=>by
      rw [hh];simp only [gQ,gr];rcases hx with h|h|h
      · exact .inl (.inl h)
      · exact .inl (.inr h)
      · exact .inr h
    have s0':=cc.sat 0
    rw [hh] at s0'
    have sub: ∀{X:Hp},X.Sublist (h'++Shp++[⟨true,Q.r,.chan 0 #[] false 0 0 false⟩])→Sat B X w:=fun {X} hX=>⟨s0'.base,fun d hd=>s0'.mem d (hX.subset hd),s0'.apart.sublist hX⟩
    have key: ∀j,∀d∈jcr Hl 0 h' j,d∈Hl j:=fun j d hd=>by
      by_cases e:j=0
      · subst e;rw [updH_same] at hd;exact mem0 (.inl hd)
      · rwa [jao _ _ e] at hd
    obtain ⟨ap1,_,ap3⟩:=gq.1 s0'.apart
    have hrm:=s0'.mem ⟨true,Q.r,.chan 0 #[] false 0 0 false⟩ zS
    have hrl:=s0'.lt (c:=⟨true,Q.r,.chan 0 #[] false 0 0 false⟩) zS
    have nr: ∀j,∀d∈jcr Hl 0 h' j,d.b≠Q.r:=fun j d hd=>by
      by_cases e:j=0
      · subst e;rw [updH_same] at hd
        exact ap3 d (GN _ hd) _ (gr.2 rfl) (.inr rfl)
      · rw [jao _ _ e] at hd
        exact fun x=>cc.apart 0 j (fun y=>e y.symm) _ (mem0 (.inr (.inr rfl))) d hd (.inl rfl) x.symm
    refine ih (fun b=>old b∨b=Q.r) (fun j=>if j=0 then some s0 else none) false Shp gs w sl t (jcr Hl 0 h') Tf Dl h0 (updH_same _ _ _) zS c.d0 ⟨⟨fun j=>?_,sub ((gM _ _).trans (gI _ _)),fun j k hjk d hd x hx=>cc.apart j k hjk d (key j d hd) x (key k x hx),fun j x hx d hd hor=>?_,hrw,fun b hb=>?_,?_,cc.far,fun j hj=>?_,fun j y hy=>?_,fun q hq=>?_⟩,inv,c.deaf,fun j y hj hy=>?_,fun j hj=>hF j (by have:=(gH.1 h0).1;omega)⟩
    · by_cases e:j=0
      · subst e;rw [updH_same];exact sub ((gI _ _).trans (gI _ _))
      · rw [jao _ _ e];exact cc.sat j
    · by_cases e:j=0
      · subst e;rw [updH_same] at hd
        exact fun e=>(gq.1 ap1).2.2 d hd x hx hor.symm e.symm
      · rw [jao _ _ e] at hd
        exact cc.apart 0 j (fun x=>e x.symm) x (mem0 (.inr (.inl hx))) d hd hor
    · rcases hb with hb|rfl
      · obtain ⟨o1,o2⟩:=cc.oldB b hb
        exact ⟨o1,fun j d hd=>o2 j d (key j d hd)⟩
      · exact ⟨⟨hrm.1,hrl⟩,nr⟩
    · have:=(cc.tj.share (Sh':=fun b=>(old b∨b=Q.r)∨ ∃x∈Shp,x.b=b) (wa':=Q.wa) (r':=Q.r) (h':=h') (Gone':=fun i=> ∀s,(fun j=>if j=0 then some s0 else none:Nat→Option Q.S) i=some s→Q.gone s) (Heir':=jhz Q (fun j=>if j=0 then some s0 else none)) (Say':=jpy Q (fun j=>if j=0 then some s0 else none)) (fun g h=>h) c.hk
        (fun b hb=>by rcases hb with h|⟨_,h,_⟩;exact .inl (.inl h);simp at h) (fun b hb=>by
          rcases hb with (h|rfl)|⟨x,h,e⟩
          · exact .inl (.inl h)
          · exact .inr ⟨_,mem0 (.inr (.inr rfl)),rfl,rfl⟩
          · exact .inr ⟨x,mem0 (.inr (.inl h)),e,hrw x h⟩)
        (fun x hx=>⟨x,mem0 (.inl hx),rfl,id⟩) (fun i hi=>by
          obtain ⟨x,hx,_⟩:=hi
          by_cases e:i=0
          · exact e
          · rw [hF i e] at hx;cases hx) (fun i hi=>by
          obtain ⟨x,hx,_⟩:=hi
          by_cases e:i=0
          · exact e
          · rw [hF i e] at hx;cases hx) (fun i hi=>by
          obtain ⟨x,hx,hh⟩:=hi
          by_cases e:i=0
          · subst e
            have:s0=x:=by simpa using hx
            exact hs0 (this▸hh)
          · rw [hF i e] at hx;cases hx))
      exact this.less (fun j hj=>by
        rcases hj with h|h
        · exact h
        · by_cases e:j=0
          · exact e
          · exact absurd (hF j e) h) (fun _ h=>h) (fun _ h=>h) (fun _ h=>h)
    · have:=(gH.1 h0).1
      rw [jao _ _ zO];exact cc.out j hj
    · by_cases e:j=0
      · subst e
        have:=cc.quiet 0 y hy
        cases this with
        |runs h=>exact .runs h
        |ended h=>exact .ended h
        |blocks h ho=>exact .blocks h ho
        |parks hr hc=>cases hr
      · obtain ⟨k,_,q,_⟩:=c.kids j y e hy
        exact q.status.elim .runs .ended
    · obtain rfl:=gF hq
      exact ⟨.inr rfl,fun x hx=>ap3 x (GF _ hx) _ (gr.2 rfl) (.inr rfl),0,false,hrm.2⟩
    · obtain ⟨k,e1,e2,e3⟩:=c.kids j y hj hy
      rw [jao _ _ hj,e1,e3,if_neg hj];exact .left e2
  | @sync Q d s g h K' hs st cr nn ih=>
    intro old F cl Shp gs w sl t Hl Tf Dl h0 hh hF hD c
    refine jee (s:=s) (d:=d) (h:=h) hs none (fun h=>absurd rfl h) (fun old F cl Shp gs w sl t Hl Tf Dl g0 h0 hf hr hh hF hD c=> .inl ?_) (fun _ _ _ _ _ _ _ _ _ _ _ _ _ hz=>by cases hz) (fun h=>absurd rfl h) old F cl Shp gs w sl t Hl Tf Dl h0 hh hF hD c
    obtain rfl:=(jiL hf).symm
    have hlt:0<gs.size:=(gH.1 h0).1
    have so:=st cl Shp F w c.inv hF (by rw [←hh];exact c.core.satAll 0) (jiW c)
    have hlv:je9 Q F 0:= .inl rfl
    have hdeaf:Deaf t 0=d:=(c.deaf 0).trans hD
    have oth: ∀{g':Goroutine} {w':World} {Shp':Hp} {s':Q.S} {dn:Nat} (ch: ∀q,some Q.r=some q→ ∃k tm,w'.heap[q]?=some (.chan 0 #[] cl k k tm)) (hs:Shp'=Shp∨(mayWake P g&&g'.status != .blocked&&g'.status != .waiting)=true) (hn:Hp) {j:Nat} {x:Goroutine},j≠0→(after P g g' w' gs 0)[j]?=some x→
        KidC P B Q j Shp' (Tf j) (jmr Dl 0 dn j) (ja6 F 0 (some s') j) x (jcr Hl 0 hn j):=fun {g' w' Shp' s' dn} ch hsw hn {j x} hj hx=>by
      rw [jcs _ _ hj,jam _ _ hj,jao _ _ hj];exact jcg c.core.quiet ch c.kids hsw hj hj (fun h=>c.shut h hj) hx
    have deafs: ∀(es:Array Event) (dn:Nat),deafBehind d es=dn→ ∀j,Deaf (t++MemOp.ofEvents 0 g.frame.fn g.frame.place es) j=jmr Dl 0 dn j:=fun es dn hdn j=>by
      by_cases e:j=0
      · subst e;rw [updN_same,Deaf_own,hdeaf,hdn]
      · rw [jcs _ _ e,Deaf_other t (fun x=>e x.symm) _ fun op hop=>by obtain ⟨e',_,rfl⟩:=jdO hop;rfl];exact c.deaf j
    have doms: ∀(o:Option Q.S) (j:Nat),gs.size≤j→ja6 F 0 o j=none:=fun o j hj=>by rw [jam _ _ zO];exact c.dom j hj
    have sz: ∀{g g':Goroutine} {w':World} {j:Nat},(after P g g' w' gs 0).size≤j→gs.size≤j:=fun h=>by rwa [ja0] at h
    have gnU: ∀(o:Option Q.S) (j:Nat),jdP Q (ja6 F 0 o) j→jdP Q F j:=fun o j hj=>by
      by_cases e:j=0
      · subst e;exact absurd hj (jjT _ _)
      · exact (jkQ o e).1 hj
    obtain ⟨s1,s2⟩:=c.core.shared
    generalize hst:stepG P true g w=stp at so
    cases so with
    | @act g' w' l Shp' o e wk hs' fl hgo hno inv k=>
      cases o with
      |none=>exact absurd k (nn _ _ _)
      |some s'=>
      have hw:Shp'=Shp∨(mayWake P g&&g'.status != .blocked&&g'.status != .waiting)=true:=wk.imp id fun h=>by rw [h,hs'];rfl
      obtain ⟨r1,r2⟩:=c.core.plain (P:=P) (sl:=sl) (Gone':=jdP Q (ja6 F 0 (some s'))) (Live':=je9 Q (ja6 F 0 (some s'))) (Heir':=jhz Q (ja6 F 0 (some s'))) (Say':=jpy Q (ja6 F 0 (some s'))) h0 hst e (.runs hs') hlv hdeaf (fun _ h=>absurd rfl h)
        (jcM (fun _ h=>h) (fun h=>absurd h (jjT _ _)) (fun h=>⟨⟨s,hF,h.1⟩,fun j hj=>by obtain ⟨x,hx,hs⟩:=hj;exact h.2 j x hx hs⟩) l d fl) (jdY hF) (gnU _) (jiE hF fun s2 e h=>(hgo s2 e).2.1 h) (jeY hF fun s2 e h=>(hgo s2 e).2.2 h)
      exact ⟨_,_,_,r1,ih _ _ _ _ k old (ja6 F 0 (some s')) cl Shp' _ w' sl _ (jcr Hl 0 h) Tf (jmr Dl 0 (l.foldl jeR d)) (jbb h0) (updH_same _ _ _) (updS_same _ _ _) (updN_same _ _ _) ⟨by rw [←hh,updH_same'];exact r2,inv,deafs _ _ (jeS d l),fun j x hj hx=>oth r2.wake hw h hj hx,fun j hj=>doms _ j (sz hj)⟩⟩
    | @bye g' s' hs' hd hg hi0' nh inv k=>exact absurd rfl hi0'
    | @join g' s' hs' hd hg inv k=>
      have hy:=jir 0 g.frame.fn g.frame.place (.acquire Q.wa)
      have T':=c.core.tj.word {g:=0,fn:=g.frame.fn,pos:=g.frame.place,act:= .mark (.acquire Q.wa)} hlt s1 s2 rfl (fun a ha=>by cases ha) (fun _ h=>absurd rfl h)
      have T2:=c.core.tj.inherit (Heir':=jhz Q (ja6 F 0 (some s'))) (y:={g:=0,fn:=g.frame.fn,pos:=g.frame.place,act:= .mark (.acquire Q.wa)}) rfl (hdeaf.trans hd) T' (fun j hj=>by
        by_cases e:j=0
        · exact .inr e
        · obtain ⟨x,hx,hh⟩:=hj
          rw [jam _ _ e] at hx
          exact .inl ⟨x,hx,hh⟩)
      have T3:=T2.less (Live':=je9 Q (ja6 F 0 (some s'))) (Gone':=jdP Q (ja6 F 0 (some s'))) (Say':=jpy Q (ja6 F 0 (some s'))) (jdY hF) (gnU _) (fun _ h=>h) (jeY hF fun s2 e h=>by obtain rfl:=gF e;exact hg.2 h)
      obtain ⟨r1,r2⟩:=c.core.syncE (P:=P) (sl:=sl) (hi':=Hl 0) h0 hst (SEffQ.refl c.core.shB) (.runs hs') (Weak.refl _ _) (by rw [hy,updH_same'];exact T3)
      exact ⟨_,_,_,r1,ih _ _ _ _ k old (ja6 F 0 (some s')) cl Shp _ w sl _ (jcr Hl 0 h) Tf (jmr Dl 0 d) (jbb h0) (updH_same _ _ _) (updS_same _ _ _) (updN_same _ _ _) ⟨by rw [←hh];exact r2,inv,deafs _ _ rfl,fun j x hj hx=>oth r2.wake (.inl rfl) _ hj hx,fun j hj=>doms _ j (sz hj)⟩⟩
    |close hs' hd hi0'=>exact absurd rfl hi0'
    |block hi0' hb=>exact absurd rfl hi0'
  | @spawn Q s g g' child h h' hc s' sc hs hs' e k1 k2 ap hg hhs inv kid cr ih=>
    intro old F cl Shp gs w sl t Hl Tf Dl h0 hh hF hD c
    refine jee (s:=s) (d:=0) (h:=h) hs none (fun h=>absurd rfl h) (fun old F cl Shp gs w sl t Hl Tf Dl g0 h0 hf hr hh hF hD c=> .inl ?_) (fun _ _ _ _ _ _ _ _ _ _ _ _ _ hz=>by cases hz) (fun h=>absurd rfl h) old F cl Shp gs w sl t Hl Tf Dl h0 hh hF hD c
    obtain rfl:=(jiL hf).symm
    have hlt:0<gs.size:=(gH.1 h0).1
    have hne:gs.size≠0:=by omega
    obtain ⟨Tk,hTk⟩:=(kid gs.size hne).tree
    have hFn:F gs.size=none:=c.dom _ (gL _)
    have sat0:Sat B h w:=by rw [←hh];exact c.core.sat 0
    have hinv:=inv cl Shp F gs.size hne c.inv hF hFn
    generalize hF':ja6 (ja6 F 0 (some s')) gs.size (some sc)=F' at hinv
    have hF0:F' 0=some s':=by rw [←hF',jam _ _ (fun x=>hne x.symm),updS_same]
    have hFo: ∀j,j≠0→j≠gs.size→F' j=F j:=fun j h1 h2=>by rw [←hF',jam _ _ h2,jam _ _ h1]
    have hFs:F' gs.size=some sc:=by rw [←hF',updS_same]
    have hDn:Dl gs.size=0:=by
      rw [←c.deaf];exact jiT fun op hop=>by have:=c.core.tj.gs op hop;omega
    obtain ⟨r1,r2⟩:=c.core.spawn (P:=P) (sl:=sl) (Gone':=jdP Q F') (Live':=je9 Q F') (Heir':=jhz Q F') (Say':=jpy Q F') h0 (e w sat0) (by rw [hh];exact k1) (by rw [hh];exact k2) (ap w sat0) (.runs hs') (.runs hTk.running) (.inl rfl) ⟨s,hF,hhs.1⟩ (fun j hj=>by
        by_cases e1:j=0
        · exact .inl (.inl e1)
        · by_cases e2:j=gs.size
          · exact .inr e2
          · unfold je9 at hj;rw [hFo j e1 e2] at hj;exact .inl hj) (fun j hj=>by
        by_cases e2:j=gs.size
        · exact .inr e2
        · obtain ⟨x,hx,hss⟩:=hj
          by_cases e1:j=0
          · subst e1;exact .inl ⟨s,hF,hhs.1⟩
          · rw [hFo j e1 e2] at hx;exact .inl ⟨x,hx,hss⟩) ((c.deaf 0).trans hD) (fun j hj=>by
        by_cases e2:j=gs.size
        · subst e2;exact absurd (hj.2 sc hFs) hg.1
        · have:=hj.2
          rw [hFo j hj.1 e2] at this
          exact ⟨hj.1,this⟩) (fun j hj=>by
        obtain ⟨x,hx,hss⟩:=hj
        by_cases e2:j=gs.size
        · subst e2
          rw [hFs] at hx
          obtain rfl:=gF hx
          exact absurd hss hg.2
        · by_cases e1:j=0
          · subst e1
            rw [hF0] at hx
            obtain rfl:=gF hx
            exact ⟨s,hF,hhs.2 hss⟩
          · rw [hFo j e1 e2] at hx;exact ⟨x,hx,hss⟩)
    refine ⟨_,_,_,r1,ih old F' cl Shp _ w sl _ _ (jlb Tf gs.size Tk) Dl ?_ ?_ hF0 hD ⟨r2,hinv,fun j=>by rw [jpo _ _ _ rfl rfl];exact c.deaf j,fun j y hj hy=>?_,fun j hj=>?_⟩⟩
    · rw [ve (by simpa using hlt)];have:=jdM (x:=g') h0
      rw [gR (by simpa using hlt)] at this
      exact this
    · rw [jao _ _ (fun x=>hne x.symm),updH_same]
    · rw [Array.getElem?_push] at hy
      split at hy
      · rename_i e1
        rw [GM] at e1
        subst e1
        obtain rfl:=gF hy
        rw [updH_same,updU_same,hFs,hDn];exact .run hTk
      · rename_i e1
        rw [GM] at e1
        rw [set_other hj] at hy
        rw [jao _ _ e1,jao _ _ hj,jd7 _ _ e1,hFo j hj e1];exact c.kids j y hj hy
    · rw [Array.size_push,GM] at hj
      rw [hFo j zO zO];exact c.dom j zO
  | @recv Q s g h z hs e lv nx ok cr fin ih1 ih2=>
    intro old F cl Shp gs w sl t Hl Tf Dl h0 hh hF hD c
    refine jee (s:=s) (d:=0) (h:=h) hs (some z) (fun _=>rfl) (fun old F cl Shp gs w sl t Hl Tf Dl g0 h0 hf hr hh hF hD c=>?_) (fun old F Shp gs w sl t Hl Tf Dl z' i x hz h0 hh hF hD c np hi0 hi hx ap=>?_) (fun _=>lv) old F cl Shp gs w sl t Hl Tf Dl h0 hh hF hD c
    · --goroutine 0 itself
      have hlt:0<gs.size:=(gH.1 h0).1
      have sat0:Sat B h w:=by rw [←hh];exact c.core.sat 0
      have how: ∃o,g0={g with offers:=o}:=by
        rcases hf with rfl|⟨z',hz,rfl|rfl⟩
        · exact ⟨g0.offers,rfl⟩
        · cases hr
        · exact ⟨_,jpS hs⟩
      obtain ⟨o,rfl⟩:=how
      have hst:=e o w sat0
      have sv: ∀v,Conc.served {g with offers:=o} v=Conc.served g v:=fun v=>rfl
      obtain ⟨n,tm,hch⟩:=jiW c
      by_cases hp:partners (gs.setIfInBounds 0 ph) Q.r true=[]
      · cases cl with
        |true=>
          left
          have hrun:=crowd_recv_closed (P:=P) (sl:=sl) (es:= #[]) (g₂:=g) h0 hst hch hp
          rw [finishComm_recv] at hrun
          refine ⟨_,_,_,hrun,?_⟩
          rw [show MemOp.ofEvents 0 g.frame.fn g.frame.place #[]= #[] by simp [ofEvents_eq],Vd];have hn: ∀j,j≠0→F j=none:=fun j hj=>c.shut rfl hj
          obtain ⟨s1,s2⟩:=c.core.shared
          have hd0:Deaf t 0=0:=(c.deaf 0).trans hD
          generalize hy:({g:=0,fn:=g.frame.fn,pos:=g.frame.place,act:= .recvClosed Q.r}:MemOp)=y
          have T':=c.core.tj.word y (by rw [←hy];exact hlt) s1 s2 (by rw [←hy];rfl) (fun a ha=>by rw [←hy] at ha;cases ha) (fun _ h=>absurd (by rw [←hy]) h)
          have hk:=c.core.tj.heard0 (y:=y) (by rw [←hy]) (by rw [←hy];rfl) (by rw [←hy];exact hd0)
          have T2:=T'.reopen (wa':=Q.wa) (r':=0) (Live':=fun i=>i=0) hk (fun i hi=> .inl hi)
          refine ih2 ⟨Shp,F,c.inv,hF⟩ (fun b=>old b∨ ∃x∈Shp,x.b=b) Q.wa _ w sl _ Hl Tf Dl (jdM h0) hh ⟨⟨c.core.sat,⟨c.core.satS.base,fun d hd=>by simp at hd,List.Pairwise.nil⟩,c.core.apart,fun i x hx=>by simp at hx,fun x hx=>by simp at hx,fun b hb=>⟨s1 b hb,s2 b hb⟩,?_,c.core.far,fun j hj=>c.core.out j (by simpa using hj),fun j x hx=>?_,fun q hq=>by cases hq⟩,fun j=>?_,hD,fun j x hj hx=>?_,hk⟩
          · rw [GM];have:(fun b=>(old b∨ ∃x∈Shp,x.b=b)∨ ∃x∈([]:Hp),x.b=b)=(fun b=>old b∨ ∃x∈Shp,x.b=b):=by
              funext b;simp
            rw [this];exact T2
          · rcases jm0 hx with ⟨_,rfl⟩|⟨hj,hx'⟩
            · exact .runs rfl
            · have k:=c.kids j x hj hx'
              rw [hn j hj] at k
              generalize Tf j=T at k
              generalize Dl j=dj at k
              generalize Hl j=hj' at k
              cases k with
              |left q=>exact q.status.elim .runs .ended
          · rw [Deaf_push,←hy];simp only [deafStep]
            exact c.deaf j
          · rw [set_other hj] at hx
            have k:=c.kids j x hj hx
            rw [hn j hj] at k
            generalize Tf j=T at k
            generalize Dl j=dj at k
            generalize Hl j=hj' at k
            cases k with
            |left q=>exact ⟨_,rfl,q,rfl⟩
        |false=>
          right
          refine ⟨z,rfl,rfl,fun j y hj hy hb=>?_,?_⟩
          · rcases jgb (c.kids j y hj hy) with ⟨_,h2⟩|⟨_,_,gj,_,_,v,z',_,_,_,_,_,rfl,_⟩
            · exact h2 hb
            · have:(j,0)∈partners (gs.setIfInBounds 0 ph) Q.r true:=mem_partners.2 ⟨_,by rw [set_other hj];exact hy,by rw [offersAt_parked_send];simp⟩
              rw [hp] at this;cases this
          · have hw:=crowd_waits (P:=P) (sl:=sl) (es:= #[]) (g₂:=g) h0 hst (fun cc hcc=>by
              simp only [Vt,gO,vP,or_false] at hcc
              subst hcc
              exact ways_recv_none hch hp)
            rw [hw];simp [ofEvents_eq]
            rfl
      · left
        have hclF:cl=false:=by
          cases cl with
          |false=>rfl
          |true=>
            exfalso
            refine hp (partners_nil fun j y hy=>?_)
            rcases getElem?_stand gs 0 j y hy with ⟨_,rfl⟩|⟨hj,hy'⟩
            · exact offersAt_ph _ _
            · rcases jgb (c.kids j y hj hy') with ⟨h1,_⟩|⟨_,_,gj,_,_,v,z',_,h1,_⟩
              · exact h1
              · rw [c.shut rfl hj] at h1;cases h1
        subst hclF
        obtain ⟨j,gj,vj,zj,shj,d,hj,hgj,hrun⟩:=crowd_recv_meets_some (P:=P) (sl:=sl) (es:= #[]) (g₂:=g) h0 hst hch hp (fun j k hm=>by
          obtain ⟨y,hy,hk⟩:=mem_partners.1 hm
          rcases getElem?_stand gs 0 j y hy with ⟨_,rfl⟩|⟨hj,hy'⟩
          · rw [offersAt_ph] at hk;cases hk
          · rcases jgb (c.kids j y hj hy') with ⟨h1,_⟩|⟨_,_,gj,_,_,v,z',_,_,_,_,_,rfl,_⟩
            · rw [h1] at hk;cases hk
            · rw [offersAt_parked_send,if_pos rfl] at hk
              exact ⟨by simpa using hk,hj,gj,v,z',.send,hy'⟩)
        rcases jgb (c.kids j _ hj hgj) with ⟨_,h2⟩|⟨x,x',gj',hr',hp',v,z',T',a1,a2,a3,a4,a5,a6,a7,a8⟩
        · exact absurd (h2 rfl) (by simp [parked])
        have e1:=congrArg (fun g:Goroutine=>g.offers) a5
        have e2:=congrArg (fun g:Goroutine=>Conc.served g undef) a5
        have e3:Conc.served gj undef=Conc.served gj' undef:=e2
        have e4:vj=v:=by
          simp only [parked,VI,vn] at e1
          have:=e1.1
          simp [scase] at this
          exact this.1
        have e5:shj= .send:=by simpa [parked] using congrArg (fun o=>o.map (·.2)) e1
        subst e4 e5
        rw [finishComm_recv,finishComm_send] at hrun
        obtain ⟨k1,k2,k3⟩:=ok vj hp' x x' Shp F j a7 hj c.inv hF a1
        refine ⟨_,_,_,hrun,?_⟩
        rw [show MemOp.ofEvents 0 g.frame.fn g.frame.place #[]= #[] by simp [ofEvents_eq],Vd];have cf:=c.met (d:=d) (g1:=Conc.served g (.tuple #[vj,.bool true])) (gs':=(gs.setIfInBounds j (Conc.served gj undef)).setIfInBounds 0 (Conc.served g (.tuple #[vj,.bool true]))) hj (gH.1 hgj).1 hlt hF a1 hD a2 (by rw [a4];exact Weak.refl _ _) hch a6 a8 ⟨k1,k2,k3⟩ zS (by rw [set_other hj,jdM hgj,e3]) (jdM (y:={g with offers:=o}) (by rw [set_other (fun e=>hj e.symm)];exact h0)) rfl (fun l h1 h2=>by rw [set_other h2,set_other h1]) gj.frame.fn gj.frame.place g.frame.fn g.frame.place
        exact ih1 vj hp' x x' a7 ⟨Shp,F,j,hj,c.inv,hF,a1⟩ old _ false Shp _ _ sl _ _ _ Dl (jdM (y:={g with offers:=o}) (by rw [set_other (fun e=>hj e.symm)];exact h0)) (by rw [updH_same,hh]) (updS_same _ _ _) hD cf
    · --another one comes while goroutine 0 stands at the channel
      obtain rfl:=gF hz
      have hlt:0<gs.size:=(gH.1 h0).1
      have hz0:(i==0)=false:=by simpa using hi0
      have h0i:(0:Nat)≠i:=fun e=>hi0 e.symm
      obtain ⟨x1,x',hr',hp,v,z',T',a1,a2,a3,a4,a5,a6,a7,a8⟩:=ap
      obtain ⟨n,tm,hch⟩:=jiW c
      have hp1:partners (gs.setIfInBounds i ph) Q.r false=[(0,0)]:=by
        rw [partners_one (j:=0) (g:=jeU Q z g) (by rw [set_other h0i];exact h0) (fun j y hj hy=>?_)]
        · unfold jeU;rw [offersAt_parked_recv,if_pos rfl];rfl
        · rcases getElem?_stand gs i j y hy with ⟨_,rfl⟩|⟨hji,hy'⟩
          · exact offersAt_ph _ _
          · exact jo6 (c.kids j y hj hy')
      have hrun:=crowd_send_meets (P:=P) (sl:=sl) (w:=w) (w₁:=w) (es:= #[]) (g₂:=x) hi (by rw [hz0];exact a4) hch h0i h0 hp1
      rw [finishComm_recv,finishComm_send] at hrun
      obtain ⟨k1,k2,k3⟩:=ok v hp x1 x' Shp F i a5 hi0 c.inv hF a1
      refine ⟨_,_,_,hrun,?_⟩
      rw [show MemOp.ofEvents i x.frame.fn x.frame.place #[]= #[] by simp [ofEvents_eq],Vd];have hg0':((gs.setIfInBounds 0 (Conc.served g (.tuple #[v,.bool true]))).setIfInBounds i (Conc.served x undef))[0]?=some (Conc.served g (.tuple #[v,.bool true])):=by rw [set_other h0i,jdM h0]
      have cf:=c.met (d:=w.drawn) (g1:=Conc.served g (.tuple #[v,.bool true])) (gs':=(gs.setIfInBounds 0 (Conc.served g (.tuple #[v,.bool true]))).setIfInBounds i (Conc.served x undef)) hi0 (gH.1 hi).1 hlt hF a1 hD a3 a2 hch a6 a8 ⟨k1,k2,k3⟩ zS (jdM (y:=x) (by rw [set_other hi0];exact hi)) hg0' rfl (fun l h1 h2=>by rw [set_other h1,set_other h2]) x.frame.fn x.frame.place g.frame.fn g.frame.place
      exact ih1 v hp x1 x' a5 ⟨Shp,F,i,hi0,c.inv,hF,a1⟩ old _ false Shp _ _ sl _ _ _ Dl hg0' (by rw [updH_same,hh]) (updS_same _ _ _) hD cf
end
section
variable {P:Program}
theorem jqi {K:Value→Hp→Prop} {g:Goroutine} (k:jnh P B K g h) (hp: ∀v w,K v h→Sat B h w→(w.os=W.os∧w.output=W.output∧w.tape=W.tape)→Post v w):
    ∀(old:Nat→Prop) (wa:Addr) (gs:Array Goroutine) (w:World) (sl:Option (Nat×Nat)) (t:Trace) (Hl:Nat→Hp) (Tf:Nat→TrU) (Dl:Nat→Nat),gs[0]?=some g→Hl 0=h→Cf0C P B W old wa gs w t Hl Tf Dl→
      ∃(N:Nat) (last:Machine) (tl:Trace) (o:Outcome) (w':World) (t':Trace),runNT P N (crowd gs w sl) t=(.next last,tl)∧runNT P 1 last tl=(.ended o w',t')∧Conc.Good P Post last o w' t':=by
  refine jjO (fun gs w sl t=> ∃(N:Nat) (last:Machine) (tl:Trace) (o:Outcome) (w':World) (t':Trace),runNT P N (crowd gs w sl) t=(.next last,tl)∧runNT P 1 last tl=(.ended o w',t')∧Conc.Good P Post last o w' t')
    (fun hs ⟨N,last,tl,o,w',t',e1,e2,e3⟩=>⟨N+1,last,tl,o,w',t',jjG hs e1,e2,e3⟩) k.1 (fun old wa gs w w0 sl sl0 t Hl Tf Dl h0 hh c hst=>?_)
  obtain ⟨v,hk,he⟩:=k.2
  obtain ⟨es,hs,hev⟩:=he w (by rw [←hh];exact c.core.sat 0)
  have hlt:0<gs.size:=(gH.1 h0).1
  obtain ⟨s1,s2⟩:=c.core.shared
  have st:Stp B (Hl 0) (Hl 0) w w es:={Stp.refl (c.core.sat 0) with evs:=by rw [hh];exact hev}
  have hT:=c.core.tj.own (lim':=w.heap.size) (B:=B) rfl hlt (h':=Hl 0) rfl rfl st c.core.sat (fun j hj=>c.core.apart j 0 hj) s1 (fun b hb=>s2 b hb 0) (fun x=>x rfl) (fun h=>by cases h) g.frame.fn g.frame.place
  have hrun:stepT P (crowd gs w0 sl0)=(.ended (.done v) w,MemOp.ofEvents 0 g.frame.fn g.frame.place es):=hst.trans (runT_many_ended h0 hs)
  have hk': ∀(i:Nat) (x:MemOp),(t++MemOp.ofEvents 0 g.frame.fn g.frame.place es)[i]?=some x→x.g≠0→(t++MemOp.ofEvents 0 g.frame.fn g.frame.place es).counts i→Knows (t++MemOp.ofEvents 0 g.frame.fn g.frame.place es) 0 i:=fun i x hx hx0 hct=>by
    rcases getElem?_append_cases hx with ⟨_,hy'⟩|⟨_,hyu⟩
    · exact (c.hk i x hy' hx0 ((counts_old (gH.1 hy').1).1 hct)).app _
    · obtain ⟨e',_,rfl⟩:=jdO hyu
      exact absurd rfl hx0
  refine ⟨0,crowd gs w0 sl0,t,.done v,w,t++MemOp.ofEvents 0 g.frame.fn g.frame.place es,rfl,by simp only [runNT,hrun],v,rfl,hp v _ hk (by rw [←hh];exact c.core.sat 0) c.core.far,hT.clean,TJ.handed hk',⟨fun y hy=>?_,rfl⟩,fun i y hy hi0=>?_⟩
  · have hy':y∈gs.toList.drop 1:=hy
    obtain ⟨j,hj⟩:=List.getElem?_of_mem hy'
    rw [vK] at hj
    obtain ⟨k,_,q,_⟩:=c.kids (1+j) y zO (by simpa using hj)
    exact ⟨k,q.leaves⟩
  · obtain ⟨k,_,q,_⟩:=c.kids i y hi0 hy
    refine ⟨k,?_⟩
    have:Deaf (t++MemOp.ofEvents 0 g.frame.fn g.frame.place es) i=Dl i:=by
      rw [Deaf_other t (fun x=>hi0 x.symm) _ fun op hop=>by obtain ⟨e',_,rfl⟩:=jdO hop;rfl];exact c.deaf i
    show Goroutine.endsWith P _ k y (Deaf (t++MemOp.ofEvents 0 g.frame.fn g.frame.place es) i)=some 0
    rw [this];exact q.hears _
theorem jpe {K:Value→Hp→Prop} {g:Goroutine} (r:(Md.starC P W.heap).R (jnh P W.heap K) g []) (hp: ∀v h w,K v h→Sat W.heap h w→(w.os=W.os∧w.output=W.output∧w.tape=W.tape)→Post v w):
    ∃M last o w' t',runNT P (M+1) (solo g W) #[]=(.ended o w',t')∧runN P M (solo g W)= .next last∧step P last= .ended o w'∧Conc.Good P Post last o w' t':=by
  have hK: ∀g h,jnh P W.heap K g h→g.status= .running:=fun g h k=>k.1
  have r0:MRunC P W.heap (jnh P W.heap K) none g []:=r
  have hone: ∀(i:Nat) x,(#[g]:Array Goroutine)[i]?=some x→i=0∧x=g:=fun i x hx=>by
    have:i<1:=(gH.1 hx).1
    obtain rfl:i=0:=by omega
    simp at hx
    exact ⟨rfl,hx.symm⟩
  have satN:Sat W.heap [] W:=⟨fun i o h=>h,by simp,List.Pairwise.nil⟩
  have c0:Cf0C P W.heap W (fun _=>False) ⟨0,0,none⟩ #[g] W #[] (fun _=>[]) (fun _=> .leaf) (fun _=>0):=by
    refine ⟨⟨fun i=>satN,satN,fun i j _ c hc=>by simp at hc,fun i c hc=>by simp at hc,fun c hc=>by simp at hc,fun b hb=>hb.elim,?_,⟨rfl,rfl,rfl⟩,fun i hi=>rfl,fun i x hx=>?_,fun q hq=>by cases hq⟩,fun i=>jiT fun op hop=>by simp at hop,rfl,fun i x hi hx=>absurd (hone i x hx).1 hi,fun i x hx=>by simp at hx⟩
    · have:(fun b=>False∨ ∃c∈([]:Hp),c.b=b)=(fun _=>False):=by funext b;simp
      rw [this];exact TC.zero
    · rw [(hone i x hx).2];exact .runs (r0.running hK)
  obtain ⟨N,g',gs',w',sl',t',Hl',Tf',Dl',old',wa',h1,h2,h3,h4⟩:=jqg hK r0 _ _ #[g] W none #[] (fun _=>[]) (fun _=> .leaf) (fun _=>0) zS rfl c0
  obtain ⟨N2,last,tl,o,w'',t'',e1,e2,e3⟩:=jqi (Post:=Post) (W:=W) h3 (fun v w hk hs hf=>hp v _ w hk hs hf) old' wa' gs' w' sl' t' Hl' Tf' Dl' h2 rfl h4
  have hrun:runNT P (N+N2) (solo g W) #[]=(.next last,tl):=by
    rw [solo_eq_crowd];exact runNT_trans' h1 e1
  refine ⟨N+N2,last,o,w'',t'',runNT_trans' hrun e2,?_,?_,e3⟩
  · rw [←runNT_fst P _ _ #[],hrun]
  · have:(runNT P 1 last tl).1= .ended o w'':=by rw [e2]
    unfold step
    simp only [runNT] at e2
    cases hs:stepT P last with
    |mk s u=>
      rw [hs] at e2
      cases s with
      |next m1=>simp at e2
      |ended o1 w1=>simp only [vn,Stepped.ended.injEq] at e2;obtain ⟨⟨rfl,rfl⟩,_⟩:=e2;rfl
end
end Go.Lo
namespace Go.Lo
structure Crew where
  n:Nat
  hit:Nat→Bool
  PL:Nat→Value→Hp→Prop
  wg:Nat
  tW:TypeId
  ch:Nat
inductive SC where
  |m (r:Nat) (p:WS) (got:List Nat) (c:Bool)
  |w (k:Nat) (g:WS) (z:Bool)
  |c (p:WS)
def gW (F:Nat→Option SC) (p:WS):Nat→WS:=fun j=>if j=0 then p else match F j with|some (.w _ g _)=>g|_=> .idle
def Crew.wgC (C:Crew) (v wt ws:Nat):Chunk:=⟨true,C.wg,.cells #[.int .u64 ((v*4294967296+wt:Nat):Int),.int .u32 ws] C.tW (0,0)⟩
structure CI (C:Crew) (cl:Bool) (v wt ws N r:Nat) (p:WS) (got:List Nat) (c:Bool) (F:Nat→Option SC):Prop where
  f0: ∃p0,F 0=some (.m r p0 got c)∧(c=false→p0=p)∧(c=true→p0= .idle)
  fm: ∀j,j≠0→ ∀r p got c,F j≠some (.m r p got c)
  fc: ∀j q,F j=some (.c q)→q=p∧c=true
  fe:c=true→cl=false→ ∃j,j≠0∧F j=some (.c p)
  fu: ∀j j' q q',F j=some (.c q)→F j'=some (.c q')→j=j'
  dom: ∀j,N≤j→F j=none
  wg:WgInv v wt ws N (gW F p)
  lbl: ∀j k g z,F j=some (.w k g z)→k<C.n-r∧(z=true→k∈got)∧(z=false→k∉got)∧(g≠ .on→C.hit k=true→z=true)∧g≠ .idle
  uniq: ∀j j' k g z g' z',F j=some (.w k g z)→F j'=some (.w k g' z')→j=j'
  all: ∀k,k<C.n-r→(∃j g z,F j=some (.w k g z))∨(C.hit k=true→k∈got)
  nd:got.Nodup
  sub: ∀k∈got,k<C.n-r∧C.hit k=true
  vb:v+r≤C.n+p.cV
  rb:r≤C.n
  rc:c=true→r=0
  shut:cl=true→c=true∧ ∀j,j≠0→F j=none
def Crew.Inv (C:Crew) (cl:Bool) (Shp:Hp) (F:Nat→Option SC):Prop:= ∃v wt ws N r p got c,Shp=[C.wgC v wt ws]∧CI C cl v wt ws N r p got c F
def Crew.Blk (C:Crew):SC→Hp→Prop
  | .c .parked,Shp=> ∃v wt,Shp=[C.wgC v wt 0]
  |_,_=>False
def SC.gone:SC→Prop
  | .w _ .on _=>False
  | .w _ _ _=>True
  |_=>False
def SC.heir:SC→Prop
  | .c .done=>True
  |_=>False
def SC.say:SC→Prop
  | .m _ _ _ b=>b=false
  | .c _=>True
  |_=>False
def Crew.pro (C:Crew):ProC where
  S:=SC
  wa:=⟨C.wg,0,none⟩
  r:=C.ch
  Inv:=C.Inv
  Blk:=C.Blk
  gone:=SC.gone
  heir:=SC.heir
  say:=SC.say
  Msg:=fun v hp s s'=> ∃k,s= .w k .on false∧s'= .w k .on true∧C.hit k=true∧C.PL k v hp
  fin:=fun Shp F h=>by obtain ⟨v,wt,ws,N,r,p,got,c,_,I⟩:=h;exact (I.shut rfl).2
section
variable {C:Crew} {v v' wt wt' ws ws' N r i k:Nat} {p:WS} {c:Bool} {F:Nat→Option SC} {g g':WS} {z z':Bool}
theorem jjm (F:Nat→Option SC) (p:WS) (hj:j≠0):gW F p j=match F j with|some (.w _ g _)=>g|_=> .idle:=if_neg hj
theorem gW_w (F:Nat→Option SC) (p:WS) (hj:j≠0) (h:F j=some (.w k g z)):gW F p j=g:=by rw [jjm F p hj,h]
theorem jiK (F:Nat→Option SC) (p:WS) (hj:j≠0) (h:F j=none):gW F p j= .idle:=by rw [jjm F p hj,h]
theorem gW_c (F:Nat→Option SC) (p:WS) {q:WS} (hj:j≠0) (h:F j=some (.c q)):gW F p j= .idle:=by rw [jjm F p hj,h]
theorem jiJ (F:Nat→Option SC) (p:WS) (hi:i≠0) (o:Option SC):gW (ja6 F i o) p=jdj (gW F p) i (match o with|some (.w _ g _)=>g|_=> .idle):=by
  funext j
  by_cases e:j=i
  · subst e;rw [updF_same,jjm _ _ hi,updS_same]
  · rw [jdq _ _ e];by_cases e0:j=0
    · subst e0;rfl
    · rw [jjm _ _ e0,jjm _ _ e0,jam _ _ e]
theorem gW_p (F:Nat→Option SC) (p p':WS):gW F p'=jdj (gW F p) 0 p':=by
  funext j
  by_cases e:j=0
  · subst e;rw [updF_same];rfl
  · rw [jdq _ _ e,jjm _ _ e,jjm _ _ e]
theorem gW_m (F:Nat→Option SC) (p:WS) (o:Option SC):gW (ja6 F 0 o) p=gW F p:=by
  funext j
  by_cases e:j=0
  · subst e;rfl
  · rw [jjm _ _ e,jjm _ _ e,jam _ _ e]
theorem CI.lt (I:CI C cl v wt ws N r p got c F) {s:SC} (h:F i=some s):i<N:=by
  rcases Gf i N with h'|h'
  · exact h'
  · rw [I.dom i h'] at h;cases h
theorem CI.ne0 (I:CI C cl v wt ws N r p got c F) (h:F i=some (.w k g z)):i≠0:=fun e=>by
  subst e
  obtain ⟨p0,h0,_⟩:=I.f0
  rw [h0] at h;cases h
theorem CI.ne0c (I:CI C cl v wt ws N r p got c F) {q:WS} (h:F i=some (.c q)):i≠0:=fun e=>by
  subst e
  obtain ⟨p0,h0,_⟩:=I.f0
  rw [h0] at h;cases h
theorem CI.open (I:CI C cl v wt ws N r p got c F) {s:SC} (hi:i≠0) (h:F i=some s):cl=false:=by
  cases cl with
  |false=>rfl
  |true=>have:=(I.shut rfl).2 i hi;rw [h] at this;cases this
theorem CI.goW (I:CI C cl v wt ws N r p got c F) (h:F i=some (.w k g z)) (g':WS) (hW:WgInv v' wt' ws' N (jdj (gW F p) i g')) (hv:v'≤v) (hg:g'≠ .idle) (hs:g'≠ .on→C.hit k=true→z=true):CI C cl v' wt' ws' N r p got c (ja6 F i (some (.w k g' z))):=by
  have h0:=I.ne0 h
  obtain ⟨q1,q2,q3,q4,q5⟩:=I.lbl _ _ _ _ h
  have key: ∀j k1 g1 z1,ja6 F i (some (.w k g' z)) j=some (.w k1 g1 z1)→(j=i∧k1=k∧g1=g'∧z1=z)∨(j≠i∧F j=some (.w k1 g1 z1)):=fun j k1 g1 z1 hj=>by
    by_cases e:j=i
    · subst e
      rw [updS_same] at hj
      have:=gF hj
      injection this with e1 e2 e3
      exact .inl ⟨rfl,e1.symm,e2.symm,e3.symm⟩
    · rw [jam _ _ e] at hj
      exact .inr ⟨e,hj⟩
  have keyc: ∀j q,ja6 F i (some (.w k g' z)) j=some (.c q)→F j=some (.c q):=fun j q hj=>by
    by_cases e:j=i
    · subst e;rw [updS_same] at hj;cases hj
    · rw [jam _ _ e] at hj;exact hj
  obtain ⟨p0,f1,f2⟩:=I.f0
  refine ⟨⟨p0,by rw [jam _ _ (fun e=>h0 e.symm)];exact f1,f2⟩,fun j hj r1 p1 g1 c1 e=>?_,fun j q hj=>I.fc j q (keyc j q hj),fun hc ho=>?_,fun j j' q q' hj hj'=>I.fu j j' q q' (keyc _ _ hj) (keyc _ _ hj'),fun j hj=>?_,by rw [jiJ _ _ h0];exact hW,fun j k1 g1 z1 hj=>?_,fun j j' k1 g1 z1 g2 z2 hj hj'=>?_,fun k1 hk1=>?_,I.nd,I.sub,by have:=I.vb;omega,I.rb,I.rc,fun ho=>?_⟩
  · by_cases ej:j=i
    · subst ej;rw [updS_same] at e;cases e
    · rw [jam _ _ ej] at e;exact I.fm j hj r1 p1 g1 c1 e
  · obtain ⟨j,hj,hF⟩:=I.fe hc ho
    exact ⟨j,hj,by rw [jam _ _ (fun e=>by subst e;rw [h] at hF;cases hF)];exact hF⟩
  · rw [jam _ _ (fun e=>by have:=I.lt h;omega)];exact I.dom j hj
  · rcases key _ _ _ _ hj with ⟨_,rfl,rfl,rfl⟩|⟨_,hj⟩
    · exact ⟨q1,q2,q3,hs,hg⟩
    · exact I.lbl _ _ _ _ hj
  · rcases key _ _ _ _ hj with ⟨rfl,rfl,rfl,rfl⟩|⟨e,hn⟩<;>rcases key _ _ _ _ hj' with ⟨e',ek,_⟩|⟨e',hn'⟩
    · exact e'.symm
    · exact I.uniq _ _ _ _ _ _ _ h hn'
    · subst e' ek;exact I.uniq _ _ _ _ _ _ _ hn h
    · exact I.uniq _ _ _ _ _ _ _ hn hn'
  · rcases I.all k1 hk1 with ⟨j,g1,z1,hj⟩|hk
    · by_cases e:j=i
      · subst e
        rw [h] at hj
        have:=gF hj
        injection this with e1 e2 e3
        subst e1
        exact .inl ⟨j,g',z,updS_same _ _ _⟩
      · exact .inl ⟨j,g1,z1,by rw [jam _ _ e];exact hj⟩
    · exact .inr hk
  · have:=(I.shut ho).2 i h0
    rw [h] at this;cases this
theorem CI.leaves (I:CI C cl v wt ws N r p got c F) (h:F i=some (.w k g z)) (hg:g≠ .on) (hW:WgInv v' wt' ws' N (jdj (gW F p) i .idle)) (hv:v'≤v):CI C cl v' wt' ws' N r p got c (ja6 F i none):=by
  have h0:=I.ne0 h
  obtain ⟨q1,q2,q3,q4,q5⟩:=I.lbl _ _ _ _ h
  have key: ∀j s,ja6 F i none j=some s→j≠i∧F j=some s:=fun j s hj=>by
    by_cases e:j=i
    · subst e;rw [updS_same] at hj;cases hj
    · rw [jam _ _ e] at hj;exact ⟨e,hj⟩
  obtain ⟨p0,f1,f2⟩:=I.f0
  refine ⟨⟨p0,by rw [jam _ _ (fun e=>h0 e.symm)];exact f1,f2⟩,fun j hj r1 p1 g1 c1 e=>I.fm j hj r1 p1 g1 c1 (key _ _ e).2,fun j q hj=>I.fc j q (key _ _ hj).2,fun hc ho=>?_,fun j j' q q' hj hj'=>I.fu j j' q q' (key _ _ hj).2 (key _ _ hj').2,fun j hj=>?_,by rw [jiJ _ _ h0];exact hW,fun j k1 g1 z1 hj=>I.lbl _ _ _ _ (key _ _ hj).2,
    fun j j' k1 g1 z1 g2 z2 hj hj'=>I.uniq _ _ _ _ _ _ _ (key _ _ hj).2 (key _ _ hj').2,fun k1 hk1=>?_,I.nd,I.sub,by have:=I.vb;omega,I.rb,I.rc,fun ho=>⟨(I.shut ho).1,fun j hj=>?_⟩⟩
  · obtain ⟨j,hj,hF⟩:=I.fe hc ho
    exact ⟨j,hj,by rw [jam _ _ (fun e=>by subst e;rw [h] at hF;cases hF)];exact hF⟩
  · by_cases e:j=i
    · subst e;exact updS_same _ _ _
    · rw [jam _ _ e];exact I.dom j hj
  · rcases I.all k1 hk1 with ⟨j,g1,z1,hj⟩|hk
    · by_cases e:j=i
      · subst e
        rw [h] at hj
        have:=gF hj
        injection this with e1 e2 e3
        subst e1
        exact .inr fun hh=>q2 (q4 hg hh)
      · exact .inl ⟨j,g1,z1,by rw [jam _ _ e];exact hj⟩
    · exact .inr hk
  · by_cases e:j=i
    · subst e;exact updS_same _ _ _
    · rw [jam _ _ e];exact (I.shut ho).2 j hj
theorem CI.sends (I:CI C cl v wt ws N r p got c F) {p0:WS} (hm:F 0=some (.m r p0 got c)) (h:F i=some (.w k .on false)) (hh:C.hit k=true):k∉got∧CI C cl v wt ws N r p (got++[k]) c (ja6 (ja6 F i (some (.w k .on true))) 0 (some (.m r p0 (got++[k]) c))):=by
  have h0:=I.ne0 h
  have h0i:(0:Nat)≠i:=fun e=>h0 e.symm
  obtain ⟨q1,q2,q3,q4,q5⟩:=I.lbl _ _ _ _ h
  have hk:k∉got:=q3 rfl
  have key: ∀j s,ja6 (ja6 F i (some (.w k .on true))) 0 (some (.m r p0 (got++[k]) c)) j=some s→(j=0∧s= .m r p0 (got++[k]) c)∨(j=i∧s= .w k .on true)∨(j≠0∧j≠i∧F j=some s):=fun j s hj=>by
    by_cases e0:j=0
    · subst e0;rw [updS_same] at hj;exact .inl ⟨rfl,(gF hj).symm⟩
    · rw [jam _ _ e0] at hj
      by_cases e:j=i
      · subst e;rw [updS_same] at hj;exact .inr (.inl ⟨rfl,(gF hj).symm⟩)
      · rw [jam _ _ e] at hj;exact .inr (.inr ⟨e0,e,hj⟩)
  have keyw: ∀j k1 g1 z1,ja6 (ja6 F i (some (.w k .on true))) 0 (some (.m r p0 (got++[k]) c)) j=some (.w k1 g1 z1)→(j=i∧k1=k∧g1= .on∧z1=true)∨(j≠i∧F j=some (.w k1 g1 z1)):=fun j k1 g1 z1 hj=>by
    rcases key _ _ hj with ⟨_,e⟩|⟨e,e'⟩|⟨_,e,hj⟩
    · cases e
    · injection e' with e1 e2 e3
      exact .inl ⟨e,e1,e2,e3⟩
    · exact .inr ⟨e,hj⟩
  have keyc: ∀j q,ja6 (ja6 F i (some (.w k .on true))) 0 (some (.m r p0 (got++[k]) c)) j=some (.c q)→F j=some (.c q):=fun j q hj=>by
    rcases key _ _ hj with ⟨_,e⟩|⟨_,e⟩|⟨_,_,hj⟩
    · cases e
    · cases e
    · exact hj
  obtain ⟨p1,f1,f2⟩:=I.f0
  rw [hm] at f1
  have e1:=gF f1
  injection e1 with _ e1 _ _
  subst e1
  refine ⟨hk,⟨p0,updS_same _ _ _,f2⟩,fun j hj r1 p1 g1 c1 e=>?_,fun j q hj=>I.fc j q (keyc j q hj),fun hc ho=>?_,fun j j' q q' hj hj'=>I.fu j j' q q' (keyc _ _ hj) (keyc _ _ hj'),fun j hj=>?_,?_,fun j k1 g1 z1 hj=>?_,fun j j' k1 g1 z1 g2 z2 hj hj'=>?_,fun k1 hk1=>?_,?_,fun k1 hk1=>?_,I.vb,I.rb,I.rc,fun ho=>?_⟩
  · rcases key _ _ e with ⟨e0,_⟩|⟨_,e⟩|⟨_,_,e⟩
    · exact hj e0
    · cases e
    · exact I.fm j hj r1 p1 g1 c1 e
  · obtain ⟨j,hj,hF⟩:=I.fe hc ho
    exact ⟨j,hj,by rw [jam _ _ hj,jam _ _ (fun e=>by subst e;rw [h] at hF;cases hF)];exact hF⟩
  · have:=I.lt h
    have:=I.wg.pos
    rw [jam _ _ zO,jam _ _ zO];exact I.dom j hj
  · rw [gW_m,jiJ _ _ h0];have:jdj (gW F p) i .on=gW F p:=jfm _ _ _ (gW_w F p h0 h)
    show WgInv v wt ws N (jdj (gW F p) i .on)
    rw [this];exact I.wg
  · rcases keyw _ _ _ _ hj with ⟨_,rfl,rfl,rfl⟩|⟨e,hj2⟩
    · exact ⟨q1,(fun _=>by simp),(fun e=>by cases e),fun _ _=>rfl,by simp⟩
    · obtain ⟨a1,a2,a3,a4,a5⟩:=I.lbl _ _ _ _ hj2
      refine ⟨a1,fun hz=>GN _ (a2 hz),fun hz hm=>?_,a4,a5⟩
      rcases gQ.1 hm with hm|hm
      · exact a3 hz hm
      · simp at hm;subst hm;exact e (I.uniq _ _ _ _ _ _ _ hj2 h)
  · rcases keyw _ _ _ _ hj with ⟨rfl,rfl,_,_⟩|⟨e,hn⟩<;>rcases keyw _ _ _ _ hj' with ⟨e',ek,_⟩|⟨e',hn'⟩
    · exact e'.symm
    · exact I.uniq _ _ _ _ _ _ _ h hn'
    · subst e' ek;exact I.uniq _ _ _ _ _ _ _ hn h
    · exact I.uniq _ _ _ _ _ _ _ hn hn'
  · rcases I.all k1 hk1 with ⟨j,g1,z1,hj⟩|hk2
    · by_cases e:j=i
      · subst e
        rw [h] at hj
        have:=gF hj
        injection this with e1 e2 e3
        subst e1
        exact .inl ⟨j,.on,true,by rw [jam _ _ h0,updS_same]⟩
      · exact .inl ⟨j,g1,z1,by rw [jam _ _ (I.ne0 hj),jam _ _ e];exact hj⟩
    · exact .inr fun hx=>GN _ (hk2 hx)
  · rw [List.nodup_append];exact ⟨I.nd,by simp,fun a ha b hb=>by simp at hb;subst hb;exact fun e=>hk (e▸ha)⟩
  · rcases gQ.1 hk1 with hk1|hk1
    · exact I.sub _ hk1
    · simp at hk1;subst hk1;exact ⟨q1,hh⟩
  · have:=(I.shut ho).2 i h0
    rw [h] at this;cases this
theorem CI.main (I:CI C cl v wt ws N r p got false F) (p':WS) (hW:WgInv v' wt' ws' N (jdj (gW F p) 0 p')) (hv:v'+p.cV≤v+p'.cV):CI C cl v' wt' ws' N r p' got false (ja6 F 0 (some (.m r p' got false))):=by
  have key: ∀j k1 g1 z1,ja6 F 0 (some (.m r p' got false)) j=some (.w k1 g1 z1)→F j=some (.w k1 g1 z1):=fun j k1 g1 z1 hj=>by
    by_cases e:j=0
    · subst e;rw [updS_same] at hj;cases hj
    · rw [jam _ _ e] at hj;exact hj
  have keyc: ∀j q,ja6 F 0 (some (.m r p' got false)) j=some (.c q)→False:=fun j q hj=>by
    by_cases e:j=0
    · subst e;rw [updS_same] at hj;cases hj
    · rw [jam _ _ e] at hj;have:=(I.fc j q hj).2;cases this
  refine ⟨⟨p',updS_same _ _ _,fun _=>rfl,fun e=>by cases e⟩,fun j hj r1 p1 g1 c1=>by rw [jam _ _ hj];exact I.fm j hj r1 p1 g1 c1,fun j q hj=>(keyc j q hj).elim,fun e=>(by cases e),fun j j' q q' hj=>(keyc j q hj).elim,fun j hj=>?_,by rw [gW_m,gW_p F p p'];exact hW,fun j k1 g1 z1 hj=>I.lbl _ _ _ _ (key _ _ _ _ hj),fun j j' k1 g1 z1 g2 z2 hj hj'=>I.uniq _ _ _ _ _ _ _ (key _ _ _ _ hj) (key _ _ _ _ hj'),
    fun k1 hk1=>(I.all k1 hk1).imp (fun ⟨j,g1,z1,hj⟩=>⟨j,g1,z1,by rw [jam _ _ (I.ne0 hj)];exact hj⟩) id,I.nd,I.sub,by have:=I.vb;omega,I.rb,I.rc,fun ho=>by have:=(I.shut ho).1;cases this⟩
  have:=I.wg.pos
  rw [jam _ _ zO];exact I.dom j hj
theorem CI.start (I:CI C cl v wt ws N r .adds got false F) (h0:j≠0) (hj:F j=none) (hr:0<r): ∃N',CI C cl v wt ws N' (r-1) .idle got false (ja6 (ja6 F 0 (some (.m (r-1) .idle got false))) j (some (.w (C.n-r) .on false))):=by
  obtain ⟨r,rfl⟩: ∃r',r=r'+1:=⟨r-1,by omega⟩
  simp only [Nat.add_sub_cancel]
  have hN:N≤max N (j+1):=xG _ _
  have hjN:j<max N (j+1):=by have:=Vv N (j+1);omega
  have key: ∀i s,ja6 (ja6 F 0 (some (.m r .idle got false))) j (some (.w (C.n-(r+1)) .on false)) i=some s→(i=j∧s= .w (C.n-(r+1)) .on false)∨(i=0∧s= .m r .idle got false)∨(i≠j∧i≠0∧F i=some s):=fun i s hi=>by
    by_cases e:i=j
    · subst e;rw [updS_same] at hi;exact .inl ⟨rfl,(gF hi).symm⟩
    · rw [jam _ _ e] at hi
      by_cases e0:i=0
      · subst e0;rw [updS_same] at hi;exact .inr (.inl ⟨rfl,(gF hi).symm⟩)
      · rw [jam _ _ e0] at hi;exact .inr (.inr ⟨e,e0,hi⟩)
  have keyw: ∀i k1 g1 z1,ja6 (ja6 F 0 (some (.m r .idle got false))) j (some (.w (C.n-(r+1)) .on false)) i=some (.w k1 g1 z1)→(i=j∧k1=C.n-(r+1)∧g1= .on∧z1=false)∨(i≠j∧F i=some (.w k1 g1 z1)):=fun i k1 g1 z1 hi=>by
    rcases key _ _ hi with ⟨e,e'⟩|⟨_,e⟩|⟨e,_,hi⟩
    · injection e' with e1 e2 e3;exact .inl ⟨e,e1,e2,e3⟩
    · cases e
    · exact .inr ⟨e,hi⟩
  have keyc: ∀i q,ja6 (ja6 F 0 (some (.m r .idle got false))) j (some (.w (C.n-(r+1)) .on false)) i=some (.c q)→False:=fun i q hi=>by
    rcases key _ _ hi with ⟨_,e⟩|⟨_,e⟩|⟨_,_,hi⟩
    · cases e
    · cases e
    · have:=(I.fc i q hi).2;cases this
  have back: ∀i k1 g1 z1,F i=some (.w k1 g1 z1)→ja6 (ja6 F 0 (some (.m r .idle got false))) j (some (.w (C.n-(r+1)) .on false)) i=some (.w k1 g1 z1):=fun i k1 g1 z1 hi=>by
    rw [jam _ _ (fun e=>by rw [e,hj] at hi;cases hi),jam _ _ (I.ne0 hi)];exact hi
  have hm:C.n-r=C.n-(r+1)+1:=by have:=I.rb;omega
  refine ⟨max N (j+1),⟨.idle,by rw [jam _ _ (fun e=>h0 e.symm),updS_same],fun _=>rfl,fun e=>by cases e⟩,fun i hi r1 p1 g1 c1 e=>?_,fun i q hi=>(keyc i q hi).elim,fun e=>(by cases e),fun i i' q q' hi=>(keyc i q hi).elim,fun i hi=>?_,?_,fun i k1 g1 z1 hi=>?_,fun i i' k1 g1 z1 g2 z2 hi hi'=>?_,fun k1 hk1=>?_,I.nd,fun k1 hk1=>?_,?_,by have:=I.rb;omega,fun e=>(by cases e),fun ho=>by have:=(I.shut ho).1;cases this⟩
  · rcases key _ _ e with ⟨_,e⟩|⟨e0,_⟩|⟨_,_,e⟩
    · cases e
    · exact hi e0
    · exact I.fm i hi r1 p1 g1 c1 e
  · have h1:N≤i:=GJ hN hi
    have h2:=I.wg.pos
    rw [jam _ _ zO,jam _ _ zO];exact I.dom i h1
  · rw [jiJ _ _ h0,gW_m,gW_p F .adds .idle];exact (I.wg.more hN fun i hi=>by
      have h2:=I.wg.pos
      exact jiK F _ zO (I.dom i hi)).start rfl h0 hjN (jiK F _ h0 hj)
  · rw [hm];rcases keyw _ _ _ _ hi with ⟨_,rfl,rfl,rfl⟩|⟨e,hi⟩
    · refine ⟨by omega,fun e=>(by cases e),fun _ hk=>?_,fun e=>absurd rfl e,by simp⟩
      have:=(I.sub _ hk).1
      omega
    · obtain ⟨q1,q2⟩:=I.lbl _ _ _ _ hi
      exact ⟨by omega,q2⟩
  · rcases keyw _ _ _ _ hi with ⟨rfl,rfl,_,_⟩|⟨e,hi⟩<;>rcases keyw _ _ _ _ hi' with ⟨e',ek,_⟩|⟨e',hi'⟩
    · exact e'.symm
    · have:=(I.lbl _ _ _ _ hi').1;omega
    · have:=(I.lbl _ _ _ _ hi).1;omega
    · exact I.uniq _ _ _ _ _ _ _ hi hi'
  · rw [hm] at hk1
    by_cases e:k1=C.n-(r+1)
    · subst e
      exact .inl ⟨j,_,_,updS_same _ _ _⟩
    · exact (I.all k1 zO).imp (fun ⟨i,g1,z1,hi⟩=>⟨i,g1,z1,back _ _ _ _ hi⟩) id
  · have:=I.sub _ hk1
    exact ⟨by omega,this.2⟩
  · have:=I.vb
    simp only [WS.cV] at this⊢
    omega
theorem WgInv.beginK {v wt ws N k:Nat} {G:Nat→WS} (I:WgInv v wt ws N G) (ha:G 0= .idle) (hk:v≤k):WgInv v wt ws N (jdj G 0 (.look k)):=by
  refine I.main ha _ fun c c' ⟨m1,m2,m3,m4⟩ hv f=>?_
  simp only [WS.cV,WS.c1,WS.c2,WS.c3] at m1 m2 m3 m4
  simp only [jb5] at f⊢
  omega
theorem WgInv.look0 {v wt ws N k:Nat} {G:Nat→WS} (I:WgInv v wt ws N G) (ha:G 0= .look k) (hv:v=0):wt=0∧WgInv v wt ws N (jdj G 0 .woke):=by
  have f:=I.fits
  rw [ha] at f
  refine ⟨f.1,I.main ha _ fun c c' ⟨m1,m2,m3,m4⟩ hv f=>?_⟩
  simp only [WS.cV,WS.c1,WS.c2,WS.c3] at m1 m2 m3 m4
  simp only [jb5] at f⊢
  omega
theorem CI.startC (I:CI C cl v wt ws N 0 .idle got false F) {kk:Nat} (hk:v≤kk) (h0:j≠0) (hj:F j=none): ∃N',CI C cl v wt ws N' 0 (.look kk) got true (ja6 (ja6 F 0 (some (.m 0 .idle got true))) j (some (.c (.look kk)))):=by
  have hN:N≤max N (j+1):=xG _ _
  have key: ∀i s,ja6 (ja6 F 0 (some (.m 0 .idle got true))) j (some (.c (.look kk))) i=some s→(i=j∧s= .c (.look kk))∨(i=0∧s= .m 0 .idle got true)∨(i≠j∧i≠0∧F i=some s):=fun i s hi=>by
    by_cases e:i=j
    · subst e;rw [updS_same] at hi;exact .inl ⟨rfl,(gF hi).symm⟩
    · rw [jam _ _ e] at hi
      by_cases e0:i=0
      · subst e0;rw [updS_same] at hi;exact .inr (.inl ⟨rfl,(gF hi).symm⟩)
      · rw [jam _ _ e0] at hi;exact .inr (.inr ⟨e,e0,hi⟩)
  have keyw: ∀i k1 g1 z1,ja6 (ja6 F 0 (some (.m 0 .idle got true))) j (some (.c (.look kk))) i=some (.w k1 g1 z1)→F i=some (.w k1 g1 z1):=fun i k1 g1 z1 hi=>by
    rcases key _ _ hi with ⟨e,e'⟩|⟨_,e⟩|⟨e,_,hi⟩
    · cases e'
    · cases e
    · exact hi
  have keyc: ∀i q,ja6 (ja6 F 0 (some (.m 0 .idle got true))) j (some (.c (.look kk))) i=some (.c q)→i=j∧q= .look kk:=fun i q hi=>by
    rcases key _ _ hi with ⟨e,e'⟩|⟨_,e⟩|⟨_,_,hi⟩
    · injection e' with e1;exact ⟨e,e1⟩
    · cases e
    · have:=(I.fc i q hi).2;cases this
  have back: ∀i k1 g1 z1,F i=some (.w k1 g1 z1)→ja6 (ja6 F 0 (some (.m 0 .idle got true))) j (some (.c (.look kk))) i=some (.w k1 g1 z1):=fun i k1 g1 z1 hi=>by
    rw [jam _ _ (fun e=>by rw [e,hj] at hi;cases hi),jam _ _ (I.ne0 hi)];exact hi
  have hclF:cl=false:=by
    cases cl with
    |false=>rfl
    |true=>have:=(I.shut rfl).1;cases this
  refine ⟨max N (j+1),⟨.idle,by rw [jam _ _ (fun e=>h0 e.symm),updS_same],fun e=>(by cases e),fun _=>rfl⟩,fun i hi r1 p1 g1 c1 e=>?_,fun i q hi=>⟨(keyc i q hi).2,rfl⟩,fun _ _=>⟨j,h0,updS_same _ _ _⟩,fun i i' q q' hi hi'=>(keyc i q hi).1.trans (keyc i' q' hi').1.symm,fun i hi=>?_,?_,fun i k1 g1 z1 hi=>I.lbl _ _ _ _ (keyw _ _ _ _ hi),fun i i' k1 g1 z1 g2 z2 hi hi'=>I.uniq _ _ _ _ _ _ _ (keyw _ _ _ _ hi) (keyw _ _ _ _ hi'),
    fun k1 hk1=>(I.all k1 hk1).imp (fun ⟨i,g1,z1,hi⟩=>⟨i,g1,z1,back _ _ _ _ hi⟩) id,I.nd,I.sub,?_,I.rb,fun _=>rfl,fun ho=>by rw [hclF] at ho;cases ho⟩
  · rcases key _ _ e with ⟨_,e⟩|⟨e0,_⟩|⟨_,_,e⟩
    · cases e
    · exact hi e0
    · exact I.fm i hi r1 p1 g1 c1 e
  · have h1:N≤i:=GJ hN hi
    have h2:=I.wg.pos
    have h3:=Vv N (j+1)
    rw [jam _ _ zO,jam _ _ zO];exact I.dom i h1
  · rw [jiJ _ _ h0,gW_m,gW_p F .idle (.look kk)];have e:jdj (jdj (gW F .idle) 0 (.look kk)) j .idle=jdj (gW F .idle) 0 (.look kk):=jfm _ _ _ (by rw [jdq _ _ h0];exact jiK F _ h0 hj)
    show WgInv v wt ws _ (jdj (jdj (gW F .idle) 0 (.look kk)) j .idle)
    rw [e];exact (I.wg.more hN fun i hi=>by
      have h2:=I.wg.pos
      exact jiK F _ zO (I.dom i hi)).beginK rfl hk
  · have:=I.vb
    simp only [WS.cV] at this⊢
    omega
theorem CI.closer (I:CI C cl v wt ws N r p got c F) (h:F i=some (.c p)) (p':WS) (hW:WgInv v' wt' ws' N (jdj (gW F p) 0 p')) (hv:v'+p.cV≤v+p'.cV):CI C cl v' wt' ws' N r p' got c (ja6 F i (some (.c p'))):=by
  have h0:=I.ne0c h
  have hc:=(I.fc i p h).2
  subst hc
  have ho:=I.open h0 h
  subst ho
  obtain ⟨p0,f1,f2,f3⟩:=I.f0
  have key: ∀j k1 g1 z1,ja6 F i (some (.c p')) j=some (.w k1 g1 z1)→F j=some (.w k1 g1 z1):=fun j k1 g1 z1 hj=>by
    by_cases e:j=i
    · subst e;rw [updS_same] at hj;cases hj
    · rw [jam _ _ e] at hj;exact hj
  have keyc: ∀j q,ja6 F i (some (.c p')) j=some (.c q)→j=i∧q=p':=fun j q hj=>by
    by_cases e:j=i
    · subst e
      rw [updS_same] at hj
      have:=gF hj
      injection this with e1
      exact ⟨rfl,e1.symm⟩
    · rw [jam _ _ e] at hj
      exact absurd (I.fu _ _ _ _ hj h) e
  refine ⟨⟨p0,by rw [jam _ _ (fun e=>h0 e.symm)];exact f1,fun e=>(by cases e),f3⟩,fun j hj r1 p1 g1 c1 e=>?_,fun j q hj=>⟨(keyc j q hj).2,rfl⟩,fun _ _=>⟨i,h0,updS_same _ _ _⟩,fun j j' q q' hj hj'=>(keyc j q hj).1.trans (keyc j' q' hj').1.symm,fun j hj=>?_,?_,fun j k1 g1 z1 hj=>I.lbl _ _ _ _ (key _ _ _ _ hj),fun j j' k1 g1 z1 g2 z2 hj hj'=>I.uniq _ _ _ _ _ _ _ (key _ _ _ _ hj) (key _ _ _ _ hj'),
    fun k1 hk1=>(I.all k1 hk1).imp (fun ⟨j,g1,z1,hj⟩=>⟨j,g1,z1,by rw [jam _ _ (fun e=>by subst e;rw [h] at hj;cases hj)];exact hj⟩) id,I.nd,I.sub,by have:=I.vb;omega,I.rb,I.rc,fun ho=>by cases ho⟩
  · by_cases ej:j=i
    · subst ej;rw [updS_same] at e;cases e
    · rw [jam _ _ ej] at e;exact I.fm j hj r1 p1 g1 c1 e
  · rw [jam _ _ (fun e=>by have:=I.lt h;omega)];exact I.dom j hj
  · rw [jiJ _ _ h0,gW_p F p p'];have e:jdj (jdj (gW F p) 0 p') i .idle=jdj (gW F p) 0 p':=jfm _ _ _ (by rw [jdq _ _ h0];exact gW_c F _ h0 h)
    show WgInv v' wt' ws' N (jdj (jdj (gW F p) 0 p') i .idle)
    rw [e];exact hW
theorem CI.none_left (I:CI C cl v wt ws N r .done got c F) (h:F i=some (.c .done)) (hj0:j≠0) (hji:j≠i):F j=none:=by
  rcases Gf j N with hN|hN
  · have:=I.wg.none_left rfl hj0 hN
    cases hF:F j with
    |none=>rfl
    |some s=>
      cases s with
      |m r1 p1 g1 c1=>exact absurd hF (I.fm j hj0 r1 p1 g1 c1)
      |w k1 g1 z1=>
        rw [gW_w F _ hj0 hF] at this
        exact absurd this (I.lbl _ _ _ _ hF).2.2.2.2
      |c q=>exact absurd (I.fu _ _ _ _ hF h) hji
  · exact I.dom j hN
theorem CI.closes (I:CI C false v wt ws N r .done got c F) (h:F i=some (.c .done)):CI C true v wt ws N r .done got c (ja6 F i none):=by
  have h0:=I.ne0c h
  have hc:=(I.fc i _ h).2
  have all0: ∀j,j≠0→ja6 F i none j=none:=fun j hj=>by
    by_cases e:j=i
    · subst e;exact updS_same _ _ _
    · rw [jam _ _ e];exact I.none_left h hj e
  obtain ⟨p0,f1,f2⟩:=I.f0
  have key: ∀j s,ja6 F i none j=some s→j=0∧s= .m r p0 got c:=fun j s hj=>by
    by_cases e:j=0
    · subst e
      rw [jam _ _ (fun e=>h0 e.symm),f1] at hj
      exact ⟨rfl,(gF hj).symm⟩
    · rw [all0 j e] at hj;cases hj
  refine ⟨⟨p0,by rw [jam _ _ (fun e=>h0 e.symm)];exact f1,f2⟩,fun j hj r1 p1 g1 c1 e=>?_,fun j q hj=>?_,fun _ ho=>(by cases ho),fun j j' q q' hj=>?_,fun j hj=>?_,?_,fun j k1 g1 z1 hj=>?_,fun j j' k1 g1 z1 g2 z2 hj=>?_,fun k1 hk1=>?_,I.nd,I.sub,I.vb,I.rb,I.rc,fun _=>⟨hc,all0⟩⟩
  · rw [all0 j hj] at e;cases e
  · have:=(key _ _ hj).2;cases this
  · have:=(key _ _ hj).2;cases this
  · have:=I.wg.pos
    exact all0 j zO
  · rw [jiJ _ _ h0];have e:jdj (gW F .done) i .idle=gW F .done:=jfm _ _ _ (gW_c F _ h0 h)
    show WgInv v wt ws N (jdj (gW F .done) i .idle)
    rw [e];exact I.wg
  · have:=(key _ _ hj).2;cases this
  · have:=(key _ _ hj).2;cases this
  · rcases I.all k1 hk1 with ⟨j,g1,z1,hj⟩|hk
    · have:=I.none_left h (I.ne0 hj) (fun e=>by subst e;rw [h] at hj;cases hj)
      rw [hj] at this;cases this
    · exact .inr hk
theorem CI.came (I:CI C true v wt ws N r p got c F):got.Nodup∧ ∀k,k∈got↔k<C.n∧C.hit k=true:=by
  obtain ⟨hc,hn⟩:=I.shut rfl
  have hr:=I.rc hc
  subst hr
  refine ⟨I.nd,fun k=>⟨fun h=>by simpa using I.sub k h,fun h=>?_⟩⟩
  rcases I.all k (by simpa using h.1) with ⟨j,g1,z1,hj⟩|hk
  · rw [hn j (I.ne0 hj)] at hj;cases hj
  · exact hk h.2
theorem CI.live (I:CI C false v wt ws N r p got true F): ∃i s,i≠0∧F i=some s∧ ¬C.Blk s [C.wgC v wt ws]:=by
  obtain ⟨j,hj,hF⟩:=I.fe rfl rfl
  by_cases hp:p= .parked∧ws=0
  · obtain ⟨rfl,rfl⟩:=hp
    obtain ⟨i,hiN,hi0,hi⟩:=I.wg.live rfl
    cases hFi:F i with
    |none=>rw [jiK F _ hi0 hFi] at hi;exact absurd rfl hi
    |some s=>
      cases s with
      |m r1 p1 g1 c1=>exact absurd hFi (I.fm i hi0 r1 p1 g1 c1)
      |w k1 g1 z1=>exact ⟨i,_,hi0,hFi,fun h=>h⟩
      |c q=>rw [gW_c F _ hi0 hFi] at hi;exact absurd rfl hi
  · refine ⟨j,_,hj,hF,fun h=>hp ?_⟩
    cases p with
    |parked=>
      obtain ⟨v1,wt1,e⟩:=h
      refine ⟨rfl,?_⟩
      simp only [Crew.wgC,Gb,Chunk.mk.injEq,Obj.cells.injEq,Array.mk.injEq,Value.int.injEq,true_and,and_true] at e
      omega
    |_=>exact h.elim
end
end Go.Lo
namespace Go.Lo
open Go.Conc
section
variable {P:Program}
theorem step_val {o:Oper} {w:World} {main:Bool} (ho:ops[i]?=some o) (hw:Wt ops l o.guard) (hd: ∀c,o.op≠ .defer c) (hr:(execOp (ev l) o).run P w= .ok (.value v) w) (hev:(execOp (ev l) o).events P w #[]= #[]):
    stepG P main (Gr b l ds (.inRegion ops (i::rest)::k) cs) w= .go (Gr b (put l o.dst v) ds (.inRegion ops rest::k) cs) w #[]:=by
  rw [jh2 ho hw.wanted hd w];have hfin:=Fr.finish b l ds ops i rest k v ho
  simp [stepG.apply,hr,hev,G,GStep.after,Gr,hfin,jdU]
theorem jcR (hr:b.roundOf=none) (E:Ext P f (fun _=>do mark .enable;Pure.pure Extern.Race.none_)) (n:(Im.quit P D).R (jeV b l ds todo cs)):(Im.quit P (D+1)).R (jeV b l (dcall f #[]::ds) todo cs):=by
  obtain ⟨q,hq⟩:=n
  obtain ⟨fn,h1,h2,h3,h4,h5⟩:=E.eq
  refine ⟨q+1,QuitsD.said ⟨.mark .enable,false,true⟩ rfl rfl (fun w=>?_) hq⟩
  have:=stepG_unwind_entry (P:=P) (main:=false) (b:=b) (a:=⟨l.toArray,dcall f #[]::ds⟩) (cs:=cs) (w:=w) (todo:=todo) (ds:=ds) (args:= #[]) rfl h1 h2 h3 h4 h5 (v:= .tuple #[]) (w':=w) (evs:= #[⟨.mark .enable,false,true⟩])
    (jfU _ #[]) (jgm _ #[] _) zS
  simpa [jeV,Fr,Frame.at,hr] using this
end
theorem jnJ {P:Program} {fn:Func} (hk:b.kind= .deferred) (hf:P.funcs[b.fn]?=some fn) (hres:fn.results= #[]) (hkf:kf={(default:Frame) with fn:=P.funcs.size,defers:=[],mode:= .panicking [goexitEntry]}) (hcat:kf.catches P=false):
    (Im.quit P 0).R (jeV b l [] todo [kf]):=by
  subst hkf
  refine ⟨2,.inr ⟨rfl,G {(default:Frame) with fn:=P.funcs.size,defers:=[],mode:= .panicking [goexitEntry]} [],#[],by simp,fun w=>?_,.inr ⟨rfl,{G {(default:Frame) with fn:=P.funcs.size,defers:=[],mode:= .panicking [goexitEntry]} [] with status:= .finished},#[],by simp,fun w=>?_,rfl,rfl⟩⟩⟩
  · have h1:=results_none hres l.toArray P w
    have h2:(results fn l.toArray).events P w #[]= #[]:=by simp [results,hres]
    simp [jeV,Fr,G,stepG,unwind,doReturn,hf,h1,h2,hk,GStep.after,seen,goexitEntry]
  · simp [G,stepG,unwind,goexitEntry] at hcat⊢
    simp [hcat]
theorem jlu {X s1 s2:Hp} {w:World} {b off:Nat} {c:Array Value} (s:Sat B (X++(s1++⟨true,b,.cells c t (0,0)⟩::s2)) w) (hr: ∀x∈s1++s2,x.rw=true) {c':Array Value} (hc:c.setIfInBounds off v=c'):
    SEffQ B (s1++⟨true,b,.cells c t (0,0)⟩::s2) (s1++⟨true,b,.cells c' t (0,0)⟩::s2) w (w.setCell ⟨b,off,none⟩ v):=by
  refine ⟨seff_set s hr hc,?_⟩
  have hb:=(s.mem ⟨true,b,.cells c t (0,0)⟩ zS).2
  rw [jgB hb]
structure SyC (P:Program) (B:Array Obj) (Q:ProC) where
  i:Nat
  main:Bool
  R:Nat→Q.S→Goroutine→Hp→Prop
  out:Nat→Goroutine→Prop
  idle: ∀{d:Nat} {s:Q.S} {g g':Goroutine} {h:Hp},g.status= .running→(∀w,stepG P main g w= .go g' w #[])→R d s g' h→R d s g h
  weak: ∀{d:Nat} {s:Q.S} {g:Goroutine} {h h':Hp},Weak B h h'→R d s g h'→R d s g h
  syn: ∀{d:Nat} {s:Q.S} {g:Goroutine} {h:Hp},g.status= .running→g.offers=none→
    (∀cl Shp F w,Q.Inv cl Shp F→F i=some s→Sat B (h++Shp) w→(∃n tm,w.heap[Q.r]?=some (.chan 0 #[] cl n n tm))→SOutC P B Q i d s h Shp cl F g w (fun d' o g' h'=>match o with|some s'=>R d' s' g' h'|none=>out d' g') (stepG P main g w))→R d s g h
def SyC.kid (P:Program) (B:Array Obj) (Q:ProC) (i:Nat):SyC P B Q where
  i:=i
  main:=false
  R:=CRunC P B Q i
  out:=fun d g=> ∃k,QuitsD P k d g
  idle:= .idle
  weak:= .weak
  syn:=fun hs ho st=> .sync _ hs ho st (fun _ _ _ _ h=>h) fun _ _ _ h=>h
def SyC.zero (P:Program) (B:Array Obj) (Q:ProC) (K:Goroutine→Hp→Prop):SyC P B Q where
  i:=0
  main:=true
  R:=fun d s g h=>MRunC P B K (some ⟨Q,d,s⟩) g h
  out:=fun _ _=>False
  idle:=fun {d s g g' h} hs e n=> .step (fun g'' h''=>g''=g'∧h''=h) ⟨hs,fun w sw=>⟨g',w,#[],h,e w,Stp.refl sw,rfl,rfl⟩⟩ fun _ _ ⟨e1,e2⟩=>by subst e1;subst e2;exact n
  weak:= .weak
  syn:=fun hs _ st=> .sync _ hs st (fun _ _ _ _ h=>h) fun _ _ _ h=>h
def SyC.im {P:Program} {B:Array Obj} {Q:ProC} (Y:SyC P B Q) (d:Nat) (s:Q.S) (h:Hp):Im P:=⟨Y.main,fun g=>Y.R d s g h,Y.idle⟩
section
variable {gn may:Prop}
theorem jiM (hS:Sh a.block) (hg:gn→0<D):jd1 Sh gn may D (evR a):=⟨⟨rfl,hS,hg⟩,trivial⟩
theorem fineC_W (hS:Sh a.block) (hg:gn→0<D):jd1 Sh gn may D (evW a):=⟨⟨rfl,hS,hg⟩,trivial⟩
theorem jhN (hS:Sh a.block) (hg:gn→0<D):jd1 Sh gn may D (jrL a):=⟨⟨rfl,hS,hg⟩,⟨rfl,hS,hg⟩,trivial⟩
theorem jrB (hS:Sh a.block):jd1 Sh gn may D (evS a):=⟨trivial,⟨rfl,hS,fun _=>by simp [jeR]⟩,⟨rfl,hS,fun _=>by simp [jeR]⟩,trivial,trivial⟩
end
theorem chkG_big:((List.range 4200).all fun v=>[0,1].all fun wt=>chkG v wt)=true:=by kernel_rfl
theorem jc1 (v wt:Nat) (hv:v<4200) (hw:wt≤1):WgB v wt:=by
  have h1:=gX.1 chkG_big v (gT.2 hv)
  have c:=gX.1 h1 wt (by rcases (by omega:wt=0∨wt=1) with rfl|rfl<;>simp)
  unfold chkG at c
  simp only [gK,beq_iff_eq,GR] at c
  obtain ⟨⟨⟨⟨⟨⟨⟨c1,c2⟩,c3⟩,c4⟩,c5⟩,c6⟩,c7⟩,c8⟩:=c
  exact ⟨c1,c2,c3,c4,c5,c6,fun h=>c7.resolve_left h,c8⟩
section
variable {C:Crew} {w:World} {X:Hp} {v v' wt wt' ws ws':Nat}
theorem Crew.sat (s:Sat B (X++[C.wgC v wt ws]) w):(w.cell? ⟨C.wg,0,none⟩=some (.int .u64 ((v*4294967296+wt:Nat):Int))∧w.frozen? ⟨C.wg,0,none⟩=false)∧(w.cell? ⟨C.wg,1,none⟩=some (.int .u32 ws)∧w.frozen? ⟨C.wg,1,none⟩=false):=
  ⟨jny (s1:=[]) (s2:=[]) (c:= #[.int .u64 ((v*4294967296+wt:Nat):Int),.int .u32 ws]) s rfl,jny (s1:=[]) (s2:=[]) (c:= #[.int .u64 ((v*4294967296+wt:Nat):Int),.int .u32 ws]) s rfl⟩
theorem Crew.set0 (s:Sat B (X++[C.wgC v wt ws]) w) {n:Int} (hn:n=((v'*4294967296+wt':Nat):Int)):SEffQ B [C.wgC v wt ws] [C.wgC v' wt' ws] w (w.setCell ⟨C.wg,0,none⟩ (.int .u64 n)):=by
  subst hn
  exact jlu (s1:=[]) (s2:=[]) (c:= #[.int .u64 ((v*4294967296+wt:Nat):Int),.int .u32 ws]) s zS rfl
theorem Crew.set1 (s:Sat B (X++[C.wgC v wt ws]) w) {n:Int} (hn:n=(ws':Int)):SEffQ B [C.wgC v wt ws] [C.wgC v wt ws'] w (w.setCell ⟨C.wg,1,none⟩ (.int .u32 n)):=by
  subst hn
  exact jlu (s1:=[]) (s2:=[]) (c:= #[.int .u64 ((v*4294967296+wt:Nat):Int),.int .u32 ws]) s zS rfl
theorem Crew.keep:SEffQ B [C.wgC v wt ws] [C.wgC v wt ws] w w:=SEffQ.refl (by simp [Crew.wgC])
theorem Crew.rw {F:Nat→Option SC} (h:C.Inv cl Shp F): ∀c∈Shp,c.rw=true:=by
  obtain ⟨v,wt,ws,N,r,p,got,c,rfl,I⟩:=h
  intro c hc
  simp only [gO,vP,or_false] at hc
  subst hc
  rfl
end
section
variable {P:Program} {C:Crew} {Y:SyC P B C.pro} {s:SC} {kn kk r y:Nat} {p:WS}
variable {g:Option (Nat×Bool)} {e:Array Value→Sem Value}
theorem jeX {s:Q.S}: ∀s',some s=some s'→jkn Q s s':=fun s' e=>by obtain rfl:=gF e;exact ⟨id,id,id⟩
theorem jhQ (E:Ext P f (fun _=>do mark .disable;Pure.pure Extern.Race.none_)) (ho:ops[i]?=some ⟨d,.call ⟨.value (.func f),#[],ats⟩,ty,pos,af,g⟩) (hw:Wt ops l g) [PutV l d (.tuple #[]) l']
    (n:(Y.im (D+1) s h).R (Gr (bF f0) l' ds (.inRegion ops rest::k) cs)):(Y.im D s h).R (Gr (bF f0) l ds (.inRegion ops (i::rest)::k) cs):=by
  refine Y.syn rfl rfl fun cl Shp F w inv hF sat _=>?_
  rw [jd9 (vs:=[]) (args:=[]) (evs:=[⟨.mark .disable,false,true⟩]) E ho hw (jfU _ #[]) (jgm _ #[] _) zS];exact .act (SEffQ.refl (Crew.rw inv)) (.inl rfl) rfl ⟨trivial,trivial⟩ jeX (fun e=>by cases e) (by rw [jkd hF];exact inv) n
theorem jni (E:Ext P f (fun _=>do mark .enable;Pure.pure Extern.Race.none_)) (ho:ops[i]?=some ⟨d,.call ⟨.value (.func f),#[],ats⟩,ty,pos,af,g⟩) (hw:Wt ops l g) [PutV l d (.tuple #[]) l']
    (n:(Y.im D s h).R (Gr (bF f0) l' ds (.inRegion ops rest::k) cs)):(Y.im (D+1) s h).R (Gr (bF f0) l ds (.inRegion ops (i::rest)::k) cs):=by
  refine Y.syn rfl rfl fun cl Shp F w inv hF sat _=>?_
  rw [jd9 (vs:=[]) (args:=[]) (evs:=[⟨.mark .enable,false,true⟩]) E ho hw (jfU _ #[]) (jgm _ #[] _) zS];exact .act (SEffQ.refl (Crew.rw inv)) (.inl rfl) rfl ⟨trivial,trivial⟩ jeX (fun e=>by cases e) (by rw [jkd hF];exact inv) n
theorem jfc (hr:b.roundOf=none) (E:Ext P f (fun _=>do mark .enable;Pure.pure Extern.Race.none_)) (n:(Y.im D s h).R (jeV b l ds todo cs)):(Y.im (D+1) s h).R (jeV b l (dcall f #[]::ds) todo cs):=by
  refine Y.syn rfl rfl fun cl Shp F w inv hF sat _=>?_
  obtain ⟨fn,h1,h2,h3,h4,h5⟩:=E.eq
  have hst:stepG P Y.main (jeV b l (dcall f #[]::ds) todo cs) w= .go (jeV b l ds todo cs) w [(⟨.mark .enable,false,true⟩:Event)].toArray:=by
    have:=stepG_unwind_entry (P:=P) (main:=Y.main) (b:=b) (a:=⟨l.toArray,dcall f #[]::ds⟩) (cs:=cs) (w:=w) (todo:=todo) (ds:=ds) (args:= #[]) rfl h1 h2 h3 h4 h5 (v:= .tuple #[]) (w':=w) (evs:= #[⟨.mark .enable,false,true⟩])
      (jfU _ #[]) (jgm _ #[] _) zS
    simpa [jeV,Fr,Frame.at,hr] using this
  rw [hst];exact .act (SEffQ.refl (Crew.rw inv)) (.inl rfl) rfl ⟨trivial,trivial⟩ jeX (fun e=>by cases e) (by rw [jkd hF];exact inv) n
theorem joz (E:Ext P f e) (ho:ops[i]?=some ⟨d,.call ⟨.value (.func f),args.toArray,ats⟩,ty,pos,af,g⟩) (hw:Wt ops l g) [ea:ArgsV l args vs]
    (st: ∀cl v wt ws N r p got c F w,CI C cl v wt ws N r p got c F→F Y.i=some s→Sat B (h++[C.wgC v wt ws]) w→
      ∃(u:Value) (w':World) (evs:List Event) (v' wt' ws' N' r':Nat) (p':WS) (got':List Nat) (c':Bool) (o:Option SC),((e vs.toArray).run P w= .ok u w'∧
        (e vs.toArray).events P w #[⟨.mark (.extern f),false,true⟩]= #[⟨.mark (.extern f),false,true⟩]++evs.toArray)∧(∀x∈evs,x.sync=true∧ ∀g,x.loc≠ .mark (.extern g))∧
        SEffQ B [C.wgC v wt ws] [C.wgC v' wt' ws'] w w'∧jd1 (fun b=>b=C.wg) s.gone (s.say∧ ∀j x,F j=some x→x.say→j=Y.i) D evs∧(∀s',o=some s'→jkn C.pro s s')∧(o=none→s.gone∧h=[])∧
        CI C cl v' wt' ws' N' r' p' got' c' (ja6 F Y.i o)∧
        (match o with
          |some s'=>(Y.im (evs.foldl jeR D) s' h).R (Gr (bF f0) (put l d u) ds (.inRegion ops rest::k) cs)
          |none=>Y.out (evs.foldl jeR D) (Gr (bF f0) (put l d u) ds (.inRegion ops rest::k) cs))):
    (Y.im D s h).R (Gr (bF f0) l ds (.inRegion ops (i::rest)::k) cs):=by
  refine Y.syn rfl rfl fun cl Shp F w inv hF sat _=>?_
  obtain ⟨v,wt,ws,N,r,p,got,c,rfl,I⟩:=inv
  obtain ⟨u,w',evs,v',wt',ws',N',r',p',got',c',o,⟨h1,h2⟩,h3,h4,h5,h6,h7,h8,h9⟩:=st cl v wt ws N r p got c F w I hF sat
  haveI:PutV l d u (put l d u):=⟨rfl⟩
  rw [jd9 E ho hw h1 h2 h3];have hsh:(fun b=> ∃c∈[C.wgC v wt ws],c.b=b)=(fun b=>b=C.wg):=by
    funext b
    simp [Crew.wgC,eq_comm]
  exact .act h4 (.inr (jla E ho)) rfl (by rw [hsh];exact h5) h6 h7 ⟨v',wt',ws',N',r',p',got',c',rfl,h8⟩ (by cases o<;>exact h9)
theorem jpG {t1 t2 te bb off:Nat} {x:Operand} (ho:ops[i]?=some ⟨d,.convert t1 t2 x,ty,pos,af,g⟩) (hw:Wt ops l g) [ex:OpV l x (.pointer (some ⟨bb,off,none⟩))] (hb:bb=C.wg∧(off=0∨off=1)) (h1:P.underlying t1=some (.pointer te)) (h2:P.underlying t2=some .unsafePointer)
    (h3:(P.info? te).map (fun i=>decide (i.size=0))=some false) [PutV l d (.pointer (some ⟨bb,off,none⟩)) l'] (n:(Y.im D s h).R (Gr b l' ds (.inRegion ops rest::k) cs)):(Y.im D s h).R (Gr b l ds (.inRegion ops (i::rest)::k) cs):=by
  refine Y.syn rfl rfl fun cl Shp F w inv hF sat _=>?_
  have inv0:=inv
  obtain ⟨v,wt,ws,N,r,p,got,c,rfl,I⟩:=inv
  have hc: ∃u,w.cell? ⟨bb,off,none⟩=some u:=by
    obtain ⟨⟨c3,_⟩,⟨c4,_⟩⟩:=Crew.sat sat
    obtain ⟨rfl,rfl|rfl⟩:=hb
    · exact ⟨_,c3⟩
    · exact ⟨_,c4⟩
  obtain ⟨u,hc⟩:=hc
  have hp:put l d (.pointer (some ⟨bb,off,none⟩))=l':=PutV.eq
  rw [step_val (v:= .pointer (some ⟨bb,off,none⟩)) ho hw zS (by simp [execOp,ex.eq,Sem.run_bind,run_convert_to_unsafe h1 h2 h3 hc]) (by simp [execOp,ex.eq,Sem.events_bind,run_convert_to_unsafe h1 h2 h3 hc,events_convert_to_unsafe h1 h2 h3 hc]),hp];exact .act (l:=[]) Crew.keep (.inl rfl) rfl zq jeX (fun e=>by cases e) (by rw [jkd hF];exact inv0) n
theorem y_bye (hz:C.hit kn=true→z=true) (E:Ext P f (Extern.Race.marked .releaseMerge)) (ho:ops[i]?=some ⟨d,.call ⟨.value (.func f),args.toArray,ats⟩,ty,pos,af,g⟩) (hw:Wt ops l g) [ea:ArgsV l args [.pointer (some ⟨C.wg,0,none⟩)]] [PutV l d (.tuple #[]) l']
    (hit:(Y.im 0 (.w kn .bye z) []).R (Gr (bF f0) l' ds (.inRegion ops rest::k) cs)):(Y.im 0 (.w kn .on z) h).R (Gr (bF f0) l ds (.inRegion ops (i::rest)::k) cs):=by
  refine Y.syn rfl rfl fun cl Shp F w inv hF sat _=>?_
  obtain ⟨v,wt,ws,N,r,p,got,c,rfl,I⟩:=inv
  rw [jd9 (evs:=[⟨.mark (.releaseMerge ⟨C.wg,0,none⟩),false,true⟩]) E ho hw (je0 _ _) (je5 _ _ _) zS];have h0:=I.ne0 hF
  have hG:gW F p Y.i= .on:=gW_w F p h0 hF
  refine .bye (Q:=C.pro) (s':= .w kn .bye z) rfl rfl ⟨id,trivial,id,id⟩ h0 (fun j x hx hh=>?_) ⟨v,wt,ws,N,r,p,got,c,rfl,?_⟩ hit
  · cases x with
    |c q=>
      cases q with
      |done=>
        obtain ⟨rfl,_⟩:=I.fc _ _ hx
        have:=I.none_left hx h0 (fun e=>by rw [←e,hF] at hx;cases hx)
        rw [hF] at this;cases this
      |_=>exact hh
    |_=>exact hh
  · exact I.goW hF .bye (I.wg.byes (I.lt hF) h0 hG) (gL _) zS (fun _=>hz)
theorem y_wgSub (hD:0<D) (hM:C.n≤4100) (hz:C.hit kn=true→z=true) (E:Ext P f (Extern.Atomic.update (Op.intArith .add) .u64 true)) (ho:ops[i]?=some ⟨d,.call ⟨.value (.func f),args.toArray,ats⟩,ty,pos,af,g⟩) (hw:Wt ops l g) [ea:ArgsV l args [.pointer (some ⟨C.wg,0,none⟩),.int .u64 18446744069414584320]]
    (less: ∀v wt,v<4200→wt≤1→(v≠0∨wt=0)→Y.out D (Gr (bF f0) (put l d (.int .u64 (wgN v wt))) ds (.inRegion ops rest::k) cs)) (last:(Y.im D (.w kn .l1 z) []).R (Gr (bF f0) (put l d (.int .u64 (wgN 0 1))) ds (.inRegion ops rest::k) cs)):
    (Y.im D (.w kn .bye z) []).R (Gr (bF f0) l ds (.inRegion ops (i::rest)::k) cs):=by
  refine joz E ho hw fun cl v wt ws N r p got c F w I hF sat=>?_
  have h0:=I.ne0 hF
  have hG:gW F p Y.i= .bye:=gW_w F p h0 hF
  have hsm:=I.wg.small
  have hvb:=I.vb
  have hp1:p.cV≤1:=by cases p<;>simp [WS.cV]
  obtain ⟨⟨hc,hz'⟩,_⟩:=Crew.sat sat
  by_cases hl:v≠1∨wt=0
  · obtain ⟨hv0,W⟩:=I.wg.less (I.lt hF) h0 hG hl
    have hb:=(jc1 v wt zO hsm.1).dec zO
    exact ⟨_,_,jrL _,v-1,wt,ws,N,r,p,got,c,none,jnf (P:=P) (kk:= .u64) hc hz' hb,jkj,Crew.set0 sat rfl,jhN rfl (fun _=>hD),fun s' e=>by (cases e),fun _=>⟨trivial,rfl⟩,I.leaves hF zS W zO,less (v-1) wt zO hsm.1 zO⟩
  · obtain rfl:v=1:=by omega
    obtain ⟨rfl,W⟩:=I.wg.last (I.lt hF) h0 hG zO
    have hb:=(jc1 1 1 zO zO).dec zO
    exact ⟨_,_,jrL _,0,1,ws,N,r,p,got,c,some (.w kn .l1 z),jnf (P:=P) (kk:= .u64) hc hz' hb,jkj,Crew.set0 sat rfl,jhN rfl (fun _=>hD),fun s' e=>by (obtain rfl:=gF e;exact ⟨id,id,id⟩),fun e=>by (cases e),I.goW hF .l1 W zO zS (fun _=>hz),last⟩
theorem jk7 (hD:0<D) (hz:C.hit kn=true→z=true) (E:Ext P f (Extern.Atomic.loadT (.int .u64))) (ho:ops[i]?=some ⟨d,.call ⟨.value (.func f),args.toArray,ats⟩,ty,pos,af,g⟩) (hw:Wt ops l g) [ea:ArgsV l args [.pointer (some ⟨C.wg,0,none⟩)]]
    (hit:(Y.im D (.w kn .l2 z) []).R (Gr (bF f0) (put l d (.int .u64 (wgN 0 1))) ds (.inRegion ops rest::k) cs)):(Y.im D (.w kn .l1 z) []).R (Gr (bF f0) l ds (.inRegion ops (i::rest)::k) cs):=by
  refine joz E ho hw fun cl v wt ws N r p got c F w I hF sat=>?_
  have h0:=I.ne0 hF
  obtain ⟨⟨hc,hz'⟩,_⟩:=Crew.sat sat
  obtain ⟨rfl,rfl,W⟩:=I.wg.lastLoad (I.lt hF) h0 (gW_w F p h0 hF)
  exact ⟨_,_,evR _,0,1,ws,N,r,p,got,c,some (.w kn .l2 z),jhH hc,jli,Crew.keep,jiM rfl (fun _=>hD),fun s' e=>by (obtain rfl:=gF e;exact ⟨id,id,id⟩),fun e=>by (cases e),I.goW hF .l2 W zO zS (fun _=>hz),hit⟩
theorem jkb (hD:0<D) (hz:C.hit kn=true→z=true) (E:Ext P f Extern.Atomic.storeT) (ho:ops[i]?=some ⟨d,.call ⟨.value (.func f),args.toArray,ats⟩,ty,pos,af,g⟩) (hw:Wt ops l g) [ea:ArgsV l args [.pointer (some ⟨C.wg,0,none⟩),.int .u64 0]]
    (hit:(Y.im D (.w kn .l3 z) []).R (Gr (bF f0) (put l d (.tuple #[])) ds (.inRegion ops rest::k) cs)):(Y.im D (.w kn .l2 z) []).R (Gr (bF f0) l ds (.inRegion ops (i::rest)::k) cs):=by
  refine joz E ho hw fun cl v wt ws N r p got c F w I hF sat=>?_
  have h0:=I.ne0 hF
  obtain ⟨⟨hc,hz'⟩,_⟩:=Crew.sat sat
  obtain ⟨rfl,W⟩:=I.wg.lastStore (I.lt hF) h0 (gW_w F p h0 hF)
  exact ⟨_,_,evW _,0,0,ws,N,r,p,got,c,some (.w kn .l3 z),jp0 (kk:= .u64) (n:=0) hc hz',sync_W,Crew.set0 sat rfl,fineC_W rfl (fun _=>hD),fun s' e=>by (obtain rfl:=gF e;exact ⟨id,id,id⟩),fun e=>by (cases e),I.goW hF .l3 W zO zS (fun _=>hz),hit⟩
theorem jk6 (E:Ext P f Extern.Sync.semrelease) (ho:ops[i]?=some ⟨d,.call ⟨.value (.func f),args.toArray,ats⟩,ty,pos,af,g⟩) (hw:Wt ops l g) [ea:ArgsV l args (.pointer (some ⟨C.wg,1,none⟩)::va)]
    (hit:Y.out D (Gr (bF f0) (put l d (.tuple #[])) ds (.inRegion ops rest::k) cs)):(Y.im D (.w kn .l3 z) []).R (Gr (bF f0) l ds (.inRegion ops (i::rest)::k) cs):=by
  refine joz E ho hw fun cl v wt ws N r p got c F w I hF sat=>?_
  have h0:=I.ne0 hF
  obtain ⟨_,hc,hz'⟩:=Crew.sat sat
  obtain ⟨rfl,W⟩:=I.wg.lastWake (I.lt hF) h0 (gW_w F p h0 hF)
  exact ⟨_,_,evS _,v,wt,1,N,r,p,got,c,none,sem_give (vs:=va) (q:=1) hc hz' zA,sync_S,Crew.set1 sat rfl,jrB rfl,fun s' e=>by (cases e),fun _=>⟨trivial,rfl⟩,I.leaves hF zS W (gL _),hit⟩
theorem y_main (h0:Y.i=0) (E:Ext P f e) (ho:ops[i]?=some ⟨d,.call ⟨.value (.func f),args.toArray,ats⟩,ty,pos,af,g⟩) (hw:Wt ops l g) [ea:ArgsV l args vs]
    (st: ∀v wt ws N w X (G:Nat→WS),WgInv v wt ws N G→G 0=p→v+r≤C.n+p.cV→Sat B (X++[C.wgC v wt ws]) w→
      ∃(u:Value) (w':World) (evs:List Event) (v' wt' ws':Nat) (p':WS),((e vs.toArray).run P w= .ok u w'∧
        (e vs.toArray).events P w #[⟨.mark (.extern f),false,true⟩]= #[⟨.mark (.extern f),false,true⟩]++evs.toArray)∧(∀x∈evs,x.sync=true∧ ∀g,x.loc≠ .mark (.extern g))∧
        SEffQ B [C.wgC v wt ws] [C.wgC v' wt' ws'] w w'∧jd1 (fun b=>b=C.wg) False True D evs∧WgInv v' wt' ws' N (jdj G 0 p')∧v'+p.cV≤v+p'.cV∧
        (Y.im (evs.foldl jeR D) (.m r p' got false) h).R (Gr (bF f0) (put l d u) ds (.inRegion ops rest::k) cs)):
    (Y.im D (.m r p got false) h).R (Gr (bF f0) l ds (.inRegion ops (i::rest)::k) cs):=by
  refine joz E ho hw fun cl v wt ws N r' p' got' c F w I hF sat=>?_
  rw [h0] at hF⊢
  obtain ⟨p0,e0,e1,_⟩:=I.f0
  rw [hF] at e0
  obtain ⟨rfl,rfl,rfl,rfl⟩:r=r'∧p=p0∧got=got'∧false=c:=by
    have:=gF e0
    injection this with e1 e2 e3 e4
    exact ⟨e1,e2,e3,e4⟩
  obtain rfl:=e1 rfl
  obtain ⟨u,w',evs,v',wt',ws',p',r1,r3,r4,r5,r6,r7,r8⟩:=st v wt ws N w h _ I.wg rfl I.vb sat
  refine ⟨u,w',evs,v',wt',ws',N,r,p',got,false,some (.m r p' got false),r1,r3,r4,jcM (fun _=>id) (fun e=>e) (fun _=>⟨rfl,fun j x hx hs=>?_⟩) _ _ r5,fun s' e=>by (obtain rfl:=gF e;exact ⟨id,id,id⟩),fun e=>by (cases e),I.main p' r6 r7,r8⟩
  cases x with
  |m r1 p1 g1 c1=>exact gw fun hj=>I.fm j hj _ _ _ _ hx
  |w k1 g1 z1=>exact hs.elim
  |c q=>have:=(I.fc _ _ hx).2;cases this
theorem y_wgAdd (h0:Y.i=0) (hM:C.n≤4100) (E:Ext P f (Extern.Atomic.update (Op.intArith .add) .u64 true)) (ho:ops[i]?=some ⟨d,.call ⟨.value (.func f),args.toArray,ats⟩,ty,pos,af,g⟩) (hw:Wt ops l g) [ea:ArgsV l args [.pointer (some ⟨C.wg,0,none⟩),.int .u64 4294967296]]
    (hit: ∀v,0<v→v<4200→(Y.im D (.m r .adds got false) h).R (Gr (bF f0) (put l d (.int .u64 (wgN v 0))) ds (.inRegion ops rest::k) cs)):(Y.im D (.m r .idle got false) h).R (Gr (bF f0) l ds (.inRegion ops (i::rest)::k) cs):=by
  refine y_main h0 E ho hw fun v wt ws N w X G I hG hv sat=>?_
  simp only [WS.cV] at hv
  obtain ⟨⟨hc,hz⟩,_⟩:=Crew.sat sat
  obtain ⟨rfl,W⟩:=I.adds hG
  exact ⟨_,_,jrL _,v+1,0,ws,.adds,jnf hc hz (jc1 v 0 zO zO).inc,jkj,Crew.set0 sat rfl,jhN rfl (fun h=>h.elim),W,by simp [WS.cV],hit (v+1) zO zO⟩
theorem y_said {mk:Addr→Mark} (hmk:mk= .read∨mk= .write) (h0:Y.i=0) (E:Ext P f (Extern.Race.marked mk)) (ho:ops[i]?=some ⟨d,.call ⟨.value (.func f),args.toArray,ats⟩,ty,pos,af,g⟩) (hw:Wt ops l g) [ea:ArgsV l args [.pointer (some ⟨C.wg,1,none⟩)]]
    (hit:(Y.im D (.m r p got false) h).R (Gr (bF f0) (put l d (.tuple #[])) ds (.inRegion ops rest::k) cs)):(Y.im D (.m r p got false) h).R (Gr (bF f0) l ds (.inRegion ops (i::rest)::k) cs):=by
  refine y_main h0 E ho hw fun v wt ws N w X G I hG hv sat=>?_
  refine ⟨.tuple #[],w,[⟨.mark (mk ⟨C.wg,1,none⟩),false,true⟩],v,wt,ws,p,⟨je0 _ _,je5 _ _ _⟩,?_,Crew.keep,?_,by rw [jfm _ _ _ hG];exact I,gL _,?_⟩
  · rcases hmk with rfl|rfl<;>simp
  · rcases hmk with rfl|rfl<;>exact ⟨⟨trivial,rfl,id⟩,trivial⟩
  · rcases hmk with rfl|rfl<;>exact hit
theorem y_clo (E:Ext P f e) (ho:ops[i]?=some ⟨d,.call ⟨.value (.func f),args.toArray,ats⟩,ty,pos,af,g⟩) (hw:Wt ops l g) [ea:ArgsV l args vs]
    (st: ∀v wt ws N w X (G:Nat→WS),WgInv v wt ws N G→G 0=p→v≤C.n+p.cV→Sat B (X++[C.wgC v wt ws]) w→
      ∃(u:Value) (w':World) (evs:List Event) (v' wt' ws':Nat) (p':WS),((e vs.toArray).run P w= .ok u w'∧
        (e vs.toArray).events P w #[⟨.mark (.extern f),false,true⟩]= #[⟨.mark (.extern f),false,true⟩]++evs.toArray)∧(∀x∈evs,x.sync=true∧ ∀g,x.loc≠ .mark (.extern g))∧
        SEffQ B [C.wgC v wt ws] [C.wgC v' wt' ws'] w w'∧jd1 (fun b=>b=C.wg) False True D evs∧WgInv v' wt' ws' N (jdj G 0 p')∧v'+p.cV≤v+p'.cV∧((SC.c p').heir→(SC.c p).heir)∧
        (Y.im (evs.foldl jeR D) (.c p') h).R (Gr (bF f0) (put l d u) ds (.inRegion ops rest::k) cs)):
    (Y.im D (.c p) h).R (Gr (bF f0) l ds (.inRegion ops (i::rest)::k) cs):=by
  refine joz E ho hw fun cl v wt ws N r' p' got' c F w I hF sat=>?_
  obtain ⟨rfl,rfl⟩:=I.fc _ _ hF
  have hr:=I.rc rfl
  subst hr
  obtain ⟨u,w',evs,v',wt',ws',p',r1,r3,r4,r5,r6,r7,r9,r8⟩:=st v wt ws N w h _ I.wg rfl I.vb sat
  refine ⟨u,w',evs,v',wt',ws',N,0,p',got',true,some (.c p'),r1,r3,r4,jcM (fun _=>id) (fun e=>e) (fun _=>⟨trivial,fun j x hx hs=>?_⟩) _ _ r5,fun s' e=>by (obtain rfl:=gF e;exact ⟨id,r9,id⟩),fun e=>by (cases e),I.closer hF p' r6 r7,r8⟩
  cases x with
  |m r1 p1 g1 c1=>
    by_cases hj:j=0
    · subst hj
      obtain ⟨p0,e0,_⟩:=I.f0
      rw [hx] at e0
      have:=gF e0
      injection this with e1 e2 e3 e4
      subst e4
      cases hs
    · exact absurd hx (I.fm j hj _ _ _ _)
  |w k1 g1 z1=>exact hs.elim
  |c q=>exact I.fu _ _ _ _ hx hF
theorem y_saidC {mk:Addr→Mark} (hmk:mk= .read∨mk= .write) (E:Ext P f (Extern.Race.marked mk)) (ho:ops[i]?=some ⟨d,.call ⟨.value (.func f),args.toArray,ats⟩,ty,pos,af,g⟩) (hw:Wt ops l g) [ea:ArgsV l args [.pointer (some ⟨C.wg,1,none⟩)]]
    (hit:(Y.im D (.c p) h).R (Gr (bF f0) (put l d (.tuple #[])) ds (.inRegion ops rest::k) cs)):(Y.im D (.c p) h).R (Gr (bF f0) l ds (.inRegion ops (i::rest)::k) cs):=by
  refine y_clo E ho hw fun v wt ws N w X G I hG hv sat=>?_
  refine ⟨.tuple #[],w,[⟨.mark (mk ⟨C.wg,1,none⟩),false,true⟩],v,wt,ws,p,⟨je0 _ _,je5 _ _ _⟩,?_,Crew.keep,?_,by rw [jfm _ _ _ hG];exact I,gL _,id,?_⟩
  · rcases hmk with rfl|rfl<;>simp
  · rcases hmk with rfl|rfl<;>exact ⟨⟨trivial,rfl,id⟩,trivial⟩
  · rcases hmk with rfl|rfl<;>exact hit
theorem y_wgLoad (hM:C.n≤4100) (E:Ext P f (Extern.Atomic.loadT (.int .u64))) (ho:ops[i]?=some ⟨d,.call ⟨.value (.func f),args.toArray,ats⟩,ty,pos,af,g⟩) (hw:Wt ops l g) [ea:ArgsV l args [.pointer (some ⟨C.wg,0,none⟩)]]
    (none:(Y.im D (.c .woke) h).R (Gr (bF f0) (put l d (.int .u64 (wgN 0 0))) ds (.inRegion ops rest::k) cs)) (some: ∀v,0<v→v<4200→(Y.im D (.c (.tries v kk)) h).R (Gr (bF f0) (put l d (.int .u64 (wgN v 0))) ds (.inRegion ops rest::k) cs)):
    (Y.im D (.c (.look kk)) h).R (Gr (bF f0) l ds (.inRegion ops (i::rest)::k) cs):=by
  refine y_clo E ho hw fun v wt ws N w X G I hG hv sat=>?_
  simp only [WS.cV] at hv
  obtain ⟨⟨hc,hz⟩,_⟩:=Crew.sat sat
  by_cases hv0:v=0
  · obtain ⟨rfl,W⟩:=I.look0 hG hv0
    subst hv0
    exact ⟨_,_,evR _,0,0,ws,.woke,jhH hc,jli,Crew.keep,jiM rfl (fun h=>h.elim),W,by simp [WS.cV],id,none⟩
  · obtain ⟨rfl,W⟩:=I.loadSome hG zO
    exact ⟨_,_,evR _,v,0,ws,.tries v kk,jhH hc,jli,Crew.keep,jiM rfl (fun h=>h.elim),W,by simp [WS.cV],id,some v zO zO⟩
theorem y_wgCas (E:Ext P f (Extern.Atomic.casT (.int .u64))) (ho:ops[i]?=some ⟨d,.call ⟨.value (.func f),args.toArray,ats⟩,ty,pos,af,g⟩) (hw:Wt ops l g) [ea:ArgsV l args [.pointer (some ⟨C.wg,0,none⟩),.int .u64 (wgN y 0),.int .u64 (wgN y 1)]]
    (hit:(Y.im D (.c .parked) h).R (Gr (bF f0) (put l d (.bool true)) ds (.inRegion ops rest::k) cs)) (miss:0<kk→(Y.im D (.c (.look (kk-1))) h).R (Gr (bF f0) (put l d (.bool false)) ds (.inRegion ops rest::k) cs)):
    (Y.im D (.c (.tries y kk)) h).R (Gr (bF f0) l ds (.inRegion ops (i::rest)::k) cs):=by
  refine y_clo E ho hw fun v wt ws N w X G I hG hv sat=>?_
  obtain ⟨⟨hc,hz⟩,_⟩:=Crew.sat sat
  by_cases hx:v=y
  · subst hx
    obtain ⟨rfl,W⟩:=I.casYes hG
    exact ⟨_,_,jrL _,v,1,ws,.parked,cas_hit hc hz,jkj,Crew.set0 sat rfl,jhN rfl (fun h=>h.elim),W,by simp [WS.cV],id,hit⟩
  · obtain ⟨hk,rfl,W⟩:=I.casNo hG hx
    exact ⟨_,_,evR _,v,0,ws,.look (kk-1),cas_miss hc hz (by unfold wgN;omega),jli,Crew.keep,jiM rfl (fun h=>h.elim),W,by simp [WS.cV],id,miss hk⟩
theorem y_wgPark (E:Ext P f Extern.Sync.semacquire) (ho:ops[i]?=some ⟨d,.call ⟨.value (.func f),args.toArray,ats⟩,ty,pos,af,g⟩) (hw:Wt ops l g) [ea:ArgsV l args (.pointer (some ⟨C.wg,1,none⟩)::va)]
    (hit:(Y.im D (.c .woke) h).R (Gr (bF f0) (put l d (.tuple #[])) ds (.inRegion ops rest::k) cs)):(Y.im D (.c .parked) h).R (Gr (bF f0) l ds (.inRegion ops (i::rest)::k) cs):=by
  refine Y.syn rfl rfl fun cl Shp F w inv hF sat _=>?_
  obtain ⟨v,wt,ws,N,r',p,got,c,rfl,I⟩:=inv
  obtain ⟨_,hc,hz⟩:=Crew.sat sat
  obtain ⟨rfl,rfl⟩:=I.fc _ _ hF
  cases ws with
  |zero=>
    rw [jmE E ho hw (sem_wait hc)];exact .block (I.ne0c hF) ⟨v,wt,rfl⟩
  |succ ws=>
    haveI:PutV l d (.tuple #[]) (put l d (.tuple #[])):=⟨rfl⟩
    obtain ⟨r1,r2⟩:=sem_take (P:=P) (vs:=va) (es:= #[⟨.mark (.extern f),false,true⟩]) hc hz zO
    rw [jd9 (evs:=evS ⟨C.wg,1,none⟩) E ho hw r1 r2 sync_S];obtain ⟨rfl,W⟩:=I.wg.passes rfl
    exact .act (o:=some (.c .woke)) (Shp':=[C.wgC v wt 0]) (Crew.set1 sat zO) (.inr (jla E ho)) rfl (jrB ⟨_,gk,rfl⟩) (fun s' e=>by obtain rfl:=gF e;exact ⟨id,id,id⟩) (fun e=>by cases e) ⟨v,wt,0,N,r',.woke,got,true,rfl,I.closer hF .woke W (by simp [WS.cV])⟩ hit
theorem y_wgEnd (E:Ext P f (Extern.Atomic.loadT (.int .u64))) (ho:ops[i]?=some ⟨d,.call ⟨.value (.func f),args.toArray,ats⟩,ty,pos,af,g⟩) (hw:Wt ops l g) [ea:ArgsV l args [.pointer (some ⟨C.wg,0,none⟩)]]
    (hit:(Y.im D (.c .woke) h).R (Gr (bF f0) (put l d (.int .u64 (wgN 0 0))) ds (.inRegion ops rest::k) cs)):(Y.im D (.c .woke) h).R (Gr (bF f0) l ds (.inRegion ops (i::rest)::k) cs):=by
  refine y_clo E ho hw fun v wt ws N w X G I hG hv sat=>?_
  obtain ⟨⟨hc,hz⟩,_⟩:=Crew.sat sat
  obtain ⟨rfl,rfl,_⟩:=I.ends hG
  exact ⟨_,_,evR _,0,0,ws,.woke,jhH hc,jli,Crew.keep,jiM rfl (fun h=>h.elim),by rw [jfm _ _ _ hG];exact I,by simp [WS.cV],id,hit⟩
theorem y_join (E:Ext P f (Extern.Race.marked .acquire)) (ho:ops[i]?=some ⟨d,.call ⟨.value (.func f),args.toArray,ats⟩,ty,pos,af,g⟩) (hw:Wt ops l g) [ea:ArgsV l args [.pointer (some ⟨C.wg,0,none⟩)]] [PutV l d (.tuple #[]) l']
    (hit:(Y.im 0 (.c .done) h).R (Gr (bF f0) l' ds (.inRegion ops rest::k) cs)):(Y.im 0 (.c .woke) h).R (Gr (bF f0) l ds (.inRegion ops (i::rest)::k) cs):=by
  refine Y.syn rfl rfl fun cl Shp F w inv hF sat _=>?_
  obtain ⟨v,wt,ws,N,r',p,got,c,rfl,I⟩:=inv
  obtain ⟨rfl,rfl⟩:=I.fc _ _ hF
  rw [jd9 (evs:=[⟨.mark (.acquire ⟨C.wg,0,none⟩),false,true⟩]) E ho hw (je0 _ _) (je5 _ _ _) zS];obtain ⟨_,_,W⟩:=I.wg.ends rfl
  exact .join (Q:=C.pro) (s':= .c .done) rfl rfl ⟨id,id⟩ ⟨v,wt,ws,N,r',.done,got,true,rfl,I.closer hF .done W (by simp [WS.cV])⟩ hit
end
section
theorem jpW {α:Type} (f:α→Nat) (G:Nat→α):tot f G 1=f (G 0):=by
  have:=jgz (f:=f) (G:=G) (a:=G 0) (i:=0) (n:=1) zO
  simp [tot]
end
section
end
section
end
section
variable {P:Program} {C:Crew} {kn r:Nat} {i0:Nat}
variable {h h' hc hr hp:Hp} {c x:Operand} {first cap:Array Value}
theorem y_send (ho:ops[i]?=some ⟨none,.send c x,ty,pos,af,none⟩) [ec:OpV l c (.chan (some C.ch))] [ex:OpV l x v] (hh:C.hit kn=true) (hm:C.PL kn v hp)
    (n:((SyC.kid P B C.pro i0).im 0 (.w kn .on true) hr).R (Gr b l ds (.inRegion ops rest::k) cs)):((SyC.kid P B C.pro i0).im 0 (.w kn .on false) (hr++hp)).R (Gr b l ds (.inRegion ops (i::rest)::k) cs):=by
  refine CRunC.send (Q:=C.pro) (s':= .w kn .on true) (v:=v) (z:= .tuple #[]) rfl ⟨id,id,id⟩ (fun w _=>?_) ⟨kn,rfl,rfl,hh,hm⟩ (by rw [jic ho];exact n)
  exact joJ ho rfl (fun c=>by simp) (by simp only [execOp,ec.eq,ex.eq];exact Mute.pure _) false w
theorem jox (ho:ops[i]?=some ⟨none,.go ⟨.value x,#[],ats⟩,ty,pos,af,none⟩) [ex:OpV l x (.func (.func f) first cap)] (hr:r+1≤C.n) (k1:Weak B h h') (k2:Weak B h hc) (ap: ∀w,Sat B h w→ApH h' hc)
    (kid: ∀j,j≠0→((SyC.kid P B C.pro j).im 0 (.w (C.n-(r+1)) .on false) hc).R (kid0 P {target:= .fn (.func f) cap,args:=first++ #[]}))
    (n:((SyC.zero P B C.pro K).im 0 (.m r .idle got false) h').R (Gr b l ds (.inRegion ops rest::k) cs)):((SyC.zero P B C.pro K).im 0 (.m (r+1) .adds got false) h).R (Gr b l ds (.inRegion ops (i::rest)::k) cs):=by
  refine MRunC.spawn (Q:=C.pro) (h':=h') (hc:=hc) (.m r .idle got false) (.w (C.n-(r+1)) .on false) rfl rfl (fun w _=>jg7 ho w) k1 k2 ap ⟨fun e=>e,fun e=>e⟩ ⟨rfl,fun e=>e⟩ (fun cl Shp F j hj inv h0 hn=>?_) kid n
  obtain ⟨v,wt,ws,N,r',p,got',c',rfl,I⟩:=inv
  obtain ⟨p0,e0,e1,_⟩:=I.f0
  rw [h0] at e0
  have:=gF e0
  injection this with q1 q2 q3 q4
  subst q1 q2 q3 q4
  obtain rfl:=e1 rfl
  obtain ⟨N',I'⟩:=I.start hj hn zO
  exact ⟨v,wt,ws,N',r,.idle,got,false,rfl,I'⟩
theorem jmw (ho:ops[i]?=some ⟨none,.go ⟨.value x,#[],ats⟩,ty,pos,af,none⟩) [ex:OpV l x (.func (.func f) first cap)] (k1:Weak B h h') (k2:Weak B h hc) (ap: ∀w,Sat B h w→ApH h' hc)
    (kid: ∀j,j≠0→((SyC.kid P B C.pro j).im 0 (.c (.look C.n)) hc).R (kid0 P {target:= .fn (.func f) cap,args:=first++ #[]}))
    (n:((SyC.zero P B C.pro K).im 0 (.m 0 .idle got true) h').R (Gr b l ds (.inRegion ops rest::k) cs)):((SyC.zero P B C.pro K).im 0 (.m 0 .idle got false) h).R (Gr b l ds (.inRegion ops (i::rest)::k) cs):=by
  refine MRunC.spawn (Q:=C.pro) (h':=h') (hc:=hc) (.m 0 .idle got true) (.c (.look C.n)) rfl rfl (fun w _=>jg7 ho w) k1 k2 ap ⟨fun e=>e,fun e=>e⟩ ⟨rfl,fun e=>e⟩ (fun cl Shp F j hj inv h0 hn=>?_) kid n
  obtain ⟨v,wt,ws,N,r',p,got',c',rfl,I⟩:=inv
  obtain ⟨p0,e0,e1,_⟩:=I.f0
  rw [h0] at e0
  have:=gF e0
  injection this with q1 q2 q3 q4
  subst q1 q2 q3 q4
  obtain rfl:=e1 rfl
  obtain ⟨N',I'⟩:=I.startC (kk:=C.n) (by have:=I.vb;simp only [WS.cV] at this;omega) hj hn
  exact ⟨v,wt,ws,N',0,.look C.n,got,true,rfl,I'⟩
theorem Crew.start0 (C:Crew):C.pro.Inv false [C.wgC 0 0 0] (fun j=>if j=0 then some (.m C.n .idle [] false) else none):=by
  have nil: ∀j s,j≠0→(fun j=>if j=0 then some (SC.m C.n .idle [] false) else none:Nat→Option SC) j≠some s:=fun j s hj e=>by rw [show (fun j=>if j=0 then some (SC.m C.n .idle [] false) else none:Nat→Option SC) j=none from if_neg hj] at e;cases e
  have nilw: ∀j k g z,(fun j=>if j=0 then some (SC.m C.n .idle [] false) else none:Nat→Option SC) j≠some (.w k g z):=fun j k g z e=>by
    by_cases h:j=0
    · subst h;cases e
    · exact nil j _ h e
  have nilc: ∀j q,(fun j=>if j=0 then some (SC.m C.n .idle [] false) else none:Nat→Option SC) j≠some (.c q):=fun j q e=>by
    by_cases h:j=0
    · subst h;cases e
    · exact nil j _ h e
  refine ⟨0,0,0,1,C.n,.idle,[],false,rfl,⟨.idle,rfl,fun _=>rfl,fun e=>by cases e⟩,fun j hj r p g c=>nil j _ hj,fun j q e=>absurd e (nilc j q),fun e=>(by cases e),fun j j' q q' e=>absurd e (nilc j q),fun j hj=>if_neg zO,?_,fun j k g z e=>absurd e (nilw j k g z),fun j j' k g z g' z' e=>absurd e (nilw j k g z),fun k hk=>by omega,List.nodup_nil,fun k hk=>(by cases hk),by simp,gL _,fun e=>(by cases e),fun e=>by cases e⟩
  refine ⟨by omega,?_,?_,fun j hj=>?_⟩
  · simp [jgx,jpW,gW,WS.cV]
  · simp [jgx,jpW,gW,jb5,WS.cV,WS.c1,WS.c2,WS.c3]
  · simp [gW,hj,WS.kid]
theorem joy {g:Goroutine} (n:((SyC.zero P B C.pro K).im 0 (.m C.n .idle [] false) h).R g):MRunC P B K none g (h++[C.wgC 0 0 0]++[⟨true,C.ch,.chan 0 #[] false 0 0 false⟩]):=
  MRunC.phase C.pro (.m C.n .idle [] false) (by simp [Crew.wgC]) (fun e=>e) C.start0 n
theorem y_close (hk:b.kind≠ .early) (ho:ops[i]?=some ⟨d,.call ⟨.builtin .close,#[c],ats⟩,ty,pos,af,none⟩) [ec:OpV l c (.chan (some C.ch))]
    (n: ∃q,QuitsD P q 0 (Gr b (put l d (.tuple #[])) ds (.inRegion ops rest::k) cs)):((SyC.kid P B C.pro i0).im 0 (.c .done) []).R (Gr b l ds (.inRegion ops (i::rest)::k) cs):=by
  refine (SyC.kid P B C.pro i0).syn rfl rfl fun cl Shp F w inv hF sat ⟨nn,tm,hch⟩=>?_
  obtain ⟨v,wt,ws,N,r',p,got,c',rfl,I⟩:=inv
  have hF':F i0=some (.c .done):=hF
  obtain ⟨rfl,rfl⟩:=I.fc _ _ hF'
  have h0:=I.ne0c hF'
  obtain rfl:=I.open h0 hF'
  have hch':w.heap[C.ch]?=some (.chan 0 #[] false nn nn tm):=hch
  have hst:stepG P false (Gr b l ds (.inRegion ops (i::rest)::k) cs) w= .go (Gr b (put l d (.tuple #[])) ds (.inRegion ops rest::k) cs) {w with heap:=w.heap.setIfInBounds C.ch (.chan 0 #[] true nn nn tm)} #[⟨.obj C.ch,false,true⟩,⟨.obj C.ch,true,true⟩]:=by
    rw [jeW ho rfl (fun c=>by simp)];have hfin:=Fr.finish b l ds ops i rest k (.tuple #[]) ho
    have e1:(execOp (ev l) ⟨d,.call ⟨.builtin .close,#[c],ats⟩,ty,pos,af,none⟩).run P w= .ok (.value (.tuple #[])) {w with heap:=w.heap.setIfInBounds C.ch (.chan 0 #[] true nn nn tm)}:=by
      simp [execOp,resolve,invoke,builtin,ec.eq,run_close_open ats ty hch']
    have e2:(execOp (ev l) ⟨d,.call ⟨.builtin .close,#[c],ats⟩,ty,pos,af,none⟩).events P w #[]= #[⟨.obj C.ch,false,true⟩,⟨.obj C.ch,true,true⟩]:=by
      simp [execOp,resolve,invoke,builtin,ec.eq,run_close_open ats ty hch',events_close_open ats ty hch']
    unfold Gr
    rw [←hfin];have hk':(b.kind==CallKind.early)=false:=by simpa using hk
    simp [stepG.apply,e1,e2,GStep.after,seen,G,Fr,hk]
  show SOutC P B C.pro i0 0 _ [] _ false F _ w _ (stepG P false _ w)
  rw [hst];exact .close rfl rfl h0 rfl (by simp [mayWake,Gr,Fr,G,Goroutine.frame,ho]) hch ⟨trivial,rfl⟩ (fun e=>e) (fun j x hj hji hx=>by rw [I.none_left hF' hj hji] at hx;cases hx) ⟨v,wt,ws,N,r',.done,got,true,rfl,I.closes hF'⟩ n
theorem jmG {o:Oper} {of:Option (Array CommCase×CommShape)} (ho:ops[i]?=some o) (hw:Region.wanted o (yielded ops l.toArray)=true) (hd: ∀c,o.op≠ .defer c) (main:Bool) (w:World):
    stepG P main {Gr b l ds (.inRegion ops (i::rest)::k) cs with offers:=of} w=stepG.apply P true (Fr b l ds (.inRegion ops (i::rest)::k)) cs none (execOp (ev l) o) w:=by
  rw [←jeW ho hw hd main w];rfl
theorem jpF {t dir elem:Nat} {cd:ChanDir} {z:Value} (ho:ops[i]?=some ⟨d,.recv t c true,ty,pos,af,none⟩) [ec:OpV l c (.chan (some C.ch))] (hu:P.underlying t=some (.chan cd elem)) (hz:Mute P (zeroValue elem) z)
    (n: ∀kn v hp,C.hit kn=true→kn<C.n→kn∉got→C.PL kn v hp→((SyC.zero P B C.pro K).im 0 (.m 0 .idle (got++[kn]) true) (h++hp)).R (Gr b (put l d (.tuple #[v,.bool true])) ds (.inRegion ops rest::k) cs))
    (fin:got.Nodup→(∀kn,kn∈got↔kn<C.n∧C.hit kn=true)→MRunC P B K none (Gr b (put l d (.tuple #[z,.bool false])) ds (.inRegion ops rest::k) cs) h):
    ((SyC.zero P B C.pro K).im 0 (.m 0 .idle got true) h).R (Gr b l ds (.inRegion ops (i::rest)::k) cs):=by
  have key: ∀{cl v wt ws N r' p got' c'} {F:Nat→Option SC},CI C cl v wt ws N r' p got' c' F→F 0=some (.m 0 .idle got true)→CI C cl v wt ws N 0 p got true F:=fun {cl v wt ws N r' p got' c'} {F} I hF=>by
    obtain ⟨p0,e0,_⟩:=I.f0
    rw [hF] at e0
    have:=gF e0
    injection this with q1 q2 q3 q4
    subst q1 q3 q4
    exact I
  refine MRunC.recv (Q:=C.pro) (z:=z) rfl (fun o w _=>?_) (fun Shp F inv hF=>?_) (fun v hp x x'=>match x with| .w kn _ _=> .m 0 .idle (got++[kn]) true|_=> .m 0 .idle got true) (fun v hp x x' Shp F j hm hj inv hF hx=>?_) (fun v hp x x' hm hex=>?_) (fun hex=>?_)
  · rw [jmG ho rfl (fun c=>by simp)];have hx:Mute P (execOp (ev l) ⟨d,.recv t c true,ty,pos,af,none⟩) (.comm #[rcase C.ch z] true (.recv true)):=fun w=>by
      obtain ⟨z1,z2⟩:=hz w
      simp [execOp,underlying,hu,ec.eq,z1,z2,rcase]
    obtain ⟨e2,e3⟩:=hx w
    simp [stepG.apply,e2,e3,GStep.after,Gr,G,seen,Crew.pro]
  · obtain ⟨v,wt,ws,N,r',p,got',c',rfl,I⟩:=inv
    exact (key I hF).live
  · obtain ⟨kn,rfl,rfl,hh,hP⟩:=hm
    obtain ⟨v1,wt,ws,N,r',p,got',c',rfl,I⟩:=inv
    have I:=key I hF
    obtain ⟨_,I'⟩:=I.sends hF hx hh
    exact ⟨id,id,⟨v1,wt,ws,N,0,p,got++[kn],true,rfl,I'⟩⟩
  · obtain ⟨kn,rfl,rfl,hh,hP⟩:=hm
    obtain ⟨Shp,F,j,hj,⟨v1,wt,ws,N,r',p,got',c',rfl,I⟩,hF,hx⟩:=hex
    have I:=key I hF
    obtain ⟨hk,_⟩:=I.sends hF hx hh
    have:=n kn v hp hh (by simpa using (I.lbl _ _ _ _ hx).1) hk hP
    rw [←jic ho] at this
    exact this
  · obtain ⟨Shp,F,⟨v1,wt,ws,N,r',p,got',c',rfl,I⟩,hF⟩:=hex
    have I:=key I hF
    rw [jic ho];exact fin I.came.1 I.came.2
end
section
variable {P:Program}
def Md.kidC (P:Program) (B:Array Obj) (Q:ProC) (i:Nat) (s:Q.S) (hg: ¬Q.gone s):Md P B where
  main:=false
  R:=fun K g h=>(∀g' h',K g' h'→CRunC P B Q i 0 s g' h')→CRunC P B Q i 0 s g h
  stop:=fun k c=>c _ _ k
  step:=fun st n c=> .step _ hg st fun g' h' x=>n g' h' x c
  bind:=fun r n c=>r fun g' h' k=>n g' h' k c
  weak:=fun k n c=> .weak k (n c)
theorem Md.kidC.to {s:Q.S} {hg: ¬Q.gone s} {g:Goroutine} (r:(Md.kidC P B Q i s hg).R (CRunC P B Q i 0 s) g h):((SyC.kid P B Q i).im 0 s h).R g:=r fun _ _ x=>x
theorem Md.kidC.of {s:Q.S} {hg: ¬Q.gone s} {g:Goroutine} (r:((SyC.kid P B Q i).im 0 s h).R g):(Md.kidC P B Q i s hg).R (CRunC P B Q i 0 s) g h:=(Md.kidC P B Q i s hg).stop (K:=CRunC P B Q i 0 s) r
def Md.midC (P:Program) (B:Array Obj) (Q:ProC) (s:Q.S) (K0:Goroutine→Hp→Prop):Md P B where
  main:=true
  R:=fun K g h=>(∀g' h',K g' h'→MRunC P B K0 (some ⟨Q,0,s⟩) g' h')→MRunC P B K0 (some ⟨Q,0,s⟩) g h
  stop:=fun k c=>c _ _ k
  step:=fun st n c=> .step _ st fun g' h' x=>n g' h' x c
  bind:=fun r n c=>r fun g' h' k=>n g' h' k c
  weak:=fun k n c=> .weak k (n c)
theorem Md.midC.to {s:Q.S} {g:Goroutine} (r:(Md.midC P B Q s K).R (MRunC P B K (some ⟨Q,0,s⟩)) g h):((SyC.zero P B Q K).im 0 s h).R g:=r fun _ _ x=>x
theorem Md.midC.of {s:Q.S} {g:Goroutine} (r:((SyC.zero P B Q K).im 0 s h).R g):(Md.midC P B Q s K).R (MRunC P B K (some ⟨Q,0,s⟩)) g h:=(Md.midC P B Q s K).stop (K:=MRunC P B K (some ⟨Q,0,s⟩)) r
theorem SyC.weaken {Y:SyC P B Q} {d:Nat} {s:Q.S} {h':Hp} {g:Goroutine} (k:Weak B h h') (n:(Y.im d s h').R g):(Y.im d s h).R g:=Y.weak k n
theorem jjQ {s:Q.S} {cap args:Array Value} {fn:Func} {al:List Value} (hg: ¬Q.gone s) (hcall:jbM P f=true) (hf:P.funcs[f]?=some fn) (hb:fn.body=some body) (hn:fn.ntmps=n) (ha:args++cap=al.toArray) (hl:al++List.replicate (n-al.length) undef=l)
    (t:((SyC.kid P B Q i).im 0 s h).R (Gr (bD f) l [] [.code body] [kidF P])):((SyC.kid P B Q i).im 0 s h).R (kid0 P {target:= .fn (.func f) cap,args:=args}):=by
  refine CRunC.step (fun g' h'=>g'=Gr (bD f) l [] [.code body] [kidF P]∧h'=h) hg ⟨rfl,fun w sw=>?_⟩ (fun g' h' ⟨e1,e2⟩=>by subst e1;subst e2;exact t)
  have hrd:=jfw (P:=P) (B:=B) (h:=h) hcall (args++cap)
  obtain ⟨h1,h2⟩:=hrd w sw
  have e:Frame.enter P f (args++cap) .deferred=Fr (bD f) l [] [.code body]:=by
    subst hl
    rw [ha];simp [Frame.enter,hf,hb,hn,Fr,bD,bF]
  refine ⟨_,w,seen P P.funcs.size ((callFunc f (args++cap)).events P w #[]),h,?_,{Stp.refl sw with evs:=fun e he=>h2 e (jct _ _ _ e he)},rfl,rfl⟩
  unfold Gr
  rw [←e];simp [kid0,G,stepG,unwind,callDeferred,invoke,h1,GStep.after,kidF]
end
section
variable {P:Program} {Y:SyC P B Q} {s:Q.S}
theorem jdZ {s:Q.S} [p:PutV l d v l'] (n:(Y.im D s h).R (Gr b l' ds k cs)):(Y.im D s h).R (Gr b (put l d v) ds k cs):=by rw [p.eq];exact n
end
section
variable {P:Program} {Y:SyC P B Q} {s:Q.S}
theorem jpH {c:Code} (I:Nat→Nat→Q.S→Hp→List Value→Prop) (n:Nat) (h0:I n D s h l) (round: ∀n D s h l,I n D s h l→(∀n' D' s' h' l',n'<n→I n' D' s' h' l'→(Y.im D' s' h').R (Gr b l' ds (.inLoop c::k) cs))→(Y.im D s h).R (Gr b l ds (.code c:: .inLoop c::k) cs)):
    (Y.im D s h).R (Gr b l ds (.code (.loop c)::k) cs):=by
  have key: ∀n D s h l,I n D s h l→(Y.im D s h).R (Gr b l ds (.inLoop c::k) cs):=by
    intro n
    induction n using Nat.strongRecOn with
    |_ n ih=>exact fun D s h l hi=>joc (round n D s h l hi fun n' D' s' h' l' hn hi'=>ih n' hn D' s' h' l' hi')
  exact i_loop (round n D s h l h0 fun n' D' s' h' l' _ hi=>key n' D' s' h' l' hi)
end
section
variable {P:Program} {Y:SyC P B Q} {s:Q.S}
end
end Go.Lo
namespace Go.Lo
theorem zL (h:A:=by unfold IntKind.wrap;simp [IntKind.bits,IntKind.signed];omega):A:=h
theorem zF (h:A:=by exact .inr ⟨rfl,SubH.sub⟩):A:=h
theorem zW (h:A:=by first|exact gM _ _|exact Gj (gM _ _) (gI _ _)):A:=h
end Go.Lo
namespace Go.Proofs
open Go.Lo
open Go.Conc (G)
theorem extMerge:Ext Tryz.prog 136 (Extern.Race.marked .releaseMerge):=⟨Tryz.f136,Tryz.func136,by kernel_rfl,by kernel_rfl,by kernel_rfl,by kernel_rfl⟩
theorem jgY:Ext Tryz.prog 137 (fun _=>do mark .disable;Pure.pure Extern.Race.none_):=⟨Tryz.f137,Tryz.func137,by kernel_rfl,by kernel_rfl,by kernel_rfl,by kernel_rfl⟩
theorem jcZ:Ext Tryz.prog 138 (fun _=>do mark .enable;Pure.pure Extern.Race.none_):=⟨Tryz.f138,Tryz.func138,by kernel_rfl,by kernel_rfl,by kernel_rfl,by kernel_rfl⟩
theorem jl9:Ext Tryz.prog 139 (fun _=>Pure.pure (.bool false)):=⟨Tryz.f139,Tryz.func139,by kernel_rfl,by kernel_rfl,by kernel_rfl,by kernel_rfl⟩
theorem extRead:Ext Tryz.prog 144 (Extern.Race.marked .read):=⟨Tryz.f144,Tryz.func144,by kernel_rfl,by kernel_rfl,by kernel_rfl,by kernel_rfl⟩
theorem extSemG:Ext Tryz.prog 148 Extern.Sync.semrelease:=⟨Tryz.f148,Tryz.func148,by kernel_rfl,by kernel_rfl,by kernel_rfl,by kernel_rfl⟩
theorem jjX:Ext Tryz.prog 149 (Extern.Race.marked .acquire):=⟨Tryz.f149,Tryz.func149,by kernel_rfl,by kernel_rfl,by kernel_rfl,by kernel_rfl⟩
theorem extWrite:Ext Tryz.prog 152 (Extern.Race.marked .write):=⟨Tryz.f152,Tryz.func152,by kernel_rfl,by kernel_rfl,by kernel_rfl,by kernel_rfl⟩
theorem extSemW:Ext Tryz.prog 153 Extern.Sync.semacquire:=⟨Tryz.f153,Tryz.func153,by kernel_rfl,by kernel_rfl,by kernel_rfl,by kernel_rfl⟩
theorem joi:Ext Tryz.prog 169 (Extern.Atomic.update (Op.intArith .add) .u64 true):=⟨Tryz.f169,Tryz.func169,by kernel_rfl,by kernel_rfl,by kernel_rfl,by kernel_rfl⟩
theorem jiO:Ext Tryz.prog 170 (Extern.Atomic.loadT (.int .u64)):=⟨Tryz.f170,Tryz.func170,by kernel_rfl,by kernel_rfl,by kernel_rfl,by kernel_rfl⟩
theorem jpl:Ext Tryz.prog 171 Extern.Atomic.storeT:=⟨Tryz.f171,Tryz.func171,by kernel_rfl,by kernel_rfl,by kernel_rfl,by kernel_rfl⟩
theorem extCas64:Ext Tryz.prog 172 (Extern.Atomic.casT (.int .u64)):=⟨Tryz.f172,Tryz.func172,by kernel_rfl,by kernel_rfl,by kernel_rfl,by kernel_rfl⟩
theorem uptrW: Tryz.prog.underlying 192=some (.pointer 164)∧ Tryz.prog.underlying 194=some .unsafePointer∧(Tryz.prog.info? 164).map (fun i=>decide (i.size=0))=some false:=⟨by kernel_rfl,by kernel_rfl,by kernel_rfl⟩
theorem joA: Tryz.prog.underlying 199=some (.pointer 162)∧ Tryz.prog.underlying 194=some .unsafePointer∧(Tryz.prog.info? 162).map (fun i=>decide (i.size=0))=some false:=⟨by kernel_rfl,by kernel_rfl,by kernel_rfl⟩
end Go.Proofs
namespace Go.Lo
open Go.Conc (G)
section
variable {P:Program} {m:Md P B} {S:Hp}
theorem run_anyT (hn:jaK ops=true) {w:Nat→List Nat} (hms: ∀i j,(ms.getD i 0).testBit j=true→ ∃x∈w i,x=j∨(x<i∧(ms.getD x 0).testBit j=true))
 {T:List Nat}:
    ∀(L:List Nat) (r:List (Nat×Kd)) (l:List Value) (h:Hp),(∀x,x∈L↔ ∃y∈r,y.1=x)→L.Nodup→(r.map (·.1)).Nodup→jcf ops ms r=true→jf4 P ops r=true→((∃x∈r,x.2= .read∨x.2= .call)→S.Sublist h)→jbS r=true→Resp w L→
      (∀x,x∉L→ ∀p∈w x,p∉L)→
      RegK m S ops r l h (fun l' h'=>m.R K (Gr b l' ds (.inRegion ops T::k) cs) h')→m.R K (Gr b l ds (.inRegion ops (L++T)::k) cs) h:=by
  intro L
  induction L with
  |nil=>
    intro r l h hL _ _ _ _ _ _ _ _ hk
    cases r with
    |nil=>exact hk
    |cons y r=>exact absurd ((hL y.1).2 ⟨y,gk,rfl⟩) zS
  |cons i L ih=>
    intro r l h hL hLn hnd hp hnw hS hro hresp hd hk
    obtain ⟨⟨i',ki⟩,hmr,rfl⟩:=(hL i).1 gk
    have hmk':=mask_done' hms hd i' hresp.1
    have hmk: ∀y∈r,(ms.getD i' 0).testBit y.1=false:=fun y hy=>hmk' y.1 ((hL y.1).2 ⟨y,hy,rfl⟩)
    obtain ⟨o',ho',t'⟩:=jgu hn (jfA hnw hmr) WeakR hp hmr hnd hmk hk
    refine jiq ho' (jcm hn ho').1 (fun e=>hS ⟨_,hmr,e⟩) (jde (fun l' h' x hkeep=>?_) t')
    have hmf: ∀y,y∈r.filter (fun x=>x.1 !=i')↔y∈r∧y.1≠i':=fun y=>by rw [gV];simp
    have hLn':=vS.1 hLn
    refine ih _ l' h' (fun z=>?_) hLn'.2 (Vc (Vs _ vx) hnd) (jcS _ hp) (gX.2 fun y hy=>gX.1 hnw y (gV.1 hy).1) (fun hex=>?_) (jb8 _ hro) hresp.2 (fun z hz p hpz hpL=>?_) x
    · constructor
      · intro hz
        obtain ⟨y,hy,e⟩:=(hL z).1 (gN _ hz)
        exact ⟨y,(hmf y).2 ⟨hy,fun e'=>hLn'.1 (by rw [←e',e];exact hz)⟩,e⟩
      · rintro ⟨y,hy,rfl⟩;obtain ⟨h1,h2⟩:=(hmf y).1 hy
        rcases gO.1 ((hL y.1).2 ⟨y,h1,rfl⟩) with e|e
        · exact absurd e h2
        · exact e
    · obtain ⟨y,hy,e⟩:=hex
      have hy':=(gV.1 hy).1
      refine hkeep (fun ek=>?_) (hS ⟨y,hy',e⟩)
      subst ek
      exact jgi hp hro hmr hmk y hy' e
    · by_cases ez:z=i'
      · subst ez;exact hresp.1 p hpz (gN _ hpL)
      · exact hd z (fun hm=>(gO.1 hm).elim ez hz) p hpz (gN _ hpL)
theorem jnE {w:Nat→List Nat} {C:List Nat}: ∀{A:List Nat},Resp w (A++C)→Resp w A∧Resp w C∧ ∀x∈A,∀p∈w x,p∉C
  |[],h=>⟨trivial,h,by simp⟩
  |a::A,⟨h1,h2⟩=>by
    obtain ⟨r1,r2,r3⟩:=jnE h2
    refine ⟨⟨fun p hp hm=>h1 p hp (show p∈(_::A)++C from GN _ hm),r1⟩,r2,fun x hx p hp hc=>?_⟩
    rcases gO.1 hx with rfl|hx
    · exact h1 p hp (show p∈(_::A)++C from GF _ hc)
    · exact r3 x hx p hp hc
theorem Resp.mono {w w':Nat→List Nat} (h: ∀x,∀p∈w' x,p∈w x): ∀{L:List Nat},Resp w L→Resp w' L
  |[],_=>trivial
  |_::_,⟨h1,h2⟩=>⟨fun p hp=>h1 p (h _ p hp),Resp.mono h h2⟩
def msL (ops:Array Oper) (s:Nat):List Nat:=(jdb ops [] ops.size).set s 0
def okL (P:Program) (ops:Array Oper) (s:Nat) (r:List (Nat×Kd)):Bool:=
  jaK ops&&jbS r&&jcf ops (msL ops s) r&&jf4 P ops r&&(r.all fun x=>decide (x.1<ops.size)&&x.1 !=s)&&decide (r.map (·.1)).Nodup&&((List.range ops.size).all fun i=>i==s||r.any (·.1==i))&&((List.range ops.size).all fun i=>!(jfl ops [] i).contains s)&&((List.range ops.size).all fun i=>i==s||((jdb ops [] ops.size).getD s 0).testBit i)&&decide (s<ops.size)
theorem jqk {id:Nat} (s:Nat) (r:List (Nat×Kd)) (r0:List Nat) (hm:(P.follows .mixedOrders||!Region.departs ops)=true)
    (hok0:(jjw ops [] (r0.map fun i=>(i,Kd.free))&&(List.range ops.size).all fun i=>r0.contains i)=true) (hok:okL P ops s r=true) (hS:S.Sublist h) (t:RegK m S ops r l h (fun l' h'=>m.R K (Gr b l' ds (.inRegion ops [s]::k) cs) h')):m.R K (Gr b l ds (.code (.region id ops true)::k) cs) h:=by
  refine jc3 fun t'=>?_;simp only [gK,gX,gT,List.contains_iff_mem] at hok0
  obtain ⟨h3,h4⟩:=hok0
  generalize hr:(r0.map fun i=>(i,Kd.free))=r1 at h3
  obtain ⟨t1,_,t3⟩:=jkh r1 [] h3 zS
  have hlt: ∀y∈r1,y.1<ops.size:=by
    have: ∀(r:List (Nat×Kd)),Topo ops r→ ∀y∈r,y.1<ops.size:=by
      intro r
      induction r with
      |nil=>intro _ y hy;simp at hy
      |cons z r ih=>
        intro ⟨⟨o,ho,_⟩,h5⟩ y hy
        rcases gO.1 hy with rfl|hy
        · exact (gH.1 ho).1
        · exact ih h5 y hy
    exact this r1 t1
  have hin: ∀x,x<ops.size→ ∃y∈r1,y.1=x:=fun x hx=>⟨(x,.free),by rw [←hr];exact gP.2 ⟨x,h4 x hx,rfl⟩,rfl⟩
  have hlen:r1.length≤ops.size:=by
    have:=Ga t3 (l₂:=List.range ops.size) fun x hx=>by
      obtain ⟨y,hy,rfl⟩:=gP.1 hx
      exact gT.2 (hlt y hy)
    simpa using this
  simp only [Region.schedule,hm,if_true]
  obtain ⟨g1,g2,g3⟩:=jru (ops:=ops) ops.size t' (Array.replicate ops.size false) r1 hlen zS (fun x hx=>by
    rw [gf,gR (by simpa using hx)];obtain ⟨y,hy,e⟩:=hin x hx
    simp only [Vm,GB,gx,false_iff]
    exact fun hh=>hh y hy e) t3 t1
  show m.R K (Gr b l ds (.inRegion ops (Region.linearise.go .any ops ops.size t' (Array.replicate ops.size false) [])::k) cs) h
  generalize Region.linearise.go .any ops ops.size t' (Array.replicate ops.size false) []=L at g1 g2 g3
  have hL: ∀x,x∈L↔x<ops.size:=fun x=>(g1 x).trans ⟨fun ⟨y,hy,e⟩=>e▸hlt y hy,fun hx=>hin x hx⟩
  simp only [okL,gK,gX,gT,VP,beq_iff_eq,decide_eq_true_eq,GR,bne_iff_ne,ne_eq,vO,List.contains_eq_mem,decide_eq_false_iff_not] at hok
  obtain ⟨⟨⟨⟨⟨⟨⟨⟨⟨a1,a2⟩,a3⟩,a4⟩,a5⟩,a6⟩,a7⟩,a8⟩,a9⟩,a10⟩:=hok
  obtain ⟨A,C,rfl⟩:=List.append_of_mem ((hL s).2 a10)
  obtain ⟨q1,q2,q3⟩:=jnE g3
  rw [List.nodup_append] at g2
  obtain ⟨n1,n2,n3⟩:=g2
  have hwbig: ∀x,ops.size≤x→jfl ops [] x=[]:=fun x hx=>by simp [jfl,vF hx]
  have hC:C=[]:=by
    have hdown: ∀x,x∉s::C→ ∀p∈jfl ops [] x,p∉s::C:=fun x hx p hp=>by
      by_cases hxs:x<ops.size
      · rcases gQ.1 ((hL x).2 hxs) with hxA|hxC
        · exact q3 x hxA p hp
        · exact absurd hxC hx
      · rw [hwbig x zO] at hp;cases hp
    have hmd:=mask_done' (jeg [] ops.size) hdown s q2.1
    cases C with
    |nil=>rfl
    |cons c C=>
      exfalso
      have hc:=hmd c zS
      have hcs:c≠s:=fun e=>by
        rw [vS] at n2
        exact n2.1 (by rw [e];simp)
      have hcl:c<ops.size:=(hL c).1 zS
      rcases a9 c hcl with e|e
      · exact hcs e
      · rw [hc] at e;cases e
  subst hC
  have hA: ∀x,x∈A↔x<ops.size∧x≠s:=fun x=>by
    constructor
    · intro hx
      exact ⟨(hL x).1 (GN _ hx),fun e=>n3 x hx s zS e⟩
    · rintro ⟨hx,hxs⟩;rcases gQ.1 ((hL x).2 hx) with hx|hx
      · exact hx
      · exact absurd (by simpa using hx) hxs
  refine run_anyT a1 (ms:=msL ops s) (w:=fun x=>if x=s then [] else jfl ops [] x) (fun i j hj=>?_) A r l h (fun x=>?_) n1 a6 a3 a4 (fun _=>hS) a2 (q1.mono fun x p hp=>?_) (fun x hx p hp=>?_) t
  · by_cases e:i=s
    · subst e
      rw [msL,gC,vo] at hj
      split at hj
      · split at hj<;>simp at hj
      · rename_i hne;exact absurd rfl hne
    · rw [msL,gC,vM (fun h=>e h.symm),←gC] at hj
      obtain ⟨x,hx,h1⟩:=jeg [] ops.size i j hj
      rw [if_neg e];refine ⟨x,hx,h1.imp (fun e=>e) fun ⟨h2,h5⟩=>⟨h2,?_⟩⟩
      have hxs:x≠s:=fun e2=>by
        by_cases hi:i<ops.size
        · exact a8 i hi (e2▸hx)
        · rw [hwbig i zO] at hx;cases hx
      rw [msL,gC,vM (fun h=>hxs h.symm),←gC];exact h5
  · rw [hA];constructor
    · rintro ⟨hx,hxs⟩;rcases a7 x hx with e|e
      · exact absurd e hxs
      · exact e
    · rintro ⟨y,hy,rfl⟩;exact a5 y hy
  · split at hp
    · cases hp
    · exact hp
  · split at hp
    · cases hp
    · rename_i hxs
      by_cases hxl:x<ops.size
      · exact absurd ((hA x).2 ⟨hxl,hxs⟩) hx
      · rw [hwbig x zO] at hp;cases hp
end
end Go.Lo
namespace Go.Lo
theorem mem_canB {D:List Cd} {w:Nat} {x:Bo} (hx:x∈jbu D w) {k:Nat} {v:Int} (e:xA x k=some v):v∈(dA D k).can:=(jfz.1 (jbq.1 hx).1).2.1 k v e
theorem jom {k:Nat} {v:Int}:0<jfG L k v↔ ∃x∈L,xA x k=some v:=by
  unfold jfG
  rw [List.countP_pos_iff];simp
theorem mem_canC {D:List Cd} {k:Nat} {v:Int}:v∈jnb D L k↔v∈(dA D k).can∧0<jfG L k v:=by
  unfold jnb
  rw [gV,jom];simp
theorem jjj {D:List Cd} {w k:Nat} {v:Int}:v∈jnb D (jbu D w) k↔ ∃x∈jbu D w,xA x k=some v:=by
  rw [mem_canC,jom];exact ⟨fun h=>h.2,fun ⟨x,hx,e⟩=>⟨mem_canB hx e,x,hx,e⟩⟩
theorem canS_sub {D:List Cd} {k:Nat}:(jnb D L k).length≤(dA D k).can.length:=GU _ _
end Go.Lo
namespace Go.Lo
open Go.Conc
section
variable {P:Program} {m:Md P B}
theorem jpY {fn:Func} {args:List Value} (hf:P.funcs[f]?=some fn) (hb:fn.body=some body) (hn:fn.ntmps=n) (hl:args++List.replicate (n-args.length) undef=l)
    (t:m.R K (Gr (bF f) l [] [.code body] []) h):m.R K (G (Frame.enter P f args.toArray .normal) []) h:=by
  have e:Frame.enter P f args.toArray .normal=Fr (bF f) l [] [.code body]:=by
    subst hl
    simp [Frame.enter,hf,hb,hn,Fr,bF]
  rw [e];exact t
theorem jku {K:Value→Hp→Prop} {fn:Func} {rs:List ResultVar} (hk:b.kind= .normal) (hf:P.funcs[b.fn]?=some fn) (hi:P.inits.idxOf? b.fn=none) (hr:fn.results=rs.toArray) [ResL P h l rs vs] [ResV vs v] (k:K v h):
    m.R (jnh P B K) (jeV b l [] todo []) h:=by
  refine m.stop ⟨rfl,v,k,fun w sw=>?_⟩
  obtain ⟨h1,h2⟩:=jlD (P:=P) (B:=B) (h:=h) (l:=l) (vs:=vs) (v:=v) hr w sw
  refine ⟨seen P b.fn ((results fn l.toArray).events P w #[]),?_,fun e he=>h2 e (jct _ _ _ e he)⟩
  simp [jeV,Fr,G,stepG,unwind,doReturn,hf,h1,hk,hi,GStep.after]
end
theorem jco {H:Type} {enc:TypeId×Value→H} {a:Assume} {C:Checked} {os:Os} {fn:Func} {s:ChangeSpec} {conds:List PathCond} {apart fresh handsOn again:Bool} {X:World→Array Value→Prop}
    (hX: ∀(w w':World) (args:Array Value),w.heap=w'.heap→X w args→X w' args)
    (own:ownKnob C.prog.godebug=none) (started:os.Started) (hfn:C.prog.funcs[f]?=some fn)
    (witness: ∃(w:World) (tape:Tape) (i:Input),w.os=os∧(w.forCall tape i).Shaped C.prog∧i.vars=[]∧Input.okWide C.prog (w.forCall tape i) .any w.heap.size f i∧
      ((s.pre enc C.prog fn conds apart (w.forCall tape i).memory i.args∧X (w.forCall tape i).memory i.args)∧sizedMet enc C.prog fn (OpenSpec.ofChange s) apart (w.forCall tape i).memory i.args)∧a.holds C.prog (lone (Frame.enter C.prog f i.args .normal) [] (w.forCall tape i)))
    (runs: ∀(W:World) (base:Nat) (args:Array Value) (ds gs:List (DataW H)) (jbi:List MemPlace),
      (∀(j:Nat) t v,fn.params[j]?=some t→args[j]?=some v→Value.okWide C.prog W .any base t v)→
      DataW.Whole enc C.prog fn.params.toList s.vars apart W args.toList ds gs jbi→X W args→
      ∃M last o w' t',runNT C.prog (M+1) (solo (G (Frame.enter C.prog f args .normal) []) W) #[]=(.ended o w',t')∧runN C.prog M (solo (G (Frame.enter C.prog f args .normal) []) W)= .next last∧
        step C.prog last= .ended o w'∧Conc.Good C.prog (fun v W'=>s.post enc C.prog fn apart fresh handsOn again W args v W') last o w' t'):
    ReturnsInLeavingWide a C os f .any (fun w args=>(s.pre enc C.prog fn conds apart w args∧X w args)∧sizedMet enc C.prog fn (OpenSpec.ofChange s) apart w args) (s.post enc C.prog fn apart fresh handsOn again):=by
  refine returnsInLeavingWide_of_good own started witness ?_
  intro w tape i _ _ _ hok hpre _
  obtain ⟨_,_,_,fn',hfn',_,_,_,_,hval⟩:=hok
  have e:fn'=fn:=gF (hfn'.symm.trans hfn)
  subst e
  obtain ⟨⟨⟨ds,gs,jbi,hw,_⟩,hx⟩,_⟩:=hpre
  have hw':=DataW.Whole.of_heap (w':=w.forCall tape i) (by rfl) hw
  obtain ⟨M,last,o,w',t',h1,h2,h3,h4⟩:=runs (w.forCall tape i) w.heap.size i.args ds gs jbi hval hw' (hX _ _ _ (by rfl) hx)
  exact ⟨M,last,o,w',t',h1,h2,h3,h4.mono fun v hp=>ChangeSpec.post_blind hp⟩
section
variable {H:Type} {enc:TypeId×Value→H} {P:Program} {w:World} {base:Nat} {sp:Nat→Bool} {held:Bool}
theorem je2 (e:w.cell? a=some v):Rd w.heap h a v:=by
  unfold World.cell? at e
  split at e
  · rename_i c t f hb
    split at e
    · cases e
    · rename_i hs
      exact Rd.base (by simpa using hs) hb e
  · cases e
def jlV (P:Program) (kd:IntKind):Nat→TypeId→Nat→Bool
  |0,_,_=>false
  |dd+1,t,k=>P.cellsOf t==k&&(match P.underlying t with
    |some (.int kk)=>kk==kd&&k==1
    |some (.struct fs)=>(List.range k).all fun i=>(List.range fs.size).any fun j=>match fs[j]? with
      |some f=>decide (f.offset≤i)&&decide (i<f.offset+P.cellsOf f.type)&&jlV P kd dd f.type (P.cellsOf f.type)
      |none=>false
    |_=>false)
theorem jpb {kd:IntKind} {dd k:Nat} (h:jlV P kd dd t k=true):P.cellsOf t=k:=by
  cases dd with
  |zero=>simp [jlV] at h
  |succ dd=>
    unfold jlV at h
    rw [gK] at h
    exact eq_of_beq h.1
theorem jjv {kd:IntKind}: ∀(dd:Nat) {t:TypeId} {k fuel:Nat} {cs:List Value} {x:DataW H×List MemPlace},jlV P kd dd t k=true→DataW.trod enc P w base sp held fuel t cs=some x→cs.length=k∧ ∀i,i<k→ ∃n,cs[i]?=some (.int kd n)∧(Lit.int kd n).wf=true
  |0,_,_,_,_,_,hB,_=>by simp [jlV] at hB
  |dd+1,t,k,fuel,cs,x,hB,h=>by
    unfold jlV at hB
    rw [gK] at hB
    obtain ⟨hc,hB⟩:=hB
    split at hB
    · rename_i kk hu
      simp only [gK,beq_iff_eq] at hB
      obtain ⟨rfl,rfl⟩:=hB
      obtain ⟨n,rfl,_,hw⟩:=DataW.trod_int hu h
      exact ⟨rfl,fun i hi=>⟨n,by rw [show i=0 by omega];rfl,hw⟩⟩
    · rename_i fs hu
      obtain ⟨xs,m,_,_,hl,hxl,hx⟩:=DataW.trod_struct hu h
      rw [beq_iff_eq] at hc
      refine ⟨hl.trans hc,fun i hi=>?_⟩
      obtain ⟨j,hj,hf⟩:=VP.1 (gX.1 hB i (gT.2 hi))
      split at hf
      · rename_i f hfj
        simp only [gK,decide_eq_true_eq] at hf
        obtain ⟨⟨h1,h2⟩,h3⟩:=hf
        have e:=hx j f hfj
        rw [gD (by rw [hxl];exact gT.1 hj)] at e
        obtain ⟨_,hall⟩:=jjv dd h3 e
        obtain ⟨n,hn,hw⟩:=hall (i-f.offset) zO
        rw [GZ,if_pos zO,vK,show f.offset+(i-f.offset)=i by omega] at hn
        exact ⟨n,hn,hw⟩
      · cases hf
    · cases hB
end
section
variable {P:Program}
theorem jq2 {args:Array Value} (r:(Md.starC P W.heap).R (jnh P W.heap fun v _=>v= .bool true) (G (Frame.enter P f args .normal) []) []):
    ∃M last o w' t',runNT P (M+1) (solo (G (Frame.enter P f args .normal) []) W) #[]=(.ended o w',t')∧runN P M (solo (G (Frame.enter P f args .normal) []) W)= .next last∧step P last= .ended o w'∧Conc.Good P (fun v w'=>v= .bool true∧RowKit.Below W.heap.size W w') last o w' t':=
  jpe r fun v h w hk s ho=>⟨hk,ho.1,ho.2.2,ho.2.1,s.size,fun k hk=>by
    rw [gR hk];exact s.base _ _ (gR hk)⟩
end
end Go.Lo
