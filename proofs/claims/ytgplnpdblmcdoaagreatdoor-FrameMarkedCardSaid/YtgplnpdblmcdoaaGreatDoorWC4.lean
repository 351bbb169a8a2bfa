/- A part of the proof of a law: my own separation logic over the machine, and walks of the program. Condition of each theorem: as its statement says. -/
import Derived.Test.YtgplnpdblmcdoaaGreatDoorWC3
import Derived.Conc.QuitsD
import Derived.Conc.AtomicLaws2
import Derived.Conc.ClockLaws
import Derived.Conc.MarkLaws
import Derived.Conc.DeferLaws
import Derived.Conc.SmallLaws
import Derived.Laws.LoneSync
set_option linter.all false
namespace Go.Lo
open Go.Conc
def ProS.Live (Q:ProS):Prop:= ∀Shp Pool F,Q.Inv Shp Pool F→(∃s,F 0=some s)→ ∃i s,F i=some s∧ ¬Q.Blk s Shp
structure MSt where
  Q:ProS
  d:Nat
  s:Q.S
inductive MRunS (P:Program) (B:Array Obj) (K:Goroutine→Hp→Prop):Option MSt→Goroutine→Hp→Prop
  |stop {g:Goroutine} {h:Hp} (k:K g h):MRunS P B K none g h
  |step {M:Option MSt} {g:Goroutine} {h:Hp} (K':Goroutine→Hp→Prop) (s:LStep P B true g h K') (c: ∀g' h',K' g' h'→MRunS P B K M g' h'):MRunS P B K M g h
  |weak {M:Option MSt} {g:Goroutine} {h h':Hp} (k:Weak B h h') (c:MRunS P B K M g h'):MRunS P B K M g h
  |phase {g:Goroutine} {h' Shp Pool:Hp} (Q:ProS) (s0:Q.S) (hrw: ∀c∈Shp,c.rw=true) (live:Q.Live) (inv:Q.Inv Shp Pool (fun j=>if j=0 then some s0 else none)) (c:MRunS P B K (some ⟨Q,0,s0⟩) g h'):MRunS P B K none g (h'++Pool++Shp)
  |sync {Q:ProS} {d:Nat} {s:Q.S} {g:Goroutine} {h:Hp} (K':Nat→Option Q.S→Goroutine→Hp→Prop) (hs:g.status= .running) (ho:g.offers=none)
      (st: ∀Shp Pool F w,Q.Inv Shp Pool F→F 0=some s→Sat B (h++Pool++Shp) w→SOut P B Q 0 d s h Shp Pool F g w K' (stepG P true g w))
      (c: ∀d' s' g' h',K' d' (some s') g' h'→MRunS P B K (some ⟨Q,d',s'⟩) g' h') (nn: ∀d' g' h',¬K' d' none g' h'):MRunS P B K (some ⟨Q,d,s⟩) g h
  |spawn {Q:ProS} {s:Q.S} {g g' child:Goroutine} {h h' hc:Hp} (s' sc:Q.S) (hs:g.status= .running) (hs':g'.status= .running) (e: ∀w,Sat B h w→stepG P true g w= .spawn g' child w #[]) (k1:Weak B h h') (k2:Weak B h hc) (ap: ∀w,Sat B h w→ApH h' hc)
      (hg: ¬Q.gone sc) (inv: ∀Shp Pool F j,j≠0→Q.Inv Shp Pool F→F 0=some s→F j=none→Q.Inv Shp Pool (updS (updS F 0 (some s')) j (some sc))) (kid: ∀j,j≠0→CRunS P B Q j 0 sc child hc) (c:MRunS P B K (some ⟨Q,0,s'⟩) g' h'):MRunS P B K (some ⟨Q,0,s⟩) g h
  |join {Q:ProS} {s:Q.S} {g g':Goroutine} {h:Hp} (hs:g.status= .running) (hs':g'.status= .running) (e: ∀w,stepG P true g w= .go g' w #[⟨.mark (.acquire Q.wa),false,true⟩])
      (fin: ∀Shp Pool F,Q.Inv Shp Pool F→F 0=some s→ ∀j,j≠0→F j=none) (c: ∀Shp Pool F,Q.Inv Shp Pool F→F 0=some s→MRunS P B K none g' (h++Pool)):MRunS P B K (some ⟨Q,0,s⟩) g h
theorem MRunS.bind {P:Program} {B:Array Obj} {K K':Goroutine→Hp→Prop} {M:Option MSt} {g:Goroutine} {h:Hp} (r:MRunS P B K' M g h) (c: ∀g' h',K' g' h'→MRunS P B K none g' h'):MRunS P B K M g h:=by
  induction r with
  |stop k=>exact c _ _ k
  |step K'' s _ ih=>exact .step K'' s ih
  |weak k _ ih=>exact .weak k ih
  |phase Q s0 hrw live inv _ ih=>exact .phase Q s0 hrw live inv ih
  |sync K' hs ho st _ nn ih=>exact .sync K' hs ho st ih nn
  |spawn s' sc hs hs' e k1 k2 ap hg inv kid _ ih=>exact .spawn s' sc hs hs' e k1 k2 ap hg inv kid ih
  |join hs hs' e fin _ ih=>exact .join hs hs' e fin ih
theorem MRunS.running {P:Program} {B:Array Obj} {K:Goroutine→Hp→Prop} (hK: ∀g h,K g h→g.status= .running) {M:Option MSt} {g:Goroutine} {h:Hp} (r:MRunS P B K M g h):g.status= .running:=by
  induction r with
  |stop k=>exact hK _ _ k
  |step K'' s _ _=>exact s.1
  |weak k _ ih=>exact ih
  |phase Q s0 hrw live inv _ ih=>exact ih
  |sync K' hs=>exact hs
  |spawn s' sc hs=>exact hs
  |join hs=>exact hs
def Md.starS (P:Program) (B:Array Obj):Md P B where
  main:=true
  R:=fun K g h=>MRunS P B K none g h
  stop:= .stop
  step:=fun s n=> .step _ s n
  bind:=fun r n=>r.bind n
  weak:=fun k n=> .weak k n
structure Cf0 (P:Program) (B:Array Obj) (W:World) (old:Nat→Prop) (la wa:Addr) (gs:Array Goroutine) (w:World) (t:Trace) (Hl:Nat→Hp) (Tf:Nat→TrU) (Dl:Nat→Nat):Prop where
  core:CoreS B W old [] [] la wa (fun i=>i≠0) (fun i=>i=0) gs w t Hl
  deaf: ∀i,Deaf t i=Dl i
  d0:Dl 0=0
  kids: ∀(i:Nat) g,i≠0→gs[i]?=some g→ ∃k,Tf i= .ofNat k∧QuitsD P k (Dl i) g∧Hl i=[]
  hk: ∀(i:Nat) (x:MemOp),t[i]?=some x→x.g≠0→t.counts i→Knows t 0 i
def FinS (P:Program) (B:Array Obj) (W:World) (K:Goroutine→Hp→Prop) (gs:Array Goroutine) (w:World) (sl:Option (Nat×Nat)) (t:Trace):Prop:=
  ∃(N:Nat) (g':Goroutine) (gs':Array Goroutine) (w':World) (sl':Option (Nat×Nat)) (t':Trace) (Hl':Nat→Hp) (Tf':Nat→TrU) (Dl':Nat→Nat) (old':Nat→Prop) (la' wa':Addr),
    runNT P N (crowd gs w sl) t=(.next (crowd gs' w' sl'),t')∧gs'[0]?=some g'∧K g' (Hl' 0)∧Cf0 P B W old' la' wa' gs' w' t' Hl' Tf' Dl'
theorem FinS.step {P:Program} {B:Array Obj} {W:World} {K:Goroutine→Hp→Prop} {gs gs1:Array Goroutine} {w w1:World} {sl sl1:Option (Nat×Nat)} {t u:Trace} (h:stepT P (crowd gs w sl)=(.next (crowd gs1 w1 sl1),u)) (f:FinS P B W K gs1 w1 sl1 (t++u)):FinS P B W K gs w sl t:=by
  obtain ⟨N,g',gs',w',sl',t',Hl',Tf',Dl',old',la',wa',hr,q⟩:=f
  exact ⟨N+1,g',gs',w',sl',t',Hl',Tf',Dl',old',la',wa',jgE h hr,q⟩
def cntR (gs:Array Goroutine):Nat→Nat
  |0=>0
  |n+1=>cntR gs n+if (gs[n]?).map (·.status)=some .running then 1 else 0
theorem jg4 {gs gs':Array Goroutine}: ∀n,(∀j,j<n→gs'[j]?=gs[j]?)→cntR gs' n=cntR gs n
  |0,_=>rfl
  |n+1,h=>by simp only [cntR,jg4 n fun j hj=>h j (by omega),h n (by omega)]
theorem jjg {gs gs':Array Goroutine} {i:Nat} {g g':Goroutine} (hi:gs[i]?=some g) (hr:g.status= .running) (hi':gs'[i]?=some g') (hr':g'.status≠ .running) (hn: ∀j,j≠i→gs'[j]?=gs[j]?): ∀n,i<n→cntR gs' n<cntR gs n
  |0,h=>by omega
  |n+1,h=>by
    simp only [cntR]
    by_cases e:i=n
    · subst e
      rw [jg4 i fun j hj=>hn j (by omega),hi,hi'];simp [hr,hr']
    · have:=jjg hi hr hi' hr' hn n (by omega)
      rw [hn n fun x=>e x.symm];omega
section
variable {P:Program} {B:Array Obj} {W:World} {K:Goroutine→Hp→Prop}
theorem CoreS.at {old:Nat→Prop} {Shp Pool:Hp} {la wa:Addr} {Gone Live:Nat→Prop} {gs:Array Goroutine} {w:World} {t:Trace} {Hl:Nat→Hp} (c:CoreS B W old Shp Pool la wa Gone Live gs w t Hl) (d:Nat):CoreS B W old Shp Pool la wa Gone Live gs (w.at d) t Hl:=
  ⟨fun i=>⟨(c.sat i).base,(c.sat i).mem,(c.sat i).apart⟩,⟨c.satS.base,c.satS.mem,c.satS.apart⟩,c.apart,c.apS,c.shB,c.oldB,c.tj,c.far,c.out,c.quiet⟩
theorem QuietS.awake' {g:Goroutine} (q:QuietS g):awake g:=by
  cases q with
  |runs h=>exact awake_of (.inl h)
  |ended h=>exact awake_of (.inr (.inr h))
  |blocks h ho=>exact awake_of (.inr (.inl h))
theorem CoreS.pick {old:Nat→Prop} {Shp Pool:Hp} {la wa:Addr} {Gone Live:Nat→Prop} {gs:Array Goroutine} {w:World} {t:Trace} {Hl:Nat→Hp} (c:CoreS B W old Shp Pool la wa Gone Live gs w t Hl) (sl:Option (Nat×Nat)) (some1: ∃(i:Nat) (g:Goroutine),gs[i]?=some g∧g.status= .running):
    ∃(i:Nat) (g:Goroutine) (d:Nat) (sl':Option (Nat×Nat)),gs[i]?=some g∧g.status= .running∧stepT P (crowd gs w sl)=runT P (crowd gs (w.at d) sl') i:=
  crowd_pick (fun g hg=>by
    obtain ⟨i,hi⟩:=Array.getElem?_of_mem hg
    exact (c.quiet i g hi).awake') some1
theorem jdQ {Q:ProS} {d:Nat} {s:Q.S} {g:Goroutine} {h:Hp} (live:Q.Live) (hg:g.status= .running)
    (own: ∀(old:Nat→Prop) (F:Nat→Option Q.S) (Shp Pool:Hp) (gs:Array Goroutine) (w:World) (sl:Option (Nat×Nat)) (t:Trace) (Hl:Nat→Hp) (Tf:Nat→TrU) (Dl:Nat→Nat),gs[0]?=some g→Hl 0=h→F 0=some s→Dl 0=d→CfS P B W Q old F Shp Pool gs w t Hl Tf Dl→
      (∃gs1 w1 u,runT P (crowd gs w sl) 0=(.next (crowd gs1 w1 sl),u)∧FinS P B W K gs1 w1 sl (t++u))∨
      (runT P (crowd gs w sl) 0=(.next (crowd (after P g {g with status:= .blocked} w gs 0) w sl),#[])∧g.offers=none∧Q.Blk s Shp)):
    ∀(old:Nat→Prop) (F:Nat→Option Q.S) (Shp Pool:Hp) (gs:Array Goroutine) (w:World) (sl:Option (Nat×Nat)) (t:Trace) (Hl:Nat→Hp) (Tf:Nat→TrU) (Dl:Nat→Nat) (g0:Goroutine),gs[0]?=some g0→(g0=g∨(g0={g with status:= .blocked}∧g.offers=none∧Q.Blk s Shp))→Hl 0=h→F 0=some s→Dl 0=d→CfS P B W Q old F Shp Pool gs w t Hl Tf Dl→FinS P B W K gs w sl t:=by
  have gen: ∀(m:Nat) (Tf:Nat→TrU),Acc (ULt m) Tf→ ∀(n:Nat) (old:Nat→Prop) (F:Nat→Option Q.S) (Shp Pool:Hp) (gs:Array Goroutine) (w:World) (sl:Option (Nat×Nat)) (t:Trace) (Hl:Nat→Hp) (Dl:Nat→Nat) (g0:Goroutine),gs.size=m→cntR gs gs.size=n→gs[0]?=some g0→(g0=g∨(g0={g with status:= .blocked}∧g.offers=none∧Q.Blk s Shp))→Hl 0=h→F 0=some s→Dl 0=d→CfS P B W Q old F Shp Pool gs w t Hl Tf Dl→FinS P B W K gs w sl t:=by
    intro m Tf acc
    induction acc with
    |intro Tf _ ihT=>
      intro n
      induction n using Nat.strongRecOn with
      |_ n ihn=>
        intro old F Shp Pool gs w sl t Hl Dl g0 hm hn h0 hg0 hh hF hD c
        have hpos:0<gs.size:=(Array.getElem?_eq_some_iff.1 h0).1
        have some1: ∃(i:Nat) (x:Goroutine),gs[i]?=some x∧x.status= .running:=by
          obtain ⟨i,s',hi,hb⟩:=live Shp Pool F c.inv ⟨s,hF⟩
          by_cases e:i=0
          · subst e
            rw [hF] at hi
            obtain rfl:=Option.some.inj hi
            rcases hg0 with rfl|⟨_,_,hb'⟩
            · exact ⟨0,g0,h0,hg⟩
            · exact absurd hb' hb
          · have hlt:i<gs.size:=Nat.lt_of_not_le fun hle=>by rw [c.dom i hle] at hi;cases hi
            have hx:gs[i]?=some gs[i]:=Array.getElem?_eq_getElem hlt
            have k:=c.kids i _ e hx
            rw [hi] at k
            refine ⟨i,_,hx,?_⟩
            generalize Tf i=T1 at k
            generalize Dl i=d1 at k
            generalize Hl i=h1 at k
            cases k with
            |run c=>exact c.running
            |wait c hb' ho b=>exact absurd b hb
        obtain ⟨i,x,dd,sl',hi,hx,hst⟩:=c.core.pick (P:=P) sl some1
        have c':CfS P B W Q old F Shp Pool gs (w.at dd) t Hl Tf Dl:=⟨c.core.at dd,c.inv,c.deaf,c.kids,c.dom⟩
        by_cases e:i=0
        · subst e
          rw [h0] at hi
          obtain rfl:=Option.some.inj hi
          obtain rfl:g0=g:=by
            rcases hg0 with h|⟨h,_⟩
            · exact h
            · rw [h] at hx;cases hx
          rcases own old F Shp Pool gs (w.at dd) sl' t Hl Tf Dl h0 hh hF hD c' with ⟨gs1,w1,u,r1,f⟩|⟨r1,ho,hb⟩
          · exact FinS.step (hst.trans r1) f
          · refine FinS.step (hst.trans r1) ?_
            rw [Array.append_empty];have hnw:(mayWake P g0&&({g0 with status:= .blocked}:Goroutine).status != .blocked&&({g0 with status:= .blocked}:Goroutine).status != .waiting)=false:=by simp
            have others: ∀j,j≠0→(after P g0 {g0 with status:= .blocked} (w.at dd) gs 0)[j]?=gs[j]?:=fun j hj=>by
              by_cases hlt:j<gs.size
              · have hy:gs[j]?=some gs[j]:=Array.getElem?_eq_getElem hlt
                rw [jbY c.core.quiet (fun e=>hj e.symm) hy,hnw,hy];rfl
              · rw [Array.getElem?_eq_none (by rw [jaC];omega),Array.getElem?_eq_none (by omega)]
            have hcnt:=jjg h0 hg (jaN (P:=P) (w':=w.at dd) (g:=g0) (g':={g0 with status:= .blocked}) h0) (by simp) others gs.size hpos
            refine ihn _ (by rw [←hn];rw [jaC];exact hcnt) old F Shp Pool _ (w.at dd) sl' t Hl Dl _ (by rw [jaC];exact hm) rfl (jaN h0) (.inr ⟨rfl,ho,hb⟩) hh hF hD ⟨?_,c.inv,c.deaf,fun j y hj hy=>c.kids j y hj (by rw [←others j hj];exact hy),fun j hj=>c.dom j (by rwa [jaC] at hj)⟩
            have cc:=c'.core
            exact ⟨cc.sat,cc.satS,cc.apart,cc.apS,cc.shB,cc.oldB,by rw [jaC];exact cc.tj,cc.far,fun j hj=>cc.out j (by rwa [jaC] at hj),jep cc.quiet (.blocks rfl ho)⟩
        · have hk:=c'.kids i x e hi
          have hlt:i<gs.size:=(Array.getElem?_eq_some_iff.1 hi).1
          --goroutine 0 behind the step
          have main: ∀{g':Goroutine} {w':World},(after P x g' w' gs i)[0]?=some (if mayWake P x&&g'.status != .blocked&&g'.status != .waiting then awoken g0 else g0):=jbY c.core.quiet e h0
          have mainOk: ∀{g':Goroutine} {Shp':Hp},(Shp'=Shp∨(mayWake P x&&g'.status != .blocked&&g'.status != .waiting)=true)→ ∃g1,(if mayWake P x&&g'.status != .blocked&&g'.status != .waiting then awoken g0 else g0)=g1∧(g1=g∨(g1={g with status:= .blocked}∧g.offers=none∧Q.Blk s Shp')):=fun {g' Shp'} hw=>by
            refine ⟨_,rfl,?_⟩
            split
            · refine .inl ?_
              rcases hg0 with rfl|⟨rfl,_,_⟩
              · unfold awoken;rw [if_neg (by rw [hg];decide)]
              · unfold awoken
                rw [if_pos rfl];obtain ⟨a,b,c,d,e⟩:=g
                simp only at hg
                subst hg
                rfl
            · rename_i hnw
              rcases hw with rfl|h
              · exact hg0
              · exact absurd h hnw
          have fin:MovedS P B W Q old F Shp gs (w.at dd) sl' t Hl Tf Dl i x→FinS P B W K gs w sl t:=by
            rintro ⟨g',w',u,F',Shp',Pool',Hl',Tf',Dl',r1,r2,r3,r4,r5,r6⟩;refine FinS.step (hst.trans r1) ?_
            rcases r6 with ⟨hu,hnb,hw⟩|⟨rfl,hb,rfl,hnw⟩
            · obtain ⟨g1,e1,e2⟩:=mainOk hw
              exact ihT Tf' (by rw [←hm];exact hu) _ old F' Shp' Pool' _ w' sl' _ Hl' Dl' g1 (by rw [jaC];exact hm) rfl (by rw [main,e1]) e2 (r3.trans hh) (r4.trans hF) (r5.trans hD) r2
            · have others: ∀j,j≠i→(after P x g' w' gs i)[j]?=gs[j]?:=fun j hj=>by
                by_cases hlt:j<gs.size
                · have hy:gs[j]?=some gs[j]:=Array.getElem?_eq_getElem hlt
                  rw [jbY c.core.quiet (fun e=>hj e.symm) hy,hnw,hy];rfl
                · rw [Array.getElem?_eq_none (by rw [jaC];omega),Array.getElem?_eq_none (by omega)]
              have hcnt:=jjg hi hx (jaN (P:=P) (w':=w') (g:=x) (g':=g') hi) (by rw [hb];decide) others gs.size hlt
              exact ihn _ (by rw [←hn];rw [jaC];exact hcnt) old F' Shp' Pool' _ w' sl' _ Hl' Dl' g0 (by rw [jaC];exact hm) rfl (by rw [others 0 (fun e'=>e e'.symm)];exact h0) hg0 (r3.trans hh) (r4.trans hF) (r5.trans hD) r2
          generalize hT:Tf i=T at hk
          generalize hDi:Dl i=di at hk
          generalize hFi:F i=fi at hk
          generalize hHi:Hl i=hi' at hk
          cases hk with
          |run cr=>exact fin (kidS_run cr e Hl hi hHi hT hDi hFi c')
          |wait cr hb ho b=>rw [hb] at hx;cases hx
          | @left k _ _ q=>
            refine fin ?_
            cases k with
            |zero=>have:=q.1;rw [this] at hx;cases hx
            |succ k=>
              rcases q with ⟨hq,_⟩|⟨_,g',es,hme,hstep,hq⟩
              · rw [hq] at hx;cases hx
              · have hz:(i==0)=false:=by simpa using e
                have hq':=hq.status
                obtain ⟨r1,r2⟩:=c'.core.slip (P:=P) (sl:=sl') hi (by rw [hz];exact hstep _) hme (hq'.elim .runs .ended)
                have hnb:g'.status≠ .blocked:=by rcases hq' with h|h<;>rw [h]<;>decide
                refine ⟨g',w.at dd,_,F,Shp,Pool,Hl,updU Tf i (.ofNat k),updN Dl i (deafBehind di es),r1,⟨r2,c.inv,fun j=>?_,fun j y hj hy=>?_,fun j hj=>c.dom j (by rwa [jaC] at hj)⟩,rfl,rfl,jb4 _ _ (fun x=>e x.symm),.inl ⟨jdr hlt (by rw [hT];exact TrU.lt (fun _:Unit=>TrU.ofNat k) ()),hnb,.inl rfl⟩⟩
                · by_cases ej:j=i
                  · subst ej;rw [updN_same,Deaf_own,c.deaf j,hDi]
                  · rw [jb4 _ _ ej,Deaf_other t (fun x=>ej x.symm) _ fun op hop=>by obtain ⟨e',_,rfl⟩:=jcG hop;rfl];exact c.deaf j
                · by_cases ej:j=i
                  · subst ej
                    rw [jaN hi] at hy
                    obtain rfl:=Option.some.inj hy
                    rw [hFi,hHi,updU_same,updN_same];exact .left hq
                  · rw [jed _ _ ej,jb4 _ _ ej];exact jb3 c.core.quiet c.kids (.inl rfl) hj ej hy
  intro old F Shp Pool gs w sl t Hl Tf Dl g0 h0 hg0 hh hF hD c
  exact gen gs.size Tf (ULt.acc _ _) _ old F Shp Pool gs w sl t Hl Dl g0 rfl rfl h0 hg0 hh hF hD c
end
end Go.Lo
namespace Go.Lo
structure Meet where
  n:Nat
  hit:Nat→Bool
  PL:List Nat→Hp→Prop
  mu:Nat
  wg:Nat
  tM:TypeId
  tW:TypeId
inductive SS where
  |m (r:Nat) (p:WS)
  |w (k:Nat) (l:LS) (g:WS) (z:List Nat)
def pL:Option SS→LS
  |none=> .fin
  |some (.m r _)=> .rest r
  |some (.w _ l _ _)=>l
def pW:Option SS→WS
  |none=> .idle
  |some (.m _ p)=>p
  |some (.w _ _ g _)=>g
def LS.early:LS→Bool
  | .rest _=>true
  | .out=>true
  | .look _ _=>true
  | .try_ _ _ _=>true
  | .wait _=>true
  | .woken _=>true
  | .handed _=>true
  | .hold q=>decide (q≤1)
  |_=>false
def Meet.muC (M:Meet) (x:Wd) (sm:Nat):Chunk:=⟨true,M.mu,.cells #[.int .i32 x.val,.int .u32 sm] M.tM (0,0)⟩
def Meet.wgC (M:Meet) (v wt ws:Nat):Chunk:=⟨true,M.wg,.cells #[.int .u64 ((v*4294967296+wt:Nat):Int),.int .u32 ws] M.tW (0,0)⟩
structure PoolI (M:Meet) (m:Nat) (ks:List Nat) (Pool:Hp) (F:Nat→Option SS):Prop where
  nd:ks.Nodup
  sub: ∀k∈ks,k<m∧M.hit k=true
  lbl: ∀j k l g z,F j=some (.w k l g z)→k<m∧(l.early=true→k∉ks)∧(l.early=false→M.hit k=true→k∈ks)
  uniq: ∀j j' k l g z l' g' z',F j=some (.w k l g z)→F j'=some (.w k l' g' z')→j=j'
  all: ∀k,k<m→(∃j l g z,F j=some (.w k l g z))∨(M.hit k=true→k∈ks)
  held: ∀j k g z,F j=some (.w k (.hold 1) g z)→z=ks∧Pool=[]
  free:(∀j k g z,F j≠some (.w k (.hold 1) g z))→M.PL ks Pool
structure MI (M:Meet) (x:Wd) (sm v wt ws N r:Nat) (p:WS) (ks:List Nat) (Pool:Hp) (F:Nat→Option SS):Prop where
  f0:F 0=some (.m r p)
  fm: ∀j,j≠0→ ∀r p,F j≠some (.m r p)
  dom: ∀j,N≤j→F j=none
  fin: ∀j k l g z,F j=some (.w k l g z)→(g≠ .on→l= .fin)∧g≠ .idle
  lock:LockInv (6*M.n) x sm N (fun j=>pL (F j))
  wg:WgInv v wt ws N (fun j=>pW (F j))
  pool:PoolI M (M.n-r) ks Pool F
  vb:v+r≤M.n+p.cV
  rb:r≤M.n
def Meet.Inv (M:Meet) (Shp Pool:Hp) (F:Nat→Option SS):Prop:= ∃x sm v wt ws N r p ks,Shp=[M.muC x sm,M.wgC v wt ws]∧MI M x sm v wt ws N r p ks Pool F
def Meet.Blk (M:Meet):SS→Hp→Prop
  | .w _ (.wait _) _ _,Shp=> ∃x v wt ws,Shp=[M.muC x 0,M.wgC v wt ws]
  | .m _ .parked,Shp=> ∃x sm v wt,Shp=[M.muC x sm,M.wgC v wt 0]
  |_,_=>False
def SS.gone:SS→Prop
  | .w _ _ .on _=>False
  | .w _ _ _ _=>True
  |_=>False
def Meet.pro (M:Meet):ProS:=⟨SS,⟨M.mu,0,none⟩,⟨M.wg,0,none⟩,M.Inv,M.Blk,SS.gone⟩
section
variable {M:Meet} {x x':Wd} {sm sm' v v' wt wt' ws ws' N r i k:Nat} {p:WS} {ks z:List Nat} {Pool:Hp} {F:Nat→Option SS} {l l':LS} {g g':WS}
theorem jbA {α:Type} (f:Option SS→α) (F:Nat→Option SS) (i:Nat) (o:Option SS):(fun j=>f (updS F i o j))=updF (fun j=>f (F j)) i (f o):=by
  funext j
  by_cases e:j=i
  · subst e;simp
  · rw [jav _ _ e,jbv _ _ e]
theorem jef {α:Type} (G:Nat→α) (i:Nat) (a:α) (h:G i=a):updF G i a=G:=by
  funext j
  by_cases e:j=i
  · subst e;rw [updF_same,h]
  · rw [jbv _ _ e]
theorem MI.lt (I:MI M x sm v wt ws N r p ks Pool F) {s:SS} (h:F i=some s):i<N:=by
  rcases Nat.lt_or_ge i N with h'|h'
  · exact h'
  · rw [I.dom i h'] at h;cases h
theorem MI.ne0 (I:MI M x sm v wt ws N r p ks Pool F) (h:F i=some (.w k l g z)):i≠0:=fun e=>by
  subst e;rw [I.f0] at h;cases h
theorem PoolI.goes {m:Nat} (I:PoolI M m ks Pool F) (h:F i=some (.w k l g z)) (l':LS) (g':WS) (he:l'.early=l.early∨M.hit k=false) (h1:l≠ .hold 1) (h1':l'≠ .hold 1):PoolI M m ks Pool (updS F i (some (.w k l' g' z))):=by
  have key: ∀j k' l1 g1 z1,updS F i (some (.w k l' g' z)) j=some (.w k' l1 g1 z1)→(j=i∧k'=k∧l1=l')∨(j≠i∧F j=some (.w k' l1 g1 z1)):=fun j k' l1 g1 z1 hj=>by
    by_cases e:j=i
    · subst e
      rw [updS_same] at hj
      have:=Option.some.inj hj
      injection this with e1 e2 e3 e4
      exact .inl ⟨rfl,e1.symm,e2.symm⟩
    · rw [jav _ _ e] at hj
      exact .inr ⟨e,hj⟩
  refine ⟨I.nd,I.sub,fun j k' l1 g1 z1 hj=>?_,fun j j' k' l1 g1 z1 l2 g2 z2 hj hj'=>?_,fun k' hk'=>?_,fun j k' g1 z1 hj=>?_,fun hno=>I.free fun j k' g1 z1 hj=>?_⟩
  · rcases key _ _ _ _ _ hj with ⟨_,rfl,rfl⟩|⟨_,hj⟩
    · obtain ⟨q1,q2,q3⟩:=I.lbl i k' l g z h
      refine ⟨q1,fun e=>?_,fun e hh=>?_⟩
      · rcases he with he|he
        · exact q2 (he▸e)
        · exact fun hk=>by have:=(I.sub _ hk).2;rw [he] at this;cases this
      · rcases he with he|he
        · exact q3 (he▸e) hh
        · rw [he] at hh;cases hh
    · exact I.lbl _ _ _ _ _ hj
  · rcases key _ _ _ _ _ hj with ⟨rfl,rfl,rfl⟩|⟨e,hn⟩<;>rcases key _ _ _ _ _ hj' with ⟨e',ek,el⟩|⟨e',hn'⟩
    · exact e'.symm
    · exact I.uniq _ _ _ _ _ _ _ _ _ h hn'
    · subst e' ek;exact I.uniq _ _ _ _ _ _ _ _ _ hn h
    · exact I.uniq _ _ _ _ _ _ _ _ _ hn hn'
  · rcases I.all k' hk' with ⟨j,l1,g1,z1,hj⟩|hk
    · by_cases e:j=i
      · subst e
        rw [h] at hj
        have:=Option.some.inj hj
        injection this with e1 e2 e3 e4
        subst e1
        exact .inl ⟨j,l',g',z,updS_same _ _ _⟩
      · exact .inl ⟨j,l1,g1,z1,by rw [jav _ _ e];exact hj⟩
    · exact .inr hk
  · rcases key _ _ _ _ _ hj with ⟨_,_,e⟩|⟨_,hj⟩
    · exact absurd e.symm h1'
    · exact I.held _ _ _ _ hj
  · by_cases e:j=i
    · subst e
      rw [h] at hj
      have:=Option.some.inj hj
      injection this with e1 e2 e3 e4
      exact h1 e2
    · exact hno j k' g1 z1 (by rw [jav _ _ e];exact hj)
theorem MI.goes (I:MI M x sm v wt ws N r p ks Pool F) (h:F i=some (.w k l g z)) (l':LS) (g':WS) (hL:LockInv (6*M.n) x' sm' N (updF (fun j=>pL (F j)) i l')) (hW:WgInv v' wt' ws' N (updF (fun j=>pW (F j)) i g')) (hv:v'≤v)
    (he:l'.early=l.early∨M.hit k=false) (h1:l≠ .hold 1) (h1':l'≠ .hold 1) (hf:(g'≠ .on→l'= .fin)∧g'≠ .idle):MI M x' sm' v' wt' ws' N r p ks Pool (updS F i (some (.w k l' g' z))):=by
  have h0:=I.ne0 h
  refine ⟨by rw [jav _ _ (fun e=>h0 e.symm)];exact I.f0,fun j hj r1 p1 e=>?_,fun j hj=>?_,fun j k1 l1 g1 z1 hj=>?_,by rw [jbA];exact hL,by rw [jbA];exact hW,I.pool.goes h l' g' he h1 h1',by have:=I.vb;omega,I.rb⟩
  · by_cases ej:j=i
    · subst ej;rw [updS_same] at e;cases e
    · rw [jav _ _ ej] at e;exact I.fm j hj r1 p1 e
  · rw [jav _ _ (fun e=>by have:=I.lt h;omega)];exact I.dom j hj
  · by_cases ej:j=i
    · subst ej
      rw [updS_same] at hj
      have:=Option.some.inj hj
      injection this with e1 e2 e3 e4
      subst e2 e3
      exact hf
    · rw [jav _ _ ej] at hj;exact I.fin _ _ _ _ _ hj
theorem MI.goL (I:MI M x sm v wt ws N r p ks Pool F) (h:F i=some (.w k l .on z)) (l':LS) (hL:LockInv (6*M.n) x' sm' N (updF (fun j=>pL (F j)) i l')) (he:l'.early=l.early∨M.hit k=false) (h1:l≠ .hold 1) (h1':l'≠ .hold 1):
    MI M x' sm' v wt ws N r p ks Pool (updS F i (some (.w k l' .on z))):=
  I.goes h l' .on hL (by rw [jef _ _ _ (by rw [h];rfl)];exact I.wg) (Nat.le_refl _) he h1 h1' ⟨fun e=>absurd rfl e,by simp⟩
theorem MI.goW (I:MI M x sm v wt ws N r p ks Pool F) (h:F i=some (.w k .fin g z)) (g':WS) (hW:WgInv v' wt' ws' N (updF (fun j=>pW (F j)) i g')) (hv:v'≤v) (hg:g'≠ .idle):
    MI M x sm v' wt' ws' N r p ks Pool (updS F i (some (.w k .fin g' z))):=
  I.goes h .fin g' (by rw [jef _ _ _ (by rw [h];rfl)];exact I.lock) hW hv (.inl rfl) (by simp) (by simp) ⟨fun _=>rfl,hg⟩
theorem MI.leaves (I:MI M x sm v wt ws N r p ks Pool F) (h:F i=some (.w k .fin g z)) (hW:WgInv v' wt' ws' N (updF (fun j=>pW (F j)) i .idle)) (hv:v'≤v):MI M x sm v' wt' ws' N r p ks Pool (updS F i none):=by
  have h0:=I.ne0 h
  have key: ∀j s,updS F i none j=some s→j≠i∧F j=some s:=fun j s hj=>by
    by_cases e:j=i
    · subst e;rw [updS_same] at hj;cases hj
    · rw [jav _ _ e] at hj;exact ⟨e,hj⟩
  have hk:M.hit k=true→k∈ks:=(I.pool.lbl _ _ _ _ _ h).2.2 rfl
  refine ⟨by rw [jav _ _ (fun e=>h0 e.symm)];exact I.f0,fun j hj r1 p1 e=>I.fm j hj r1 p1 (key _ _ e).2,fun j hj=>?_,fun j k1 l1 g1 z1 hj=>I.fin _ _ _ _ _ (key _ _ hj).2,?_,by rw [jbA];exact hW,?_,by have:=I.vb;omega,I.rb⟩
  · rw [jav _ _ (fun e=>by have:=I.lt h;omega)];exact I.dom j hj
  · rw [jbA,jef _ _ _ (by rw [h];rfl)];exact I.lock
  · refine ⟨I.pool.nd,I.pool.sub,fun j k1 l1 g1 z1 hj=>I.pool.lbl _ _ _ _ _ (key _ _ hj).2,fun j j' k1 l1 g1 z1 l2 g2 z2 hj hj'=>I.pool.uniq _ _ _ _ _ _ _ _ _ (key _ _ hj).2 (key _ _ hj').2,fun k1 hk1=>?_,fun j k1 g1 z1 hj=>I.pool.held _ _ _ _ (key _ _ hj).2,fun hno=>I.pool.free fun j k1 g1 z1 hj=>?_⟩
    · rcases I.pool.all k1 hk1 with ⟨j,l1,g1,z1,hj⟩|hk1
      · by_cases e:j=i
        · subst e
          rw [h] at hj
          have:=Option.some.inj hj
          injection this with e1 e2 e3 e4
          subst e1
          exact .inr hk
        · exact .inl ⟨j,l1,g1,z1,by rw [jav _ _ e];exact hj⟩
      · exact .inr hk1
    · by_cases e:j=i
      · subst e;rw [h] at hj;cases hj
      · exact hno j k1 g1 z1 (by rw [jav _ _ e];exact hj)
theorem MI.one (I:MI M x sm v wt ws N r p ks Pool F) {q q' j k':Nat} {g g':WS} {z z':List Nat} (h:F i=some (.w k (.hold q) g z)) (h':F j=some (.w k' (.hold q') g' z')):j=i:=by
  rcases Nat.decEq j i with e|e
  · exfalso
    have h1:=jbi (f:=LS.cL) (G:=fun j=>pL (F j)) (a:= .fin) (I.lt h)
    have h2:=jcB (f:=LS.cL) (G:=updF (fun j=>pL (F j)) i .fin) (I.lt h')
    rw [jbv _ _ e] at h2
    have e1:LS.cL (pL (F i))=1:=by rw [h];rfl
    have e2:LS.cL (pL (F j))=1:=by rw [h'];rfl
    have e3:LS.cL .fin=0:=rfl
    rw [e1,e3] at h1
    rw [e2] at h2
    have h3:tot LS.cL (fun j=>pL (F j)) N=b01 x.l:=I.lock.fits.hL
    have h4:b01 x.l≤1:=by cases x.l<;>simp
    omega
  · exact e
theorem MI.takes (I:MI M x sm v wt ws N r p ks Pool F) (h:F i=some (.w k (.hold 0) .on z)):M.PL ks Pool∧k∉ks∧(∀k'∈ks,k'<M.n∧M.hit k'=true)∧ks.Nodup∧MI M x sm v wt ws N r p ks [] (updS F i (some (.w k (.hold 1) .on ks))):=by
  have h0:=I.ne0 h
  have hno: ∀j k g z,F j≠some (.w k (.hold 1) g z):=fun j k1 g1 z1 hj=>by
    have:=I.one h hj
    subst this
    rw [h] at hj;cases hj
  have key: ∀j k' l1 g1 z1,updS F i (some (.w k (.hold 1) .on ks)) j=some (.w k' l1 g1 z1)→(j=i∧k'=k∧l1= .hold 1∧g1= .on∧z1=ks)∨(j≠i∧F j=some (.w k' l1 g1 z1)):=fun j k' l1 g1 z1 hj=>by
    by_cases e:j=i
    · subst e
      rw [updS_same] at hj
      have:=Option.some.inj hj
      injection this with e1 e2 e3 e4
      exact .inl ⟨rfl,e1.symm,e2.symm,e3.symm,e4.symm⟩
    · rw [jav _ _ e] at hj
      exact .inr ⟨e,hj⟩
  refine ⟨I.pool.free hno,(I.pool.lbl _ _ _ _ _ h).2.1 rfl,fun k' hk'=>⟨by have:=(I.pool.sub _ hk').1;omega,(I.pool.sub _ hk').2⟩,I.pool.nd,⟨by rw [jav _ _ (fun e=>h0 e.symm)];exact I.f0,fun j hj r1 p1 e=>?_,fun j hj=>?_,fun j k1 l1 g1 z1 hj=>?_,?_,?_,?_,I.vb,I.rb⟩⟩
  · by_cases ej:j=i
    · subst ej;rw [updS_same] at e;cases e
    · rw [jav _ _ ej] at e;exact I.fm j hj r1 p1 e
  · rw [jav _ _ (fun e=>by have:=I.lt h;omega)];exact I.dom j hj
  · rcases key _ _ _ _ _ hj with ⟨_,_,rfl,rfl,_⟩|⟨_,hj⟩
    · exact ⟨fun e=>absurd rfl e,by simp⟩
    · exact I.fin _ _ _ _ _ hj
  · rw [jbA];exact I.lock.holds (I.lt h) (by show pL (F i)=_;rw [h];rfl) 1
  · rw [jbA,jef _ _ _ (by rw [h];rfl)];exact I.wg
  · refine ⟨I.pool.nd,I.pool.sub,fun j k1 l1 g1 z1 hj=>?_,fun j j' k1 l1 g1 z1 l2 g2 z2 hj hj'=>?_,fun k1 hk1=>?_,fun j k1 g1 z1 hj=>?_,fun hn=>absurd (updS_same F i (some (.w k (.hold 1) .on ks))) (hn i k .on ks)⟩
    · rcases key _ _ _ _ _ hj with ⟨_,rfl,rfl,_,_⟩|⟨_,hj⟩
      · have q:=I.pool.lbl _ _ _ _ _ h
        exact ⟨q.1,fun _=>q.2.1 rfl,fun e=>by simp [LS.early] at e⟩
      · exact I.pool.lbl _ _ _ _ _ hj
    · rcases key _ _ _ _ _ hj with ⟨rfl,rfl,_,_,_⟩|⟨e,hn⟩<;>rcases key _ _ _ _ _ hj' with ⟨e',ek,_⟩|⟨e',hn'⟩
      · exact e'.symm
      · exact I.pool.uniq _ _ _ _ _ _ _ _ _ h hn'
      · subst e' ek;exact I.pool.uniq _ _ _ _ _ _ _ _ _ hn h
      · exact I.pool.uniq _ _ _ _ _ _ _ _ _ hn hn'
    · rcases I.pool.all k1 hk1 with ⟨j,l1,g1,z1,hj⟩|hk
      · by_cases e:j=i
        · subst e
          rw [h] at hj
          have:=Option.some.inj hj
          injection this with e1 e2 e3 e4
          subst e1
          exact .inl ⟨j,_,_,_,updS_same _ _ _⟩
        · exact .inl ⟨j,l1,g1,z1,by rw [jav _ _ e];exact hj⟩
      · exact .inr hk
    · rcases key _ _ _ _ _ hj with ⟨_,_,_,_,rfl⟩|⟨_,hj⟩
      · exact ⟨rfl,rfl⟩
      · exact absurd hj (hno _ _ _ _)
theorem MI.puts (I:MI M x sm v wt ws N r p ks Pool F) (h:F i=some (.w k (.hold 1) .on z)) {hp:Hp} (hh:M.hit k=true) (hP:M.PL (z++[k]) hp):Pool=[]∧MI M x sm v wt ws N r p (z++[k]) hp (updS F i (some (.w k (.hold 2) .on z))):=by
  have h0:=I.ne0 h
  obtain ⟨rfl,rfl⟩:=I.pool.held _ _ _ _ h
  have key: ∀j k' l1 g1 z1,updS F i (some (.w k (.hold 2) .on z)) j=some (.w k' l1 g1 z1)→(j=i∧k'=k∧l1= .hold 2∧g1= .on∧z1=z)∨(j≠i∧F j=some (.w k' l1 g1 z1)):=fun j k' l1 g1 z1 hj=>by
    by_cases e:j=i
    · subst e
      rw [updS_same] at hj
      have:=Option.some.inj hj
      injection this with e1 e2 e3 e4
      exact .inl ⟨rfl,e1.symm,e2.symm,e3.symm,e4.symm⟩
    · rw [jav _ _ e] at hj
      exact .inr ⟨e,hj⟩
  have hki:=I.pool.lbl _ _ _ _ _ h
  have hk:k∉z:=hki.2.1 rfl
  refine ⟨rfl,⟨by rw [jav _ _ (fun e=>h0 e.symm)];exact I.f0,fun j hj r1 p1 e=>?_,fun j hj=>?_,fun j k1 l1 g1 z1 hj=>?_,?_,?_,?_,I.vb,I.rb⟩⟩
  · by_cases ej:j=i
    · subst ej;rw [updS_same] at e;cases e
    · rw [jav _ _ ej] at e;exact I.fm j hj r1 p1 e
  · rw [jav _ _ (fun e=>by have:=I.lt h;omega)];exact I.dom j hj
  · rcases key _ _ _ _ _ hj with ⟨_,_,rfl,rfl,_⟩|⟨_,hj⟩
    · exact ⟨fun e=>absurd rfl e,by simp⟩
    · exact I.fin _ _ _ _ _ hj
  · rw [jbA];exact I.lock.holds (I.lt h) (by show pL (F i)=_;rw [h];rfl) 2
  · rw [jbA,jef _ _ _ (by rw [h];rfl)];exact I.wg
  · refine ⟨?_,fun k1 hk1=>?_,fun j k1 l1 g1 z1 hj=>?_,fun j j' k1 l1 g1 z1 l2 g2 z2 hj hj'=>?_,fun k1 hk1=>?_,fun j k1 g1 z1 hj=>?_,fun _=>hP⟩
    · rw [List.nodup_append];exact ⟨I.pool.nd,by simp,fun a ha b hb=>by simp at hb;subst hb;exact fun e=>hk (e▸ha)⟩
    · rcases List.mem_append.1 hk1 with hk1|hk1
      · exact I.pool.sub _ hk1
      · simp at hk1;subst hk1;exact ⟨hki.1,hh⟩
    · rcases key _ _ _ _ _ hj with ⟨_,rfl,rfl,_,_⟩|⟨e,hn⟩
      · exact ⟨hki.1,fun e=>by simp [LS.early] at e,fun _ _=>by simp⟩
      · obtain ⟨q1,q2,q3⟩:=I.pool.lbl _ _ _ _ _ hn
        refine ⟨q1,fun he hm=>?_,fun he hm=>List.mem_append_left _ (q3 he hm)⟩
        rcases List.mem_append.1 hm with hm|hm
        · exact q2 he hm
        · simp at hm;subst hm;exact e (I.pool.uniq _ _ _ _ _ _ _ _ _ hn h)
    · rcases key _ _ _ _ _ hj with ⟨rfl,rfl,_,_,_⟩|⟨e,hn⟩<;>rcases key _ _ _ _ _ hj' with ⟨e',ek,_⟩|⟨e',hn'⟩
      · exact e'.symm
      · exact I.pool.uniq _ _ _ _ _ _ _ _ _ h hn'
      · subst e' ek;exact I.pool.uniq _ _ _ _ _ _ _ _ _ hn h
      · exact I.pool.uniq _ _ _ _ _ _ _ _ _ hn hn'
    · rcases I.pool.all k1 hk1 with ⟨j,l1,g1,z1,hj⟩|hk
      · by_cases e:j=i
        · subst e
          rw [h] at hj
          have:=Option.some.inj hj
          injection this with e1 e2 e3 e4
          subst e1
          exact .inl ⟨j,_,_,_,updS_same _ _ _⟩
        · exact .inl ⟨j,l1,g1,z1,by rw [jav _ _ e];exact hj⟩
      · exact .inr fun hx=>List.mem_append_left _ (hk hx)
    · rcases key _ _ _ _ _ hj with ⟨_,_,e,_,_⟩|⟨e,hj⟩
      · cases e
      · exact absurd (I.one h hj) e
theorem MI.main (I:MI M x sm v wt ws N r p ks Pool F) (p':WS) (hW:WgInv v' wt' ws' N (updF (fun j=>pW (F j)) 0 p')) (hv:v'+p.cV≤v+p'.cV):MI M x sm v' wt' ws' N r p' ks Pool (updS F 0 (some (.m r p'))):=by
  have key: ∀j k' l1 g1 z1,updS F 0 (some (.m r p')) j=some (.w k' l1 g1 z1)→F j=some (.w k' l1 g1 z1):=fun j k' l1 g1 z1 hj=>by
    by_cases e:j=0
    · subst e;rw [updS_same] at hj;cases hj
    · rw [jav _ _ e] at hj;exact hj
  have back: ∀j k' l1 g1 z1,F j=some (.w k' l1 g1 z1)→updS F 0 (some (.m r p')) j=some (.w k' l1 g1 z1):=fun j k' l1 g1 z1 hj=>by
    rw [jav _ _ (I.ne0 hj)];exact hj
  refine ⟨updS_same _ _ _,fun j hj r1 p1=>by rw [jav _ _ hj];exact I.fm j hj r1 p1,fun j hj=>?_,fun j k1 l1 g1 z1 hj=>I.fin _ _ _ _ _ (key _ _ _ _ _ hj),?_,by rw [jbA];exact hW,?_,by have:=I.vb;omega,I.rb⟩
  · rw [jav _ _ (fun e=>by have:=I.wg.pos;omega)];exact I.dom j hj
  · rw [jbA,jef _ _ _ (by rw [I.f0];rfl)];exact I.lock
  · exact ⟨I.pool.nd,I.pool.sub,fun j k1 l1 g1 z1 hj=>I.pool.lbl _ _ _ _ _ (key _ _ _ _ _ hj),fun j j' k1 l1 g1 z1 l2 g2 z2 hj hj'=>I.pool.uniq _ _ _ _ _ _ _ _ _ (key _ _ _ _ _ hj) (key _ _ _ _ _ hj'),
      fun k1 hk1=>(I.pool.all k1 hk1).imp (fun ⟨j,l1,g1,z1,hj⟩=>⟨j,l1,g1,z1,back _ _ _ _ _ hj⟩) id,fun j k1 g1 z1 hj=>I.pool.held _ _ _ _ (key _ _ _ _ _ hj),fun hno=>I.pool.free fun j k1 g1 z1 hj=>hno j k1 g1 z1 (back _ _ _ _ _ hj)⟩
theorem MI.start (I:MI M x sm v wt ws N r .adds ks Pool F) {j:Nat} (h0:j≠0) (hj:F j=none) (hr:0<r): ∃N',MI M x sm v wt ws N' (r-1) .idle ks Pool (updS (updS F 0 (some (.m (r-1) .idle))) j (some (.w (M.n-r) .out .on []))):=by
  obtain ⟨r,rfl⟩: ∃r',r=r'+1:=⟨r-1,by omega⟩
  simp only [Nat.add_sub_cancel]
  have hN:N≤max N (j+1):=Nat.le_max_left _ _
  have hjN:j<max N (j+1):=by have:=Nat.le_max_right N (j+1);omega
  have key: ∀i k' l1 g1 z1,updS (updS F 0 (some (.m r .idle))) j (some (.w (M.n-(r+1)) .out .on [])) i=some (.w k' l1 g1 z1)→(i=j∧k'=M.n-(r+1)∧l1= .out∧g1= .on∧z1=[])∨(i≠j∧F i=some (.w k' l1 g1 z1)):=fun i k' l1 g1 z1 hi=>by
    by_cases e:i=j
    · subst e
      rw [updS_same] at hi
      have:=Option.some.inj hi
      injection this with e1 e2 e3 e4
      exact .inl ⟨rfl,e1.symm,e2.symm,e3.symm,e4.symm⟩
    · rw [jav _ _ e] at hi
      by_cases e0:i=0
      · subst e0;rw [updS_same] at hi;cases hi
      · rw [jav _ _ e0] at hi;exact .inr ⟨e,hi⟩
  have back: ∀i k' l1 g1 z1,F i=some (.w k' l1 g1 z1)→updS (updS F 0 (some (.m r .idle))) j (some (.w (M.n-(r+1)) .out .on [])) i=some (.w k' l1 g1 z1):=fun i k' l1 g1 z1 hi=>by
    rw [jav _ _ (fun e=>by rw [e,hj] at hi;cases hi),jav _ _ (I.ne0 hi)];exact hi
  have hm:M.n-r=M.n-(r+1)+1:=by have:=I.rb;omega
  refine ⟨max N (j+1),⟨by rw [jav _ _ (fun e=>h0 e.symm),updS_same],fun i hi r1 p1 e=>?_,fun i hi=>?_,fun i k1 l1 g1 z1 hi=>?_,?_,?_,?_,?_,by have:=I.rb;omega⟩⟩
  · by_cases ej:i=j
    · subst ej;rw [updS_same] at e;cases e
    · rw [jav _ _ ej,jav _ _ hi] at e;exact I.fm i hi r1 p1 e
  · have h1:N≤i:=Nat.le_trans hN hi
    have h2:=I.wg.pos
    rw [jav _ _ (by omega),jav _ _ (by omega)];exact I.dom i h1
  · rcases key _ _ _ _ _ hi with ⟨_,_,rfl,rfl,_⟩|⟨_,hi⟩
    · exact ⟨fun e=>absurd rfl e,by simp⟩
    · exact I.fin _ _ _ _ _ hi
  · rw [jbA,jbA];refine (I.lock.more hN fun i hi=>by show pL (F i)=_;rw [I.dom i hi];rfl).start (Nat.lt_of_lt_of_le I.wg.pos hN) ?_ hjN ?_
    · show pL (F 0)=_;rw [I.f0];rfl
    · show pL (F j)=_;rw [hj];rfl
  · rw [jbA,jbA];refine (I.wg.more hN fun i hi=>by show pW (F i)=_;rw [I.dom i hi];rfl).start ?_ h0 hjN ?_
    · show pW (F 0)=_;rw [I.f0];rfl
    · show pW (F j)=_;rw [hj];rfl
  · rw [hm];refine ⟨I.pool.nd,fun k1 hk1=>?_,fun i k1 l1 g1 z1 hi=>?_,fun i i' k1 l1 g1 z1 l2 g2 z2 hi hi'=>?_,fun k1 hk1=>?_,fun i k1 g1 z1 hi=>?_,fun hno=>I.pool.free fun i k1 g1 z1 hi=>hno i k1 g1 z1 (back _ _ _ _ _ hi)⟩
    · have:=I.pool.sub _ hk1
      exact ⟨by omega,this.2⟩
    · rcases key _ _ _ _ _ hi with ⟨_,rfl,rfl,_,_⟩|⟨e,hi⟩
      · refine ⟨by omega,fun _ hk=>?_,fun e=>by simp [LS.early] at e⟩
        have:=(I.pool.sub _ hk).1
        omega
      · obtain ⟨q1,q2⟩:=I.pool.lbl _ _ _ _ _ hi
        exact ⟨by omega,q2⟩
    · rcases key _ _ _ _ _ hi with ⟨rfl,rfl,_,_,_⟩|⟨e,hi⟩<;>rcases key _ _ _ _ _ hi' with ⟨e',ek,_⟩|⟨e',hi'⟩
      · exact e'.symm
      · have:=(I.pool.lbl _ _ _ _ _ hi').1;omega
      · have:=(I.pool.lbl _ _ _ _ _ hi).1;omega
      · exact I.pool.uniq _ _ _ _ _ _ _ _ _ hi hi'
    · by_cases e:k1=M.n-(r+1)
      · subst e
        exact .inl ⟨j,_,_,_,updS_same _ _ _⟩
      · exact (I.pool.all k1 (by omega)).imp (fun ⟨i,l1,g1,z1,hi⟩=>⟨i,l1,g1,z1,back _ _ _ _ _ hi⟩) id
    · rcases key _ _ _ _ _ hi with ⟨_,_,e,_⟩|⟨_,hi⟩
      · cases e
      · exact I.pool.held _ _ _ _ hi
  · have:=I.vb
    simp only [WS.cV] at this⊢
    omega
theorem MI.joined (I:MI M x sm v wt ws N 0 .done ks Pool F):(∀j,j≠0→F j=none)∧M.PL ks Pool∧ks.Nodup∧(∀k,k∈ks↔k<M.n∧M.hit k=true):=by
  have hn: ∀j,j≠0→F j=none:=fun j hj=>by
    rcases Nat.lt_or_ge j N with h|h
    · have:=I.wg.none_left (by show pW (F 0)=_;rw [I.f0];rfl) hj h
      cases hF:F j with
      |none=>rfl
      |some s=>
        cases s with
        |m r1 p1=>exact absurd hF (I.fm j hj r1 p1)
        |w k1 l1 g1 z1=>
          have e:pW (F j)= .idle:=this
          rw [hF] at e
          exact absurd e (I.fin _ _ _ _ _ hF).2
    · exact I.dom j h
  have hw: ∀j k l g z,F j≠some (.w k l g z):=fun j k l g z h=>by
    rw [hn j (I.ne0 h)] at h;cases h
  refine ⟨hn,I.pool.free fun j k g z=>hw j k _ g z,I.pool.nd,fun k=>⟨fun h=>I.pool.sub k h,fun h=>?_⟩⟩
  rcases I.pool.all k h.1 with ⟨j,l1,g1,z1,hj⟩|hk
  · exact absurd hj (hw _ _ _ _ _)
  · exact hk h.2
theorem Meet.live (M:Meet):M.pro.Live:=by
  rintro Shp Pool F ⟨x,sm,v,wt,ws,N,r,p,ks,rfl,I⟩ _;have cells: ∀{x x':Wd} {sm sm' v v' wt wt' ws ws':Nat},[M.muC x sm,M.wgC v wt ws]=[M.muC x' sm',M.wgC v' wt' ws']→sm=sm'∧ws=ws':=fun h=>by
    simp only [Meet.muC,Meet.wgC,List.cons.injEq,Chunk.mk.injEq,Obj.cells.injEq,Array.mk.injEq,Value.int.injEq,true_and,and_true] at h
    omega
  by_cases hp:p= .parked∧ws=0
  · obtain ⟨rfl,rfl⟩:=hp
    obtain ⟨j,hjN,hj0,hj⟩:=I.wg.live (by show pW (F 0)=_;rw [I.f0];rfl)
    have hw: ∀j,j≠0→(pW (F j)≠ .idle∨0<(pL (F j)).runs)→ ∃k l g z,F j=some (.w k l g z):=fun j hj0 hj=>by
      cases hF:F j with
      |none=>rw [hF] at hj;simp [pW,pL,LS.runs,LS.cL,LS.cT,LS.cK,LS.cR,LS.cH,LS.cU] at hj
      |some s=>
        cases s with
        |m r1 p1=>exact absurd hF (I.fm j hj0 r1 p1)
        |w k1 l1 g1 z1=>exact ⟨_,_,_,_,rfl⟩
    obtain ⟨k,l,g,z,hF⟩:=hw j hj0 (.inl hj)
    by_cases hl:(∃k',l= .wait k')∧sm=0
    · obtain ⟨⟨k',rfl⟩,rfl⟩:=hl
      obtain ⟨j',hjN',hr⟩:=I.lock.live hjN (by show pL (F j)=_;rw [hF];rfl)
      have hj0':j'≠0:=fun e=>by
        subst e
        simp only [I.f0,pL,LS.runs,LS.cL,LS.cT,LS.cK,LS.cR,LS.cH,LS.cU] at hr
        omega
      obtain ⟨k2,l2,g2,z2,hF2⟩:=hw j' hj0' (.inr hr)
      refine ⟨j',_,hF2,fun hb=>?_⟩
      simp only [hF2,pL] at hr
      cases l2<;>first|exact hb|(simp [LS.runs,LS.cL,LS.cT,LS.cK,LS.cR,LS.cH,LS.cU] at hr;done)
    · refine ⟨j,_,hF,fun hb=>?_⟩
      cases l with
      |wait k'=>
        obtain ⟨x',v',wt',ws',e⟩:=hb
        exact hl ⟨⟨k',rfl⟩,(cells e).1⟩
      |_=>exact hb
  · refine ⟨0,_,I.f0,fun hb=>?_⟩
    cases p with
    |parked=>
      obtain ⟨x',sm',v',wt',e⟩:=hb
      exact hp ⟨rfl,(cells e).2⟩
    |_=>exact hb
end
end Go.Lo
namespace Go.Lo
open Go.Conc
structure Im (P:Program) where
  main:Bool
  R:Goroutine→Prop
  idle: ∀{g g':Goroutine},g.status= .running→(∀w,stepG P main g w= .go g' w #[])→R g'→R g
section
variable {P:Program} {α β:Type}
theorem Still.pure (a:α):Still P (Pure.pure a) a:=fun _=>rfl
theorem Still.run {s:Sem α} {a:α} (t:Still P s a) (w:World):s.run P w= .ok a w:=t.run' w
theorem Still.events {s:Sem α} {a:α} (t:Still P s a) (w:World):s.events P w #[]= #[]:=by
  unfold Sem.events;rw [t w]
theorem Still.of {s:Sem α} {a:α} (h1: ∀w,s.run P w= .ok a w) (h2: ∀w,s.events P w #[]= #[]):Still P s a:=fun w=>by
  have e1:(s.runT P w #[]).1= .ok a w:=by
    have:=h1 w
    simpa using this
  have e2:(s.runT P w #[]).2= #[]:=h2 w
  exact Prod.ext e1 e2
theorem Still.bind {s:Sem α} {f:α→Sem β} {a:α} {b:β} (t:Still P s a) (t':Still P (f a) b):Still P (s>>=f) b:=
  .of (fun w=>by rw [Sem.run_bind,t.run w];exact t'.run w) fun w=>by
    rw [Sem.events_bind,t.run w];simp only [Result.evThen_ok]
    rw [t.events w];exact t'.events w
theorem Still.program:Still P Go.program P:= .of (fun w=>by simp [Go.program,Sem.run]) fun w=>by simp
theorem Still.value {s:Sem Value} {v:Value} (t:Still P s v):Still P (s>>=fun v=>Pure.pure (Next.value v)) (Next.value v):=Still.bind t (Still.pure _)
end
section
variable {P:Program} {m:Im P} {b:Frame} {l l':List Value} {ds:List Deferred} {k:List Item} {cs:List Frame}
theorem jmC (n:m.R (Gr b l ds k cs)):m.R (Gr b l ds (.code .skip::k) cs):=m.idle rfl (fun w=>by simp [Gr,Fr,G,stepG,stepG.exec]) n
theorem jda {id:Nat} (n:m.R (Gr b l ds k cs)):m.R (Gr b l ds (.inBlock id::k) cs):=m.idle rfl (fun w=>by simp [Gr,Fr,G,stepG,stepG.exec]) n
theorem jce {x y:Code} (n:m.R (Gr b l ds (.code x:: .code y::k) cs)):m.R (Gr b l ds (.code (.seq x y)::k) cs):=m.idle rfl (fun w=>by simp [Gr,Fr,G,stepG,stepG.exec]) n
theorem jdB {id:Nat} {c:Code} (n:m.R (Gr b l ds (.code c:: .inBlock id::k) cs)):m.R (Gr b l ds (.code (.block id c)::k) cs):=m.idle rfl (fun w=>by simp [Gr,Fr,G,stepG,stepG.exec]) n
theorem i_loop {c:Code} (n:m.R (Gr b l ds (.code c:: .inLoop c::k) cs)):m.R (Gr b l ds (.code (.loop c)::k) cs):=m.idle rfl (fun w=>by simp [Gr,Fr,G,stepG,stepG.exec]) n
theorem jj2 {c:Code} (n:m.R (Gr b l ds (.code c:: .inLoop c::k) cs)):m.R (Gr b l ds (.inLoop c::k) cs):=m.idle rfl (fun w=>by simp [Gr,Fr,G,stepG,stepG.exec]) n
theorem jgW {id:Nat} {k':List Item} (e:exitTo id k=some k') (n:m.R (Gr b l ds k' cs)):m.R (Gr b l ds (.code (.exit id)::k) cs):=m.idle rfl (fun w=>by simp [Gr,Fr,G,stepG,stepG.exec,e]) n
theorem jmE {c:Operand} {x y:Code} {t:Bool} (hc:ev l c= .bool t) (n:m.R (Gr b l ds (.code (if t then x else y)::k) cs)):m.R (Gr b l ds (.code (.cond c x y)::k) cs):=
  m.idle rfl (fun w=>by
    have he:=Fr.eval b l ds (.code (.cond c x y)::k)
    simp only [Fr] at he
    simp [Gr,Fr,G,stepG,stepG.exec,he,hc]) n
theorem i_if {c:Operand} {x y:Code} [hc:OpV l c (.bool true)] (n:m.R (Gr b l ds (.code x::k) cs)):m.R (Gr b l ds (.code (.cond c x y)::k) cs):=jmE hc.eq n
theorem i_else {c:Operand} {x y:Code} [hc:OpV l c (.bool false)] (n:m.R (Gr b l ds (.code y::k) cs)):m.R (Gr b l ds (.code (.cond c x y)::k) cs):=jmE hc.eq n
theorem jft (hr:b.roundOf=none) (n:m.R (Gret b l ds (.code .ret::k) cs)):m.R (Gr b l ds (.code .ret::k) cs):=m.idle rfl (fun w=>by simp [Gr,Gret,Fr,G,stepG,stepG.exec,hr]) n
theorem i_end (hr:b.roundOf=none) (n:m.R (Gret b l ds [] cs)):m.R (Gr b l ds [] cs):=m.idle rfl (fun w=>by simp [Gr,Gret,Fr,G,stepG,stepG.exec,hr]) n
theorem jaj {ops:Array Oper} (n:m.R (Gr b l ds k cs)):m.R (Gr b l ds (.inRegion ops []::k) cs):=m.idle rfl (fun w=>by simp [Gr,Fr,G,stepG,stepG.exec]) n
theorem jbh {id:Nat} {ops:Array Oper} {r:List Nat} (hr:List.range ops.size=r) (n:m.R (Gr b l ds (.inRegion ops r::k) cs)):m.R (Gr b l ds (.code (.region id ops false)::k) cs):=
  m.idle rfl (fun w=>by simp [Gr,Fr,G,stepG,stepG.exec]) (hr▸n)
theorem jet {main:Bool} {ops:Array Oper} {i:Nat} {rest:List Nat} {o:Oper} (ho:ops[i]?=some o) (hw:Region.wanted o (yielded ops l.toArray)=true) (hd: ∀c,o.op≠ .defer c) (w:World):
    stepG P main (Gr b l ds (.inRegion ops (i::rest)::k) cs) w=stepG.apply P true (Fr b l ds (.inRegion ops (i::rest)::k)) cs none (execOp (ev l) o) w:=by
  have he:=Fr.eval b l ds (.inRegion ops (i::rest)::k)
  simp only [Fr] at he
  cases hr:b.roundOf with
  |none=>
    rw [hr] at he
    simp [Gr,G,stepG,stepG.exec,stepG.oper,Frame.oper?,Fr,ho,hw,hr,he]
  |some x=>
    rw [hr] at he
    simp [Gr,G,stepG,stepG.exec,stepG.oper,Frame.oper?,Fr,ho,hw,hr]
    split
    · rename_i c _ hop
      exact absurd hop (hd c)
    · rw [he]
theorem jc4 (fn:FuncId):seen P fn #[]= #[]:=by
  apply Array.eq_empty_of_size_eq_zero
  rcases Nat.eq_zero_or_pos (seen P fn #[]).size with h|h
  · exact h
  · have:=jbT P fn #[] (seen P fn #[])[0] (Array.getElem_mem h)
    simp at this
theorem i_op {ops:Array Oper} {i:Nat} {rest:List Nat} {o:Oper} {v:Value} (ho:ops[i]?=some o) (hw:Wt ops l o.guard) (hd: ∀c,o.op≠ .defer c) (t:Still P (execOp (ev l) o) (.value v)) [p:PutV l o.dst v l'] (n:m.R (Gr b l' ds (.inRegion ops rest::k) cs)):
    m.R (Gr b l ds (.inRegion ops (i::rest)::k) cs):=by
  refine m.idle rfl (fun w=>?_) n
  rw [jet ho hw.wanted hd w];have hr:=t.run w
  have hev:=t.events w
  have hfin:=Fr.finish b l ds ops i rest k v ho
  rw [p.eq] at hfin
  simp [stepG.apply,hr,hev,G,GStep.after,Gr,hfin,jc4]
theorem jjc {ops:Array Oper} {i:Nat} {rest:List Nat} {d:Option Tmp} {op:Op} {ty:TypeId} {pos:String} {af:Array Edge} {g:Option (Nat×Bool)} (ho:ops[i]?=some ⟨d,op,ty,pos,af,g⟩) (hw:Wn ops l g) [p:PutV l d undef l'] (n:m.R (Gr b l' ds (.inRegion ops rest::k) cs)):m.R (Gr b l ds (.inRegion ops (i::rest)::k) cs):=by
  refine m.idle rfl (fun w=>?_) n
  have hfin:=Fr.finish b l ds ops i rest k undef ho
  rw [p.eq] at hfin
  unfold Gr
  rw [←hfin];simp [G,stepG,stepG.exec,Fr,ho,Wn.wanted (o:=⟨d,op,ty,pos,af,g⟩) hw]
theorem i_call {ops:Array Oper} {i:Nat} {rest:List Nat} {d:Option Tmp} {ty:TypeId} {pos:String} {af:Array Edge} {g:Option (Nat×Bool)} {x:Operand} {args:List Operand} {ats:Array TypeId} {f:FuncId} {first cap:Array Value} {vs:List Value}
    (ho:ops[i]?=some ⟨d,.call ⟨.value x,args.toArray,ats⟩,ty,pos,af,g⟩) (hw:Wt ops l g) [ex:OpV l x (.func (.func f) first cap)] [ea:ArgsV l args vs] (hf:ja4 P f=true)
    (n:m.R (G (Frame.enter P f (first++vs.toArray++cap) .normal) (Fr b l ds (.inRegion ops (i::rest)::k)::cs))):m.R (Gr b l ds (.inRegion ops (i::rest)::k) cs):=by
  refine m.idle rfl (fun w=>?_) n
  rw [jet ho (Wt.wanted (o:=⟨d,.call ⟨.value x,args.toArray,ats⟩,ty,pos,af,g⟩) hw) (by simp) w];have t:Still P (execOp (ev l) ⟨d,.call ⟨.value x,args.toArray,ats⟩,ty,pos,af,g⟩) (.enter f (first++vs.toArray++cap)):=by
    have e:(Array.map (ev l) args.toArray)=vs.toArray:=by rw [List.map_toArray,ea.eq]
    simp only [execOp,resolve,e,ex.eq,Deferred.ofValue]
    refine Still.bind (a:=⟨.fn (.func f) cap,first++vs.toArray⟩) (Still.pure _) ?_
    simp only [invoke]
    unfold ja4 at hf
    split at hf
    · rename_i fn e
      simp only [Bool.and_eq_true,Bool.not_eq_true'] at hf
      have hb:fn.body.isNone=false:=by
        cases hx:fn.body with
        |none=>rw [hx] at hf;simp at hf
        |some c=>rfl
      unfold callFunc
      refine Still.bind Still.program ?_
      rw [e];simp only [hf.1,hb,Bool.false_eq_true,if_false]
      exact Still.pure _
    · cases hf
  have hr:=t.run w
  have hev:=t.events w
  simp [stepG.apply,hr,hev,G,GStep.after,Fr,jc4]
theorem jbX {f:FuncId} {fn:Func} {body:Code} {args:List Value} {n:Nat} (hf:P.funcs[f]?=some fn) (hb:fn.body=some body) (hn:fn.ntmps=n) (hl:args++List.replicate (n-args.length) undef=l)
    (t:m.R (Gr (bF f) l [] [.code body] cs)):m.R (G (Frame.enter P f args.toArray .normal) cs):=by
  have e:Frame.enter P f args.toArray .normal=Fr (bF f) l [] [.code body]:=by
    subst hl
    simp [Frame.enter,hf,hb,hn,Fr,bF]
  rw [e];exact t
theorem jaK {b:Frame} {todo:List Item} {c:Frame} {cs:List Frame} {fn:Func} {v:Value} (hk:b.kind= .normal) (hf:P.funcs[b.fn]?=some fn) (hr:Still P (results fn l.toArray) v) (n:m.R (G (c.finish v) cs)):m.R (Gret b l [] todo (c::cs)):=by
  refine m.idle rfl (fun w=>?_) n
  have h1:=hr.run w
  have h2:=hr.events w
  simp [Gret,Fr,G,stepG,unwind,doReturn,hf,h1,h2,hk,GStep.after,jc4]
theorem jas {fn:Func} (hr:fn.results= #[]):Still P (results fn l.toArray) (.tuple #[]):= .of (fun w=>results_none hr _ P w) fun w=>by simp [results,hr]
theorem ja2 {fn:Func} {t:Tmp} {v:Value} (hr:fn.results= #[.tmp t]) [s:Slot l t v]:Still P (results fn l.toArray) v:= .of (fun w=>by rw [results_tmp hr,Array.getD_eq_getD_getElem?,List.getElem?_toArray,←List.getD_eq_getElem?_getD,s.eq]) fun w=>by simp [results,hr]
theorem fin_at {ops:Array Oper} {i:Nat} {rest:List Nat} {o:Oper} {v:Value} (ho:ops[i]?=some o) [p:PutV l o.dst v l']:(Fr b l ds (.inRegion ops (i::rest)::k)).finish v=Fr b l' ds (.inRegion ops rest::k):=by
  rw [Fr.finish b l ds ops i rest k v ho,p.eq]
variable {ops:Array Oper} {i:Nat} {rest:List Nat} {d:Option Tmp} {ty:TypeId} {pos:String} {af:Array Edge} {g:Option (Nat×Bool)}
theorem i_mv {x:Operand} {v:Value} (ho:ops[i]?=some ⟨d,.move x,ty,pos,af,g⟩) (hw:Wt ops l g) [e:OpV l x v] [PutV l d v l'] (n:m.R (Gr b l' ds (.inRegion ops rest::k) cs)):m.R (Gr b l ds (.inRegion ops (i::rest)::k) cs):=
  i_op (v:=v) ho hw (by simp) (by simp only [execOp,e.eq];exact Still.pure _) n
theorem i_as {x:Operand} {v:Value} (ho:ops[i]?=some ⟨d,.assign x,ty,pos,af,g⟩) (hw:Wt ops l g) [e:OpV l x v] [PutV l d v l'] (n:m.R (Gr b l' ds (.inRegion ops rest::k) cs)):m.R (Gr b l ds (.inRegion ops (i::rest)::k) cs):=
  i_op (v:=v) ho hw (by simp) (by simp only [execOp,e.eq];exact Still.pure _) n
theorem jgV {x:Operand} {a:Addr} (ho:ops[i]?=some ⟨d,.nilCheck x,ty,pos,af,g⟩) (hw:Wt ops l g) [e:OpV l x (.pointer (some a))] [PutV l d (.pointer (some a)) l'] (n:m.R (Gr b l' ds (.inRegion ops rest::k) cs)):m.R (Gr b l ds (.inRegion ops (i::rest)::k) cs):=
  i_op (v:= .pointer (some a)) ho hw (by simp) (by simp only [execOp,e.eq];exact Still.pure _) n
theorem jam {x y:Operand} {op:BinOp} {t u:TypeId} {kk:IntKind} {p q:Int} {v:Value} (ho:ops[i]?=some ⟨d,.binOp op t x y u,ty,pos,af,g⟩) (hw:Wt ops l g) [ex:OpV l x (.int kk p)] [ey:OpV l y (.int kk q)] (hs:op≠ .shl∧op≠ .shr)
    (hv:binOp op t (.int kk p) (.int kk q)=Sem.pure v) [PutV l d v l'] (n:m.R (Gr b l' ds (.inRegion ops rest::k) cs)):m.R (Gr b l ds (.inRegion ops (i::rest)::k) cs):=
  i_op (v:=v) ho hw (by simp) (by
    simp only [execOp,ex.eq,ey.eq]
    refine Still.value (Still.bind (a:=()) ?_ ?_)
    · cases op<;>exact Still.pure ()
    · rw [hv];exact Still.pure _) n
theorem jmD {t:TypeId} {x:Operand} {c:Bool} (ho:ops[i]?=some ⟨d,.unOp .not t x,ty,pos,af,g⟩) (hw:Wt ops l g) [e:OpV l x (.bool c)] [PutV l d (.bool !c) l'] (n:m.R (Gr b l' ds (.inRegion ops rest::k) cs)):m.R (Gr b l ds (.inRegion ops (i::rest)::k) cs):=
  i_op (v:= .bool !c) ho hw (by simp) (.of (fun w=>by simp [execOp,e.eq,Op.unary]) fun w=>by simp [execOp,e.eq,Op.unary]) n
end
end Go.Lo
namespace Go.Lo
open Go.Conc
section
variable {P:Program} {B:Array Obj} {W:World}
def jjq (P:Program) (B:Array Obj) (K:Value→Hp→Prop) (g:Goroutine) (h:Hp):Prop:=
  g.status= .running∧ ∃v,K v h∧ ∀w,Sat B h w→ ∃es,stepG P true g w= .ended (.done v) w es∧ ∀e∈es,EvOk B h w.heap.size w.heap.size e
theorem runNT_trans' {m m':Machine} {t t':Trace} {N:Nat} (h:runNT P N m t=(.next m',t')) {M:Nat} {R:Stepped×Trace} (r:runNT P M m' t'=R):runNT P (N+M) m t=R:=by
  induction N generalizing m t with
  |zero=>
    simp only [runNT,Prod.mk.injEq,Stepped.next.injEq] at h
    obtain ⟨rfl,rfl⟩:=h
    rw [Nat.zero_add];exact r
  |succ N ih=>
    rw [show N+1+M=N+M+1 by omega];simp only [runNT] at h⊢
    cases hs:stepT P m with
    |mk s u=>
      rw [hs] at h
      cases s with
      |next m1=>exact ih h
      |ended o w=>simp at h
end
end Go.Lo
namespace Go.Lo
open Go.Conc
theorem awoken_of' {g:Goroutine} (h:g.status≠ .blocked):awoken g=g:=by unfold awoken;rw [if_neg h]
theorem jg1 {Sh:Nat→Prop} {i:Nat} {G G':Prop} (hG:G'→G): ∀(l:List Event) (d:Nat),jd0 Sh i G d l→jd0 Sh i G' d l
  |[],_,_=>trivial
  |e::l,d,h=>by
    refine ⟨?_,jg1 hG l _ h.2⟩
    have h1:=h.1
    obtain ⟨lc,wr,sy⟩:=e
    cases lc with
    |cell ad=>exact ⟨h1.1,h1.2.1,fun x=>h1.2.2 (hG x)⟩
    |mark m=>cases m<;>first|exact ⟨h1.1,h1.2.1,fun x=>h1.2.2 (hG x)⟩|trivial|exact h1
    |_=>exact h1
section
variable {P:Program} {B:Array Obj} {W:World} {old:Nat→Prop} {Shp Shp' Pool Pool':Hp} {la wa:Addr} {Gone Gone' Live Live':Nat→Prop} {gs:Array Goroutine} {w w':World} {t:Trace} {Hl Hl':Nat→Hp} {sl:Option (Nat×Nat)} {Tf:Nat→TrU} {Dl:Nat→Nat}
theorem CoreS.spawn (c:CoreS B W old Shp Pool la wa Gone Live gs w t Hl) {g g' child:Goroutine} {hg hc:Hp} (hi:gs[0]?=some g) (hst:stepG P true g w= .spawn g' child w #[]) (k1:Weak B (Hl 0) hg) (k2:Weak B (Hl 0) hc) (ap:ApH hg hc) (q:QuietS g') (qc:QuietS child)
    (hlv:Live 0) (hlv': ∀j,Live' j→Live j∨j=gs.size) (hd:Deaf t 0=0) (hG: ¬Gone' gs.size) (hG': ∀j,Gone' j→Gone j):
    runT P (crowd gs w sl) 0=(.next (crowd ((gs.setIfInBounds 0 g').push child) w sl),#[{g:=0,fn:=g.frame.fn,pos:=g.frame.place,act:= .go gs.size},{g:=gs.size,fn:=child.frame.fn,pos:=g.frame.place,act:= .start}])∧
      CoreS B W old Shp Pool la wa Gone' Live' ((gs.setIfInBounds 0 g').push child) w (t++ #[{g:=0,fn:=g.frame.fn,pos:=g.frame.place,act:= .go gs.size},{g:=gs.size,fn:=child.frame.fn,pos:=g.frame.place,act:= .start}]) (updH (updH Hl 0 hg) gs.size hc):=by
  have hlt:0<gs.size:=(Array.getElem?_eq_some_iff.1 hi).1
  have key: ∀j,∀d∈updH (updH Hl 0 hg) gs.size hc j,(j=gs.size∧d∈hc)∨(j=0∧d∈hg)∨(j≠0∧j≠gs.size∧d∈Hl j):=fun j d hd=>by
    by_cases e:j=gs.size
    · subst e;rw [updH_same] at hd;exact .inl ⟨rfl,hd⟩
    · rw [jar _ _ e] at hd
      by_cases e2:j=0
      · subst e2;rw [updH_same] at hd;exact .inr (.inl ⟨rfl,hd⟩)
      · rw [jar _ _ e2] at hd;exact .inr (.inr ⟨e2,e,hd⟩)
  have from0: ∀j,∀d∈updH (updH Hl 0 hg) gs.size hc j,∃l,∃x∈Hl l,x.b=d.b∧(d.rw=true→x.rw=true):=fun j d hd=>by
    rcases key j d hd with ⟨_,m⟩|⟨_,m⟩|⟨_,_,m⟩
    · obtain ⟨x,hx,h⟩:=k2.key d m;exact ⟨0,x,hx,h⟩
    · obtain ⟨x,hx,h⟩:=k1.key d m;exact ⟨0,x,hx,h⟩
    · exact ⟨j,d,m,rfl,id⟩
  refine ⟨?_,fun j=>?_,c.satS,fun j l hjl d hd x hx hor=>?_,fun j x hx d hd hor=>?_,c.shB,fun b hb=>⟨(c.oldB b hb).1,fun j d hd=>?_,(c.oldB b hb).2.2⟩,?_,c.far,fun j hj=>?_,fun j x hj=>?_⟩
  · rw [runT_crowd_spawn (i:=0) hi hst];rfl
  · by_cases e:j=gs.size
    · subst e;rw [updH_same];exact k2.sat _ (c.sat 0)
    · rw [jar _ _ e];by_cases e2:j=0
      · subst e2;rw [updH_same];exact k1.sat _ (c.sat 0)
      · rw [jar _ _ e2];exact c.sat j
  · have old': ∀(l:Nat),l≠0→ ∀(y z:Chunk),y∈Hl l→(z∈hc∨z∈hg)→(y.rw=true∨z.rw=true)→y.b≠z.b:=fun l hl y z hy hz ho=>by
      rcases hz with hz|hz
      · obtain ⟨z',hz',e,r⟩:=k2.key z hz
        rw [←e];exact c.apart l 0 hl y hy z' hz' (ho.imp id r)
      · obtain ⟨z',hz',e,r⟩:=k1.key z hz
        rw [←e];exact c.apart l 0 hl y hy z' hz' (ho.imp id r)
    rcases key j d hd with ⟨e1,m1⟩|⟨e1,m1⟩|⟨e1,e1',m1⟩<;>rcases key l x hx with ⟨e2,m2⟩|⟨e2,m2⟩|⟨e2,e2',m2⟩
    · exact absurd (e1.trans e2.symm) hjl
    · exact ap.symm d m1 x m2 hor
    · exact fun e=>old' l e2 x d m2 (.inl m1) hor.symm e.symm
    · exact ap d m1 x m2 hor
    · exact absurd (e1.trans e2.symm) hjl
    · exact fun e=>old' l e2 x d m2 (.inr m1) hor.symm e.symm
    · exact old' j e1 d x m1 (.inl m2) hor
    · exact old' j e1 d x m1 (.inr m2) hor
    · exact c.apart j l hjl d m1 x m2 hor
  · obtain ⟨l,y,hy,e,r⟩:=from0 j d hd
    rw [←e];exact c.apS l x hx y hy (hor.imp id r)
  · obtain ⟨l,y,hy,e,r⟩:=from0 j d hd
    rw [←e];exact (c.oldB b hb).2.1 l y hy
  · rw [Array.size_push,Array.size_setIfInBounds];exact (c.tj.less (Live':=Live) (fun _ h=>h) hG').spawn hlt hlv hlv' (Nat.le_refl _) k1.key k2.key hd hG _ _ _
  · simp only [Array.size_push,Array.size_setIfInBounds] at hj
    rw [jar _ _ (by omega),jar _ _ (by omega)];exact c.out j (by omega)
  · rw [Array.getElem?_push] at hj
    split at hj
    · exact (Option.some.inj hj)▸qc
    · rcases get_set hj with ⟨rfl,rfl⟩|⟨_,hj'⟩
      · exact q
      · exact c.quiet j x hj'
theorem jlf {n:Nat} (t:Trace) (a b:MemOp) (ha:a.act= .go n) (hb:b.act= .start) (j:Nat):Deaf (t++ #[a,b]) j=Deaf t j:=by
  have e:t++ #[a,b]=t++ #[a]++ #[b]:=by rw [Array.append_assoc];rfl
  rw [e,Deaf_push,Deaf_push];simp [deafStep,ha,hb]
theorem Cf0.pickable (c:Cf0 P B W old la wa gs w t Hl Tf Dl) {g:Goroutine} (h0:gs[0]?=some g) (hg:g.status= .running) {i:Nat} {x y:Goroutine} (hi:gs[i]?=some x):x.status≠ .blocked:=by
  by_cases e:i=0
  · subst e;rw [h0] at hi;obtain rfl:=Option.some.inj hi;rw [hg];decide
  · obtain ⟨k,_,q,_⟩:=c.kids i x e hi
    rcases q.status with h|h<;>rw [h]<;>decide
theorem jia (X:Array Goroutine→World→Option (Nat×Nat)→Trace→Prop) (hX: ∀{gs gs1:Array Goroutine} {w w1:World} {sl sl1:Option (Nat×Nat)} {t u:Trace},stepT P (crowd gs w sl)=(.next (crowd gs1 w1 sl1),u)→X gs1 w1 sl1 (t++u)→X gs w sl t)
    {g:Goroutine} {h:Hp} (hg:g.status= .running)
    (own: ∀(old:Nat→Prop) (la wa:Addr) (gs:Array Goroutine) (w w0:World) (sl sl0:Option (Nat×Nat)) (t:Trace) (Hl:Nat→Hp) (Tf:Nat→TrU) (Dl:Nat→Nat),gs[0]?=some g→Hl 0=h→Cf0 P B W old la wa gs w t Hl Tf Dl→stepT P (crowd gs w0 sl0)=runT P (crowd gs w sl) 0→X gs w0 sl0 t):
    ∀(old:Nat→Prop) (la wa:Addr) (gs:Array Goroutine) (w:World) (sl:Option (Nat×Nat)) (t:Trace) (Hl:Nat→Hp) (Tf:Nat→TrU) (Dl:Nat→Nat),gs[0]?=some g→Hl 0=h→Cf0 P B W old la wa gs w t Hl Tf Dl→X gs w sl t:=by
  have gen: ∀(m:Nat) (Tf:Nat→TrU),Acc (ULt m) Tf→ ∀(old:Nat→Prop) (la wa:Addr) (gs:Array Goroutine) (w:World) (sl:Option (Nat×Nat)) (t:Trace) (Hl:Nat→Hp) (Dl:Nat→Nat),gs.size=m→gs[0]?=some g→Hl 0=h→Cf0 P B W old la wa gs w t Hl Tf Dl→X gs w sl t:=by
    intro m Tf acc
    induction acc with
    |intro Tf _ ihT=>
      intro old la wa gs w sl t Hl Dl hm h0 hh c
      obtain ⟨i,x,dd,sl',hi,hx,hst⟩:=c.core.pick (P:=P) sl ⟨0,g,h0,hg⟩
      have c':Cf0 P B W old la wa gs (w.at dd) t Hl Tf Dl:=⟨c.core.at dd,c.deaf,c.d0,c.kids,c.hk⟩
      by_cases e:i=0
      · subst e
        exact own old la wa gs (w.at dd) w sl' sl t Hl Tf Dl h0 hh c' hst
      · obtain ⟨k,hT,q,hH⟩:=c.kids i x e hi
        have hlt:i<gs.size:=(Array.getElem?_eq_some_iff.1 hi).1
        cases k with
        |zero=>have:=q.1;rw [this] at hx;cases hx
        |succ k=>
          rcases q with ⟨hq,_⟩|⟨_,g',es,hme,hstep,hq⟩
          · rw [hq] at hx;cases hx
          · have hz:(i==0)=false:=by simpa using e
            have hq':=hq.status
            obtain ⟨r1,r2⟩:=c'.core.slip (P:=P) (sl:=sl') hi (by rw [hz];exact hstep _) hme (hq'.elim .runs .ended)
            have others: ∀{j:Nat} {y:Goroutine},j≠i→gs[j]?=some y→(after P x g' (w.at dd) gs i)[j]?=some y:=fun {j y} hj hy=>by
              rw [jbY c.core.quiet (fun e=>hj e.symm) hy,awoken_of' (c.pickable (y:=y) h0 hg hy)];split<;>rfl
            refine hX (hst.trans r1) (ihT (updU Tf i (.ofNat k)) (by rw [←hm];exact jdr hlt (by rw [hT];exact TrU.lt (fun _:Unit=>TrU.ofNat k) ())) old la wa _ (w.at dd) sl' _ Hl (updN Dl i (deafBehind (Dl i) es)) (by rw [jaC];exact hm) (others (fun x=>e x.symm) h0) hh ⟨r2,fun j=>?_,by rw [jb4 _ _ (fun x=>e x.symm)];exact c.d0,fun j y hj hy=>?_,fun j y hy hy0 hct=>?_⟩)
            · by_cases ej:j=i
              · subst ej;rw [updN_same,Deaf_own,c.deaf j]
              · rw [jb4 _ _ ej,Deaf_other t (fun x=>ej x.symm) _ fun op hop=>by obtain ⟨e',_,rfl⟩:=jcG hop;rfl];exact c.deaf j
            · by_cases ej:j=i
              · subst ej
                rw [jaN hi] at hy
                obtain rfl:=Option.some.inj hy
                exact ⟨k,updU_same _ _ _,by rw [updN_same];exact hq,hH⟩
              · have hlt':j<gs.size:=by have:=(Array.getElem?_eq_some_iff.1 hy).1;rwa [jaC] at this
                rw [others ej (Array.getElem?_eq_getElem hlt')] at hy
                obtain rfl:=Option.some.inj hy
                obtain ⟨k',a1,a2,a3⟩:=c.kids j _ hj (Array.getElem?_eq_getElem hlt')
                exact ⟨k',by rw [jed _ _ ej];exact a1,by rw [jb4 _ _ ej];exact a2,a3⟩
            · rcases getElem?_append_cases hy with ⟨_,hy'⟩|⟨_,hyu⟩
              · exact (c.hk j y hy' hy0 ((counts_old (Array.getElem?_eq_some_iff.1 hy').1).1 hct)).app _
              · obtain ⟨a,ha,_⟩:=hct
                obtain ⟨z,hz',hza⟩:=touch_of ha
                rw [hy] at hz'
                obtain rfl:=Option.some.inj hz'
                obtain ⟨e',he',rfl⟩:=jcG hyu
                have hm':=hme e' he'
                obtain ⟨lc,wr,sy⟩:=e'
                cases lc with
                |mark m=>cases m<;>first|(exfalso;cases hm';done)|cases hza
                |_=>cases hm'
  intro old la wa gs w sl t Hl Tf Dl h0 hh c
  exact gen gs.size Tf (ULt.acc _ _) old la wa gs w sl t Hl Dl rfl h0 hh c
end
end Go.Lo
namespace Go.Lo
open Go.Conc
section
variable {P:Program} {B:Array Obj} {W:World} {K:Goroutine→Hp→Prop}
def GoalS (P:Program) (B:Array Obj) (W:World) (K:Goroutine→Hp→Prop) (M:Option MSt) (g:Goroutine) (h:Hp):Prop:=
  match M with
  |none=> ∀(old:Nat→Prop) (la wa:Addr) (gs:Array Goroutine) (w:World) (sl:Option (Nat×Nat)) (t:Trace) (Hl:Nat→Hp) (Tf:Nat→TrU) (Dl:Nat→Nat),gs[0]?=some g→Hl 0=h→Cf0 P B W old la wa gs w t Hl Tf Dl→FinS P B W K gs w sl t
  |some m=>m.Q.Live→ ∀(old:Nat→Prop) (F:Nat→Option m.Q.S) (Shp Pool:Hp) (gs:Array Goroutine) (w:World) (sl:Option (Nat×Nat)) (t:Trace) (Hl:Nat→Hp) (Tf:Nat→TrU) (Dl:Nat→Nat),gs[0]?=some g→Hl 0=h→F 0=some m.s→Dl 0=m.d→CfS P B W m.Q old F Shp Pool gs w t Hl Tf Dl→FinS P B W K gs w sl t
theorem jgY (Q:ProS) (F:Nat→Option Q.S): ¬jdc Q F 0:=fun h=>h.1 rfl
theorem jlP (hK: ∀g h,K g h→g.status= .running) {M:Option MSt} {g:Goroutine} {h:Hp} (r:MRunS P B K M g h):GoalS P B W K M g h:=by
  induction r with
  | @stop g h k=>
    intro old la wa gs w sl t Hl Tf Dl h0 hh c
    exact ⟨0,g,gs,w,sl,t,Hl,Tf,Dl,old,la,wa,rfl,h0,by rw [hh];exact k,c⟩
  | @weak M g h h' k _ ih=>
    cases M with
    |none=>
      intro old la wa gs w sl t Hl Tf Dl h0 hh c
      exact ih old la wa gs w sl t (updH Hl 0 h') Tf Dl h0 (updH_same _ _ _) ⟨c.core.weak (by rw [hh];exact k),c.deaf,c.d0,fun i x hi hx=>by rw [jar _ _ hi];exact c.kids i x hi hx,c.hk⟩
    |some m=>
      intro live old F Shp Pool gs w sl t Hl Tf Dl h0 hh hF hD c
      exact ih live old F Shp Pool gs w sl t (updH Hl 0 h') Tf Dl h0 (updH_same _ _ _) hF hD ⟨c.core.weak (by rw [hh];exact k),c.inv,c.deaf,fun i x hi hx=>by rw [jar _ _ hi];exact c.kids i x hi hx,c.dom⟩
  | @step M g h K' s cr ih=>
    cases M with
    |none=>
      intro old la wa gs w sl t Hl Tf Dl h0 hh c
      refine jia (FinS P B W K) (fun a b=>FinS.step a b) s.1 (fun old la wa gs w w0 sl sl0 t Hl Tf Dl h0 hh c hst=>?_) old la wa gs w sl t Hl Tf Dl h0 hh c
      obtain ⟨g',w',es,h',hs,st,hk⟩:=s.2 w (by rw [←hh];exact c.core.sat 0)
      obtain ⟨r1,r2⟩:=c.core.own (P:=P) (sl:=sl) h0 hs (by rw [hh];exact st) (fun x=>x rfl) (.runs ((cr _ _ hk).running hK))
      refine FinS.step (hst.trans r1) (ih g' h' hk old la wa _ w' sl _ (updH Hl 0 h') Tf Dl (jaN h0) (updH_same _ _ _) ⟨r2,fun j=>(jhA st t 0 _ _ j).trans (c.deaf j),c.d0,fun j y hj hy=>?_,fun j y hy hy0 hct=>?_⟩)
      · have hlt':j<gs.size:=by have:=(Array.getElem?_eq_some_iff.1 hy).1;rwa [jaC] at this
        rw [jbY c.core.quiet (fun e=>hj e.symm) (Array.getElem?_eq_getElem hlt'),awoken_of' (c.pickable (y:=gs[j]) h0 s.1 (Array.getElem?_eq_getElem hlt'))] at hy
        have hy:gs[j]=y:=by split at hy<;>exact Option.some.inj hy
        subst hy
        rw [jar _ _ hj];exact c.kids j _ hj (Array.getElem?_eq_getElem hlt')
      · rcases getElem?_append_cases hy with ⟨_,hy'⟩|⟨_,hyu⟩
        · exact (c.hk j y hy' hy0 ((counts_old (Array.getElem?_eq_some_iff.1 hy').1).1 hct)).app _
        · obtain ⟨e',_,rfl⟩:=jcG hyu
          exact absurd rfl hy0
    |some m=>
      intro live old F Shp Pool gs w sl t Hl Tf Dl h0 hh hF hD c
      refine jdQ (s:=m.s) (d:=m.d) live s.1 (fun old F Shp Pool gs w sl t Hl Tf Dl h0 hh hF hD c=> .inl ?_) old F Shp Pool gs w sl t Hl Tf Dl g h0 (.inl rfl) hh hF hD c
      obtain ⟨g',w',es,h',hs,st,hk⟩:=s.2 w (by rw [←hh];exact c.core.sat 0)
      obtain ⟨r1,r2⟩:=c.core.own (P:=P) (sl:=sl) h0 hs (by rw [hh];exact st) (fun x=>x.1 rfl) (.runs ((cr _ _ hk).running hK))
      refine ⟨_,_,_,r1,ih g' h' hk live old F Shp Pool _ w' sl _ (updH Hl 0 h') Tf Dl (jaN h0) (updH_same _ _ _) hF hD ⟨r2,c.inv,fun j=>(jhA st t 0 _ _ j).trans (c.deaf j),fun j y hj hy=>?_,fun j hj=>c.dom j (by rwa [jaC] at hj)⟩⟩
      rw [jar _ _ hj];exact jb3 c.core.quiet c.kids (.inl rfl) hj hj hy
  | @phase g h' Shp Pool Q s0 hrw live inv _ ih=>
    intro old la wa gs w sl t Hl Tf Dl h0 hh c
    have cc:=c.core
    have hF: ∀j,j≠0→(fun j=>if j=0 then some s0 else none:Nat→Option Q.S) j=none:=fun j hj=>by simp [hj]
    have mem0: ∀{x:Chunk},x∈h'∨x∈Pool∨x∈Shp→x∈Hl 0:=fun {x} hx=>by
      rw [hh];simp only [List.mem_append];rcases hx with h|h|h
      · exact .inl (.inl h)
      · exact .inl (.inr h)
      · exact .inr h
    have s0':=cc.sat 0
    rw [hh] at s0'
    have sub: ∀{X:Hp},X.Sublist (h'++Pool++Shp)→Sat B X w:=fun {X} hX=>⟨s0'.base,fun d hd=>s0'.mem d (hX.subset hd),s0'.apart.sublist hX⟩
    have key: ∀j,∀d∈updH Hl 0 h' j,d∈Hl j:=fun j d hd=>by
      by_cases e:j=0
      · subst e;rw [updH_same] at hd;exact mem0 (.inl hd)
      · rwa [jar _ _ e] at hd
    refine ih live old (fun j=>if j=0 then some s0 else none) Shp Pool gs w sl t (updH Hl 0 h') Tf Dl h0 (updH_same _ _ _) (by simp) c.d0 ⟨⟨fun j=>?_,sub (by rw [List.append_assoc];exact List.sublist_append_right _ _),fun j k hjk d hd x hx=>cc.apart j k hjk d (key j d hd) x (key k x hx),fun j x hx d hd hor=>?_,hrw,fun b hb=>?_,?_,cc.far,fun j hj=>?_,cc.quiet⟩,inv,c.deaf,fun j y hj hy=>?_,fun j hj=>hF j (by have:=(Array.getElem?_eq_some_iff.1 h0).1;omega)⟩
    · by_cases e:j=0
      · subst e;rw [updH_same];exact sub (by rw [List.append_assoc];exact List.sublist_append_left _ _)
      · rw [jar _ _ e];exact cc.sat j
    · by_cases e:j=0
      · subst e;rw [updH_same] at hd
        have:=s0'.apart
        rw [List.append_assoc] at this
        exact fun e=>(List.pairwise_append.1 this).2.2 d hd x hx hor.symm e.symm
      · rw [jar _ _ e] at hd
        exact cc.apart 0 j (fun x=>e x.symm) x (mem0 (.inr (List.mem_append.1 hx))) d hd hor
    · obtain ⟨o1,o2,o3⟩:=cc.oldB b hb
      exact ⟨o1,fun j d hd=>o2 j d (key j d hd),fun d hd=>o2 0 d (mem0 (.inr (.inl hd)))⟩
    · have:=(cc.tj.share (Sh':=fun b=>old b∨ ∃x∈Shp,x.b=b) (la':=Q.la) (wa':=Q.wa) (h':=h') (hp:=Pool) (Gone':=fun i=> ∀s,(fun j=>if j=0 then some s0 else none:Nat→Option Q.S) i=some s→Q.gone s) (fun g h=>h) c.hk
        (fun b hb=>by rcases hb with h|⟨_,h,_⟩;exact .inl h;simp at h) (fun b hb=>by
          rcases hb with h|⟨x,h,e⟩
          · exact .inl (.inl h)
          · exact .inr ⟨x,mem0 (.inr (.inr h)),e,hrw x h⟩)
        (fun x hx=>⟨x,mem0 (.inl hx),rfl,id⟩) (fun x hx=>⟨x,mem0 (.inr (.inl hx)),rfl,id⟩))
      exact this.less (fun j hj=>by
        rcases hj with h|h
        · exact h
        · by_cases e:j=0
          · exact e
          · exact absurd (hF j e) h) (fun _ h=>h)
    · have:=(Array.getElem?_eq_some_iff.1 h0).1
      rw [jar _ _ (by omega)];exact cc.out j hj
    · obtain ⟨k,e1,e2,e3⟩:=c.kids j y hj hy
      rw [jar _ _ hj,e1,e3,if_neg hj];exact .left e2
  | @sync Q d s g h K' hs ho st cr nn ih=>
    intro live old F Shp Pool gs w sl t Hl Tf Dl h0 hh hF hD c
    refine jdQ (s:=s) (d:=d) live hs (fun old F Shp Pool gs w sl t Hl Tf Dl h0 hh hF hD c=>?_) old F Shp Pool gs w sl t Hl Tf Dl g h0 (.inl rfl) hh hF hD c
    have hlt:0<gs.size:=(Array.getElem?_eq_some_iff.1 h0).1
    have so:=st Shp Pool F w c.inv hF (by rw [←hh];exact c.core.satAll 0)
    have hlv:jeD Q F 0:= .inl rfl
    have hdeaf:Deaf t 0=d:=(c.deaf 0).trans hD
    have oth: ∀{g':Goroutine} {w':World} {Shp':Hp} {o:Option Q.S} {dn:Nat} (hs:Shp'=Shp∨(mayWake P g&&g'.status != .blocked&&g'.status != .waiting)=true) (hn:Hp) {j:Nat} {x:Goroutine},j≠0→(after P g g' w' gs 0)[j]?=some x→
        KidS P B Q j Shp' (Tf j) (updN Dl 0 dn j) (updS F 0 o j) x (updH Hl 0 hn j):=fun {g' w' Shp' o dn} hsw hn {j x} hj hx=>by
      rw [jb4 _ _ hj,jav _ _ hj,jar _ _ hj];exact jb3 c.core.quiet c.kids hsw hj hj hx
    have deafs: ∀(es:Array Event) (dn:Nat),deafBehind d es=dn→ ∀j,Deaf (t++MemOp.ofEvents 0 g.frame.fn g.frame.place es) j=updN Dl 0 dn j:=fun es dn hdn j=>by
      by_cases e:j=0
      · subst e;rw [updN_same,Deaf_own,hdeaf,hdn]
      · rw [jb4 _ _ e,Deaf_other t (fun x=>e x.symm) _ fun op hop=>by obtain ⟨e',_,rfl⟩:=jcG hop;rfl];exact c.deaf j
    have doms: ∀(o:Option Q.S) (j:Nat),gs.size≤j→updS F 0 o j=none:=fun o j hj=>by rw [jav _ _ (by omega)];exact c.dom j hj
    have sz: ∀{g g':Goroutine} {w':World} {j:Nat},(after P g g' w' gs 0).size≤j→gs.size≤j:=fun h=>by rwa [jaC] at h
    have gnU: ∀(o:Option Q.S) (j:Nat),jdc Q (updS F 0 o) j→jdc Q F j:=fun o j hj=>by
      by_cases e:j=0
      · subst e;exact absurd hj (jgY _ _)
      · exact (jhv o e).1 hj
    generalize hst:stepG P true g w=stp at so
    cases so with
    | @act g' w' l Shp' o e wk hs' fl hgo hno inv k=>
      left
      cases o with
      |none=>exact absurd k (nn _ _ _)
      |some s'=>
      have hw:Shp'=Shp∨(mayWake P g&&g'.status != .blocked&&g'.status != .waiting)=true:=wk.imp id fun h=>by rw [h,hs'];rfl
      obtain ⟨r1,r2⟩:=c.core.plain (P:=P) (sl:=sl) (Gone':=jdc Q (updS F 0 (some s'))) (Live':=jeD Q (updS F 0 (some s'))) h0 hst e (.runs hs') hlv hdeaf (jg1 (fun h=>absurd h (jgY _ _)) l d fl) (jcH hF) (gnU _)
      exact ⟨_,_,_,r1,ih _ _ _ _ k live old (updS F 0 (some s')) Shp' Pool _ w' sl _ (updH Hl 0 h) Tf (updN Dl 0 (l.foldl jem d)) (jaN h0) (updH_same _ _ _) (updS_same _ _ _) (updN_same _ _ _) ⟨by rw [←hh,updH_same'];exact r2,inv,deafs _ _ (jdE d l),fun j x hj hx=>oth hw h hj hx,fun j hj=>doms _ j (sz hj)⟩⟩
    | @take g' s' hs' hd hg inv k=>
      left
      have hy:=jc8 0 g.frame.fn g.frame.place (.acquire Q.la)
      obtain ⟨s1,s2,s3⟩:=c.core.shared
      have T':=c.core.tj.one {g:=0,fn:=g.frame.fn,pos:=g.frame.place,act:= .mark (.acquire Q.la)} hlt (fun b hb=>by cases hb) s1 s2 s3 (fun b hb=>by cases hb) (fun a ha=>by cases ha) (fun _ b hb=>by cases hb)
      have T2:=c.core.tj.take (y:={g:=0,fn:=g.frame.fn,pos:=g.frame.place,act:= .mark (.acquire Q.la)}) hlv rfl (hdeaf.trans hd) T'
      have T3:=T2.less (Live':=jeD Q (updS F 0 (some s'))) (Gone':=jdc Q (updS F 0 (some s'))) (jcH hF) (gnU _)
      obtain ⟨r1,r2⟩:=c.core.sync (P:=P) (sl:=sl) (hi':=Hl 0++Pool) (Pool':=[]) h0 hst (SEff.refl c.core.shB) (.runs hs') (fun x hx=>⟨x,by simpa using hx,rfl,id⟩) (by simpa using c.core.satAll 0) (by rw [hy];exact T3)
      exact ⟨_,_,_,r1,ih _ _ _ _ k live old (updS F 0 (some s')) Shp [] _ w sl _ (updH Hl 0 (h++Pool)) Tf (updN Dl 0 d) (jaN h0) (updH_same _ _ _) (updS_same _ _ _) (updN_same _ _ _) ⟨by rw [←hh];exact r2,inv,deafs _ _ rfl,fun j x hj hx=>oth (.inl rfl) _ hj hx,fun j hj=>doms _ j (sz hj)⟩⟩
    | @put g' s' hr hp hs' hd hg hP eh inv k=>
      left
      subst hP
      have hy:=jc8 0 g.frame.fn g.frame.place (.releaseMerge Q.la)
      obtain ⟨s1,s2,s3⟩:=c.core.shared
      have T':=c.core.tj.one {g:=0,fn:=g.frame.fn,pos:=g.frame.place,act:= .mark (.releaseMerge Q.la)} hlt (fun b hb=>by cases hb) s1 s2 s3 (fun b hb=>by cases hb) (fun a ha=>by cases ha) (fun _ b hb=>by cases hb)
      have key: ∀x∈hr++hp,∃y∈Hl 0,y.b=x.b∧(x.rw=true→y.rw=true):=fun x hx=>by rw [hh];exact eh.key x hx
      have T2:=c.core.tj.put (hr:=hr) (hp:=hp) rfl (hdeaf.trans hd) T' (fun x hx=>key x (List.mem_append_left _ hx)) (fun x hx=>key x (List.mem_append_right _ hx))
      have T3:=T2.less (Live':=jeD Q (updS F 0 (some s'))) (Gone':=jdc Q (updS F 0 (some s'))) (jcH hF) (gnU _)
      obtain ⟨r1,r2⟩:=c.core.sync (P:=P) (sl:=sl) (hi':=hr) (Pool':=hp) h0 hst (SEff.refl c.core.shB) (.runs hs') (fun x hx=>by obtain ⟨y,h1,h2⟩:=key x hx;exact ⟨y,List.mem_append_left _ h1,h2⟩) ((eh.apps Shp).sat w (by have:=c.core.satAll 0;rw [hh] at this;simpa using this)) (by rw [hy];exact T3)
      exact ⟨_,_,_,r1,ih _ _ _ _ k live old (updS F 0 (some s')) Shp hp _ w sl _ (updH Hl 0 hr) Tf (updN Dl 0 d) (jaN h0) (updH_same _ _ _) (updS_same _ _ _) (updN_same _ _ _) ⟨r2,inv,deafs _ _ rfl,fun j x hj hx=>oth (.inl rfl) _ hj hx,fun j hj=>doms _ j (sz hj)⟩⟩
    | @bye g' s' hs' hd hg hi0' inv k=>exact absurd rfl hi0'
    |block hb=>
      right
      obtain ⟨r1,_⟩:=c.core.plain (P:=P) (sl:=sl) (l:=[]) (g':={g with status:= .blocked}) h0 hst (SEff.refl c.core.shB) (.blocks rfl ho) hlv rfl zq (fun _ h=>h) (fun _ h=>h)
      exact ⟨by rw [r1,show MemOp.ofEvents 0 g.frame.fn g.frame.place (List.toArray [])= #[] by simp [ofEvents_eq]],ho,hb⟩
  | @spawn Q s g g' child h h' hc s' sc hs hs' e k1 k2 ap hg inv kid cr ih=>
    intro live old F Shp Pool gs w sl t Hl Tf Dl h0 hh hF hD c
    refine jdQ (s:=s) (d:=0) live hs (fun old F Shp Pool gs w sl t Hl Tf Dl h0 hh hF hD c=> .inl ?_) old F Shp Pool gs w sl t Hl Tf Dl g h0 (.inl rfl) hh hF hD c
    have hlt:0<gs.size:=(Array.getElem?_eq_some_iff.1 h0).1
    have hne:gs.size≠0:=by omega
    obtain ⟨Tk,hTk⟩:=(kid gs.size hne).tree
    have hFn:F gs.size=none:=c.dom _ (Nat.le_refl _)
    have sat0:Sat B h w:=by rw [←hh];exact c.core.sat 0
    generalize hF':updS (updS F 0 (some s')) gs.size (some sc)=F'
    have hF0:F' 0=some s':=by rw [←hF',jav _ _ (fun x=>hne x.symm),updS_same]
    have hFo: ∀j,j≠0→j≠gs.size→F' j=F j:=fun j h1 h2=>by rw [←hF',jav _ _ h2,jav _ _ h1]
    have hFs:F' gs.size=some sc:=by rw [←hF',updS_same]
    have hDn:Dl gs.size=0:=by
      rw [←c.deaf];exact jge fun op hop=>by have:=c.core.tj.gs op hop;omega
    obtain ⟨r1,r2⟩:=c.core.spawn (P:=P) (sl:=sl) (Gone':=jdc Q F') (Live':=jeD Q F') h0 (e w sat0) (by rw [hh];exact k1) (by rw [hh];exact k2) (ap w sat0) (.runs hs') (.runs hTk.running) (.inl rfl) (fun j hj=>by
        by_cases e1:j=0
        · exact .inl (.inl e1)
        · by_cases e2:j=gs.size
          · exact .inr e2
          · unfold jeD at hj;rw [hFo j e1 e2] at hj;exact .inl hj) ((c.deaf 0).trans hD) (fun x=>hg (x.2 sc hFs)) (fun j hj=>by
        by_cases e2:j=gs.size
        · subst e2;exact absurd (hj.2 sc hFs) hg
        · have:=hj.2
          rw [hFo j hj.1 e2] at this
          exact ⟨hj.1,this⟩)
    refine ⟨_,_,_,r1,ih live old F' Shp Pool _ w sl _ _ (updU Tf gs.size Tk) Dl ?_ ?_ hF0 hD ⟨r2,by rw [←hF'];exact inv Shp Pool F gs.size hne c.inv hF hFn,fun j=>by rw [jlf _ _ _ rfl rfl];exact c.deaf j,fun j y hj hy=>?_,fun j hj=>?_⟩⟩
    · rw [Array.getElem?_push_lt (by simpa using hlt)];have:=set_get (x:=g') h0
      rw [Array.getElem?_eq_getElem (by simpa using hlt)] at this
      exact this
    · rw [jar _ _ (fun x=>hne x.symm),updH_same]
    · rw [Array.getElem?_push] at hy
      split at hy
      · rename_i e1
        rw [Array.size_setIfInBounds] at e1
        subst e1
        obtain rfl:=Option.some.inj hy
        rw [updH_same,updU_same,hFs,hDn];exact .run hTk
      · rename_i e1
        rw [Array.size_setIfInBounds] at e1
        rw [jlB hj] at hy
        rw [jar _ _ e1,jar _ _ hj,jed _ _ e1,hFo j hj e1];exact c.kids j y hj hy
    · rw [Array.size_push,Array.size_setIfInBounds] at hj
      rw [hFo j (by omega) (by omega)];exact c.dom j (by omega)
  | @join Q s g g' h hs hs' e fin cr ih=>
    intro live old F Shp Pool gs w sl t Hl Tf Dl h0 hh hF hD c
    refine jdQ (s:=s) (d:=0) live hs (fun old F Shp Pool gs w sl t Hl Tf Dl h0 hh hF hD c=> .inl ?_) old F Shp Pool gs w sl t Hl Tf Dl g h0 (.inl rfl) hh hF hD c
    have hlt:0<gs.size:=(Array.getElem?_eq_some_iff.1 h0).1
    have hdeaf:Deaf t 0=0:=(c.deaf 0).trans hD
    have hn:=fin Shp Pool F c.inv hF
    have hy:=jc8 0 g.frame.fn g.frame.place (.acquire Q.wa)
    obtain ⟨s1,s2,s3⟩:=c.core.shared
    have T':=c.core.tj.one {g:=0,fn:=g.frame.fn,pos:=g.frame.place,act:= .mark (.acquire Q.wa)} hlt (fun b hb=>by cases hb) s1 s2 s3 (fun b hb=>by cases hb) (fun a ha=>by cases ha) (fun _ b hb=>by cases hb)
    have hk0:=c.core.tj.heard0 (y:={g:=0,fn:=g.frame.fn,pos:=g.frame.place,act:= .mark (.acquire Q.wa)}) rfl rfl hdeaf T'
    have hk: ∀(i:Nat) (x:MemOp),(t++ #[({g:=0,fn:=g.frame.fn,pos:=g.frame.place,act:= .mark (.acquire Q.wa)}:MemOp)])[i]?=some x→x.g≠0→(t++ #[({g:=0,fn:=g.frame.fn,pos:=g.frame.place,act:= .mark (.acquire Q.wa)}:MemOp)]).counts i→Knows (t++ #[({g:=0,fn:=g.frame.fn,pos:=g.frame.place,act:= .mark (.acquire Q.wa)}:MemOp)]) 0 i:=
      fun i x hx h0 hct=>hk0 i x hx ⟨h0,fun s hs=>by rw [hn _ h0] at hs;cases hs⟩ hct
    have T2:=(T'.take0 hk s3).less (Live':=fun i=>i=0) (Gone':=fun i=>i≠0) (fun i hi=> .inl hi) (fun i hi=>⟨hi,fun s hs=>by rw [hn _ hi] at hs;cases hs⟩)
    obtain ⟨r1,r2⟩:=c.core.sync (P:=P) (sl:=sl) (hi':=Hl 0++Pool) (Pool':=[]) h0 (e w) (SEff.refl c.core.shB) (.runs hs') (fun x hx=>⟨x,by simpa using hx,rfl,id⟩) (by simpa using c.core.satAll 0) (by rw [hy];exact T2)
    have deaf': ∀j,Deaf (t++MemOp.ofEvents 0 g.frame.fn g.frame.place #[⟨.mark (.acquire Q.wa),false,true⟩]) j=Dl j:=fun j=>by
      by_cases e:j=0
      · subst e;rw [Deaf_own,hdeaf,hD];rfl
      · rw [Deaf_other t (fun x=>e x.symm) _ fun op hop=>by obtain ⟨e',_,rfl⟩:=jcG hop;rfl];exact c.deaf j
    refine ⟨_,_,_,r1,ih Shp Pool F c.inv hF (fun b=>old b∨ ∃x∈Shp,x.b=b) Q.la Q.wa _ w sl _ (updH Hl 0 (Hl 0++Pool)) Tf Dl (jaN h0) (by rw [updH_same,hh]) ⟨⟨r2.sat,⟨r2.satS.base,fun d hd=>by simp at hd,List.Pairwise.nil⟩,r2.apart,fun i x hx=>by simp at hx,fun x hx=>by simp at hx,fun b hb=>?_,?_,r2.far,r2.out,r2.quiet⟩,deaf',hD,fun j y hj hy=>?_,by rw [hy];exact hk⟩⟩
    · obtain ⟨q1,q2,_⟩:=r2.shared
      exact ⟨q1 b hb,q2 b hb,fun d hd=>by simp at hd⟩
    · have:(fun b=>(old b∨ ∃x∈Shp,x.b=b)∨ ∃x∈([]:Hp),x.b=b)=(fun b=>old b∨ ∃x∈Shp,x.b=b):=by
        funext b;simp
      rw [this];exact r2.tj
    · have k:=jb3 (Shp':=Shp) c.core.quiet c.kids (.inl rfl) hj hj hy
      rw [hn j hj] at k
      rw [jar _ _ hj];generalize Tf j=T at k
      generalize Dl j=dj at k
      generalize Hl j=hj' at k
      cases k with
      |left q=>exact ⟨_,rfl,q,rfl⟩
end
end Go.Lo
namespace Go.Lo
open Go.Conc
structure Ext (P:Program) (f:FuncId) (e:Array Value→Sem Value):Prop where
  eq: ∃fn,P.funcs[f]?=some fn∧(fn.name== "runtime.NumGoroutine")=false∧fn.body.isNone=true∧Extern.findNext fn=none∧Extern.find fn=some e
section
variable {P:Program} {l l':List Value} {ds:List Deferred} {k:List Item} {cs:List Frame} {ops:Array Oper} {i:Nat} {rest:List Nat} {d:Option Tmp} {ty:TypeId} {pos:String} {af:Array Edge} {g:Option (Nat×Bool)}
  {args:List Operand} {ats:Array TypeId} {f f0:FuncId} {vs:List Value} {v:Value} {e:Array Value→Sem Value} {main:Bool} {w w':World}
theorem jhG [ea:ArgsV l args vs]:args.toArray.map (Act.eval ⟨l.toArray,ds⟩)=vs.toArray:=by
  rw [List.map_toArray,←ea.eq];congr 1
  apply List.map_congr_left
  intro x _
  cases x<;>simp [Act.eval,ev,Array.getD_eq_getD_getElem?,List.getD_eq_getElem?_getD]
theorem jnc:(Act.put ⟨l.toArray,ds⟩ d v)=⟨(put l d v).toArray,ds⟩:=by
  cases d<;>simp [Act.put,put]
theorem jb5 (E:Ext P f e) (ho:ops[i]?=some ⟨d,.call ⟨.value (.func f),args.toArray,ats⟩,ty,pos,af,g⟩) (hw:Wt ops l g) [ea:ArgsV l args vs] [p:PutV l d v l'] {evs:List Event}
    (hrun:(e vs.toArray).run P w= .ok v w') (hev:(e vs.toArray).events P w #[⟨.mark (.extern f),false,true⟩]= #[⟨.mark (.extern f),false,true⟩]++evs.toArray) (hs: ∀x∈evs,x.sync=true∧ ∀g,x.loc≠ .mark (.extern g)):
    stepG P main (Gr (bF f0) l ds (.inRegion ops (i::rest)::k) cs) w= .go (Gr (bF f0) l' ds (.inRegion ops rest::k) cs) w' evs.toArray:=by
  obtain ⟨fn,h1,h2,h3,h4,h5⟩:=E.eq
  have:=stepG_entry (P:=P) (main:=main) (b:=bF f0) (a:=⟨l.toArray,ds⟩) (kk:=k) (cs:=cs) (w:=w) (rest:=rest) ho (Wt.wanted (o:=⟨d,.call ⟨.value (.func f),args.toArray,ats⟩,ty,pos,af,g⟩) hw) (by simp [bF]) rfl h1 h2 h3 h4 h5 (v:=v) (w':=w') (evs:=evs.toArray)
    (by rw [jhG];exact hrun) (by rw [jhG];exact hev) (fun x hx=>hs x (by simpa using hx))
  rw [jnc,p.eq] at this
  exact this
theorem jfG (E:Ext P f e) (ho:ops[i]?=some ⟨d,.call ⟨.value (.func f),args.toArray,ats⟩,ty,pos,af,g⟩) (hw:Wt ops l g) [ea:ArgsV l args vs] (hrun:(e vs.toArray).run P w= .halt .blocked w'):
    stepG P main (Gr (bF f0) l ds (.inRegion ops (i::rest)::k) cs) w= .go {Gr (bF f0) l ds (.inRegion ops (i::rest)::k) cs with status:= .blocked} w' #[]:=by
  obtain ⟨fn,h1,h2,h3,h4,h5⟩:=E.eq
  exact stepG_entry_blocked (P:=P) (main:=main) (b:=bF f0) (a:=⟨l.toArray,ds⟩) (kk:=k) (cs:=cs) (w:=w) (rest:=rest) ho (Wt.wanted (o:=⟨d,.call ⟨.value (.func f),args.toArray,ats⟩,ty,pos,af,g⟩) hw) rfl h1 h2 h3 h4 h5 (by rw [jhG];exact hrun)
theorem jfA (E:Ext P f e) (ho:ops[i]?=some ⟨d,.call ⟨.value (.func f),args.toArray,ats⟩,ty,pos,af,g⟩):mayWake P (Gr (bF f0) l ds (.inRegion ops (i::rest)::k) cs)=true:=by
  obtain ⟨fn,h1,h2,h3,h4,h5⟩:=E.eq
  have hb:fn.body=none:=by simpa using h3
  simp [mayWake,Gr,Fr,G,Goroutine.frame,ho,Frame.eval,bF,h1,hb]
theorem jk3 {m:Im P} (E:Ext P f e) (ho:ops[i]?=some ⟨d,.call ⟨.value (.func f),args.toArray,ats⟩,ty,pos,af,g⟩) (hw:Wt ops l g) [ea:ArgsV l args vs] [p:PutV l d v l'] (he:e vs.toArray=Pure.pure v)
    (n:m.R (Gr (bF f0) l' ds (.inRegion ops rest::k) cs)):m.R (Gr (bF f0) l ds (.inRegion ops (i::rest)::k) cs):=
  m.idle rfl (fun w=>jb5 (evs:=[]) E ho hw (by rw [he];rfl) (by rw [he];rfl) (by simp)) n
theorem jdt (m:Mark) (asv:Array Value):((fun _:Array Value=>(do mark m;Pure.pure Extern.Race.none_:Sem Value)) asv).run P w= .ok (.tuple #[]) w:=by simp [Extern.Race.none_]
theorem jdD (m:Mark) (asv:Array Value) (es:Array Event):((fun _:Array Value=>(do mark m;Pure.pure Extern.Race.none_:Sem Value)) asv).events P w es=es++[(⟨.mark m,false,true⟩:Event)].toArray:=by simp
theorem jc6 (mk:Addr→Mark) (a:Addr):(Extern.Race.marked mk [.pointer (some a)].toArray).run P w= .ok (.tuple #[]) w:=by simp [Extern.Race.marked,Extern.Race.at_,Extern.Race.none_]
theorem jde (mk:Addr→Mark) (a:Addr) (es:Array Event):(Extern.Race.marked mk [.pointer (some a)].toArray).events P w es=es++[(⟨.mark (mk a),false,true⟩:Event)].toArray:=by simp [Extern.Race.marked,Extern.Race.at_]
end
section
variable {B:Array Obj} {w:World} {X s1 s2:Hp} {b off:Nat} {c:Array Value} {t:TypeId} {v:Value}
theorem jfx (s:Sat B (X++(s1++⟨true,b,.cells c t (0,0)⟩::s2)) w) (hv:c[off]?=some v):w.cell? ⟨b,off,none⟩=some v∧w.frozen? ⟨b,off,none⟩=false:=by
  have hb:=(s.mem ⟨true,b,.cells c t (0,0)⟩ (by simp)).2
  exact ⟨by simp [World.cell?,hb,hv],by simp [World.frozen?,hb]⟩
theorem jfw (s:Sat B (X++(s1++⟨true,b,.cells c t (0,0)⟩::s2)) w) (hr: ∀x∈s1++s2,x.rw=true) {c':Array Value} (hc:c.setIfInBounds off v=c'):
    SEff B (s1++⟨true,b,.cells c t (0,0)⟩::s2) (s1++⟨true,b,.cells c' t (0,0)⟩::s2) w (w.setCell ⟨b,off,none⟩ v):=by
  have hb:=(s.mem ⟨true,b,.cells c t (0,0)⟩ (by simp)).2
  rw [jgB hb,hc];refine ⟨fun Y sy=>?_,by simp,.refl _,rfl,rfl,Nat.le_refl _,fun x hx=>?_,by simp,fun x hx=>?_⟩
  · rw [←List.append_assoc] at sy⊢
    exact sy.turn
  · have:b≠x:=hx ⟨true,b,.cells c t (0,0)⟩ (by simp)
    show (w.heap.setIfInBounds b _)[x]?=_
    rw [Array.getElem?_setIfInBounds_ne this]
  · rcases List.mem_append.1 hx with hx|hx
    · exact hr x (List.mem_append_left _ hx)
    · rcases List.mem_cons.1 hx with rfl|hx
      · rfl
      · exact hr x (List.mem_append_right _ hx)
theorem jgC {w':World} {S:Hp} (h1:w'.heap=w.heap) (h2:Later w.os w'.os) (h3:w'.output=w.output) (h4:w'.tape=w.tape) (h5:w.drawn≤w'.drawn) (hr: ∀x∈S,x.rw=true):SEff B S S w w':=
  ⟨fun X s=>⟨fun i o h=>by rw [h1];exact s.base i o h,fun c hc=>by rw [h1];exact s.mem c hc,s.apart⟩,by rw [h1],h2,h3,h4,h5,fun b _=>by rw [h1],rfl,hr⟩
end
theorem jee {S:Type} {F:Nat→Option S} {i:Nat} {s:S} (h:F i=some s):updS F i (some s)=F:=by
  funext j
  by_cases e:j=i
  · subst e;rw [updS_same,h]
  · rw [jav _ _ e]
structure Sy (P:Program) (B:Array Obj) (Q:ProS) where
  i:Nat
  main:Bool
  R:Nat→Q.S→Goroutine→Hp→Prop
  out:Nat→Goroutine→Prop
  idle: ∀{d:Nat} {s:Q.S} {g g':Goroutine} {h:Hp},g.status= .running→(∀w,stepG P main g w= .go g' w #[])→R d s g' h→R d s g h
  weak: ∀{d:Nat} {s:Q.S} {g:Goroutine} {h h':Hp},Weak B h h'→R d s g h'→R d s g h
  syn: ∀{d:Nat} {s:Q.S} {g:Goroutine} {h:Hp},g.status= .running→g.offers=none→
    (∀Shp Pool F w,Q.Inv Shp Pool F→F i=some s→Sat B (h++Pool++Shp) w→SOut P B Q i d s h Shp Pool F g w (fun d' o g' h'=>match o with|some s'=>R d' s' g' h'|none=>out d' g') (stepG P main g w))→R d s g h
def Sy.kid (P:Program) (B:Array Obj) (Q:ProS) (i:Nat):Sy P B Q where
  i:=i
  main:=false
  R:=CRunS P B Q i
  out:=fun d g=> ∃k,QuitsD P k d g
  idle:= .idle
  weak:= .weak
  syn:=fun hs ho st=> .sync _ hs ho st (fun _ _ _ _ h=>h) fun _ _ _ h=>h
def Sy.zero (P:Program) (B:Array Obj) (Q:ProS) (K:Goroutine→Hp→Prop):Sy P B Q where
  i:=0
  main:=true
  R:=fun d s g h=>MRunS P B K (some ⟨Q,d,s⟩) g h
  out:=fun _ _=>False
  idle:=fun {d s g g' h} hs e n=> .step (fun g'' h''=>g''=g'∧h''=h) ⟨hs,fun w sw=>⟨g',w,#[],h,e w,Stp.refl sw,rfl,rfl⟩⟩ fun _ _ ⟨e1,e2⟩=>by subst e1;subst e2;exact n
  weak:= .weak
  syn:=fun hs ho st=> .sync _ hs ho st (fun _ _ _ _ h=>h) fun _ _ _ h=>h
def Sy.im {P:Program} {B:Array Obj} {Q:ProS} (Y:Sy P B Q) (d:Nat) (s:Q.S) (h:Hp):Im P:=⟨Y.main,fun g=>Y.R d s g h,Y.idle⟩
def Im.quit (P:Program) (d:Nat):Im P:=⟨false,fun g=> ∃k,QuitsD P k d g,fun hs e ⟨k,q⟩=>⟨k+1,.ctl hs e q⟩⟩
section
variable {P:Program} {B:Array Obj} {M:Meet} {Y:Sy P B M.pro} {D:Nat} {s:SS} {h:Hp}
variable {l l':List Value} {ds:List Deferred} {k:List Item} {cs:List Frame} {ops:Array Oper} {i:Nat} {rest:List Nat} {d:Option Tmp} {ty:TypeId} {pos:String} {af:Array Edge} {g:Option (Nat×Bool)}
  {x y z:Operand} {ats:Array TypeId} {f f0:FuncId}
theorem Meet.rw {Shp Pool:Hp} {F:Nat→Option SS} (h:M.Inv Shp Pool F): ∀c∈Shp,c.rw=true:=by
  obtain ⟨x,sm,v,wt,ws,N,r,p,ks,rfl,I⟩:=h
  intro c hc
  simp only [List.mem_cons,List.not_mem_nil,or_false] at hc
  rcases hc with rfl|rfl<;>rfl
theorem jev (E:Ext P f (fun _=>do mark .disable;Pure.pure Extern.Race.none_)) (ho:ops[i]?=some ⟨d,.call ⟨.value (.func f),#[],ats⟩,ty,pos,af,g⟩) (hw:Wt ops l g) [PutV l d (.tuple #[]) l']
    (n:(Y.im (D+1) s h).R (Gr (bF f0) l' ds (.inRegion ops rest::k) cs)):(Y.im D s h).R (Gr (bF f0) l ds (.inRegion ops (i::rest)::k) cs):=by
  refine Y.syn rfl rfl fun Shp Pool F w inv hF sat=>?_
  rw [jb5 (vs:=[]) (args:=[]) (evs:=[⟨.mark .disable,false,true⟩]) E ho hw (jdt _ #[]) (jdD _ #[] _) (by simp)];exact .act (SEff.refl (Meet.rw inv)) (.inl rfl) rfl ⟨trivial,trivial⟩ (fun s' e=>by obtain rfl:=Option.some.inj e;exact Iff.rfl) (fun e=>by cases e) (by rw [jee hF];exact inv) n
theorem jdM (E:Ext P f (fun _=>do mark .enable;Pure.pure Extern.Race.none_)) (ho:ops[i]?=some ⟨d,.call ⟨.value (.func f),#[],ats⟩,ty,pos,af,g⟩) (hw:Wt ops l g) [PutV l d (.tuple #[]) l']
    (n:(Y.im D s h).R (Gr (bF f0) l' ds (.inRegion ops rest::k) cs)):(Y.im (D+1) s h).R (Gr (bF f0) l ds (.inRegion ops (i::rest)::k) cs):=by
  refine Y.syn rfl rfl fun Shp Pool F w inv hF sat=>?_
  rw [jb5 (vs:=[]) (args:=[]) (evs:=[⟨.mark .enable,false,true⟩]) E ho hw (jdt _ #[]) (jdD _ #[] _) (by simp)];exact .act (SEff.refl (Meet.rw inv)) (.inl rfl) rfl ⟨trivial,trivial⟩ (fun s' e=>by obtain rfl:=Option.some.inj e;exact Iff.rfl) (fun e=>by cases e) (by rw [jee hF];exact inv) n
theorem jkz {e:Array Value→Sem Value} {args:List Operand} {vs:List Value} (E:Ext P f e) (ho:ops[i]?=some ⟨d,.call ⟨.value (.func f),args.toArray,ats⟩,ty,pos,af,g⟩) (hw:Wt ops l g) [ea:ArgsV l args vs]
    (st: ∀x sm v wt ws N r p ks Pool F w,MI M x sm v wt ws N r p ks Pool F→F Y.i=some s→Sat B ((h++Pool)++[M.muC x sm,M.wgC v wt ws]) w→
      ∃(u:Value) (w':World) (evs:List Event) (x':Wd) (sm' v' wt' ws' N' r':Nat) (p':WS) (ks':List Nat) (o:Option SS),(e vs.toArray).run P w= .ok u w'∧
        (e vs.toArray).events P w #[⟨.mark (.extern f),false,true⟩]= #[⟨.mark (.extern f),false,true⟩]++evs.toArray∧(∀x∈evs,x.sync=true∧ ∀g,x.loc≠ .mark (.extern g))∧
        SEff B [M.muC x sm,M.wgC v wt ws] [M.muC x' sm',M.wgC v' wt' ws'] w w'∧jd0 (fun b=>b=M.mu∨b=M.wg) Y.i s.gone D evs∧(∀s',o=some s'→(s'.gone↔s.gone))∧(o=none→s.gone∧h=[])∧
        MI M x' sm' v' wt' ws' N' r' p' ks' Pool (updS F Y.i o)∧
        (match o with
          |some s'=>(Y.im (evs.foldl jem D) s' h).R (Gr (bF f0) (put l d u) ds (.inRegion ops rest::k) cs)
          |none=>Y.out (evs.foldl jem D) (Gr (bF f0) (put l d u) ds (.inRegion ops rest::k) cs))):
    (Y.im D s h).R (Gr (bF f0) l ds (.inRegion ops (i::rest)::k) cs):=by
  refine Y.syn rfl rfl fun Shp Pool F w inv hF sat=>?_
  obtain ⟨x,sm,v,wt,ws,N,r,p,ks,rfl,I⟩:=inv
  obtain ⟨u,w',evs,x',sm',v',wt',ws',N',r',p',ks',o,h1,h2,h3,h4,h5,h6,h7,h8,h9⟩:=st x sm v wt ws N r p ks Pool F w I hF sat
  haveI:PutV l d u (put l d u):=⟨rfl⟩
  rw [jb5 E ho hw h1 h2 h3];have hsh:(fun b=> ∃c∈[M.muC x sm,M.wgC v wt ws],c.b=b)=(fun b=>b=M.mu∨b=M.wg):=by
    funext b
    simp [Meet.muC,Meet.wgC,eq_comm]
  exact .act h4 (.inr (jfA E ho)) rfl (by rw [hsh];exact h5) h6 h7 ⟨x',sm',v',wt',ws',N',r',p',ks',rfl,h8⟩ (by cases o<;>exact h9)
def evR (a:Addr):List Event:=[⟨.cell a,false,true⟩]
def evRW (a:Addr):List Event:=[⟨.cell a,false,true⟩,⟨.cell a,true,true⟩]
def evW (a:Addr):List Event:=[⟨.cell a,true,true⟩]
def evS (a:Addr):List Event:=[⟨.mark .disable,false,true⟩,⟨.cell a,false,true⟩,⟨.cell a,true,true⟩,⟨.mark .enable,false,true⟩]
section
variable {Sh:Nat→Prop} {j:Nat} {gn:Prop} {a:Addr}
theorem jeb (hS:Sh a.block) (hg:gn→0<D):jd0 Sh j gn D (evR a):=⟨⟨rfl,hS,hg⟩,trivial⟩
theorem fine_W (hS:Sh a.block) (hg:gn→0<D):jd0 Sh j gn D (evW a):=⟨⟨rfl,hS,hg⟩,trivial⟩
theorem jcJ (hS:Sh a.block) (hg:gn→0<D):jd0 Sh j gn D (evRW a):=⟨⟨rfl,hS,hg⟩,⟨rfl,hS,hg⟩,trivial⟩
theorem jka (hS:Sh a.block):jd0 Sh j gn D (evS a):=⟨trivial,⟨rfl,hS,fun _=>by simp [jem]⟩,⟨rfl,hS,fun _=>by simp [jem]⟩,trivial,trivial⟩
theorem jd4: ∀x∈evR a,x.sync=true∧ ∀g,x.loc≠ .mark (.extern g):=by simp [evR]
theorem sync_W: ∀x∈evW a,x.sync=true∧ ∀g,x.loc≠ .mark (.extern g):=by simp [evW]
theorem jcD: ∀x∈evRW a,x.sync=true∧ ∀g,x.loc≠ .mark (.extern g):=by simp [evRW]
theorem jjt: ∀x∈evS a,x.sync=true∧ ∀g,x.loc≠ .mark (.extern g):=by simp [evS]
end
theorem app2 (es:Array Event) (x y:Event):(es.push x).push y=es++ #[x,y]:=Array.ext' (by simp)
theorem app4 (es:Array Event) (x y z u:Event):(((es.push x).push y).push z).push u=es++ #[x,y,z,u]:=Array.ext' (by simp)
section
variable {a:Addr} {kk:IntKind} {w:World} {n n':Int} {es:Array Event}
theorem je6 (hc:w.cell? a=some (.int kk n)) (hz:w.frozen? a=false):(Extern.Atomic.casT (.int kk) [.pointer (some a),.int kk n,.int kk n'].toArray).run P w= .ok (.bool true) (w.setCell a (.int kk n'))∧
    (Extern.Atomic.casT (.int kk) [.pointer (some a),.int kk n,.int kk n'].toArray).events P w es=es++(evRW a).toArray:=by
  refine ⟨?_,?_⟩
  · exact run_cas_hit_entry hc hz
  · show (Extern.Atomic.casT (.int kk) #[.pointer (some a),.int kk n,.int kk n']).events P w es=_
    rw [casT_eq,events_cas_hit_entry hc hz];simp [evRW,app2]
theorem jdW {o:Int} (hc:w.cell? a=some (.int kk n)) (hz:w.frozen? a=false) (hne:n≠o):(Extern.Atomic.casT (.int kk) [.pointer (some a),.int kk o,.int kk n'].toArray).run P w= .ok (.bool false) w∧
    (Extern.Atomic.casT (.int kk) [.pointer (some a),.int kk o,.int kk n'].toArray).events P w es=es++(evR a).toArray:=by
  refine ⟨?_,?_⟩
  · exact run_cas_miss_entry hc hz hne
  · show (Extern.Atomic.casT (.int kk) #[.pointer (some a),.int kk o,.int kk n']).events P w es=_
    rw [casT_eq,events_cas_miss_entry hc hz hne];simp [evR]
theorem jgj {q:Int} (hc:w.cell? a=some (.int kk n)) (hz:w.frozen? a=false) (hq:kk.wrap (n+n')=q):(Extern.Atomic.update (Op.intArith .add) kk true [.pointer (some a),.int kk n'].toArray).run P w= .ok (.int kk q) (w.setCell a (.int kk q))∧
    (Extern.Atomic.update (Op.intArith .add) kk true [.pointer (some a),.int kk n'].toArray).events P w es=es++(evRW a).toArray:=by
  subst hq
  refine ⟨?_,?_⟩
  · exact run_add_entry hc hz
  · show (Extern.Atomic.update (Op.intArith .add) kk true #[.pointer (some a),.int kk n']).events P w es=_
    rw [events_add_entry hc hz];simp [evRW,app2]
theorem jfy (hc:w.cell? a=some (.int kk n)):(Extern.Atomic.loadT (.int kk) [.pointer (some a)].toArray).run P w= .ok (.int kk n) w∧(Extern.Atomic.loadT (.int kk) [.pointer (some a)].toArray).events P w es=es++(evR a).toArray:=by
  refine ⟨?_,?_⟩
  · change Sem.run P (do Extern.Atomic.read (.int kk) (←asAddr (.pointer (some a)))) w=_
    simp [Extern.Atomic.read,asAddr,hc]
  · change Sem.events P (do Extern.Atomic.read (.int kk) (←asAddr (.pointer (some a)))) w _=_
    simp [Extern.Atomic.read,asAddr,hc,events_load,evR]
theorem jlv {u:Value} (hc:w.cell? a=some u) (hz:w.frozen? a=false):(Extern.Atomic.storeT [.pointer (some a),.int kk n].toArray).run P w= .ok (.tuple #[]) (w.setCell a (.int kk n))∧(Extern.Atomic.storeT [.pointer (some a),.int kk n].toArray).events P w es=es++(evW a).toArray:=by
  refine ⟨?_,?_⟩
  · change Sem.run P (do
      store (←asAddr (.pointer (some a))) (.int kk n) .atomic
      pure Extern.Atomic.none_) w=_
    simp [asAddr,hc,hz,run_store P w a (.int kk n) .atomic rfl,Result.andThen,Extern.Atomic.none_]
  · change Sem.events P (do
      store (←asAddr (.pointer (some a))) (.int kk n) .atomic
      pure Extern.Atomic.none_) w _=_
    simp [asAddr,hc,hz,events_store P w _ a (.int kk n) .atomic rfl,evW]
theorem jjx {vs:List Value} (hc:w.cell? a=some (.int .u32 n)) (hz:w.frozen? a=false) (hn:n≠0):(Extern.Sync.semacquire (.pointer (some a)::vs).toArray).run P w= .ok (.tuple #[]) (w.setCell a (.int .u32 (n-1)))∧
    (Extern.Sync.semacquire (.pointer (some a)::vs).toArray).events P w es=es++(evS a).toArray:=by
  refine ⟨?_,?_⟩
  · simp [Extern.Sync.semacquire,Extern.Sync.count,hc,hn,hz,Extern.Sync.none_,run_store P w a (.int .u32 (n-1)) .atomic rfl,Result.andThen]
  · simp [Extern.Sync.semacquire,Extern.Sync.count,hc,hn,hz,evS,events_load,events_store P w _ a (.int .u32 (n-1)) .atomic rfl,run_store P w a (.int .u32 (n-1)) .atomic rfl,Result.evThen,app4]
theorem jjw {vs:List Value} (hc:w.cell? a=some (.int .u32 0)):(Extern.Sync.semacquire (.pointer (some a)::vs).toArray).run P w= .halt .blocked w:=by
  simp [Extern.Sync.semacquire,Extern.Sync.count,hc]
theorem jjy {vs:List Value} {q:Int} (hc:w.cell? a=some (.int .u32 n)) (hz:w.frozen? a=false) (hq:IntKind.u32.wrap (n+1)=q):(Extern.Sync.semrelease (.pointer (some a)::vs).toArray).run P w= .ok (.tuple #[]) (w.setCell a (.int .u32 q))∧
    (Extern.Sync.semrelease (.pointer (some a)::vs).toArray).events P w es=es++(evS a).toArray:=by
  subst hq
  refine ⟨?_,?_⟩
  · simp [Extern.Sync.semrelease,Extern.Sync.count,hc,hz,Extern.Sync.none_,Op.intArith,run_store P w a (.int .u32 (IntKind.u32.wrap (n+1))) .atomic rfl,Result.andThen]
  · simp [Extern.Sync.semrelease,Extern.Sync.count,hc,hz,evS,Op.intArith,events_load,events_store P w _ a (.int .u32 (IntKind.u32.wrap (n+1))) .atomic rfl,run_store P w a (.int .u32 (IntKind.u32.wrap (n+1))) .atomic rfl,Result.evThen,app4]
end
section
variable {w:World} {X:Hp} {x x':Wd} {sm sm' v v' wt wt' ws ws':Nat}
theorem jdn (s:Sat B (X++[M.muC x sm,M.wgC v wt ws]) w):(w.cell? ⟨M.mu,0,none⟩=some (.int .i32 x.val)∧w.frozen? ⟨M.mu,0,none⟩=false)∧(w.cell? ⟨M.mu,1,none⟩=some (.int .u32 sm)∧w.frozen? ⟨M.mu,1,none⟩=false):=
  ⟨jfx (s1:=[]) (s2:=[M.wgC v wt ws]) (c:= #[.int .i32 x.val,.int .u32 sm]) s rfl,jfx (s1:=[]) (s2:=[M.wgC v wt ws]) (c:= #[.int .i32 x.val,.int .u32 sm]) s rfl⟩
theorem jd6 (s:Sat B (X++[M.muC x sm,M.wgC v wt ws]) w):(w.cell? ⟨M.wg,0,none⟩=some (.int .u64 ((v*4294967296+wt:Nat):Int))∧w.frozen? ⟨M.wg,0,none⟩=false)∧(w.cell? ⟨M.wg,1,none⟩=some (.int .u32 ws)∧w.frozen? ⟨M.wg,1,none⟩=false):=
  ⟨jfx (s1:=[M.muC x sm]) (s2:=[]) (c:= #[.int .u64 ((v*4294967296+wt:Nat):Int),.int .u32 ws]) s rfl,jfx (s1:=[M.muC x sm]) (s2:=[]) (c:= #[.int .u64 ((v*4294967296+wt:Nat):Int),.int .u32 ws]) s rfl⟩
theorem jeh (s:Sat B (X++[M.muC x sm,M.wgC v wt ws]) w) {n:Int} (hn:n=(x'.val:Int)):SEff B [M.muC x sm,M.wgC v wt ws] [M.muC x' sm,M.wgC v wt ws] w (w.setCell ⟨M.mu,0,none⟩ (.int .i32 n)):=by
  subst hn
  exact jfw (s1:=[]) (s2:=[M.wgC v wt ws]) (c:= #[.int .i32 x.val,.int .u32 sm]) s (by simp [Meet.wgC]) rfl
theorem jlC (s:Sat B (X++[M.muC x sm,M.wgC v wt ws]) w) {n:Int} (hn:n=(sm':Int)):SEff B [M.muC x sm,M.wgC v wt ws] [M.muC x sm',M.wgC v wt ws] w (w.setCell ⟨M.mu,1,none⟩ (.int .u32 n)):=by
  subst hn
  exact jfw (s1:=[]) (s2:=[M.wgC v wt ws]) (c:= #[.int .i32 x.val,.int .u32 sm]) s (by simp [Meet.wgC]) rfl
theorem jfI (s:Sat B (X++[M.muC x sm,M.wgC v wt ws]) w) {n:Int} (hn:n=((v'*4294967296+wt':Nat):Int)):SEff B [M.muC x sm,M.wgC v wt ws] [M.muC x sm,M.wgC v' wt' ws] w (w.setCell ⟨M.wg,0,none⟩ (.int .u64 n)):=by
  subst hn
  exact jfw (s1:=[M.muC x sm]) (s2:=[]) (c:= #[.int .u64 ((v*4294967296+wt:Nat):Int),.int .u32 ws]) s (by simp [Meet.muC]) rfl
theorem jlA (s:Sat B (X++[M.muC x sm,M.wgC v wt ws]) w) {n:Int} (hn:n=(ws':Int)):SEff B [M.muC x sm,M.wgC v wt ws] [M.muC x sm,M.wgC v wt ws'] w (w.setCell ⟨M.wg,1,none⟩ (.int .u32 n)):=by
  subst hn
  exact jfw (s1:=[M.muC x sm]) (s2:=[]) (c:= #[.int .u64 ((v*4294967296+wt:Nat):Int),.int .u32 ws]) s (by simp [Meet.muC]) rfl
theorem jbr:SEff B [M.muC x sm,M.wgC v wt ws] [M.muC x sm,M.wgC v wt ws] w w:=SEff.refl (by simp [Meet.muC,Meet.wgC])
end
end
end Go.Lo
namespace Go.Lo
open Go.Conc
section
variable {P:Program} {B:Array Obj} {M:Meet} {Y:Sy P B M.pro} {D:Nat} {s:SS} {h:Hp} {kn kk:Nat} {z:List Nat} {l0:LS} {aw:Bool} {old:Wd}
variable {l l':List Value} {ds:List Deferred} {k:List Item} {cs:List Frame} {ops:Array Oper} {i:Nat} {rest:List Nat} {d:Option Tmp} {ty:TypeId} {pos:String} {af:Array Edge} {g:Option (Nat×Bool)}
  {args:List Operand} {vs:List Value} {ats:Array TypeId} {f f0:FuncId} {e:Array Value→Sem Value}
theorem jfb (E:Ext P f e) (ho:ops[i]?=some ⟨d,.call ⟨.value (.func f),args.toArray,ats⟩,ty,pos,af,g⟩) (hw:Wt ops l g) [ea:ArgsV l args vs] (h1:l0≠ .hold 1)
    (st: ∀x sm v wt ws N w X (G:Nat→LS),LockInv (6*M.n) x sm N G→Y.i<N→G Y.i=l0→Sat B (X++[M.muC x sm,M.wgC v wt ws]) w→
      ∃(u:Value) (w':World) (evs:List Event) (x':Wd) (sm':Nat) (l1:LS),((e vs.toArray).run P w= .ok u w'∧
        (e vs.toArray).events P w #[⟨.mark (.extern f),false,true⟩]= #[⟨.mark (.extern f),false,true⟩]++evs.toArray)∧(∀x∈evs,x.sync=true∧ ∀g,x.loc≠ .mark (.extern g))∧
        SEff B [M.muC x sm,M.wgC v wt ws] [M.muC x' sm',M.wgC v wt ws] w w'∧jd0 (fun b=>b=M.mu∨b=M.wg) Y.i False D evs∧LockInv (6*M.n) x' sm' N (updF G Y.i l1)∧l1.early=l0.early∧l1≠ .hold 1∧
        (Y.im (evs.foldl jem D) (.w kn l1 .on z) h).R (Gr (bF f0) (put l d u) ds (.inRegion ops rest::k) cs)):
    (Y.im D (.w kn l0 .on z) h).R (Gr (bF f0) l ds (.inRegion ops (i::rest)::k) cs):=by
  refine jkz E ho hw fun x sm v wt ws N r p ks Pool F w I hF sat=>?_
  obtain ⟨u,w',evs,x',sm',l1,⟨r1,r2⟩,r3,r4,r5,r6,r7,r8,r9⟩:=st x sm v wt ws N w (h++Pool) _ I.lock (I.lt hF) (by show pL (F Y.i)=_;rw [hF];rfl) sat
  exact ⟨u,w',evs,x',sm',v,wt,ws,N,r,p,ks,some (.w kn l1 .on z),r1,r2,r3,r4,r5,fun s' e=>by (obtain rfl:=Option.some.inj e;exact Iff.rfl),fun e=>by (cases e),I.goL hF l1 r6 (.inl r7) h1 r8,r9⟩
theorem jhd {x y:Wd} (h:(x.val:Int)=(y.val:Int)):x=y:=Wd.inj (by omega)
theorem jlM (E:Ext P f (Extern.Atomic.casT (.int .i32))) (ho:ops[i]?=some ⟨d,.call ⟨.value (.func f),args.toArray,ats⟩,ty,pos,af,g⟩) (hw:Wt ops l g) [ea:ArgsV l args [.pointer (some ⟨M.mu,0,none⟩),.int .i32 0,.int .i32 1]]
    (hit:(Y.im D (.w kn (.hold 0) .on z) h).R (Gr (bF f0) (put l d (.bool true)) ds (.inRegion ops rest::k) cs)) (miss: ∀kk,(Y.im D (.w kn (.look false kk) .on z) h).R (Gr (bF f0) (put l d (.bool false)) ds (.inRegion ops rest::k) cs)):
    (Y.im D (.w kn .out .on z) h).R (Gr (bF f0) l ds (.inRegion ops (i::rest)::k) cs):=by
  refine jfb E ho hw (by simp) fun x sm v wt ws N w X G I hi hG sat=>?_
  obtain ⟨⟨hc,hz⟩,_⟩:=jdn sat
  by_cases hx:x.val=0
  · rw [hx] at hc
    exact ⟨_,_,evRW _,⟨true,false,false,0⟩,sm,.hold 0,je6 hc hz,jcD,jeh sat rfl,jcJ (.inl rfl) (fun h=>h.elim),I.fast hi hG hx,rfl,by simp,hit⟩
  · exact ⟨_,_,evR _,x,sm,.look false _,jdW hc hz (by omega),jd4,jbr,jeb (.inl rfl) (fun h=>h.elim),I.slow hi hG,rfl,by simp,miss _⟩
theorem jlK (E:Ext P f (Extern.Atomic.casT (.int .i32))) (ho:ops[i]?=some ⟨d,.call ⟨.value (.func f),args.toArray,ats⟩,ty,pos,af,g⟩) (hw:Wt ops l g) {new:Wd} [ea:ArgsV l args [.pointer (some ⟨M.mu,0,none⟩),.int .i32 old.val,.int .i32 new.val]]
    (hl:old.l=false) (hs:old.s=false) (hn:new=⟨true,old.w&&!aw,false,old.n⟩)
    (hit:(Y.im D (.w kn (.hold 0) .on z) h).R (Gr (bF f0) (put l d (.bool true)) ds (.inRegion ops rest::k) cs)) (miss:0<kk→(Y.im D (.w kn (.look aw (kk-1)) .on z) h).R (Gr (bF f0) (put l d (.bool false)) ds (.inRegion ops rest::k) cs)):
    (Y.im D (.w kn (.try_ aw old kk) .on z) h).R (Gr (bF f0) l ds (.inRegion ops (i::rest)::k) cs):=by
  refine jfb E ho hw (by simp) fun x sm v wt ws N w X G I hi hG sat=>?_
  obtain ⟨⟨hc,hz⟩,_⟩:=jdn sat
  by_cases hx:x=old
  · subst hx
    exact ⟨_,_,evRW _,new,sm,.hold 0,je6 hc hz,jcD,jeh sat rfl,jcJ (.inl rfl) (fun h=>h.elim),hn▸I.take hi hG hl hs,rfl,by simp,hit⟩
  · obtain ⟨hk,I'⟩:=I.casNo hi hG hx
    exact ⟨_,_,evR _,x,sm,.look aw _,jdW hc hz (fun e=>hx (jhd e)),jd4,jbr,jeb (.inl rfl) (fun h=>h.elim),I',rfl,by simp,miss hk⟩
theorem jkA (E:Ext P f (Extern.Atomic.casT (.int .i32))) (ho:ops[i]?=some ⟨d,.call ⟨.value (.func f),args.toArray,ats⟩,ty,pos,af,g⟩) (hw:Wt ops l g) {new:Wd} {sv:Bool} [ea:ArgsV l args [.pointer (some ⟨M.mu,0,none⟩),.int .i32 old.val,.int .i32 new.val]]
    (hls:old.l=true∨old.s=true) (hsv:sv=true→aw=true) (hn:new=⟨old.l,old.w&&!aw,old.s||(sv&&old.l),old.n+1⟩)
    (hit:0<kk→(Y.im D (.w kn (.wait (kk-1)) .on z) h).R (Gr (bF f0) (put l d (.bool true)) ds (.inRegion ops rest::k) cs)) (miss:0<kk→(Y.im D (.w kn (.look aw (kk-1)) .on z) h).R (Gr (bF f0) (put l d (.bool false)) ds (.inRegion ops rest::k) cs)):
    (Y.im D (.w kn (.try_ aw old kk) .on z) h).R (Gr (bF f0) l ds (.inRegion ops (i::rest)::k) cs):=by
  refine jfb E ho hw (by simp) fun x sm v wt ws N w X G I hi hG sat=>?_
  obtain ⟨⟨hc,hz⟩,_⟩:=jdn sat
  by_cases hx:x=old
  · subst hx
    obtain ⟨hk,I'⟩:=I.queue hi hG hls hsv
    exact ⟨_,_,evRW _,new,sm,.wait _,je6 hc hz,jcD,jeh sat rfl,jcJ (.inl rfl) (fun h=>h.elim),hn▸I',rfl,by simp,hit hk⟩
  · obtain ⟨hk,I'⟩:=I.casNo hi hG hx
    exact ⟨_,_,evR _,x,sm,.look aw _,jdW hc hz (fun e=>hx (jhd e)),jd4,jbr,jeb (.inl rfl) (fun h=>h.elim),I',rfl,by simp,miss hk⟩
theorem jlL (E:Ext P f (Extern.Atomic.casT (.int .i32))) (ho:ops[i]?=some ⟨d,.call ⟨.value (.func f),args.toArray,ats⟩,ty,pos,af,g⟩) (hw:Wt ops l g) {new:Wd} [ea:ArgsV l args [.pointer (some ⟨M.mu,0,none⟩),.int .i32 old.val,.int .i32 new.val]]
    (hl:old.l=true) (hs:old.s=false) (hww:old.w=false) (hn:new=⟨true,true,false,old.n⟩)
    (hit:0<kk→(Y.im D (.w kn (.look true (kk-1)) .on z) h).R (Gr (bF f0) (put l d (.bool true)) ds (.inRegion ops rest::k) cs)) (miss:0<kk→(Y.im D (.w kn (.look false (kk-1)) .on z) h).R (Gr (bF f0) (put l d (.bool false)) ds (.inRegion ops rest::k) cs)):
    (Y.im D (.w kn (.try_ false old kk) .on z) h).R (Gr (bF f0) l ds (.inRegion ops (i::rest)::k) cs):=by
  refine jfb E ho hw (by simp) fun x sm v wt ws N w X G I hi hG sat=>?_
  obtain ⟨⟨hc,hz⟩,_⟩:=jdn sat
  by_cases hx:x=old
  · subst hx
    obtain ⟨hk,I'⟩:=I.spin hi hG hl hs hww
    exact ⟨_,_,evRW _,new,sm,.look true _,je6 hc hz,jcD,jeh sat rfl,jcJ (.inl rfl) (fun h=>h.elim),hn▸I',rfl,by simp,hit hk⟩
  · obtain ⟨hk,I'⟩:=I.casNo hi hG hx
    exact ⟨_,_,evR _,x,sm,.look false _,jdW hc hz (fun e=>hx (jhd e)),jd4,jbr,jeb (.inl rfl) (fun h=>h.elim),I',rfl,by simp,miss hk⟩
theorem s_accept (E:Ext P f (Extern.Atomic.update (Op.intArith .add) .i32 true)) (ho:ops[i]?=some ⟨d,.call ⟨.value (.func f),args.toArray,ats⟩,ty,pos,af,g⟩) (hw:Wt ops l g) {m:Nat} {ex:Bool} {del:Int} [ea:ArgsV l args [.pointer (some ⟨M.mu,0,none⟩),.int .i32 del]]
    (he:ex=false→2≤m) (hd:del= -7-4*(b01 ex:Int)) (hM:M.n≤64)
    (hit: ∀u,(Y.im D (.w kn (.hold 0) .on z) h).R (Gr (bF f0) (put l d u) ds (.inRegion ops rest::k) cs)):
    (Y.im D (.w kn (.handed m) .on z) h).R (Gr (bF f0) l ds (.inRegion ops (i::rest)::k) cs):=by
  refine jfb E ho hw (by simp) fun x sm v wt ws N w X G I hi hG sat=>?_
  obtain ⟨⟨hc,hz⟩,_⟩:=jdn sat
  obtain ⟨e1,e2,e3,e4,I'⟩:=I.accept hi hG ex he
  have hsm:=I.small.1
  have hv:IntKind.i32.wrap ((x.val:Int)+del)=((⟨true,false,!ex,x.n-1⟩:Wd).val:Int):=by
    have:(x.val:Int)+del=((⟨true,false,!ex,x.n-1⟩:Wd).val:Int):=by
      obtain ⟨xl,xw,xs,xn⟩:=x
      dsimp only at e1 e2 e3 e4⊢
      subst e1 e2 e3 hd
      cases ex<;>simp [Wd.val]<;>omega
    rw [this];refine IntWalk.i32_in _ ?_
    simp only [Wd.val]
    have:b01 (!ex)≤1:=by cases ex<;>simp
    simp
    omega
  exact ⟨_,_,evRW _,⟨true,false,!ex,x.n-1⟩,sm,.hold 0,jgj hc hz hv,jcD,jeh sat rfl,jcJ (.inl rfl) (fun h=>h.elim),I',rfl,by simp,hit _⟩
theorem s_give (E:Ext P f (Extern.Atomic.update (Op.intArith .add) .i32 true)) (ho:ops[i]?=some ⟨d,.call ⟨.value (.func f),args.toArray,ats⟩,ty,pos,af,g⟩) (hw:Wt ops l g) [ea:ArgsV l args [.pointer (some ⟨M.mu,0,none⟩),.int .i32 (-1)]] (hM:M.n≤64)
    (hit: ∀x kk,x.l=false→x.n≤384→(Y.im D (.w kn (.behind x kk) .on z) h).R (Gr (bF f0) (put l d (.int .i32 x.val)) ds (.inRegion ops rest::k) cs)):
    (Y.im D (.w kn (.hold 2) .on z) h).R (Gr (bF f0) l ds (.inRegion ops (i::rest)::k) cs):=by
  refine jfb E ho hw (by simp) fun x sm v wt ws N w X G I hi hG sat=>?_
  obtain ⟨⟨hc,hz⟩,_⟩:=jdn sat
  obtain ⟨e1,I'⟩:=I.give hi hG
  have hsm:=I.small.1
  have hv:IntKind.i32.wrap ((x.val:Int)+ -1)=(({x with l:=false}:Wd).val:Int):=by
    have:(x.val:Int)+ -1=(({x with l:=false}:Wd).val:Int):=by
      obtain ⟨xl,xw,xs,xn⟩:=x
      dsimp only at e1⊢
      subst e1
      simp [Wd.val]
      omega
    rw [this];refine IntWalk.i32_in _ ?_
    simp only [Wd.val]
    have:b01 x.w≤1:=by cases x.w<;>simp
    have:b01 x.s≤1:=by cases x.s<;>simp
    simp
    omega
  have hb: ∀y:Wd,∀p,(LS.behind y p).early=false∧LS.behind y p≠ .hold 1:=fun y p=>by
    unfold LS.behind
    split
    · simp [LS.early]
    · split<;>simp [LS.early]
  exact ⟨_,_,evRW _,_,sm,_,jgj hc hz hv,jcD,jeh sat rfl,jcJ (.inl rfl) (fun h=>h.elim),I',(hb _ _).1,(hb _ _).2,hit _ _ rfl (by show x.n≤384;omega)⟩
theorem jlJ (E:Ext P f (Extern.Atomic.casT (.int .i32))) (ho:ops[i]?=some ⟨d,.call ⟨.value (.func f),args.toArray,ats⟩,ty,pos,af,g⟩) (hw:Wt ops l g) {new:Wd} [ea:ArgsV l args [.pointer (some ⟨M.mu,0,none⟩),.int .i32 old.val,.int .i32 new.val]]
    (hn:new=⟨false,true,false,old.n-1⟩)
    (hit:(Y.im D (.w kn .post .on z) h).R (Gr (bF f0) (put l d (.bool true)) ds (.inRegion ops rest::k) cs)) (miss:0<kk→(Y.im D (.w kn (.seek (kk-1)) .on z) h).R (Gr (bF f0) (put l d (.bool false)) ds (.inRegion ops rest::k) cs)):
    (Y.im D (.w kn (.unl old kk) .on z) h).R (Gr (bF f0) l ds (.inRegion ops (i::rest)::k) cs):=by
  refine jfb E ho hw (by simp) fun x sm v wt ws N w X G I hi hG sat=>?_
  obtain ⟨⟨hc,hz⟩,_⟩:=jdn sat
  by_cases hx:x=old
  · subst hx
    obtain ⟨_,_,_,_,I'⟩:=I.unlYes hi hG
    exact ⟨_,_,evRW _,new,sm,.post,je6 hc hz,jcD,jeh sat rfl,jcJ (.inl rfl) (fun h=>h.elim),hn▸I',rfl,by simp,hit⟩
  · obtain ⟨hk,I'⟩:=I.unlNo hi hG hx
    exact ⟨_,_,evR _,x,sm,.seek _,jdW hc hz (fun e=>hx (jhd e)),jd4,jbr,jeb (.inl rfl) (fun h=>h.elim),I',rfl,by simp,miss hk⟩
theorem jlF (E:Ext P f Extern.Sync.semrelease) (ho:ops[i]?=some ⟨d,.call ⟨.value (.func f),args.toArray,ats⟩,ty,pos,af,g⟩) (hw:Wt ops l g) {va:List Value} [ea:ArgsV l args (.pointer (some ⟨M.mu,1,none⟩)::va)] (hM:M.n≤64)
    (hit:(Y.im D (.w kn .fin .on z) h).R (Gr (bF f0) (put l d (.tuple #[])) ds (.inRegion ops rest::k) cs)):
    (Y.im D (.w kn .post .on z) h).R (Gr (bF f0) l ds (.inRegion ops (i::rest)::k) cs):=by
  refine jfb E ho hw (by simp) fun x sm v wt ws N w X G I hi hG sat=>?_
  obtain ⟨_,hc,hz⟩:=jdn sat
  have hsm:=I.small.2
  have hv:IntKind.u32.wrap ((sm:Int)+1)=((sm+1:Nat):Int):=by
    rw [show (sm:Int)+1=((sm+1:Nat):Int) by omega];refine IntWalk.u32_in _ ?_
    omega
  exact ⟨_,_,evS _,x,sm+1,.fin,jjy hc hz hv,jjt,jlC sat rfl,jka (.inl rfl),I.wakes hi hG,rfl,by simp,hit⟩
theorem s_waits (E:Ext P f Extern.Sync.semacquire) (ho:ops[i]?=some ⟨d,.call ⟨.value (.func f),args.toArray,ats⟩,ty,pos,af,g⟩) (hw:Wt ops l g) {va:List Value} [ea:ArgsV l args (.pointer (some ⟨M.mu,1,none⟩)::va)]
    (hit:(Y.im D (.w kn (.woken kk) .on z) h).R (Gr (bF f0) (put l d (.tuple #[])) ds (.inRegion ops rest::k) cs)):
    (Y.im D (.w kn (.wait kk) .on z) h).R (Gr (bF f0) l ds (.inRegion ops (i::rest)::k) cs):=by
  refine Y.syn rfl rfl fun Shp Pool F w inv hF sat=>?_
  obtain ⟨x,sm,v,wt,ws,N,r,p,ks,rfl,I⟩:=inv
  obtain ⟨_,hc,hz⟩:=jdn sat
  cases sm with
  |zero=>
    rw [jfG E ho hw (jjw hc)];exact .block ⟨x,v,wt,ws,rfl⟩
  |succ sm=>
    haveI:PutV l d (.tuple #[]) (put l d (.tuple #[])):=⟨rfl⟩
    obtain ⟨r1,r2⟩:=jjx (P:=P) (vs:=va) (es:= #[⟨.mark (.extern f),false,true⟩]) hc hz (by omega)
    rw [jb5 (evs:=evS ⟨M.mu,1,none⟩) E ho hw r1 r2 jjt];exact .act (Shp':=[M.muC x sm,M.wgC v wt ws]) (jlC sat (by omega)) (.inr (jfA E ho)) rfl (jka ⟨_,List.mem_cons_self,rfl⟩) (fun s' e=>by obtain rfl:=Option.some.inj e;exact Iff.rfl) (fun e=>by cases e)
      ⟨x,sm,v,wt,ws,N,r,p,ks,rfl,I.goL hF (.woken kk) (I.lock.pass (I.lt hF) (by show pL (F Y.i)=_;rw [hF];rfl)) (.inl rfl) (by simp) (by simp)⟩ hit
theorem s_nano (E:Ext P f Extern.OsHooks.nano) (hq:(P.funcs[f]?).any (·.norace)=true) (ho:ops[i]?=some ⟨d,.call ⟨.value (.func f),#[],ats⟩,ty,pos,af,g⟩) (hw:Wt ops l g)
    (hit: ∀t,(Y.im D s h).R (Gr (bF f0) (put l d (.int .i64 t)) ds (.inRegion ops rest::k) cs)):(Y.im D s h).R (Gr (bF f0) l ds (.inRegion ops (i::rest)::k) cs):=by
  refine Y.syn rfl rfl fun Shp Pool F w inv hF sat=>?_
  have hst:stepG P Y.main (Gr (bF f0) l ds (.inRegion ops (i::rest)::k) cs) w= .go (Gr (bF f0) (put l d (.int .i64 ((w.os.mono+w.tick:Nat):Int))) ds (.inRegion ops rest::k) cs) w.later #[]:=by
    obtain ⟨fn,h1,h2,h3,h4,h5⟩:=E.eq
    have:=stepG_nanotime (P:=P) (main:=Y.main) (b:=bF f0) (a:=⟨l.toArray,ds⟩) (kk:=k) (cs:=cs) (w:=w) (rest:=rest) ho (Wt.wanted (o:=⟨d,.call ⟨.value (.func f),#[],ats⟩,ty,pos,af,g⟩) hw) (by simp [bF]) rfl h1 h2 h3 h4 h5 (by simpa [h1] using hq)
    rw [jnc] at this
    exact this
  rw [hst];exact .act (l:=[]) (jgC rfl ⟨w.tick,rfl⟩ rfl rfl (Nat.le_succ _) (Meet.rw inv)) (.inl rfl) rfl zq (fun s' e=>by obtain rfl:=Option.some.inj e;exact Iff.rfl) (fun e=>by cases e) (by rw [jee hF];exact inv) (hit _)
theorem s_spinNo {kd:IntKind} {n:Int} {m:Im P} (E:Ext P f Extern.Sync.canSpin) (ho:ops[i]?=some ⟨d,.call ⟨.value (.func f),args.toArray,ats⟩,ty,pos,af,g⟩) (hw:Wt ops l g) [ea:ArgsV l args [.int kd n]] [PutV l d (.bool false) l'] (hn:4≤n)
    (hit:m.R (Gr (bF f0) l' ds (.inRegion ops rest::k) cs)):m.R (Gr (bF f0) l ds (.inRegion ops (i::rest)::k) cs):=
  jk3 (v:= .bool false) E ho hw (by show Extern.Sync.canSpin #[.int kd n]=_;rw [canSpin_eq,if_pos hn]) hit
theorem jlG {kd:IntKind} {n:Int} (E:Ext P f Extern.Sync.canSpin) (ho:ops[i]?=some ⟨d,.call ⟨.value (.func f),args.toArray,ats⟩,ty,pos,af,g⟩) (hw:Wt ops l g) [ea:ArgsV l args [.int kd n]] (hn:n<4)
    (hit: ∀t,(Y.im D s h).R (Gr (bF f0) (put l d (.bool t)) ds (.inRegion ops rest::k) cs)):(Y.im D s h).R (Gr (bF f0) l ds (.inRegion ops (i::rest)::k) cs):=by
  refine Y.syn rfl rfl fun Shp Pool F w inv hF sat=>?_
  haveI:PutV l d (.bool w.spins) (put l d (.bool w.spins)):=⟨rfl⟩
  have h4: ¬(n≥4):=by omega
  rw [jb5 (w':=w.asked) (v:= .bool w.spins) (evs:=[]) E ho hw (by show (Extern.Sync.canSpin #[.int kd n]).run P w=_;rw [canSpin_eq,if_neg h4];rfl) (by show (Extern.Sync.canSpin #[.int kd n]).events P w _=_;rw [canSpin_eq,if_neg h4];rfl) (by simp)];exact .act (l:=[]) (jgC rfl (.refl _) rfl rfl (Nat.le_succ _) (Meet.rw inv)) (.inl rfl) rfl zq (fun s' e=>by obtain rfl:=Option.some.inj e;exact Iff.rfl) (fun e=>by cases e) (by rw [jee hF];exact inv) (hit _)
theorem Still.agg {t:TypeId} [s:Scal P t]:Still P (isAgg t) false:=by
  have:=s.eq
  unfold jfp at this
  split at this
  · cases this
  · cases this
  · rename_i d h1 h2 e
    refine Still.bind (jal e) ?_
    cases d<;>first|exact Still.pure _|exact absurd rfl (h1 _)|exact absurd rfl (h2 _ _)
  · cases this
theorem jkw (hq:(P.funcs[f0]?).any (·.norace)=true) (a:Addr):seen P f0 #[⟨.cell a,false,false⟩]= #[]:=by
  rw [seen_def];simp [seenStep,hq]
theorem jhP {t:TypeId} {x:Operand} {a:Addr} {u:Value} {w:World} {main:Bool} (hq:(P.funcs[f0]?).any (·.norace)=true) (ho:ops[i]?=some ⟨d,.load t x,ty,pos,af,g⟩) (hw:Wt ops l g) [e:OpV l x (.pointer (some a))] [Scal P t] (hc:w.cell? a=some u):
    stepG P main (Gr (bF f0) l ds (.inRegion ops (i::rest)::k) cs) w= .go (Gr (bF f0) (put l d u) ds (.inRegion ops rest::k) cs) w #[]:=by
  have e1:execOp (ev l) ⟨d,.load t x,ty,pos,af,g⟩=(loadVar t a>>=fun v=>Pure.pure (Next.value v)):=by simp [execOp,e.eq,Instr.loadAt,Instr.sureAddr,asAddr]
  have t1:=Still.agg (P:=P) (t:=t)
  have hr:(execOp (ev l) ⟨d,.load t x,ty,pos,af,g⟩).run P w= .ok (.value u) w:=by
    rw [e1];simp [loadVar,Sem.run_bind,t1.run w,hc]
  have hev:(execOp (ev l) ⟨d,.load t x,ty,pos,af,g⟩).events P w #[]= #[⟨.cell a,false,false⟩]:=by
    rw [e1];simp [loadVar,Sem.events_bind,Sem.run_bind,t1.run w,t1.events w,hc,events_load]
  rw [jet ho (Wt.wanted (o:=⟨d,.load t x,ty,pos,af,g⟩) hw) (by simp) w];have hfin:=Fr.finish (bF f0) l ds ops i rest k u ho
  have hs:=jkw hq a
  simp [stepG.apply,hr,hev,G,GStep.after,Gr,hfin]
  simp [bF,Fr,hs]
theorem jjA {t:TypeId} {x:Operand} (hq:(P.funcs[f0]?).any (·.norace)=true) (ho:ops[i]?=some ⟨d,.load t x,ty,pos,af,g⟩) (hw:Wt ops l g) [e:OpV l x (.pointer (some ⟨M.mu,0,none⟩))] [Scal P t] (h1:l0≠ .hold 1)
    (st: ∀x sm N (G:Nat→LS),LockInv (6*M.n) x sm N G→Y.i<N→G Y.i=l0→ ∃l1,LockInv (6*M.n) x sm N (updF G Y.i l1)∧l1.early=l0.early∧l1≠ .hold 1∧(Y.im D (.w kn l1 .on z) h).R (Gr (bF f0) (put l d (.int .i32 x.val)) ds (.inRegion ops rest::k) cs)):
    (Y.im D (.w kn l0 .on z) h).R (Gr (bF f0) l ds (.inRegion ops (i::rest)::k) cs):=by
  refine Y.syn rfl rfl fun Shp Pool F w inv hF sat=>?_
  obtain ⟨x,sm,v,wt,ws,N,r,p,ks,rfl,I⟩:=inv
  obtain ⟨⟨hc,hz⟩,_⟩:=jdn sat
  obtain ⟨l1,I',q1,q2,q3⟩:=st x sm N _ I.lock (I.lt hF) (by show pL (F Y.i)=_;rw [hF];rfl)
  rw [jhP hq ho hw hc];exact .act (l:=[]) jbr (.inl rfl) rfl zq (fun s' e=>by obtain rfl:=Option.some.inj e;exact Iff.rfl) (fun e=>by cases e) ⟨x,sm,v,wt,ws,N,r,p,ks,rfl,I.goL hF l1 I' (.inl q1) h1 q2⟩ q3
theorem jc5 {t:TypeId} {x:Operand} (hq:(P.funcs[f0]?).any (·.norace)=true) (ho:ops[i]?=some ⟨d,.load t x,ty,pos,af,g⟩) (hw:Wt ops l g) [e:OpV l x (.pointer (some ⟨M.mu,0,none⟩))] [Scal P t] (hM:M.n≤64)
    (hit: ∀x:Wd,x.n≤384→(aw=true→x.w=true∧x.s=false)→(Y.im D (.w kn (.try_ aw x kk) .on z) h).R (Gr (bF f0) (put l d (.int .i32 x.val)) ds (.inRegion ops rest::k) cs)):(Y.im D (.w kn (.look aw kk) .on z) h).R (Gr (bF f0) l ds (.inRegion ops (i::rest)::k) cs):=
  jjA hq ho hw (by simp) fun x sm N G I hi hG=>⟨_,I.load hi hG,rfl,by simp,hit x (by have:=I.small.1;omega) (by
    have:=(I.load hi hG).ok _ hi
    rw [updF_same] at this
    exact this.2.2)⟩
theorem jlI {t:TypeId} {x:Operand} (hq:(P.funcs[f0]?).any (·.norace)=true) (ho:ops[i]?=some ⟨d,.load t x,ty,pos,af,g⟩) (hw:Wt ops l g) [e:OpV l x (.pointer (some ⟨M.mu,0,none⟩))] [Scal P t] (hM:M.n≤64)
    (hit: ∀x:Wd,x.n≤384→(aw=true→x.w=true∧x.s=false)→(Y.im D (.w kn (.try_ aw x kk) .on z) h).R (Gr (bF f0) (put l d (.int .i32 x.val)) ds (.inRegion ops rest::k) cs)):(Y.im D (.w kn (.try_ aw old kk) .on z) h).R (Gr (bF f0) l ds (.inRegion ops (i::rest)::k) cs):=
  jjA hq ho hw (by simp) fun x sm N G I hi hG=>by
   have I':LockInv (6*M.n) x sm N (updF G Y.i (.try_ aw x kk)):=by
    have:=(I.again hi hG).load (aw:=aw) (k:=kk) hi (updF_same _ _ _)
    have e:updF (updF G Y.i (.look aw kk)) Y.i (.try_ aw x kk)=updF G Y.i (.try_ aw x kk):=by
      funext j
      by_cases ej:j=Y.i
      · subst ej;rw [updF_same,updF_same]
      · rw [jbv _ _ ej,jbv _ _ ej,jbv _ _ ej]
    rw [e] at this
    exact this
   refine ⟨.try_ aw x kk,I',rfl,by simp,hit x (by have:=I.small.1;omega) ?_⟩
   have:=I'.ok _ hi
   rw [updF_same] at this
   exact this.2.2
theorem jiW {t:TypeId} {x:Operand} (hq:(P.funcs[f0]?).any (·.norace)=true) (ho:ops[i]?=some ⟨d,.load t x,ty,pos,af,g⟩) (hw:Wt ops l g) [e:OpV l x (.pointer (some ⟨M.mu,0,none⟩))] [Scal P t] (hM:M.n≤64)
    (free: ∀x:Wd,x.n≤384→x.s=false→x.w=true→(Y.im D (.w kn (.try_ true x kk) .on z) h).R (Gr (bF f0) (put l d (.int .i32 x.val)) ds (.inRegion ops rest::k) cs))
    (handed: ∀n:Nat,1≤n→n≤384→(Y.im D (.w kn (.handed n) .on z) h).R (Gr (bF f0) (put l d (.int .i32 (⟨false,false,true,n⟩:Wd).val)) ds (.inRegion ops rest::k) cs)):(Y.im D (.w kn (.woken kk) .on z) h).R (Gr (bF f0) l ds (.inRegion ops (i::rest)::k) cs):=
  jjA hq ho hw (by simp) fun x sm N G I hi hG=>by
    have hsm:=I.small.1
    cases hs:x.s with
    |false=>
      have I':=I.awake hi hG hs
      refine ⟨_,I',rfl,by simp,free x (by omega) hs ?_⟩
      have:=I'.ok _ hi
      rw [updF_same] at this
      exact (this.2.2 rfl).1
    |true=>
      obtain ⟨e1,e2,e3,I'⟩:=I.given hi hG hs
      refine ⟨_,I',rfl,by simp,?_⟩
      have:=handed x.n e3 (by omega)
      have ex:(⟨false,false,true,x.n⟩:Wd)=x:=by
        obtain ⟨xl,xw,xs,xn⟩:=x
        dsimp only at e1 e2 hs⊢
        subst e1 e2 hs
        rfl
      rw [ex] at this
      exact this
theorem jkx {t:TypeId} {x:Operand} (hq:(P.funcs[f0]?).any (·.norace)=true) (ho:ops[i]?=some ⟨d,.load t x,ty,pos,af,g⟩) (hw:Wt ops l g) [e:OpV l x (.pointer (some ⟨M.mu,0,none⟩))] [Scal P t] (hM:M.n≤64)
    (hit: ∀x:Wd,x.n≤384→(Y.im D (.w kn (.found x kk) .on z) h).R (Gr (bF f0) (put l d (.int .i32 x.val)) ds (.inRegion ops rest::k) cs)):(Y.im D (.w kn (.seek kk) .on z) h).R (Gr (bF f0) l ds (.inRegion ops (i::rest)::k) cs):=
  jjA hq ho hw (by simp) fun x sm N G I hi hG=>⟨_,I.seekLoad hi hG,by unfold LS.found;split<;>rfl,by unfold LS.found;split<;>simp,hit x (by have:=I.small.1;omega)⟩
theorem jky {t:TypeId} {x:Operand} (hq:(P.funcs[f0]?).any (·.norace)=true) (ho:ops[i]?=some ⟨d,.load t x,ty,pos,af,g⟩) (hw:Wt ops l g) [e:OpV l x (.pointer (some ⟨M.mu,0,none⟩))] [Scal P t]
    (hit: ∀u,(Y.im D s h).R (Gr (bF f0) (put l d u) ds (.inRegion ops rest::k) cs)):(Y.im D s h).R (Gr (bF f0) l ds (.inRegion ops (i::rest)::k) cs):=by
  refine Y.syn rfl rfl fun Shp Pool F w inv hF sat=>?_
  obtain ⟨x,sm,v,wt,ws,N,r,p,ks,rfl,I⟩:=inv
  obtain ⟨⟨hc,hz⟩,_⟩:=jdn sat
  rw [jhP hq ho hw hc];exact .act (l:=[]) jbr (.inl rfl) rfl zq (fun s' e=>by obtain rfl:=Option.some.inj e;exact Iff.rfl) (fun e=>by cases e) ⟨x,sm,v,wt,ws,N,r,p,ks,rfl,by rw [jee hF];exact I⟩ (hit _)
theorem s_take (E:Ext P f (Extern.Race.marked .acquire)) (ho:ops[i]?=some ⟨d,.call ⟨.value (.func f),args.toArray,ats⟩,ty,pos,af,g⟩) (hw:Wt ops l g) [ea:ArgsV l args [.pointer (some ⟨M.mu,0,none⟩)]] [PutV l d (.tuple #[]) l']
    (hit: ∀ks Pool,M.PL ks Pool→kn∉ks→(∀k'∈ks,k'<M.n∧M.hit k'=true)→ks.Nodup→(Y.im 0 (.w kn (.hold 1) .on ks) (h++Pool)).R (Gr (bF f0) l' ds (.inRegion ops rest::k) cs)):
    (Y.im 0 (.w kn (.hold 0) .on z) h).R (Gr (bF f0) l ds (.inRegion ops (i::rest)::k) cs):=by
  refine Y.syn rfl rfl fun Shp Pool F w inv hF sat=>?_
  obtain ⟨x,sm,v,wt,ws,N,r,p,ks,rfl,I⟩:=inv
  obtain ⟨q1,q2,q3,q4,I'⟩:=I.takes hF
  rw [jb5 (evs:=[⟨.mark (.acquire ⟨M.mu,0,none⟩),false,true⟩]) E ho hw (jc6 _ _) (jde _ _ _) (by simp)];exact .take (Q:=M.pro) (s':= .w kn (.hold 1) .on ks) rfl rfl ⟨id,id⟩ ⟨x,sm,v,wt,ws,N,r,p,ks,rfl,I'⟩ (hit ks Pool q1 q2 q3 q4)
theorem s_put (E:Ext P f (Extern.Race.marked .releaseMerge)) (ho:ops[i]?=some ⟨d,.call ⟨.value (.func f),args.toArray,ats⟩,ty,pos,af,g⟩) (hw:Wt ops l g) [ea:ArgsV l args [.pointer (some ⟨M.mu,0,none⟩)]] [PutV l d (.tuple #[]) l']
    {hr hp:Hp} (eh:Weak B h (hr++hp)) (hh:M.hit kn=true) (hP:M.PL (z++[kn]) hp) (hit:(Y.im 0 (.w kn (.hold 2) .on z) hr).R (Gr (bF f0) l' ds (.inRegion ops rest::k) cs)):
    (Y.im 0 (.w kn (.hold 1) .on z) h).R (Gr (bF f0) l ds (.inRegion ops (i::rest)::k) cs):=by
  refine Y.syn rfl rfl fun Shp Pool F w inv hF sat=>?_
  obtain ⟨x,sm,v,wt,ws,N,r,p,ks,rfl,I⟩:=inv
  obtain ⟨q1,I'⟩:=I.puts hF hh hP
  rw [jb5 (evs:=[⟨.mark (.releaseMerge ⟨M.mu,0,none⟩),false,true⟩]) E ho hw (jc6 _ _) (jde _ _ _) (by simp)];exact .put (Q:=M.pro) (s':= .w kn (.hold 2) .on z) (hr:=hr) (hp:=hp) rfl rfl ⟨id,id⟩ q1 eh ⟨x,sm,v,wt,ws,N,r,p,_,rfl,I'⟩ hit
end
end Go.Lo
namespace Go.Lo
open Go.Conc
section
variable {P:Program} {m:Im P} {b:Frame} {l l':List Value} {ds:List Deferred} {k:List Item} {cs:List Frame}
variable {ops:Array Oper} {i:Nat} {rest:List Nat} {d:Option Tmp} {ty:TypeId} {pos:String} {af:Array Edge} {g:Option (Nat×Bool)}
theorem jht {f:FuncId} {args:List Operand} {ats:Array TypeId} {vs:List Value} (ho:ops[i]?=some ⟨d,.defer ⟨.value (.func f),args.toArray,ats⟩,ty,pos,af,g⟩) (hw:Wt ops l g) (hr:b.roundOf=none) (hk:b.kind≠ .early) [ea:ArgsV l args vs] [p:PutV l d undef l']
    (n:m.R (Gr b l' (dcall f vs.toArray::ds) (.inRegion ops rest::k) cs)):m.R (Gr b l ds (.inRegion ops (i::rest)::k) cs):=by
  refine m.idle rfl (fun w=>?_) n
  have he:=Fr.eval b l ds (.inRegion ops (i::rest)::k)
  simp only [Fr] at he
  have e:Array.map (ev l) args.toArray=vs.toArray:=by rw [List.map_toArray,ea.eq]
  have hw':=Wt.wanted (o:=⟨d,.defer ⟨.value (.func f),args.toArray,ats⟩,ty,pos,af,g⟩) hw
  have hfin:=Fr.finish b l (dcall f vs.toArray::ds) ops i rest k undef ho
  rw [p.eq] at hfin
  have h1:stepG P m.main (Gr b l ds (.inRegion ops (i::rest)::k) cs) w=stepG.apply P true (Fr b l ds (.inRegion ops (i::rest)::k)) cs none (execOp (ev l) ⟨d,.defer ⟨.value (.func f),args.toArray,ats⟩,ty,pos,af,g⟩) w:=by
    simp [Gr,G,stepG,stepG.exec,stepG.oper,Frame.oper?,Fr,ho,hw',hr,he]
    rw [←he,hr]
  have hm:execOp (ev l) ⟨d,.defer ⟨.value (.func f),args.toArray,ats⟩,ty,pos,af,g⟩=Pure.pure (.defer (dcall f vs.toArray)):=by
    simp [execOp,resolve,Deferred.ofValue,ev,dcall,ea.eq]
  have hk':(b.kind==CallKind.early)=false:=by simpa using hk
  rw [h1,hm];unfold Gr
  rw [←hfin];simp [stepG.apply,G,Fr,hk',GStep.after,jc4]
def bD (f:FuncId):Frame:={bF f with kind:= .deferred}
theorem jj0 {f:FuncId} {fn:Func} {body:Code} {args:List Value} {n:Nat} {todo:List Item} {l1:List Value} (hf:P.funcs[f]?=some fn) (hname:(fn.name== "runtime.NumGoroutine")=false) (hb:fn.body=some body) (hn:fn.ntmps=n) (hl:args++List.replicate (n-args.length) undef=l1)
    (t:m.R (Gr (bD f) l1 [] [.code body] ((Gret b l ds todo cs).frame::cs))):m.R (Gret b l (dcall f args.toArray::ds) todo cs):=by
  refine m.idle rfl (fun w=>?_) t
  have h1: ¬fn.name= "runtime.NumGoroutine" :=by simpa using hname
  have e:Frame.enter P f args.toArray .deferred=Fr (bD f) l1 [] [.code body]:=by
    subst hl
    simp [Frame.enter,hf,hb,hn,Fr,bD,bF]
  unfold Gr
  rw [←e];simp [Gret,Fr,G,stepG,unwind,callDeferred,dcall,invoke,callFunc,hf,h1,hb,GStep.after,jc4]
theorem jj1 {c:Frame} {fn:Func} {todo:List Item} (hk:b.kind= .deferred) (hf:P.funcs[b.fn]?=some fn) (hr:fn.results= #[]) (hc:c.mode= .returning) (n:m.R (G c cs)):m.R (Gret b l [] todo (c::cs)):=by
  refine m.idle rfl (fun w=>?_) n
  have h1:=results_none hr l.toArray P w
  have h2:(results fn l.toArray).events P w #[]= #[]:=by simp [results,hr]
  simp [Gret,Fr,G,stepG,unwind,doReturn,hf,h1,h2,hk,hc,GStep.after,seen]
theorem jes {s:TypeId} {f off ft bb o:Nat} [t:FieldT P s f off ft]:Still P (Instr.fieldAt s (.pointer (some ⟨bb,o,none⟩)) f) (.pointer (some ⟨bb,o+off,none⟩)):=by
  have:=t.eq
  unfold jmP at this
  split at this
  · rename_i fs e
    split at this
    · rename_i x ex
      simp only [Bool.and_eq_true,beq_iff_eq] at this
      obtain ⟨⟨h1,h2⟩,h3⟩:=this
      subst h1;subst h2
      unfold Instr.fieldAt
      refine Still.bind (jal e) ?_
      simp only [ex]
      refine Still.bind (a:=⟨bb,o,none⟩) (Still.pure _) ?_
      refine Still.bind (a:=⟨bb,o+x.offset,none⟩) ?_ (Still.pure _)
      unfold fieldPlace
      split at h3
      · rename_i ti eti
        refine Still.bind (a:=ti.size) (Still.bind (jbu eti) (Still.pure _)) ?_
        rw [if_neg (by simpa using h3),Addr.add_none];exact Still.pure _
      · cases h3
    · cases this
  · cases this
theorem i_fa0 {s:TypeId} {f off ft bb:Nat} {x:Operand} (ho:ops[i]?=some ⟨d,.fieldAddr s x f,ty,pos,af,g⟩) (hw:Wt ops l g) [e:OpV l x (.pointer (some ⟨bb,0,none⟩))] [FieldT P s f off ft] [PutV l d (.pointer (some ⟨bb,off,none⟩)) l'] (n:m.R (Gr b l' ds (.inRegion ops rest::k) cs)):
    m.R (Gr b l ds (.inRegion ops (i::rest)::k) cs):=
  i_op (v:= .pointer (some ⟨bb,off,none⟩)) ho hw (by simp) (by
    simp only [execOp,e.eq]
    have:=jes (P:=P) (s:=s) (f:=f) (bb:=bb) (o:=0)
    rw [Nat.zero_add] at this
    exact Still.value this) n
theorem i_fa {s:TypeId} {f off ft bb o:Nat} {x:Operand} (ho:ops[i]?=some ⟨d,.fieldAddr s x f,ty,pos,af,g⟩) (hw:Wt ops l g) [e:OpV l x (.pointer (some ⟨bb,o,none⟩))] [FieldT P s f off ft] [PutV l d (.pointer (some ⟨bb,o+off,none⟩)) l'] (n:m.R (Gr b l' ds (.inRegion ops rest::k) cs)):
    m.R (Gr b l ds (.inRegion ops (i::rest)::k) cs):=
  i_op (v:= .pointer (some ⟨bb,o+off,none⟩)) ho hw (by simp) (by simp only [execOp,e.eq];exact Still.value jes) n
theorem jdb {s t:TypeId} {x:Operand} {n n':Int} {kk k':IntKind} (ho:ops[i]?=some ⟨d,.convert s t x,ty,pos,af,g⟩) (hw:Wt ops l g) [ex:OpV l x (.int kk n)] (hs:(P.underlying s).isSome=true) [it:IntT P t k'] (hn:k'.wrap n=n') [PutV l d (.int k' n') l'] (q:m.R (Gr b l' ds (.inRegion ops rest::k) cs)):
    m.R (Gr b l ds (.inRegion ops (i::rest)::k) cs):=
  i_op (v:= .int k' n') ho hw (by simp) (by
    obtain ⟨u,hu⟩:=Option.isSome_iff_exists.1 hs
    have:=it.eq
    unfold intB at this
    simp only [execOp,ex.eq]
    refine Still.value ?_
    unfold convert
    refine Still.bind (jal hu) ?_
    split at this
    · rename_i k2 e
      have:k2=k':=by simpa using this
      subst this
      refine Still.bind (jal e) ?_
      rw [←hn];cases u<;>exact Still.pure _
    · cases this) q
theorem jcw {x y:Operand} {op:BinOp} {t u:TypeId} {kk k2:IntKind} {p q:Int} {v:Value} (ho:ops[i]?=some ⟨d,.binOp op t x y u,ty,pos,af,g⟩) (hw:Wt ops l g) [ex:OpV l x (.int kk p)] [ey:OpV l y (.int k2 q)] (hs:op= .shl∨op= .shr) (hv:Op.shift op kk p k2 q=Sem.pure v) [PutV l d v l']
    (n:m.R (Gr b l' ds (.inRegion ops rest::k) cs)):m.R (Gr b l ds (.inRegion ops (i::rest)::k) cs):=
  i_op (v:=v) ho hw (by simp) (by
    simp only [execOp,ex.eq,ey.eq]
    refine Still.value (Still.bind (a:=()) ?_ ?_)
    · rcases hs with rfl|rfl<;>exact Still.pure ()
    · have e:binOp op t (.int kk p) (.int k2 q)=Op.shift op kk p k2 q:=by rcases hs with rfl|rfl<;>rfl
      rw [e,hv];exact Still.pure _) n
theorem jbQ {c x y:Operand} {v:Value} (ho:ops[i]?=some ⟨d,.pick c x y,ty,pos,af,g⟩) (hw:Wt ops l g) [ec:OpV l c (.bool true)] [ex:OpV l x v] [PutV l d v l'] (n:m.R (Gr b l' ds (.inRegion ops rest::k) cs)):m.R (Gr b l ds (.inRegion ops (i::rest)::k) cs):=
  i_op (v:=v) ho hw (by simp) (by simp only [execOp,ec.eq,ex.eq];exact Still.bind (a:=true) (Still.pure _) (Still.pure _)) n
theorem jcI {c x y:Operand} {v:Value} (ho:ops[i]?=some ⟨d,.pick c x y,ty,pos,af,g⟩) (hw:Wt ops l g) [ec:OpV l c (.bool false)] [ey:OpV l y v] [PutV l d v l'] (n:m.R (Gr b l' ds (.inRegion ops rest::k) cs)):m.R (Gr b l ds (.inRegion ops (i::rest)::k) cs):=
  i_op (v:=v) ho hw (by simp) (by simp only [execOp,ec.eq,ey.eq];exact Still.bind (a:=false) (Still.pure _) (Still.pure _)) n
end
section
variable {P:Program} {m:Im P} {b:Frame} {l:List Value} {ds:List Deferred} {k:List Item} {cs:List Frame}
theorem i_split {c:Operand} {x y:Code} {t:Bool} [hc:OpV l c (.bool t)] (h1:t=true→m.R (Gr b l ds (.code x::k) cs)) (h2:t=false→m.R (Gr b l ds (.code y::k) cs)):m.R (Gr b l ds (.code (.cond c x y)::k) cs):=
  jmE hc.eq (by cases t<;>simp only [if_true,if_false,Bool.false_eq_true]<;>first|exact h1 rfl|exact h2 rfl)
end
end Go.Lo
namespace Go.Lo
open Go.Conc
section
variable {P:Program} {m:Im P} {b:Frame} {l l':List Value} {ds:List Deferred} {k:List Item} {cs:List Frame}
variable {ops:Array Oper} {i:Nat} {rest:List Nat} {d:Option Tmp} {ty:TypeId} {pos:String} {af:Array Edge} {g:Option (Nat×Bool)}
theorem jek {args:List Operand} {ats:Array TypeId} {f:FuncId} {vs:List Value} (ho:ops[i]?=some ⟨d,.call ⟨.value (.func f),args.toArray,ats⟩,ty,pos,af,g⟩) (hw:Wt ops l g) [ea:ArgsV l args vs] (hf:ja4 P f=true)
    (n:m.R (G (Frame.enter P f vs.toArray .normal) (Fr b l ds (.inRegion ops (i::rest)::k)::cs))):m.R (Gr b l ds (.inRegion ops (i::rest)::k) cs):=
  i_call (ex:=(⟨rfl⟩:OpV l (.func f) (.func (.func f) #[] #[]))) ho hw hf (by simpa using n)
theorem jdq {op:Op} {v:Value} (ho:ops[i]?=some ⟨d,op,ty,pos,af,g⟩) [p:PutV l d v l'] (n:m.R (Gr b l' ds (.inRegion ops rest::k) cs)):m.R (G ((Fr b l ds (.inRegion ops (i::rest)::k)).finish v) cs):=by
  rw [fin_at (o:=⟨d,op,ty,pos,af,g⟩) (l':=l') ho];exact n
end
end Go.Lo
namespace Go.Lo
open Go.Conc
section
variable {P:Program} {B:Array Obj} {Q:ProS} {Y:Sy P B Q} {b:Frame} {l l':List Value} {ds:List Deferred} {k:List Item} {cs:List Frame} {D:Nat} {s:Q.S} {h:Hp}
theorem jeW {x y:Code} (J:Nat→Q.S→Hp→List Value→Prop) (h2: ∀D' s' h' l',J D' s' h' l'→(Y.im D' s' h').R (Gr b l' ds (.code y::k) cs))
    (h1:(∀D' s' h' l',J D' s' h' l'→(Y.im D' s' h').R (Gr b l' ds (.code y::k) cs))→(Y.im D s h).R (Gr b l ds (.code x:: .code y::k) cs)):(Y.im D s h).R (Gr b l ds (.code (.seq x y)::k) cs):=
  jce (h1 h2)
theorem jaW {D:Nat} {s:Q.S} {h:Hp} {k:List Item} {d:Option Tmp} {v:Value} [p:PutV l d v l'] (n:(Y.im D s h).R (Gr b l' ds k cs)):(Y.im D s h).R (Gr b (put l d v) ds k cs):=by rw [p.eq];exact n
end
end Go.Lo
namespace Go.Lo
open Go.Conc
section
variable {P:Program} {B:Array Obj} {Q:ProS} {Y:Sy P B Q} {b:Frame} {l l':List Value} {ds:List Deferred} {k:List Item} {cs:List Frame} {D:Nat} {s:Q.S} {h:Hp}
theorem jjz {c:Code} (I:Nat→Nat→Q.S→Hp→List Value→Prop) (n:Nat) (h0:I n D s h l) (round: ∀n D s h l,I n D s h l→(∀n' D' s' h' l',n'<n→I n' D' s' h' l'→(Y.im D' s' h').R (Gr b l' ds (.inLoop c::k) cs))→(Y.im D s h).R (Gr b l ds (.code c:: .inLoop c::k) cs)):
    (Y.im D s h).R (Gr b l ds (.code (.loop c)::k) cs):=by
  have key: ∀n D s h l,I n D s h l→(Y.im D s h).R (Gr b l ds (.inLoop c::k) cs):=by
    intro n
    induction n using Nat.strongRecOn with
    |_ n ih=>exact fun D s h l hi=>jj2 (round n D s h l hi fun n' D' s' h' l' hn hi'=>ih n' hn D' s' h' l' hi')
  exact i_loop (round n D s h l h0 fun n' D' s' h' l' _ hi=>key n' D' s' h' l' hi)
end
section
variable {P:Program} {B:Array Obj} {M:Meet} {Y:Sy P B M.pro} {D:Nat} {s:SS} {h:Hp}
variable {l l':List Value} {ds:List Deferred} {k:List Item} {cs:List Frame} {ops:Array Oper} {i:Nat} {rest:List Nat} {d:Option Tmp} {ty:TypeId} {pos:String} {af:Array Edge} {g:Option (Nat×Bool)}
  {args:List Operand} {ats:Array TypeId} {f f0:FuncId}
theorem s_spin {it:Nat} (E:Ext P f Extern.Sync.canSpin) (ho:ops[i]?=some ⟨d,.call ⟨.value (.func f),args.toArray,ats⟩,ty,pos,af,g⟩) (hw:Wt ops l g) [ea:ArgsV l args [.int .i64 (it:Int)]]
    (hit: ∀t,(t=true→it<4)→(Y.im D s h).R (Gr (bF f0) (put l d (.bool t)) ds (.inRegion ops rest::k) cs)):(Y.im D s h).R (Gr (bF f0) l ds (.inRegion ops (i::rest)::k) cs):=by
  by_cases h4:it<4
  · exact jlG E ho hw (by omega) fun t=>hit t fun _=>h4
  · haveI:PutV l d (.bool false) (put l d (.bool false)):=⟨rfl⟩
    exact s_spinNo E ho hw (by omega) (hit false fun e=>by cases e)
end
end Go.Lo
namespace Go.Lo
open Go.Conc
section
variable {P:Program} {B:Array Obj} {Q:ProS} {Y:Sy P B Q} {b:Frame} {l l':List Value} {ds:List Deferred} {k:List Item} {cs:List Frame} {D:Nat} {s:Q.S} {h:Hp}
theorem s_join5 {x0 x1 x2 x3 x4 y:Code} (J:Nat→Q.S→Hp→List Value→Prop) (h2: ∀D' s' h' l',J D' s' h' l'→(Y.im D' s' h').R (Gr b l' ds (.code y::k) cs)) (h1:(∀D' s' h' l',J D' s' h' l'→(Y.im D' s' h').R (Gr b l' ds (.code y::k) cs))→(Y.im D s h).R (Gr b l ds (.code (.seq x0 (.seq x1 (.seq x2 (.seq x3 (.seq x4 y)))))::k) cs)):(Y.im D s h).R (Gr b l ds (.code (.seq x0 (.seq x1 (.seq x2 (.seq x3 (.seq x4 y)))))::k) cs):=h1 h2
end
end Go.Lo
namespace Go.Lo
open Go.Conc
def bAnd (k:IntKind) (x y:Int):Int:=k.wrap (BitVec.ofInt k.bits x&&&BitVec.ofInt k.bits y).toNat
def bOr (k:IntKind) (x y:Int):Int:=k.wrap (BitVec.ofInt k.bits x|||BitVec.ofInt k.bits y).toNat
def bClr (k:IntKind) (x y:Int):Int:=k.wrap (BitVec.ofInt k.bits x&&& ~~~BitVec.ofInt k.bits y).toNat
def chkW (n:Nat) (l w s:Bool):Bool:=
  let x:Int:=(⟨l,w,s,n⟩:Wd).val
  bAnd .i32 x 5==b01 l+4*b01 s&&bAnd .i32 x 4==4*b01 s&&bAnd .i32 x 2==2*b01 w&&bAnd .i32 x 1==b01 l&&bAnd .i32 x 3==b01 l+2*b01 w&&bAnd .i32 x 7==b01 l+2*b01 w+4*b01 s&&
  x.fdiv (2^3)==n&&bOr .i32 x 1==(⟨true,w,s,n⟩:Wd).val&&bOr .i32 x 2==(⟨l,true,s,n⟩:Wd).val&&bOr .i32 x 4==(⟨l,w,true,n⟩:Wd).val&&bClr .i32 x 2==(⟨l,false,s,n⟩:Wd).val&&
  IntKind.i32.wrap (x+8)==(⟨l,w,s,n+1⟩:Wd).val&&(n==0||IntKind.i32.wrap (x-8)==(⟨l,w,s,n-1⟩:Wd).val)&&(l||bAnd .i32 (IntKind.i32.wrap (x+1)) 1==1)
theorem chkW_all:((List.range 390).all fun n=>[false,true].all fun l=>[false,true].all fun w=>[false,true].all fun s=>chkW n l w s)=true:=by kernel_rfl
theorem chkW_of (x:Wd) (h:x.n<390):chkW x.n x.l x.w x.s=true:=by
  have h1:=List.all_eq_true.1 chkW_all x.n (List.mem_range.2 h)
  have b: ∀c:Bool,c∈[false,true]:=fun c=>by cases c<;>simp
  exact List.all_eq_true.1 (List.all_eq_true.1 (List.all_eq_true.1 h1 x.l (b _)) x.w (b _)) x.s (b _)
structure WdB (x:Wd):Prop where
  and5:bAnd .i32 x.val 5=b01 x.l+4*b01 x.s
  and4:bAnd .i32 x.val 4=4*b01 x.s
  and2:bAnd .i32 x.val 2=2*b01 x.w
  and1:bAnd .i32 x.val 1=b01 x.l
  and3:bAnd .i32 x.val 3=b01 x.l+2*b01 x.w
  and7:bAnd .i32 x.val 7=b01 x.l+2*b01 x.w+4*b01 x.s
  shr3:(x.val:Int).fdiv (2^3)=x.n
  or1:bOr .i32 x.val 1=(⟨true,x.w,x.s,x.n⟩:Wd).val
  or2:bOr .i32 x.val 2=(⟨x.l,true,x.s,x.n⟩:Wd).val
  or4:bOr .i32 x.val 4=(⟨x.l,x.w,true,x.n⟩:Wd).val
  clr2:bClr .i32 x.val 2=(⟨x.l,false,x.s,x.n⟩:Wd).val
  add8:IntKind.i32.wrap ((x.val:Int)+8)=(⟨x.l,x.w,x.s,x.n+1⟩:Wd).val
  sub8:x.n≠0→IntKind.i32.wrap ((x.val:Int)-8)=(⟨x.l,x.w,x.s,x.n-1⟩:Wd).val
  odd:x.l=false→bAnd .i32 (IntKind.i32.wrap ((x.val:Int)+1)) 1=1
theorem wdB (x:Wd) (h:x.n<390):WdB x:=by
  have c:=chkW_of x h
  unfold chkW at c
  simp only [Bool.and_eq_true,beq_iff_eq,Bool.or_eq_true] at c
  obtain ⟨⟨⟨⟨⟨⟨⟨⟨⟨⟨⟨⟨⟨c1,c2⟩,c3⟩,c4⟩,c5⟩,c6⟩,c7⟩,c8⟩,c9⟩,c10⟩,c11⟩,c12⟩,c13⟩,c14⟩:=c
  exact ⟨c1,c2,c3,c4,c5,c6,c7,c8,c9,c10,c11,c12,fun h=>c13.resolve_left h,fun h=>c14.resolve_left (by rw [h];simp)⟩
theorem jaP {t:TypeId} {k:IntKind} {x y z:Int} (h:bAnd k x y=z):binOp .and t (.int k x) (.int k y)=Sem.pure (.int k z):=by
  subst h;simp [binOp,Op.intBits,bAnd];rfl
theorem jhl {t:TypeId} {k:IntKind} {x y z:Int} (h:bOr k x y=z):binOp .or t (.int k x) (.int k y)=Sem.pure (.int k z):=by
  subst h;simp [binOp,Op.intBits,bOr];rfl
theorem jjJ {t:TypeId} {k:IntKind} {x y z:Int} (h:bClr k x y=z):binOp .andNot t (.int k x) (.int k y)=Sem.pure (.int k z):=by
  subst h;simp [binOp,Op.intBits,bClr];rfl
theorem jd9 {t:TypeId} {k:IntKind} {x y z:Int} (h:k.wrap (x+y)=z):binOp .add t (.int k x) (.int k y)=Sem.pure (.int k z):=by
  subst h;simp [binOp,Op.intArith];rfl
theorem jh9 {t:TypeId} {k:IntKind} {x y z:Int} (h:k.wrap (x-y)=z):binOp .sub t (.int k x) (.int k y)=Sem.pure (.int k z):=by
  subst h;simp [binOp,Op.intArith];rfl
theorem jbd {t:TypeId} {k:IntKind} {x y:Int} {c:Bool} (h:decide (x=y)=c):binOp .eql t (.int k x) (.int k y)=Sem.pure (.bool c):=by
  subst h;simp [binOp,Op.intCmp];rfl
theorem jba {t:TypeId} {k:IntKind} {x y:Int} {c:Bool} (h:decide (x≠y)=c):binOp .neq t (.int k x) (.int k y)=Sem.pure (.bool c):=by
  subst h;simp [binOp,Op.intCmp];rfl
theorem jgO {t:TypeId} {k:IntKind} {x y:Int} {c:Bool} (h:decide (x<y)=c):binOp .lss t (.int k x) (.int k y)=Sem.pure (.bool c):=by
  subst h;simp [binOp,Op.intCmp];rfl
theorem jdx {t:TypeId} {k:IntKind} {x y:Int} {c:Bool} (h:decide (x>y)=c):binOp .gtr t (.int k x) (.int k y)=Sem.pure (.bool c):=by
  subst h;simp [binOp,Op.intCmp];rfl
theorem jd8 {k k2:IntKind} {x y z:Int} (hy:0≤y) (h:x.fdiv (2^(min y.toNat k.bits))=z):Op.shift .shr k x k2 y=Sem.pure (.int k z):=by
  subst h;unfold Op.shift;rw [if_neg (by omega)];rfl
theorem op_shl {k k2:IntKind} {x y z:Int} (hy:0≤y) (h:k.wrap (x*2^(min y.toNat k.bits))=z):Op.shift .shl k x k2 y=Sem.pure (.int k z):=by
  subst h;unfold Op.shift;rw [if_neg (by omega)];rfl
def wgN (v wt:Nat):Int:=((v*4294967296+wt:Nat):Int)
def chkG (v wt:Nat):Bool:=
  bAnd .u64 (wgN v wt) 2147483648==0&&(wgN v wt).fdiv (2^32)==v&&IntKind.i32.wrap v==v&&bAnd .u64 (wgN v wt) 2147483647==wt&&IntKind.u32.wrap wt==wt&&IntKind.u64.wrap (wgN v wt+4294967296)==wgN (v+1) wt&&
  (v==0||IntKind.u64.wrap (wgN v wt+18446744069414584320)==wgN (v-1) wt)&&IntKind.u64.wrap (wgN v wt+1)==wgN v (wt+1)
theorem chkG_all:((List.range 70).all fun v=>[0,1].all fun wt=>chkG v wt)=true:=by kernel_rfl
structure WgB (v wt:Nat):Prop where
  flag:bAnd .u64 (wgN v wt) 2147483648=0
  hi:(wgN v wt).fdiv (2^32)=v
  hi32:IntKind.i32.wrap v=v
  lo:bAnd .u64 (wgN v wt) 2147483647=wt
  lo32:IntKind.u32.wrap wt=wt
  inc:IntKind.u64.wrap (wgN v wt+4294967296)=wgN (v+1) wt
  dec:v≠0→IntKind.u64.wrap (wgN v wt+18446744069414584320)=wgN (v-1) wt
  wait:IntKind.u64.wrap (wgN v wt+1)=wgN v (wt+1)
theorem wgB (v wt:Nat) (hv:v<70) (hw:wt≤1):WgB v wt:=by
  have h1:=List.all_eq_true.1 chkG_all v (List.mem_range.2 hv)
  have c:=List.all_eq_true.1 h1 wt (by rcases (by omega:wt=0∨wt=1) with rfl|rfl<;>simp)
  unfold chkG at c
  simp only [Bool.and_eq_true,beq_iff_eq,Bool.or_eq_true] at c
  obtain ⟨⟨⟨⟨⟨⟨⟨c1,c2⟩,c3⟩,c4⟩,c5⟩,c6⟩,c7⟩,c8⟩:=c
  exact ⟨c1,c2,c3,c4,c5,c6,fun h=>c7.resolve_left h,c8⟩
end Go.Lo
