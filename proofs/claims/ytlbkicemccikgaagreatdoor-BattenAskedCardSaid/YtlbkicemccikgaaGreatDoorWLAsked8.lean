/- A part of the proof of a law: my own separation logic over the machine, and walks of the program. Condition of each theorem: as its statement says. -/
import Derived.Test.YtlbkicemccikgaaGreatDoorWLAsked7
set_option linter.all false
namespace Go.Lo
open Go.Conc
inductive Tr where
  | leaf
  | node (f : Goroutine → Hp → Tr)
instance : Inhabited Tr := ⟨.leaf⟩
def Tr.Lt (a b : Tr) : Prop := ∃ f g h, b = .node f ∧ a = f g h
theorem Tr.lt (f : Goroutine → Hp → Tr) (g : Goroutine) (h : Hp) : Tr.Lt (f g h) (.node f) := ⟨f, g, h, rfl, rfl⟩
theorem Tr.acc (t : Tr) : Acc Tr.Lt t := by
  induction t with
  | leaf => exact ⟨_, fun y ⟨f, g, h, e, _⟩ => by cases e⟩
  | node f ih => exact ⟨_, fun y ⟨f', g, h, e, e'⟩ => by cases e; subst e'; exact ih g h⟩
def Tr.ofNat : Nat → Tr
  | 0 => .leaf
  | n + 1 => .node fun _ _ => .ofNat n
def TLt (n : Nat) (a b : Nat → Tr) : Prop := ∃ i, i < n ∧ Tr.Lt (a i) (b i) ∧ ∀ j, j ≠ i → a j = b j
theorem TLt.acc : ∀ (n : Nat) (f : Nat → Tr), Acc (TLt n) f
  | 0, f => ⟨_, fun g ⟨i, h, _⟩ => by omega⟩
  | n + 1, f => by
    have key : ∀ T : Tr, ∀ f : Nat → Tr, f n = T → Acc (TLt (n + 1)) f := by
      intro T
      induction T.acc with
      | intro T _ ihT =>
        intro f hf
        induction TLt.acc n f with
        | intro f _ ihf =>
          refine ⟨_, fun g hg => ?_⟩
          obtain ⟨i, hi, hlt, he⟩ := hg
          by_cases e : i = n
          · subst e
            exact ihT (g i) (by rw [← hf]; exact hlt) g rfl
          · exact ihf g ⟨i, by omega, hlt, he⟩ (by rw [he n (fun x => e x.symm)]; exact hf)
    exact key (f n) f rfl
def updT (f : Nat → Tr) (i : Nat) (t : Tr) : Nat → Tr := fun j => if j = i then t else f j
@[simp] theorem updT_same (f : Nat → Tr) (i : Nat) (t : Tr) : updT f i t i = t := by simp [updT]
theorem updT_ne (f : Nat → Tr) {i j : Nat} (t : Tr) (e : j ≠ i) : updT f i t j = f j := by simp [updT, e]
theorem updT_lt {n : Nat} {f : Nat → Tr} {i : Nat} {t : Tr} (hi : i < n) (h : Tr.Lt t (f i)) : TLt n (updT f i t) f := ⟨i, hi, by rw [updT_same]; exact h, fun j hj => updT_ne _ _ hj⟩
inductive CRunT (P : Program) (B : Array Obj) (Q : Pro) : Tr → Nat → Goroutine → Hp → Prop
  | step {f : Goroutine → Hp → Tr} {s : Nat} {g : Goroutine} {h : Hp} (K' : Goroutine → Hp → Prop) (st : LStep P B false g h K') (n : ∀ g' h', K' g' h' → CRunT P B Q (f g' h') s g' h') : CRunT P B Q (.node f) s g h
  | weak {T : Tr} {s : Nat} {g : Goroutine} {h h' : Hp} (k : Weak B h h') (n : CRunT P B Q T s g h') : CRunT P B Q T s g h
  | send {T : Tr} {s s' : Nat} {g : Goroutine} {hr hp : Hp} {c : Nat} {v z : Value} (hs : g.status = .running) (e : ∀ w, Sat B (hr ++ hp) w → stepG P false g w = .comm g #[scase c v z] true .send w #[]) (hc : c ∈ Q.chans) (hd : c ≠ Q.done) (m : Q.Msg c v hp s s')
      (n : CRunT P B Q T s' (Conc.served g undef) hr) : CRunT P B Q (.node fun _ _ => .node fun _ _ => T) s g (hr ++ hp)
  | done {k : Nat} {s s' : Nat} {g : Goroutine} {hr hp : Hp} {v z : Value} (hs : g.status = .running) (e : ∀ w, Sat B (hr ++ hp) w → stepG P false g w = .comm g #[scase Q.done v z] true .send w #[]) (hc : Q.done ∈ Q.chans) (m : Q.Msg Q.done v hp s s')
      (q : QuitsIn P k (Conc.served g undef)) : CRunT P B Q (.node fun _ _ => .node fun _ _ => .ofNat k) s g (hr ++ hp)
inductive CRun (P : Program) (B : Array Obj) (Q : Pro) : Nat → Goroutine → Hp → Prop
  | step {s : Nat} {g : Goroutine} {h : Hp} (K' : Goroutine → Hp → Prop) (st : LStep P B false g h K') (n : ∀ g' h', K' g' h' → CRun P B Q s g' h') : CRun P B Q s g h
  | weak {s : Nat} {g : Goroutine} {h h' : Hp} (k : Weak B h h') (n : CRun P B Q s g h') : CRun P B Q s g h
  | send {s s' : Nat} {g : Goroutine} {hr hp : Hp} {c : Nat} {v z : Value} (hs : g.status = .running) (e : ∀ w, Sat B (hr ++ hp) w → stepG P false g w = .comm g #[scase c v z] true .send w #[]) (hc : c ∈ Q.chans) (hd : c ≠ Q.done) (m : Q.Msg c v hp s s')
      (n : CRun P B Q s' (Conc.served g undef) hr) : CRun P B Q s g (hr ++ hp)
  | done {k : Nat} {s s' : Nat} {g : Goroutine} {hr hp : Hp} {v z : Value} (hs : g.status = .running) (e : ∀ w, Sat B (hr ++ hp) w → stepG P false g w = .comm g #[scase Q.done v z] true .send w #[]) (hc : Q.done ∈ Q.chans) (m : Q.Msg Q.done v hp s s')
      (q : QuitsIn P k (Conc.served g undef)) : CRun P B Q s g (hr ++ hp)
def Md.child (P : Program) (B : Array Obj) (Q : Pro) (s : Nat) : Md P B where
  main := false
  R := fun K g h => (∀ g' h', K g' h' → CRun P B Q s g' h') → CRun P B Q s g h
  stop := fun k c => c _ _ k
  step := fun st n c => .step _ st fun g' h' x => n g' h' x c
  bind := fun r n c => r fun g' h' k => n g' h' k c
  weak := fun k n c => .weak k (n c)
theorem CRun.tree {P : Program} {B : Array Obj} {Q : Pro} {s : Nat} {g : Goroutine} {h : Hp} (r : CRun P B Q s g h) : ∃ T, CRunT P B Q T s g h := by
  induction r with
  | done hs e hc m q => exact ⟨_, .done hs e hc m q⟩
  | @step s g h K' st _ ih =>
    have : ∃ f : Goroutine → Hp → Tr, ∀ g' h', K' g' h' → CRunT P B Q (f g' h') s g' h' := by
      classical
      refine ⟨fun g' h' => if x : K' g' h' then Classical.choose (ih g' h' x) else .leaf, fun g' h' x => ?_⟩
      simp only [x, dif_pos]
      exact Classical.choose_spec (ih g' h' x)
    obtain ⟨f, hf⟩ := this
    exact ⟨.node f, .step K' st hf⟩
  | weak k _ ih => obtain ⟨T, hT⟩ := ih; exact ⟨T, .weak k hT⟩
  | send hs e hc hd m _ ih => obtain ⟨T, hT⟩ := ih; exact ⟨_, .send hs e hc hd m hT⟩
inductive Kid (P : Program) (B : Array Obj) (Q : Pro) : Tr → Option Nat → Goroutine → Hp → Prop
  | run {T : Tr} {s : Nat} {g : Goroutine} {h : Hp} (c : CRunT P B Q T s g h) (hs : g.status = .running) : Kid P B Q T (some s) g h
  | wait {T : Tr} {s s' : Nat} {g : Goroutine} {hr hp : Hp} {c : Nat} {v z : Value} (hc : c ∈ Q.chans) (hd : c ≠ Q.done) (m : Q.Msg c v hp s s') (n : CRunT P B Q T s' (Conc.served g undef) hr) : Kid P B Q (.node fun _ _ => T) (some s) (parked g #[scase c v z] .send) (hr ++ hp)
  | waitD {k : Nat} {s s' : Nat} {g : Goroutine} {hr hp : Hp} {v z : Value} (hc : Q.done ∈ Q.chans) (m : Q.Msg Q.done v hp s s') (q : QuitsIn P k (Conc.served g undef)) : Kid P B Q (.node fun _ _ => .ofNat k) (some s) (parked g #[scase Q.done v z] .send) (hr ++ hp)
  | left {k : Nat} {g : Goroutine} (q : QuitsIn P k g) : Kid P B Q (.ofNat k) none g []
theorem CRunT.running {P : Program} {B : Array Obj} {Q : Pro} {T : Tr} {s : Nat} {g : Goroutine} {h : Hp} (c : CRunT P B Q T s g h) : g.status = .running := by
  induction c with
  | step K' s _ _ => exact s.1
  | weak k _ ih => exact ih
  | send hs => exact hs
  | done hs => exact hs
theorem _root_.Go.Conc.QuitsIn.status' {P : Program} {k : Nat} {g : Goroutine} (q : QuitsIn P k g) : g.status = .running ∨ g.status = .finished := (QuitsD.of_quitsIn q).status
theorem Kid.quiet {P : Program} {B : Array Obj} {Q : Pro} {T : Tr} {o : Option Nat} {g : Goroutine} {h : Hp} (k : Kid P B Q T o g h) : Quiet Q.chans g := by
  cases k with
  | run c hs => exact .runs hs
  | wait hc hd m n => exact .sends hc
  | waitD hc m q => exact .sends hc
  | left q => exact q.status'.elim .runs .ended
def updO (f : Nat → Option Nat) (i : Nat) (b : Option Nat) : Nat → Option Nat := fun j => if j = i then b else f j
@[simp] theorem updO_same (f : Nat → Option Nat) (i : Nat) (b : Option Nat) : updO f i b i = b := by simp [updO]
theorem updO_ne (f : Nat → Option Nat) {i j : Nat} (b : Option Nat) (e : j ≠ i) : updO f i b j = f j := by simp [updO, e]
inductive MRun (P : Program) (B : Array Obj) (K : Goroutine → Hp → Prop) : Pro → (Nat → Option Nat) → Goroutine → Hp → Prop
  | stop {Q : Pro} {F : Nat → Option Nat} {g : Goroutine} {h : Hp} (hF : ∀ i, F i = none) (k : K g h) : MRun P B K Q F g h
  | step {Q : Pro} {F : Nat → Option Nat} {g : Goroutine} {h : Hp} (K' : Goroutine → Hp → Prop) (s : LStep P B true g h K') (c : ∀ g' h', K' g' h' → MRun P B K Q F g' h') : MRun P B K Q F g h
  | weak {Q : Pro} {F : Nat → Option Nat} {g : Goroutine} {h h' : Hp} (k : Weak B h h') (c : MRun P B K Q F g h') : MRun P B K Q F g h
  | share {Q : Pro} {F : Nat → Option Nat} (Q' : Pro) {g : Goroutine} {h : Hp} (hF : ∀ i, F i = none) (c : MRun P B K Q' F g h) : MRun P B K Q F g (h ++ Q'.chans.map fun r => ⟨true, r, .chan 0 #[] false 0 0 false⟩)
  | spawn {Q : Pro} {F : Nat → Option Nat} {g g' child : Goroutine} {h h' hc : Hp} (s : Nat) (hs : g.status = .running) (hs' : g'.status = .running) (e : ∀ w, Sat B h w → stepG P true g w = .spawn g' child w #[]) (k1 : Weak B h h') (k2 : Weak B h hc) (ap : ∀ w, Sat B h w → ApH h' hc)
      (kid : CRun P B Q s child hc) (c : ∀ j, j ≠ 0 → F j = none → MRun P B K Q (updO F j (some s)) g' h') : MRun P B K Q F g h
  | recv {Q : Pro} {F : Nat → Option Nat} {g : Goroutine} {h : Hp} {cases : Array CommCase} {shape : CommShape} (hs : g.status = .running) (e : ∀ w, Sat B h w → stepG P true g w = .comm g cases true shape w #[]) (hn : ∃ i s, F i = some s)
      (cov : ∀ c ∈ Q.chans, ∃ (k : Nat) (z : Value), cases[k]? = some (rcase c z)) (only : ∀ cc ∈ cases, ∃ c z, cc = rcase c z ∧ c ∈ Q.chans) (one : ∀ (k k' : Nat) c z z', cases[k]? = some (rcase c z) → cases[k']? = some (rcase c z') → k = k')
      (c : ∀ (k : Nat) r z v hp i s s', cases[k]? = some (rcase r z) → F i = some s → Q.Msg r v hp s s' → MRun P B K Q (updO F i (if r = Q.done then none else some s')) (Conc.served g (commResult cases shape k v true)) (h ++ hp)) : MRun P B K Q F g h
theorem MRun.bind {P : Program} {B : Array Obj} {K K' : Goroutine → Hp → Prop} {Q : Pro} {F : Nat → Option Nat} {g : Goroutine} {h : Hp} (r : MRun P B K' Q F g h)
    (c : ∀ Q F g' h', (∀ i, F i = none) → K' g' h' → MRun P B K Q F g' h') : MRun P B K Q F g h := by
  induction r with
  | stop hF k => exact c _ _ _ _ hF k
  | step K'' s _ ih => exact .step K'' s ih
  | weak k _ ih => exact .weak k ih
  | share Q' hF _ ih => exact .share Q' hF ih
  | spawn s hs hs' e k1 k2 ap kid _ ih => exact .spawn s hs hs' e k1 k2 ap kid ih
  | recv hs e hn cov only one _ ih => exact .recv hs e hn cov only one ih
def Md.star (P : Program) (B : Array Obj) : Md P B where
  main := true
  R := fun K g h => ∀ (Q : Pro) (F : Nat → Option Nat), (∀ i, F i = none) → MRun P B K Q F g h
  stop := fun k _ _ hF => .stop hF k
  step := fun s n Q F hF => .step _ s fun g' h' x => n g' h' x Q F hF
  bind := fun r n Q F hF => (r Q F hF).bind fun Q F g' h' hF x => n g' h' x Q F hF
  weak := fun k n Q F hF => .weak k (n Q F hF)
def Md.at (P : Program) (B : Array Obj) (Q : Pro) (F : Nat → Option Nat) : Md P B where
  main := true
  R := fun K g h => ∀ K0, (∀ g' h', K g' h' → MRun P B K0 Q F g' h') → MRun P B K0 Q F g h
  stop := fun k _ c => c _ _ k
  step := fun s n K0 c => .step _ s fun g' h' x => n g' h' x K0 c
  bind := fun r n K0 c => r K0 fun g' h' k => n g' h' k K0 c
  weak := fun k n K0 c => .weak k (n K0 c)
theorem Md.at.to {P : Program} {B : Array Obj} {Q : Pro} {F : Nat → Option Nat} {K : Goroutine → Hp → Prop} {g : Goroutine} {h : Hp} (r : (Md.at P B Q F).R (fun g' h' => MRun P B K Q F g' h') g h) : MRun P B K Q F g h := r K fun _ _ x => x
theorem Md.at.of {P : Program} {B : Array Obj} {Q : Pro} {F : Nat → Option Nat} {K : Goroutine → Hp → Prop} {g : Goroutine} {h : Hp} (r : MRun P B K Q F g h) : (Md.at P B Q F).R (fun g' h' => MRun P B K Q F g' h') g h := (Md.at P B Q F).stop r
end Go.Lo
namespace Go.Lo
open Go.Conc
section
variable {P : Program} {B : Array Obj}
theorem RegK_runS {m : Md P B} {S : Hp} {ops : Array Oper} (hn : ∀ (x : Nat) (o : Oper), ops[x]? = some o → ∀ c : Call, o.op ≠ .defer c) {b : Frame} {ds : List Deferred} {k : List Item} {cs : List Frame} {K : Goroutine → Hp → Prop} (s : List Nat) : ∀ (r : List (Nat × Kd)) (l : List Value) (h : Hp), (∀ x ∈ r, x.2 = .free) →
    RegK m S ops r l h (fun l' h' => m.R K (Gr b l' ds (.inRegion ops s :: k) cs) h') → m.R K (Gr b l ds (.inRegion ops (r.map (·.1) ++ s) :: k) cs) h
  | [], l, h, _, t => t
  | (i, kd) :: r, l, h, hr, ⟨o, ho, t⟩ => by
    have hk : kd = .free := hr _ List.mem_cons_self
    subst hk
    refine opK_run ho (hn _ _ ho) (fun e => by rcases e with e | e <;> cases e) (opK_mono (fun l' h' t' _ => RegK_runS hn s r l' h' (fun x hx => hr x (List.mem_cons_of_mem _ hx)) t') t)
theorem stepG_oper {ops : Array Oper} {i : Nat} {rest : List Nat} {o : Oper} {b : Frame} {l : List Value} {ds : List Deferred} {k : List Item} {cs : List Frame} (ho : ops[i]? = some o) (hw : Region.wanted o (yielded ops l.toArray) = true)
    (hd : ∀ c, o.op ≠ .defer c) (main : Bool) (w : World) : stepG P main (Gr b l ds (.inRegion ops (i :: rest) :: k) cs) w = stepG.apply P true (Fr b l ds (.inRegion ops (i :: rest) :: k)) cs none (execOp (ev l) o) w := by
  have he := Fr.eval b l ds (.inRegion ops (i :: rest) :: k)
  simp only [Fr] at he
  cases hr : b.roundOf with
  | none =>
    rw [hr] at he
    simp [Gr, G, stepG, stepG.exec, stepG.oper, Frame.oper?, Fr, ho, hw, hr, he]
  | some x =>
    rw [hr] at he
    simp [Gr, G, stepG, stepG.exec, stepG.oper, Frame.oper?, Fr, ho, hw, hr]
    split
    · rename_i c _ hop
      exact absurd hop (hd c)
    · rw [he]
def Mute (P : Program) {α : Type} (s : Sem α) (a : α) : Prop := ∀ w, s.run P w = .ok a w ∧ s.events P w #[] = #[]
theorem Mute.pure {α : Type} (a : α) : Mute P (Pure.pure a : Sem α) a := fun w => ⟨rfl, by simp⟩
theorem stepG_comm {ops : Array Oper} {i : Nat} {rest : List Nat} {o : Oper} {b : Frame} {l : List Value} {ds : List Deferred} {k : List Item} {cs : List Frame} (ho : ops[i]? = some o) (hw : Region.wanted o (yielded ops l.toArray) = true)
    (hd : ∀ c, o.op ≠ .defer c) {cases : Array CommCase} {bl : Bool} {shape : CommShape} (hx : Mute P (execOp (ev l) o) (.comm cases bl shape)) (main : Bool) (w : World) :
    stepG P main (Gr b l ds (.inRegion ops (i :: rest) :: k) cs) w = .comm (Gr b l ds (.inRegion ops (i :: rest) :: k) cs) cases bl shape w #[] := by
  rw [stepG_oper ho hw hd]; obtain ⟨e2, e3⟩ := hx w
  simp [stepG.apply, e2, e3, GStep.after, Gr, G, seen]
theorem served_Gr {ops : Array Oper} {i : Nat} {rest : List Nat} {o : Oper} {b : Frame} {l : List Value} {ds : List Deferred} {k : List Item} {cs : List Frame} (ho : ops[i]? = some o) (v : Value) :
    Conc.served (Gr b l ds (.inRegion ops (i :: rest) :: k) cs) v = Gr b (put l o.dst v) ds (.inRegion ops rest :: k) cs := by
  have := Fr.finish b l ds ops i rest k v ho
  unfold Gr G Conc.served
  simp only
  rw [this]
section
variable {Q : Pro} {s s' : Nat} {ops : Array Oper} {i r : Nat} {rest : List Nat} {b : Frame} {l : List Value} {ds : List Deferred} {k : List Item} {cs : List Frame} {c x : Operand} {v : Value} {hr hp : Hp} {ty : TypeId} {pos : String} {af : Array Edge}
theorem child_send (ho : ops[i]? = some ⟨none, .send c x, ty, pos, af, none⟩) [ec : OpV l c (.chan (some r))] [ex : OpV l x v] (hc : r ∈ Q.chans) (hd : r ≠ Q.done) (m : Q.Msg r v hp s s')
    (n : CRun P B Q s' (Gr b l ds (.inRegion ops rest :: k) cs) hr) : CRun P B Q s (Gr b l ds (.inRegion ops (i :: rest) :: k) cs) (hr ++ hp) := by
  refine .send (v := v) (z := .tuple #[]) rfl (fun w _ => ?_) hc hd m (by rw [served_Gr ho]; exact n)
  exact stepG_comm ho rfl (fun c => by simp) (by simp only [execOp, ec.eq, ex.eq]; exact Mute.pure _) false w
theorem child_done {q : Nat} (ho : ops[i]? = some ⟨none, .send c x, ty, pos, af, none⟩) [ec : OpV l c (.chan (some Q.done))] [ex : OpV l x v] (hc : Q.done ∈ Q.chans) (m : Q.Msg Q.done v hp s s')
    (n : QuitsIn P q (Gr b l ds (.inRegion ops rest :: k) cs)) : CRun P B Q s (Gr b l ds (.inRegion ops (i :: rest) :: k) cs) (hr ++ hp) := by
  refine .done (v := v) (z := .tuple #[]) (k := q) rfl (fun w _ => ?_) hc m (by rw [served_Gr ho]; exact n)
  exact stepG_comm ho rfl (fun c => by simp) (by simp only [execOp, ec.eq, ex.eq]; exact Mute.pure _) false w
end
def kidF (P : Program) : Frame := { (default : Frame) with fn := P.funcs.size, defers := [], mode := .panicking [goexitEntry] }
def kid0 (P : Program) (d : Deferred) : Goroutine := { frame := { (default : Frame) with fn := P.funcs.size, defers := [d], mode := .panicking [goexitEntry] }, callers := [], status := .running, dying := none }
theorem quits_child {b : Frame} {l : List Value} {ops : Array Oper} {fn : Func} (hk : b.kind = .deferred) (hr : b.roundOf = none) (hf : P.funcs[b.fn]? = some fn) (hres : fn.results = #[]) (hcat : (kidF P).catches P = false) : QuitsIn P 4 (Gr b l [] [.inRegion ops []] [kidF P]) := by
  refine .inr ⟨rfl, Gr b l [] [] [kidF P], fun w => by simp [Gr, Fr, G, stepG, stepG.exec], ?_⟩
  refine .inr ⟨rfl, Gret b l [] [] [kidF P], fun w => by simp [Gr, Gret, Fr, G, stepG, stepG.exec, hr], ?_⟩
  refine .inr ⟨rfl, G (kidF P) [], fun w => ?_, ?_⟩
  · have h1 := results_none hres l.toArray P w
    have h2 : (results fn l.toArray).events P w #[] = #[] := by simp [results, hres]
    simp [Gret, Fr, G, stepG, unwind, doReturn, hf, h1, h2, hk, GStep.after, seen, kidF, goexitEntry]
  · refine .inr ⟨rfl, { G (kidF P) [] with status := .finished }, fun w => ?_, rfl⟩
    simp [G, stepG, unwind, kidF, goexitEntry] at hcat ⊢
    simp [hcat]
theorem kid_enter {Q : Pro} {s : Nat} {f : FuncId} {cap args : Array Value} {fn : Func} {body : Code} {n : Nat} {al l : List Value} {h : Hp} (hcall : callB P f = true) (hf : P.funcs[f]? = some fn) (hb : fn.body = some body) (hn : fn.ntmps = n) (ha : args ++ cap = al.toArray) (hl : al ++ List.replicate (n - al.length) undef = l)
    (t : CRun P B Q s (Gr { bF f with kind := .deferred } l [] [.code body] [kidF P]) h) : CRun P B Q s (kid0 P { target := .fn (.func f) cap, args := args }) h := by
  refine .step (fun g' h' => g' = Gr { bF f with kind := .deferred } l [] [.code body] [kidF P] ∧ h' = h) ⟨rfl, fun w sw => ?_⟩ (fun g' h' ⟨e1, e2⟩ => by subst e1; subst e2; exact t)
  have hrd := reads_callF (P := P) (B := B) (h := h) hcall (args ++ cap)
  obtain ⟨h1, h2⟩ := hrd w sw
  have e : Frame.enter P f (args ++ cap) .deferred = Fr { bF f with kind := .deferred } l [] [.code body] := by
    subst hl
    rw [ha]; simp [Frame.enter, hf, hb, hn, Fr, bF]
  refine ⟨_, w, seen P P.funcs.size ((callFunc f (args ++ cap)).events P w #[]), h, ?_, { Stp.refl sw with evs := fun e he => h2 e (seen_sub _ _ _ e he) }, rfl, rfl⟩
  unfold Gr
  rw [← e]; simp [kid0, G, stepG, unwind, callDeferred, invoke, h1, GStep.after, kidF]
theorem stepG_spawn {ops : Array Oper} {i : Nat} {rest : List Nat} {b : Frame} {l : List Value} {ds : List Deferred} {k : List Item} {cs : List Frame} {d : Option Tmp} {x : Operand} {ats : Array TypeId} {ty : TypeId} {pos : String} {af : Array Edge} {f : FuncId} {first cap : Array Value}
    (ho : ops[i]? = some ⟨d, .go ⟨.value x, #[], ats⟩, ty, pos, af, none⟩) [ex : OpV l x (.func (.func f) first cap)] (w : World) :
    stepG P true (Gr b l ds (.inRegion ops (i :: rest) :: k) cs) w = .spawn (Gr b (put l d undef) ds (.inRegion ops rest :: k) cs) (kid0 P { target := .fn (.func f) cap, args := first ++ #[] }) w #[] := by
  rw [stepG_oper ho rfl (fun c => by simp)]; have hm : execOp (ev l) ⟨d, .go ⟨.value x, #[], ats⟩, ty, pos, af, none⟩ = (do pure (.spawn (← Deferred.ofValue (.func (.func f) first cap) #[])) : Sem Next) := by
    simp [execOp, resolve, ex.eq]
  have hfin := Fr.finish b l ds ops i rest k undef ho
  rw [hm]; simp only [Deferred.ofValue, pure_bind]
  unfold Gr
  rw [← hfin]; simp [stepG.apply, GStep.after, seen, kid0, G, Fr]
end
theorem stepG_spawn0 {P : Program} {ops : Array Oper} {i : Nat} {rest : List Nat} {b : Frame} {l : List Value} {ds : List Deferred} {k : List Item} {cs : List Frame} {x : Operand} {ats : Array TypeId} {ty : TypeId} {pos : String} {af : Array Edge} {f : FuncId} {first cap : Array Value}
    (ho : ops[i]? = some ⟨none, .go ⟨.value x, #[], ats⟩, ty, pos, af, none⟩) [ex : OpV l x (.func (.func f) first cap)] (w : World) :
    stepG P true (Gr b l ds (.inRegion ops (i :: rest) :: k) cs) w = .spawn (Gr b l ds (.inRegion ops rest :: k) cs) (kid0 P { target := .fn (.func f) cap, args := first ++ #[] }) w #[] := stepG_spawn ho w
section
variable {P : Program} {B : Array Obj} {m : Md P B} {ops : Array Oper} {b : Frame} {l : List Value} {ds : List Deferred} {k : List Item} {cs : List Frame} {h : Hp} {K : Goroutine → Hp → Prop}
def nodef (ops : Array Oper) : Bool := ops.all fun o => match o.op with | .defer _ => false | _ => true
theorem nodef_spec (h : nodef ops = true) : ∀ (x : Nat) (o : Oper), ops[x]? = some o → ∀ c : Call, o.op ≠ .defer c := fun x o ho c e => by
  unfold nodef at h
  rw [Array.all_eq_true_iff_forall_mem] at h
  have := h o (Array.mem_of_getElem? ho)
  rw [e] at this
  cases this
theorem run_regionS {id : Nat} (r : List (Nat × Kd)) (s : List Nat) (hn : (nodef ops && r.all fun x => x.2 == .free) = true) (hr : r.map (·.1) ++ s = List.range ops.size)
    (t : RegK m [] ops r l h fun l' h' => m.R K (Gr b l' ds (.inRegion ops s :: k) cs) h') : m.R K (Gr b l ds (.code (.region id ops false) :: k) cs) h := by
  simp only [Bool.and_eq_true, List.all_eq_true, beq_iff_eq] at hn
  exact run_region_text (hr ▸ RegK_runS (nodef_spec hn.1) s r l h hn.2 t)
theorem run_restS (r : List (Nat × Kd)) (hn : (nodef ops && r.all fun x => x.2 == .free) = true) {q : List Nat} (hr : r.map (·.1) = q)
    (t : RegK m [] ops r l h fun l' h' => m.R K (Gr b l' ds k cs) h') : m.R K (Gr b l ds (.inRegion ops q :: k) cs) h := by
  simp only [Bool.and_eq_true, List.all_eq_true, beq_iff_eq] at hn
  have := RegK_runS (m := m) (b := b) (ds := ds) (k := k) (cs := cs) (K := K) (nodef_spec hn.1) [] r l h hn.2 (RegK.mono (fun l' h' x => run_region_end x) t)
  rw [List.append_nil, hr] at this
  exact this
end
def ro (h : Hp) : Hp := h.map fun c => { c with rw := false }
theorem ro_mem {h : Hp} {c : Chunk} (hc : c ∈ ro h) : c.rw = false ∧ ∃ d ∈ h, d.b = c.b ∧ d.o = c.o := by
  obtain ⟨d, hd, rfl⟩ := List.mem_map.1 hc
  exact ⟨rfl, d, hd, rfl, rfl⟩
theorem weak_ro {B : Array Obj} (h X : Hp) : Weak B (h ++ X) (ro h ++ X) := by
  refine ⟨fun w s => ⟨s.base, fun c hc => ?_, ?_⟩, fun c hc => ?_⟩
  · rcases List.mem_append.1 hc with hc | hc
    · obtain ⟨_, d, hd, e1, e2⟩ := ro_mem hc
      have := s.mem d (List.mem_append_left _ hd)
      rw [e1, e2] at this; exact this
    · exact s.mem c (List.mem_append_right _ hc)
  · have hp := List.pairwise_append.1 s.apart
    refine List.pairwise_append.2 ⟨?_, hp.2.1, fun c hc d hd hr => ?_⟩
    · unfold ro
      rw [List.pairwise_map]; exact hp.1.imp fun _ x => by simp at x
    · obtain ⟨h1, c', hc', e1, _⟩ := ro_mem hc
      rw [← e1]; exact hp.2.2 c' hc' d hd (.inr (hr.resolve_left (by rw [h1]; simp)))
  · rcases List.mem_append.1 hc with hc | hc
    · obtain ⟨h1, d, hd, e1, _⟩ := ro_mem hc
      exact ⟨d, List.mem_append_left _ hd, e1, fun x => by rw [h1] at x; cases x⟩
    · exact ⟨c, List.mem_append_right _ hc, rfl, id⟩
theorem Rd.ro {B : Array Obj} {h : Hp} {a : Addr} {v : Value} (r : Rd B h a v) : Rd B (Lo.ro h) a v := by
  obtain ⟨s, r | ⟨x, hx, c, t, f, e, e', hv⟩⟩ := r
  · exact ⟨s, .inl r⟩
  · exact ⟨s, .inr ⟨{ x with rw := false }, List.mem_map.2 ⟨x, hx, rfl⟩, c, t, f, e, e', hv⟩⟩
theorem RdS.ro {B : Array Obj} {h : Hp} {k : Nat} {v : Value} {n : Nat} {ys : List Value} (r : RdS B h k v n ys) : RdS B (Lo.ro h) k v n ys := by
  obtain ⟨p, c, e, hl, r | ⟨b, o, e', rd⟩⟩ := r
  · exact ⟨p, c, e, hl, .inl r⟩
  · exact ⟨p, c, e, hl, .inr ⟨b, o, e', fun j hj => (rd j hj).ro⟩⟩
section
variable {P : Program} {B : Array Obj} {m : Md P B} {ops : Array Oper} {l l' : List Value} {S h h' H : Hp} {C : List Value → Hp → Prop} {i : Nat} {kd : Kd} {r : List (Nat × Kd)}
  {d : Option Tmp} {ty : TypeId} {pos : String} {af : Array Edge} {g : Option (Nat × Bool)}
def chanB (P : Program) (t : TypeId) : Bool := match P.underlying t with | some (.chan _ e) => (P.info? e).isSome | _ => false
theorem k_mkchan {t : TypeId} {x : Operand} (hk : kd = .free ∨ (kd = .keep ∧ S.Sublist h)) (ho : ops[i]? = some ⟨d, .makeChan t x, ty, pos, af, g⟩) (hw : Wt ops l g) (hcb : chanB P t = true) [ex : OpV l x (.int .i64 0)]
    (n : ∀ q, RegK m S ops r (put l d (.chan (some q))) (h ++ [⟨true, q, .chan 0 #[] false 0 0 false⟩]) C) : RegK m S ops ((i, kd) :: r) l h C := by
  obtain ⟨dir, e, inf, ht, hi⟩ : ∃ dir e inf, P.underlying t = some (.chan dir e) ∧ P.info? e = some inf := by
    unfold chanB at hcb
    split at hcb
    · rename_i dir e he
      obtain ⟨inf, hi⟩ := Option.isSome_iff_exists.1 hcb
      exact ⟨dir, e, inf, he, hi⟩
    · cases hcb
  refine RegK.ke (hk.symm.imp (·.1) id) ho hw ?_
  simp only [execOp, ex.eq]
  refine Tri.bind ?_
  unfold Instr.makeChan
  refine Tri.bind (Tri.pure (a := (0 : Int)) ?_)
  refine Tri.bind ((still_und ht).reads.tri ?_)
  dsimp only
  refine Tri.bind (Reads.tri (a := inf) (Reads.bind Reads.program' (by simp only [hi]; exact Reads.pure _)) ?_)
  rw [if_neg (by simp [IntKind.max, IntKind.bits, IntKind.signed])]; exact Tri.bind (tri_new fun q _ _ => Tri.pure (Tri.pure ⟨hk.imp (fun e => e) fun x => x.2.trans (List.sublist_append_left _ _), n q⟩))
theorem mrun_loop {K : Goroutine → Hp → Prop} {Q : Pro} {b : Frame} {ds : List Deferred} {k : List Item} {cs : List Frame} {c : Code} (I : Nat → (Nat → Option Nat) → List Value → Hp → Prop) (n : Nat) (F : Nat → Option Nat) (h0 : I n F l h)
    (round : ∀ n F l h, I n F l h → (∀ n' F' l' h', n' < n → I n' F' l' h' → MRun P B K Q F' (Gr b l' ds (.inLoop c :: k) cs) h') → MRun P B K Q F (Gr b l ds (.code c :: .inLoop c :: k) cs) h) :
    MRun P B K Q F (Gr b l ds (.code (.loop c) :: k) cs) h := by
  have key : ∀ n F l h, I n F l h → MRun P B K Q F (Gr b l ds (.inLoop c :: k) cs) h := by
    intro n
    induction n using Nat.strongRecOn with
    | _ n ih => exact fun F l h hi => Md.at.to (run_inLoop (Md.at.of (round n F l h hi fun n' F' l' h' hn hi' => ih n' hn F' l' h' hi')))
  exact Md.at.to (run_loop' (Md.at.of (round n F l h h0 fun n' F' l' h' _ hi => key n' F' l' h' hi)))
theorem Mute.bind {α β : Type} {s : Sem α} {f : α → Sem β} {a : α} {b : β} (h1 : Mute P s a) (h2 : Mute P (f a) b) : Mute P (s >>= f) b := fun w => by
  obtain ⟨r, e⟩ := h1 w
  obtain ⟨r', e'⟩ := h2 w
  refine ⟨by rw [Sem.run_bind, r]; exact r', ?_⟩
  rw [Sem.events_bind, r]; simp only [Result.evThen_ok, e]
  exact e'
theorem Mute.program : Mute P Go.program P := fun w => ⟨by simp [Go.program, Sem.run], by simp⟩
theorem Mute.zero {t : TypeId} {v : Value} [z : ZeroT P t v] : Mute P (zeroValue t) v := by
  have := z.eq
  cases e : P.info? t with
  | none => rw [e] at this; cases this
  | some i =>
    rw [e] at this
    simp only [Option.bind_some] at this
    unfold zeroValue typeInfo
    refine Mute.bind (a := i) (Mute.bind Mute.program ?_) ?_
    · simp only [e]; exact Mute.pure _
    · simp only [this]; exact Mute.pure _
theorem mute_select2 {o : Oper} {c1 c2 : Operand} {t1 t2 : TypeId} {z1 z2 : Value} {r1 r2 : Nat} (ho : o.op = .select #[⟨c1, none, t1⟩, ⟨c2, none, t2⟩] true) [x1 : OpV l c1 (.chan (some r1))] [x2 : OpV l c2 (.chan (some r2))] [ZeroT P t1 z1] [ZeroT P t2 z2] :
    Mute P (execOp (ev l) o) (.comm #[rcase r1 z1, rcase r2 z2] true .select) := by
  obtain ⟨d, op, ty, pos, af, g⟩ := o
  simp only at ho
  subst ho
  simp only [execOp]
  refine Mute.bind (a := #[rcase r1 z1, rcase r2 z2]) ?_ (Mute.pure _)
  simp only [Array.mapM_eq_mapM_toList, List.mapM_cons, List.mapM_nil, bind_assoc, pure_bind, map_bind, map_pure]
  refine Mute.bind Mute.zero (Mute.bind Mute.zero ?_)
  simp only [x1.eq, x2.eq, rcase, Option.map_none]
  exact Mute.pure _
end
theorem served_Gr' {ops : Array Oper} {i : Nat} {rest : List Nat} {d : Option Tmp} {op : Op} {ty : TypeId} {pos : String} {af : Array Edge} {g : Option (Nat × Bool)} {b : Frame} {l : List Value} {ds : List Deferred} {k : List Item} {cs : List Frame} (ho : ops[i]? = some ⟨d, op, ty, pos, af, g⟩) (v : Value) :
    Conc.served (Gr b l ds (.inRegion ops (i :: rest) :: k) cs) v = Gr b (put l d v) ds (.inRegion ops rest :: k) cs := served_Gr ho v
theorem comm_sel0 {r d : Nat} {z1 z2 v : Value} : commResult #[rcase r z1, rcase d z2] .select ((0 : Nat) : Int) v true = .tuple [.int .i64 0, .bool true, v, z2].toArray := by
  simp [commResult, rcase, Array.zipIdx, goInt]
theorem comm_sel1 {r d : Nat} {z1 z2 v : Value} : commResult #[rcase r z1, rcase d z2] .select ((1 : Nat) : Int) v true = .tuple [.int .i64 1, .bool true, z1, v].toArray := by
  simp [commResult, rcase, Array.zipIdx, goInt]
theorem Md.child.to {P : Program} {B : Array Obj} {Q : Pro} {s : Nat} {g : Goroutine} {h : Hp} (r : (Md.child P B Q s).R (CRun P B Q s) g h) : CRun P B Q s g h := r fun _ _ x => x
theorem Md.child.of {P : Program} {B : Array Obj} {Q : Pro} {s : Nat} {g : Goroutine} {h : Hp} (r : CRun P B Q s g h) : (Md.child P B Q s).R (CRun P B Q s) g h := (Md.child P B Q s).stop r
end Go.Lo
namespace Go.Proofs
open Go.Lo
open Go.Conc (G)
set_option maxRecDepth 100000
set_option synthInstance.maxSize 100000
set_option synthInstance.maxHeartbeats 1000000
set_option maxHeartbeats 4000000
variable {B : Array Obj}
variable [Laid B]
def onlyB (b : Bk) (mm : Nat) : Bk := { b with rules := keptR b.rules mm b.rules.length }
theorem keptR_mem {rules : List Ru} {mm k : Nat} (hk : k ≤ rules.length) {r : Ru} (h : r ∈ keptR rules mm k) : r ∈ rules := by
  obtain ⟨i, hi, rfl⟩ := List.mem_map.1 h
  have := List.mem_range.1 (List.mem_filter.1 hi).1
  exact mem_getDR.2 ⟨i, by omega, rfl⟩
theorem onlyB_valid {b : Bk} (hv : Valid b) (mm : Nat) : Valid (onlyB b mm) := ⟨hv.bend, hv.twist, hv.turns, hv.many, hv.marks, Nat.le_trans (keptR_le _ _ _) hv.few, fun r hr => hv.rules r (keptR_mem (Nat.le_refl _) hr)⟩
def foulM (b : Bk) (mm : Nat) : Prop := boatsOf (onlyB b mm) = []
instance (b : Bk) (mm : Nat) : Decidable (foulM b mm) := by unfold foulM; infer_instance
def clashQ (b : Bk) (cf cd : Nat) : Pro := ⟨[cf, cd], cd, fun c v hp s s' => (c = cf ∧ ∃ mm, s = 2 * mm ∧ s' = 2 * mm + 1 ∧ foulM b mm ∧ OwnS 3 1 v (keptI mm b.rules.length).length (ints (keptI mm b.rules.length)) hp) ∨
  (c = cd ∧ v = .bool true ∧ hp = [] ∧ ((∃ mm, s = 2 * mm ∧ ¬ foulM b mm) ∨ ∃ mm, s = 2 * mm + 1))⟩
theorem callB131 : callB Tryz.prog 131 = true := by kernel_rfl
theorem kidF_catches : (kidF Tryz.prog).catches Tryz.prog = false := by kernel_rfl
theorem kid131 {hb : Hp} {b : Bk} {pm : Option Addr} {nm cm : Nat} {pr : Option Addr} {nr cr : Nat} (rdm : RdS B hb 2 (.slice pm nm cm) nm (encs b.marks)) (rdr : RdS B hb 4 (.slice pr nr cr) nr (encs b.rules)) (hv : Valid b) {cf cd q5 q8 q9 q10 mm : Nat} (hne : cf ≠ cd) (hmm : mm < 16) : CRun Tryz.prog B (clashQ b cf cd) (2 * mm) (kid0 Tryz.prog { target := .fn (.func 131) [.pointer (some ⟨q5, 0, none⟩), .pointer (some ⟨q10, 0, none⟩), .pointer (some ⟨q8, 0, none⟩), .pointer (some ⟨q9, 0, none⟩)].toArray, args := #[] ++ #[] }) (hb ++ [⟨false, q5, .cells (bkL b pm nm cm pr nr cr).toArray 109 (0, 0)⟩, ⟨false, q8, .cells [.chan (some cf)].toArray 142 (0, 0)⟩, ⟨false, q9, .cells [.chan (some cd)].toArray 143 (0, 0)⟩, ⟨true, q10, .cells [.int .i64 (mm : Int)].toArray 3 (0, 0)⟩]) := by
  have hml := rdm.elen (by decide)
  have hrl := rdr.elen (by decide)
  have hvm := hv.many
  have hr4 : nr ≤ 4 := by have := hv.few; omega
  refine kid_enter (al := [.pointer (some ⟨q5, 0, none⟩), .pointer (some ⟨q10, 0, none⟩), .pointer (some ⟨q8, 0, none⟩), .pointer (some ⟨q9, 0, none⟩)]) (l := (.pointer (some ⟨q5, 0, none⟩)) :: (.pointer (some ⟨q10, 0, none⟩)) :: (.pointer (some ⟨q8, 0, none⟩)) :: (.pointer (some ⟨q9, 0, none⟩)) :: uu15) callB131 Tryz.func131 rfl rfl rfl rfl ?_
  refine Md.child.to ?_
  refine run_seq ?_; refine rs9 (by kernel_rfl) ?_; refine k_ldA rfl zq ?_; refine k_ldh rfl zq ?_; refine k_cal rfl zq (by kernel_rfl) (f130_c _ _ rdr.up hr4 hmm) ?_; rintro v h' ⟨nI, nR, rfl, p, c, w, rfl, hrr, hoI⟩; refine k_put ?_; obtain ⟨ip, ic, rfl, hic, rI⟩ := own_rdA (B := B) hoI
  refine mq rfl ?_; refine k_ext0 rfl zq ?_; refine k_ext1 rfl zq ?_; refine k_new rfl zq (fun q4 => k_hp (k_put ?_)); refine k_stA rfl zq rfl ?_; refine aq rfl ?_; refine rs4 (by kernel_rfl) ?_; have hvo := onlyB_valid hv mm
  have hkl := keptR_le b.rules mm nr
  have hrr' : RdS B nR 4 (.slice p (keptR b.rules mm nr).length c) (keptR b.rules mm nr).length (encs (onlyB b mm).rules) := by rw [onlyB, hrl]; exact hrr
  refine k_ldA rfl zq ?_; refine k_calC rfl zq (by kernel_rfl) (Post := fun v nw => OwnS 112 7 v (boatsOf (onlyB b mm)).length (encs (boatsOf (onlyB b mm))) nw) (fun H' hH => f104_c _ H' (b := onlyB b mm) (rdm.keeps (sq hH)) (by omega) (hrr'.keeps (sq hH)) (by omega) hvo) ?_; rintro v nw o; obtain ⟨bp, bc, rfl, _⟩ := o.len
  refine k_hpA (k_put ?_); refine k_len rfl zq ?_; refine k_eqlS rfl zq (fun hc => ?_) (fun hc => ?_)
  · have hfoul : foulM b mm := List.length_eq_zero_iff.1 (by omega)
    refine k_nil ?_; refine run_yes ?_; refine run_regionS [(0, .free), (1, .free)] [2] (by kernel_rfl) (by kernel_rfl) ?_; refine k_ldh rfl zq ?_; refine mq rfl ?_; refine k_nil ?_; refine Md.child.of ?_
    refine CRun.weak (h' := (hb ++ [⟨false, q5, .cells (bkL b pm nm cm pr nr cr).toArray 109 (0, 0)⟩, ⟨false, q8, .cells [.chan (some cf)].toArray 142 (0, 0)⟩, ⟨false, q9, .cells [.chan (some cd)].toArray 143 (0, 0)⟩, ⟨true, q10, .cells [.int .i64 (mm : Int)].toArray 3 (0, 0)⟩]) ++ nI) weakSub ?_
    refine child_send (s' := 2 * mm + 1) rfl (by simp [clashQ]) hne (.inl ⟨rfl, mm, rfl, rfl, hfoul, by rw [hrl]; exact hoI⟩) ?_
    refine Md.child.to ?_
    refine run_region_end ?_; refine run_regionS [(0, .free)] [1] (by kernel_rfl) (by kernel_rfl) ?_; refine k_ldh rfl zq ?_; refine k_nil ?_; refine Md.child.of ?_
    refine CRun.weak (h' := [] ++ []) (Weak.sub (List.nil_sublist _)) ?_
    exact child_done (s' := 0) rfl (by simp [clashQ]) (.inr ⟨rfl, rfl, rfl, by first | exact .inl ⟨mm, rfl, hfoul⟩ | exact .inr ⟨mm, rfl⟩⟩) (quits_child rfl rfl Tryz.func131 rfl kidF_catches)
  · have hfoul : ¬ foulM b mm := fun e => hc (by rw [e]; rfl)
    refine k_nil ?_; refine run_no ?_; refine run_skip ?_; refine run_regionS [(0, .free)] [1] (by kernel_rfl) (by kernel_rfl) ?_; refine k_ldh rfl zq ?_; refine k_nil ?_; refine Md.child.of ?_
    refine CRun.weak (h' := [] ++ []) (Weak.sub (List.nil_sublist _)) ?_
    exact child_done (s' := 0) rfl (by simp [clashQ]) (.inr ⟨rfl, rfl, rfl, by first | exact .inl ⟨mm, rfl, hfoul⟩ | exact .inr ⟨mm, rfl⟩⟩) (quits_child rfl rfl Tryz.func131 rfl kidF_catches)
section
variable {P : Program} {B : Array Obj} {m : Md P B} {ops : Array Oper} {l l' l'' : List Value} {S h h' H : Hp} {C : List Value → Hp → Prop} {i : Nat} {kd : Kd} {r : List (Nat × Kd)}
  {d : Option Tmp} {ty : TypeId} {pos : String} {af : Array Edge} {g : Option (Nat × Bool)}
theorem k_eqlT {t u : TypeId} {x y : Operand} {a b : Int} {k : IntKind} (ho : ops[i]? = some ⟨d, .binOp .eql t x y u, ty, pos, af, g⟩) (hw : Wt ops l g) [kh : KHeap kd S h H] [ex : OpV l x (.int k a)] [ey : OpV l y (.int k b)] (e : a = b) [pt : PutV l d (.bool true) l'] (q : RegK m S ops r l' h C) : RegK m S ops ((i, kd) :: r) l h C := by
  have pq := pt; rw [← decide_eq_true e] at pq; exact k_eql (l' := l') ho hw q
theorem k_eqlF {t u : TypeId} {x y : Operand} {a b : Int} {k : IntKind} (ho : ops[i]? = some ⟨d, .binOp .eql t x y u, ty, pos, af, g⟩) (hw : Wt ops l g) [kh : KHeap kd S h H] [ex : OpV l x (.int k a)] [ey : OpV l y (.int k b)] (e : a ≠ b) [pt : PutV l d (.bool false) l'] (q : RegK m S ops r l' h C) : RegK m S ops ((i, kd) :: r) l h C := by
  have pq := pt; rw [← decide_eq_false e] at pq; exact k_eql (l' := l') ho hw q
theorem k_shl {t u : TypeId} {x y : Operand} {a b : Int} {k k' : IntKind} (v : Int) (ho : ops[i]? = some ⟨d, .binOp .shl t x y u, ty, pos, af, g⟩) (hw : Wt ops l g) [KHeap kd S h H] [ex : OpV l x (.int k a)] [ey : OpV l y (.int k' b)] (h0 : 0 ≤ b) (hv : k.wrap (a * 2 ^ (min b.toNat k.bits)) = v) [PutV l d (.int k v) l'] (q : RegK m S ops r l' h C) : RegK m S ops ((i, kd) :: r) l h C :=
  RegK.rd (v := .int k v) ho hw (by
    simp only [execOp, ex.eq, ey.eq]
    refine Reads.value (Reads.bind (a := ()) (Reads.pure _) ?_)
    show Reads P B (Op.shift .shl k a k' b) H _
    unfold Op.shift
    rw [if_neg (by omega), ← hv]; exact Reads.pure _) q
theorem ap_last {B : Array Obj} {F hc : Hp} {q : Nat} {o : Obj} {w : World} (s : Sat B (F ++ [⟨true, q, o⟩]) w) (hF : ∀ c ∈ F, c.rw = false) (hd : ∀ d ∈ hc, d.rw = true → d.b = q) : ApH F hc := fun c hc' d hd' hr => by
  have h1 := hF c hc'
  have h2 : d.rw = true := hr.resolve_left (by rw [h1]; simp)
  rw [hd d hd' h2]; exact (List.pairwise_append.1 s.apart).2.2 c hc' _ (List.mem_singleton.2 rfl) (.inr rfl)
end
theorem shl_small : ∀ n : Nat, n < 5 → IntKind.wrap .i64 (1 * 2 ^ (min (n : Int).toNat IntKind.i64.bits)) = ((2 ^ n : Nat) : Int) := by decide
def clashS (b : Bk) : Int := if bookS b ≠ 0 then bookS b else if boatsOf b ≠ [] then 0 else if boatsOf (onlyB b 0) = [] then 8 else 0
def ClashOk (b : Bk) (g : List Int) : Prop := if bookS b ≠ 0 ∨ boatsOf b ≠ [] ∨ boatsOf (onlyB b 0) = [] then g = [] else
  (∃ mm, mm < 2 ^ b.rules.length ∧ foulM b mm ∧ g = keptI mm b.rules.length) ∧ ∀ mm, mm < 2 ^ b.rules.length → foulM b mm → ¬ fewer (keptI mm b.rules.length) g
def SP (F : Nat → Option Nat) (ix : Nat → Nat) (t : Nat) : Prop := (∀ a c, a < t → c < t → ix a = ix c → a = c) ∧ (∀ a, a < t → F (ix a) = some (2 * a)) ∧ ∀ i s, F i = some s → ∃ a, a < t ∧ i = ix a
theorem SP.zero {F : Nat → Option Nat} (h : ∀ i, F i = none) (ix : Nat → Nat) : SP F ix 0 := ⟨fun a c h => by omega, fun a h => by omega, fun i s e => by rw [h i] at e; cases e⟩
theorem SP.more {F : Nat → Option Nat} {ix : Nat → Nat} {t j : Nat} (s : SP F ix t) (hj : F j = none) : SP (updO F j (some (2 * t))) (fun a => if a = t then j else ix a) (t + 1) := by
  obtain ⟨s1, s2, s3⟩ := s
  have ne : ∀ a, a < t → ix a ≠ j := fun a ha e => by have := s2 a ha; rw [e, hj] at this; cases this
  refine ⟨fun a c ha hc e => ?_, fun a ha => ?_, fun i s e => ?_⟩
  · simp only at e
    by_cases h1 : a = t
    · by_cases h2 : c = t
      · omega
      · rw [if_pos h1, if_neg h2] at e; exact absurd e.symm (ne c (by omega))
    · by_cases h2 : c = t
      · rw [if_neg h1, if_pos h2] at e; exact absurd e (ne a (by omega))
      · rw [if_neg h1, if_neg h2] at e; exact s1 a c (by omega) (by omega) e
  · by_cases h1 : a = t
    · simp only [if_pos h1]; rw [updO_same, h1]
    · simp only [if_neg h1]; rw [updO_ne _ _ (ne a (by omega))]; exact s2 a (by omega)
  · by_cases h1 : i = j
    · exact ⟨t, by omega, by simp [h1]⟩
    · rw [updO_ne _ _ h1] at e
      obtain ⟨a, ha, e'⟩ := s3 i s e
      exact ⟨a, by omega, by simp only; rw [if_neg (by omega)]; exact e'⟩
theorem before_irrefl : ∀ xs : List Int, before xs xs = false
  | [] => rfl
  | a :: r => by unfold before; rw [if_pos rfl]; exact before_irrefl r
theorem before_trans : ∀ xs ys zs : List Int, before xs ys = true → before ys zs = true → before xs zs = true
  | [], [], _, h, _ => by simp [before] at h
  | [], _ :: _, [], _, h => by simp [before] at h
  | [], _ :: _, _ :: _, _, _ => rfl
  | _ :: _, [], _, h, _ => by simp [before] at h
  | _ :: _, _ :: _, [], _, h => by simp [before] at h
  | a :: r, c :: s, d :: t, h1, h2 => by
    unfold before at h1 h2 ⊢
    by_cases e1 : a = c
    · by_cases e2 : c = d
      · rw [if_pos e1] at h1; rw [if_pos e2] at h2; rw [if_pos (e1.trans e2)]; exact before_trans r s t h1 h2
      · rw [if_neg e2] at h2; rw [if_neg (e1 ▸ e2), e1]; exact h2
    · rw [if_neg e1] at h1
      have h1 := of_decide_eq_true h1
      by_cases e2 : c = d
      · rw [if_neg (e2 ▸ e1), ← e2]; exact decide_eq_true h1
      · rw [if_neg e2] at h2
        have h2 := of_decide_eq_true h2
        rw [if_neg (by omega)]; exact decide_eq_true (by omega)
theorem fewer_irrefl (xs : List Int) : ¬ fewer xs xs := by
  rintro (h | ⟨_, h⟩)
  · omega
  · rw [before_irrefl] at h; cases h
theorem fewer_trans {xs ys zs : List Int} (h1 : fewer xs ys) (h2 : fewer ys zs) : fewer xs zs := by
  rcases h1 with h1 | ⟨h1, h1'⟩ <;> rcases h2 with h2 | ⟨h2, h2'⟩
  · exact .inl (by omega)
  · exact .inl (by omega)
  · exact .inl (by omega)
  · exact .inr ⟨by omega, before_trans _ _ _ h1' h2'⟩
def lfN (F : Nat → Option Nat) (ix : Nat → Nat) : Nat → Nat
  | 0 => 0
  | n + 1 => lfN F ix n + if F (ix n) = none then 0 else 1
def w1 (o : Option Nat) (n : Nat) : Nat := match o with | none => 0 | some s => if s = 2 * n then 2 else 1
def wtN (F : Nat → Option Nat) (ix : Nat → Nat) : Nat → Nat
  | 0 => 0
  | n + 1 => wtN F ix n + w1 (F (ix n)) n
theorem lfN_congr {F G : Nat → Option Nat} {ix : Nat → Nat} : ∀ n, (∀ a, a < n → F (ix a) = G (ix a)) → lfN F ix n = lfN G ix n ∧ wtN F ix n = wtN G ix n
  | 0, _ => ⟨rfl, rfl⟩
  | n + 1, h => by
    obtain ⟨h1, h2⟩ := lfN_congr n fun a ha => h a (by omega)
    simp only [lfN, wtN, h1, h2, h n (by omega), and_self]
theorem lfN_upd {F : Nat → Option Nat} {ix : Nat → Nat} {a : Nat} {v : Option Nat} : ∀ n, a < n → (∀ x c, x < n → c < n → ix x = ix c → x = c) →
    lfN (updO F (ix a) v) ix n + (if F (ix a) = none then 0 else 1) = lfN F ix n + (if v = none then 0 else 1) ∧ wtN (updO F (ix a) v) ix n + w1 (F (ix a)) a = wtN F ix n + w1 v a
  | 0, h, _ => by omega
  | n + 1, h, inj => by
    by_cases e : a = n
    · subst e
      obtain ⟨h1, h2⟩ := lfN_congr (F := updO F (ix a) v) (G := F) (ix := ix) a fun c hc => updO_ne _ _ fun e => by have := inj c a (by omega) (by omega) e; omega
      simp only [lfN, wtN, h1, h2, updO_same]
      omega
    · obtain ⟨h1, h2⟩ := lfN_upd (F := F) (ix := ix) (a := a) (v := v) n (by omega) fun x c hx hc => inj x c (by omega) (by omega)
      have : updO F (ix a) v (ix n) = F (ix n) := updO_ne _ _ fun e' => e (by have := inj n a (by omega) (by omega) e'; omega)
      simp only [lfN, wtN, this]
      omega
theorem lfN_zero {F : Nat → Option Nat} {ix : Nat → Nat} : ∀ n, lfN F ix n = 0 → ∀ a, a < n → F (ix a) = none
  | 0, _, a, h => by omega
  | n + 1, h0, a, h => by
    simp only [lfN] at h0
    by_cases e : a = n
    · subst e
      apply Classical.byContradiction
      intro hne
      rw [if_neg hne] at h0; omega
    · exact lfN_zero n (by omega) a (by omega)
theorem lfN_pos {F : Nat → Option Nat} {ix : Nat → Nat} : ∀ n, 0 < lfN F ix n → ∃ a s, F (ix a) = some s
  | 0, h => by simp [lfN] at h
  | n + 1, h => by
    cases e : F (ix n) with
    | some s => exact ⟨n, s, e⟩
    | none =>
      simp only [lfN, e, if_true] at h
      exact lfN_pos n (by omega)
theorem lfN_all {F : Nat → Option Nat} {ix : Nat → Nat} : ∀ n, (∀ a, a < n → F (ix a) = some (2 * a)) → lfN F ix n = n
  | 0, _ => rfl
  | n + 1, h => by
    simp only [lfN]
    rw [lfN_all n fun a ha => h a (by omega), h n (by omega), if_neg (by simp)]
structure SQ (b : Bk) (F : Nat → Option Nat) (ix : Nat → Nat) (N left : Nat) (an : Bool) (gl : List Int) : Prop where
  inj : ∀ a c, a < N → c < N → ix a = ix c → a = c
  st : ∀ a, a < N → F (ix a) = none ∨ F (ix a) = some (2 * a) ∨ F (ix a) = some (2 * a + 1)
  only : ∀ i s, F i = some s → ∃ a, a < N ∧ i = ix a
  cnt : left = lfN F ix N
  got : ∀ a, a < N → foulM b a → F (ix a) = some (2 * a) ∨ (an = true ∧ ¬ fewer (keptI a b.rules.length) gl)
  best : an = true → ∃ a, a < N ∧ foulM b a ∧ gl = keptI a b.rules.length
theorem SQ.start {b : Bk} {F : Nat → Option Nat} {ix : Nat → Nat} {N : Nat} (s : SP F ix N) : SQ b F ix N N false [] :=
  ⟨s.1, fun a ha => .inr (.inl (s.2.1 a ha)), s.2.2, (lfN_all N s.2.1).symm, fun a ha _ => .inl (s.2.1 a ha), fun e => by cases e⟩
theorem SQ.which {b : Bk} {F : Nat → Option Nat} {ix : Nat → Nat} {N left : Nat} {an : Bool} {gl : List Int} (q : SQ b F ix N left an gl) {i mm : Nat} (hF : F i = some (2 * mm)) : mm < N ∧ i = ix mm := by
  obtain ⟨a, ha, rfl⟩ := q.only i _ hF
  rcases q.st a ha with e | e | e <;> rw [hF] at e
  · cases e
  · have := Option.some.inj e; obtain rfl : mm = a := by omega
    exact ⟨ha, rfl⟩
  · have := Option.some.inj e; omega
theorem SQ.foul {b : Bk} {F : Nat → Option Nat} {ix : Nat → Nat} {N left : Nat} {an : Bool} {gl : List Int} (q : SQ b F ix N left an gl) {mm : Nat} (hF : F (ix mm) = some (2 * mm)) (hm : mm < N) (hf : foulM b mm) {an' : Bool} {gl' : List Int}
    (hg : an' = true ∧ ((gl' = keptI mm b.rules.length ∧ (an = true → fewer gl' gl)) ∨ (gl' = gl ∧ an = true ∧ ¬ fewer (keptI mm b.rules.length) gl))) :
    SQ b (updO F (ix mm) (some (2 * mm + 1))) ix N left an' gl' ∧ wtN (updO F (ix mm) (some (2 * mm + 1))) ix N < wtN F ix N := by
  obtain ⟨u1, u2⟩ := lfN_upd (F := F) (ix := ix) (v := some (2 * mm + 1)) N hm q.inj
  rw [hF] at u1 u2
  have ne : ∀ a, a < N → a ≠ mm → updO F (ix mm) (some (2 * mm + 1)) (ix a) = F (ix a) := fun a ha e => updO_ne _ _ fun e' => e (q.inj a mm ha hm e')
  refine ⟨⟨q.inj, fun a ha => ?_, fun i s e => ?_, ?_, fun a ha hfa => ?_, fun _ => ?_⟩, ?_⟩
  · by_cases e : a = mm
    · subst e; rw [updO_same]; exact .inr (.inr rfl)
    · rw [ne a ha e]; exact q.st a ha
  · by_cases e1 : i = ix mm
    · exact ⟨mm, hm, e1⟩
    · rw [updO_ne _ _ e1] at e; exact q.only i s e
  · have := q.cnt
    rw [if_neg (by simp), if_neg (by simp)] at u1
    omega
  · by_cases e : a = mm
    · subst e
      refine .inr ⟨hg.1, ?_⟩
      rcases hg.2 with ⟨h1, _⟩ | ⟨h1, _, h2⟩
      · rw [h1]; exact fewer_irrefl _
      · rw [h1]; exact h2
    · rw [ne a ha e]; refine (q.got a ha hfa).imp id fun ⟨h1, h2⟩ => ⟨hg.1, ?_⟩
      rcases hg.2 with ⟨_, h3⟩ | ⟨h3, _, _⟩
      · exact fun h4 => h2 (fewer_trans h4 (h3 h1))
      · rw [h3]; exact h2
  · rcases hg.2 with ⟨h1, _⟩ | ⟨h1, h2, _⟩
    · exact ⟨mm, hm, hf, h1⟩
    · rw [h1]; exact q.best h2
  · simp only [w1, if_pos] at u2
    rw [if_neg (by omega)] at u2
    omega
theorem SQ.done {b : Bk} {F : Nat → Option Nat} {ix : Nat → Nat} {N left : Nat} {an : Bool} {gl : List Int} (q : SQ b F ix N left an gl) {i s : Nat} (hF : F i = some s) (hs : (∃ mm, s = 2 * mm ∧ ¬ foulM b mm) ∨ ∃ mm, s = 2 * mm + 1) :
    SQ b (updO F i none) ix N (left - 1) an gl ∧ wtN (updO F i none) ix N < wtN F ix N ∧ 0 < left := by
  obtain ⟨a, ha, rfl⟩ := q.only i s hF
  obtain ⟨u1, u2⟩ := lfN_upd (F := F) (ix := ix) (v := none) N ha q.inj
  rw [hF] at u1 u2
  rw [if_neg (by simp), if_pos rfl] at u1
  have hc := q.cnt
  have ne : ∀ c, c < N → c ≠ a → updO F (ix a) none (ix c) = F (ix c) := fun c hc e => updO_ne _ _ fun e' => e (q.inj c a hc ha e')
  refine ⟨⟨q.inj, fun c hc => ?_, fun i s e => ?_, by omega, fun c hc hfc => ?_, q.best⟩, ?_, by omega⟩
  · by_cases e : c = a
    · subst e; rw [updO_same]; exact .inl rfl
    · rw [ne c hc e]; exact q.st c hc
  · by_cases e1 : i = ix a
    · exact ⟨a, ha, e1⟩
    · rw [updO_ne _ _ e1] at e; exact q.only i s e
  · by_cases e : c = a
    · subst e
      rcases q.got c hc hfc with h1 | h1
      · rw [hF] at h1
        have h1 := Option.some.inj h1
        rcases hs with ⟨mm, h2, h3⟩ | ⟨mm, h2⟩
        · obtain rfl : mm = c := by omega
          exact absurd hfc h3
        · omega
      · exact .inr h1
    · rw [ne c hc e]; exact q.got c hc hfc
  · have : 0 < w1 (some s) a := by simp only [w1]; split <;> omega
    have h0 : w1 none a = 0 := rfl
    omega
theorem full_bits : ∀ n : Nat, n < 5 → ∀ i : Nat, i < n → bitN (2 ^ n - 1) i = 1 := by decide
theorem full_foul {b : Bk} {t : Nat} (h4 : b.rules.length < 5) (hb : boatsOf b = []) (ht : t = 2 ^ b.rules.length) : foulM b (t - 1) := by
  have hk : keptR b.rules (t - 1) b.rules.length = b.rules := by
    have hbit : ∀ i, i < b.rules.length → bitN (t - 1) i = 1 := fun i hi => by
      subst ht
      exact full_bits _ h4 i hi
    unfold keptR
    rw [List.filter_eq_self.2 (fun i hi => decide_eq_true (hbit i (List.mem_range.1 hi)))]; apply List.ext_getElem (by simp)
    intro i h1 h2
    simp [List.getD_eq_getElem?_getD, List.getElem?_eq_getElem h2]
  unfold foulM onlyB
  rw [hk]; exact hb
theorem perm_idx (l : Hp) (d : Chunk) (p : List Nat) (n : Nat) (hn : l.length = n) (h : List.Perm (List.range n) p) : List.Perm l (p.map fun i => l.getD i d) := by
  subst hn
  have e : l = (List.range l.length).map fun i => l.getD i d := by
    apply List.ext_getElem (by simp)
    intro i h1 h2
    simp [List.getD_eq_getElem?_getD, List.getElem?_eq_getElem h1]
  have := h.map fun i => l.getD i d
  rw [← e] at this
  exact this
theorem run_absurd {P : Program} {B : Array Obj} {m : Md P B} {K : Goroutine → Hp → Prop} {g : Goroutine} {h : Hp} (hs : g.status = .running) (hh : ∀ w, ¬ Sat B h w) : m.R K g h :=
  m.step (K' := fun _ _ => False) ⟨hs, fun w sw => absurd sw (hh w)⟩ fun _ _ f => f.elim
theorem not_sat2 {B : Array Obj} {X : Hp} {c d : Nat} {o o' : Obj} {w : World} (e : c = d) (s : Sat B (X ++ [⟨true, c, o⟩, ⟨true, d, o'⟩]) w) : False := by
  have h1 := (List.pairwise_append.1 s.apart).2.1
  have h2 := (List.pairwise_cons.1 h1).1 ⟨true, d, o'⟩ (by simp)
  exact h2 (.inl rfl) e
theorem f51_c (h : Hp) {b : Bk} {pm : Option Addr} {nm cm : Nat} {pr : Option Addr} {nr cr : Nat} (rdm : RdS B h 2 (.slice pm nm cm) nm (encs b.marks)) (hm : nm ≤ 1000) (rdr : RdS B h 4 (.slice pr nr cr) nr (encs b.rules)) (hr : nr ≤ 1000) : FnC (Md.star Tryz.prog B) 51 #[bkV b pm nm cm pr nr cr] h fun v h' => ∃ nw, h' = ro h ++ nw ∧ ∃ w g, v = .tuple [w, .int .i64 (clashS b)].toArray ∧ RdI B nw w g ∧ ClashOk b g ∧ ∀ p n c, w = .slice p n c → n ≤ c := by
  have hml := rdm.elen (by decide)
  have hrl := rdr.elen (by decide)
  refine fn_enter Tryz.func51 rfl rfl (l := (bkV b pm nm cm pr nr cr) :: uu69) rfl ?_
  intro cf cs K hK
  refine rs3 (by kernel_rfl) ?_; refine k_box rfl zq (fun q1 => k_hp (k_put ?_)); refine k_as rfl zq ?_; refine aq rfl ?_; refine run_seq ?_; refine rs3 (by kernel_rfl) ?_; refine k_ldA rfl zq ?_; refine k_calP (Post := fun v => v = _) rfl zq (by kernel_rfl) (fun H' hH => f21_c _ H' (rdm.keeps (sq hH)) hm (rdr.keeps (sq hH)) hr) ?_; rintro v rfl; refine k_put ?_; refine aq rfl ?_; refine rs2 (by kernel_rfl) ?_; refine mq rfl ?_; refine k_neqS rfl zq (fun hc => ?_) (fun hc => ?_)
  · refine k_nil ?_; refine run_yes ?_; refine rs3 (by kernel_rfl) ?_; refine mq rfl ?_; refine k_as rfl zq ?_; refine aq rfl ?_; refine run_ret rfl ?_; refine run_res (h) rfl Tryz.func51 rfl weakSub ?_; refine (Md.star Tryz.prog B).weak (h' := ro h) (by simpa using weak_ro (B := B) h []) ?_
    refine hK _ _ ?_
    exact ⟨[], by simp, _, [], by rw [clashS, if_pos (by assumption)], RdI.nil, by rw [ClashOk, if_pos (.inl (by assumption))], fun p n c e => by cases e; exact Nat.le_refl _⟩
  · have hv := valid_of hc
    have hvm := hv.many
    have hr4 : nr ≤ 4 := by have := hv.few; omega
    refine k_nil ?_; refine run_no ?_; refine run_skip ?_; refine rs4 (by kernel_rfl) ?_; refine k_ldA rfl zq ?_; refine k_bld rfl zq ?_; refine k_new rfl zq (fun q5 => k_hp (k_put ?_)); refine k_stA rfl zq rfl ?_; refine k_nil ?_; refine run_seq ?_; refine rs4 (by kernel_rfl) ?_; refine k_ldA rfl zq ?_; refine k_calC rfl zq (by kernel_rfl) (Post := fun v nw => OwnS 112 7 v (boatsOf b).length (encs (boatsOf b)) nw) (fun H' hH => f104_c _ H' (rdm.keeps (sq hH)) hm (rdr.keeps (sq hH)) hr hv) ?_; rintro v nw o; obtain ⟨bp, bc, rfl, _⟩ := o.len
    refine k_hpA (k_put ?_); refine k_len rfl zq ?_; refine k_gtrS rfl zq (fun hc => ?_) (fun hc => ?_)
    · have hbne : boatsOf b ≠ [] := fun e => by rw [e] at hc; exact absurd hc (by decide)
      refine k_nil ?_; refine run_yes ?_; refine rs2 (by kernel_rfl) ?_; refine k_as rfl zq ?_; refine aq rfl ?_; refine run_ret rfl ?_; refine run_res (h) rfl Tryz.func51 rfl weakSub ?_; refine (Md.star Tryz.prog B).weak (h' := ro h) (by simpa using weak_ro (B := B) h []) ?_
      refine hK _ _ ?_
      have hz : bookS b = 0 := by assumption
      exact ⟨[], by simp, _, [], by rw [clashS, if_neg (fun e => e hz), if_pos hbne], RdI.nil, by rw [ClashOk, if_pos (.inr (.inl hbne))], fun p n c e => by cases e; exact Nat.le_refl _⟩
    · have hbe : boatsOf b = [] := List.length_eq_zero_iff.1 (by omega)
      refine k_nil ?_; refine run_no ?_; refine run_skip ?_; refine run_seq ?_; refine rs8 (by kernel_rfl) ?_; refine k_ldA rfl zq ?_; refine k_cal rfl zq (by kernel_rfl) (f130_c _ _ (mm := 0) rdr.up hr4 (by decide)) ?_; rintro v h' ⟨nI, nR, rfl, p, c, w, rfl, hrr, hoI⟩; refine k_put ?_; obtain ⟨ip, ic, rfl, hic, rI⟩ := own_rdA (B := B) hoI
      refine mq rfl ?_; refine k_ext0 rfl zq ?_; refine k_ext1 rfl zq ?_; refine k_new rfl zq (fun q6 => k_hp (k_put ?_)); refine k_stA rfl zq rfl ?_; refine aq rfl ?_; refine rs4 (by kernel_rfl) ?_; have hvo := onlyB_valid hv 0
      have hkl := keptR_le b.rules 0 nr
      have hrr' : RdS B nR 4 (.slice p (keptR b.rules 0 nr).length c) (keptR b.rules 0 nr).length (encs (onlyB b 0).rules) := by rw [onlyB, hrl]; exact hrr
      refine k_ldA rfl zq ?_; refine k_calC rfl zq (by kernel_rfl) (Post := fun v nw => OwnS 112 7 v (boatsOf (onlyB b 0)).length (encs (boatsOf (onlyB b 0))) nw) (fun H' hH => f104_c _ H' (b := onlyB b 0) (rdm.keeps (sq hH)) (by omega) (hrr'.keeps (sq hH)) (by omega) hvo) ?_; rintro v nw2 o2; obtain ⟨bp2, bc2, rfl, _⟩ := o2.len
      refine k_hpA (k_put ?_); refine k_len rfl zq ?_; refine k_eqlS rfl zq (fun hc => ?_) (fun hc => ?_)
      · have hob : boatsOf (onlyB b 0) = [] := List.length_eq_zero_iff.1 (by omega)
        refine k_nil ?_; refine run_yes ?_; refine rs2 (by kernel_rfl) ?_; refine k_as rfl zq ?_; refine aq rfl ?_; refine run_ret rfl ?_; refine run_res (h) rfl Tryz.func51 rfl weakSub ?_; refine (Md.star Tryz.prog B).weak (h' := ro h) (by simpa using weak_ro (B := B) h []) ?_
        refine hK _ _ ?_
        have hz : bookS b = 0 := by assumption
        exact ⟨[], by simp, _, [], by rw [clashS, if_neg (fun e => e hz), if_neg (fun e => e hbe), if_pos hob], RdI.nil, by rw [ClashOk, if_pos (.inr (.inr hob))], fun p n c e => by cases e; exact Nat.le_refl _⟩
      · have hob : boatsOf (onlyB b 0) ≠ [] := fun e => hc (by rw [e]; rfl)
        refine k_nil ?_; refine run_no ?_; refine run_skip ?_; refine run_seq ?_; refine run_drawC (fun l' h' => ∃ qf qd q8 q9 : Nat, (∃ U : Nat → Value, l' = [U 0, .pointer (some ⟨q1, 0, none⟩), U 2, U 3, U 4, .pointer (some ⟨q5, 0, none⟩), U 6, U 7, .pointer (some ⟨q8, 0, none⟩), .pointer (some ⟨q9, 0, none⟩), U 10, U 11, U 12, U 13, U 14, U 15, U 16, U 17, U 18, U 19, U 20, U 21, U 22, U 23, U 24, U 25, U 26, U 27, U 28, U 29, U 30, U 31, U 32, U 33, U 34, U 35, U 36, U 37, U 38, U 39, U 40, U 41, U 42, U 43, U 44, U 45, U 46, U 47, U 48, U 49, U 50, U 51, U 52, U 53, U 54, U 55, U 56, U 57, U 58, U 59, U 60, U 61, U 62, U 63, U 64, U 65, U 66, U 67, U 68, U 69]) ∧ Weak B h' (h ++ [⟨true, q1, .cells (bkL b pm nm cm pr nr cr).toArray 25 (0, 0)⟩, ⟨true, q5, .cells (bkL b pm nm cm pr nr cr).toArray 109 (0, 0)⟩] ++ [⟨true, q8, .cells [.chan (some qf)].toArray 142 (0, 0)⟩, ⟨true, q9, .cells [.chan (some qd)].toArray 143 (0, 0)⟩, ⟨true, qf, .chan 0 #[] false 0 0 false⟩, ⟨true, qd, .chan 0 #[] false 0 0 false⟩])) [0, 1, 2, 3, 4, 5] (by kernel_rfl) (by kernel_rfl) (List.Sublist.refl _) ?_ ?_
        · refine DrawT.split 0 1 (by decide) ?_ ?_
          · refine DrawT.split 0 2 (by decide) ?_ ?_
            · refine DrawT.split 0 3 (by decide) ?_ ?_
              · refine DrawT.split 1 2 (by decide) ?_ ?_
                · refine DrawT.split 1 3 (by decide) ?_ ?_
                  · refine DrawT.leaf [(0, .keep), (1, .keep), (2, .alloc), (3, .alloc), (4, .free), (5, .free)] (by kernel_rfl) ?_
                    refine k_mkchan kdq rfl zq (by kernel_rfl) (fun q35 => k_hp (k_put ?_)); refine k_mkchan kdq rfl zq (by kernel_rfl) (fun q36 => k_hp (k_put ?_)); refine k_new rfl zq (fun q8 => k_hp (k_put ?_)); refine k_new rfl zq (fun q9 => k_hp (k_put ?_)); refine k_st1 rfl zq ?_; refine k_st1 rfl zq ?_; refine k_nil ?_; have hperm : List.Perm ([⟨true, q35, .chan 0 #[] false 0 0 false⟩, ⟨true, q36, .chan 0 #[] false 0 0 false⟩, ⟨true, q8, .cells [.chan (some q35)].toArray 142 (0, 0)⟩, ⟨true, q9, .cells [.chan (some q36)].toArray 143 (0, 0)⟩] : Hp) ([⟨true, q8, .cells [.chan (some q35)].toArray 142 (0, 0)⟩, ⟨true, q9, .cells [.chan (some q36)].toArray 143 (0, 0)⟩, ⟨true, q35, .chan 0 #[] false 0 0 false⟩, ⟨true, q36, .chan 0 #[] false 0 0 false⟩] : Hp) := by
                      have := perm_idx ([⟨true, q35, .chan 0 #[] false 0 0 false⟩, ⟨true, q36, .chan 0 #[] false 0 0 false⟩, ⟨true, q8, .cells [.chan (some q35)].toArray 142 (0, 0)⟩, ⟨true, q9, .cells [.chan (some q36)].toArray 143 (0, 0)⟩] : Hp) ⟨true, 0, .cells #[] 0 (0, 0)⟩ [2, 3, 0, 1] 4 rfl (by decide)
                      simpa using this
                    exact ⟨q35, q36, q8, q9, exU rfl, Weak.trans weakSub (Weak.perm (List.Perm.append_left (h ++ [⟨true, q1, .cells (bkL b pm nm cm pr nr cr).toArray 25 (0, 0)⟩, ⟨true, q5, .cells (bkL b pm nm cm pr nr cr).toArray 109 (0, 0)⟩]) hperm))⟩
                  · refine DrawT.leaf [(0, .keep), (3, .alloc), (1, .keep), (2, .alloc), (4, .free), (5, .free)] (by kernel_rfl) ?_
                    refine k_mkchan kdq rfl zq (by kernel_rfl) (fun q35 => k_hp (k_put ?_)); refine k_new rfl zq (fun q9 => k_hp (k_put ?_)); refine k_mkchan kdq rfl zq (by kernel_rfl) (fun q36 => k_hp (k_put ?_)); refine k_new rfl zq (fun q8 => k_hp (k_put ?_)); refine k_st1 rfl zq ?_; refine k_st1 rfl zq ?_; refine k_nil ?_; have hperm : List.Perm ([⟨true, q35, .chan 0 #[] false 0 0 false⟩, ⟨true, q9, .cells [.chan (some q36)].toArray 143 (0, 0)⟩, ⟨true, q36, .chan 0 #[] false 0 0 false⟩, ⟨true, q8, .cells [.chan (some q35)].toArray 142 (0, 0)⟩] : Hp) ([⟨true, q8, .cells [.chan (some q35)].toArray 142 (0, 0)⟩, ⟨true, q9, .cells [.chan (some q36)].toArray 143 (0, 0)⟩, ⟨true, q35, .chan 0 #[] false 0 0 false⟩, ⟨true, q36, .chan 0 #[] false 0 0 false⟩] : Hp) := by
                      have := perm_idx ([⟨true, q35, .chan 0 #[] false 0 0 false⟩, ⟨true, q9, .cells [.chan (some q36)].toArray 143 (0, 0)⟩, ⟨true, q36, .chan 0 #[] false 0 0 false⟩, ⟨true, q8, .cells [.chan (some q35)].toArray 142 (0, 0)⟩] : Hp) ⟨true, 0, .cells #[] 0 (0, 0)⟩ [3, 1, 0, 2] 4 rfl (by decide)
                      simpa using this
                    exact ⟨q35, q36, q8, q9, exU rfl, Weak.trans weakSub (Weak.perm (List.Perm.append_left (h ++ [⟨true, q1, .cells (bkL b pm nm cm pr nr cr).toArray 25 (0, 0)⟩, ⟨true, q5, .cells (bkL b pm nm cm pr nr cr).toArray 109 (0, 0)⟩]) hperm))⟩
                · refine DrawT.split 1 3 (by decide) ?_ ?_
                  · refine DrawT.leaf [(0, .keep), (2, .alloc), (1, .keep), (3, .alloc), (4, .free), (5, .free)] (by kernel_rfl) ?_
                    refine k_mkchan kdq rfl zq (by kernel_rfl) (fun q35 => k_hp (k_put ?_)); refine k_new rfl zq (fun q8 => k_hp (k_put ?_)); refine k_mkchan kdq rfl zq (by kernel_rfl) (fun q36 => k_hp (k_put ?_)); refine k_new rfl zq (fun q9 => k_hp (k_put ?_)); refine k_st1 rfl zq ?_; refine k_st1 rfl zq ?_; refine k_nil ?_; have hperm : List.Perm ([⟨true, q35, .chan 0 #[] false 0 0 false⟩, ⟨true, q8, .cells [.chan (some q35)].toArray 142 (0, 0)⟩, ⟨true, q36, .chan 0 #[] false 0 0 false⟩, ⟨true, q9, .cells [.chan (some q36)].toArray 143 (0, 0)⟩] : Hp) ([⟨true, q8, .cells [.chan (some q35)].toArray 142 (0, 0)⟩, ⟨true, q9, .cells [.chan (some q36)].toArray 143 (0, 0)⟩, ⟨true, q35, .chan 0 #[] false 0 0 false⟩, ⟨true, q36, .chan 0 #[] false 0 0 false⟩] : Hp) := by
                      have := perm_idx ([⟨true, q35, .chan 0 #[] false 0 0 false⟩, ⟨true, q8, .cells [.chan (some q35)].toArray 142 (0, 0)⟩, ⟨true, q36, .chan 0 #[] false 0 0 false⟩, ⟨true, q9, .cells [.chan (some q36)].toArray 143 (0, 0)⟩] : Hp) ⟨true, 0, .cells #[] 0 (0, 0)⟩ [1, 3, 0, 2] 4 rfl (by decide)
                      simpa using this
                    exact ⟨q35, q36, q8, q9, exU rfl, Weak.trans weakSub (Weak.perm (List.Perm.append_left (h ++ [⟨true, q1, .cells (bkL b pm nm cm pr nr cr).toArray 25 (0, 0)⟩, ⟨true, q5, .cells (bkL b pm nm cm pr nr cr).toArray 109 (0, 0)⟩]) hperm))⟩
                  · refine DrawT.split 1 4 (by decide) ?_ ?_
                    · refine DrawT.leaf [(0, .keep), (2, .alloc), (3, .alloc), (1, .keep), (4, .free), (5, .free)] (by kernel_rfl) ?_
                      refine k_mkchan kdq rfl zq (by kernel_rfl) (fun q35 => k_hp (k_put ?_)); refine k_new rfl zq (fun q8 => k_hp (k_put ?_)); refine k_new rfl zq (fun q9 => k_hp (k_put ?_)); refine k_mkchan kdq rfl zq (by kernel_rfl) (fun q36 => k_hp (k_put ?_)); refine k_st1 rfl zq ?_; refine k_st1 rfl zq ?_; refine k_nil ?_; have hperm : List.Perm ([⟨true, q35, .chan 0 #[] false 0 0 false⟩, ⟨true, q8, .cells [.chan (some q35)].toArray 142 (0, 0)⟩, ⟨true, q9, .cells [.chan (some q36)].toArray 143 (0, 0)⟩, ⟨true, q36, .chan 0 #[] false 0 0 false⟩] : Hp) ([⟨true, q8, .cells [.chan (some q35)].toArray 142 (0, 0)⟩, ⟨true, q9, .cells [.chan (some q36)].toArray 143 (0, 0)⟩, ⟨true, q35, .chan 0 #[] false 0 0 false⟩, ⟨true, q36, .chan 0 #[] false 0 0 false⟩] : Hp) := by
                        have := perm_idx ([⟨true, q35, .chan 0 #[] false 0 0 false⟩, ⟨true, q8, .cells [.chan (some q35)].toArray 142 (0, 0)⟩, ⟨true, q9, .cells [.chan (some q36)].toArray 143 (0, 0)⟩, ⟨true, q36, .chan 0 #[] false 0 0 false⟩] : Hp) ⟨true, 0, .cells #[] 0 (0, 0)⟩ [1, 2, 0, 3] 4 rfl (by decide)
                        simpa using this
                      exact ⟨q35, q36, q8, q9, exU rfl, Weak.trans weakSub (Weak.perm (List.Perm.append_left (h ++ [⟨true, q1, .cells (bkL b pm nm cm pr nr cr).toArray 25 (0, 0)⟩, ⟨true, q5, .cells (bkL b pm nm cm pr nr cr).toArray 109 (0, 0)⟩]) hperm))⟩
                    · refine DrawT.leaf [(0, .keep), (2, .alloc), (3, .alloc), (4, .free), (1, .keep), (5, .free)] (by kernel_rfl) ?_
                      refine k_mkchan kdq rfl zq (by kernel_rfl) (fun q35 => k_hp (k_put ?_)); refine k_new rfl zq (fun q8 => k_hp (k_put ?_)); refine k_new rfl zq (fun q9 => k_hp (k_put ?_)); refine k_st1 rfl zq ?_; refine k_mkchan kdq rfl zq (by kernel_rfl) (fun q36 => k_hp (k_put ?_)); refine k_st1 rfl zq ?_; refine k_nil ?_; have hperm : List.Perm ([⟨true, q35, .chan 0 #[] false 0 0 false⟩, ⟨true, q8, .cells [.chan (some q35)].toArray 142 (0, 0)⟩, ⟨true, q9, .cells [.chan (some q36)].toArray 143 (0, 0)⟩, ⟨true, q36, .chan 0 #[] false 0 0 false⟩] : Hp) ([⟨true, q8, .cells [.chan (some q35)].toArray 142 (0, 0)⟩, ⟨true, q9, .cells [.chan (some q36)].toArray 143 (0, 0)⟩, ⟨true, q35, .chan 0 #[] false 0 0 false⟩, ⟨true, q36, .chan 0 #[] false 0 0 false⟩] : Hp) := by
                        have := perm_idx ([⟨true, q35, .chan 0 #[] false 0 0 false⟩, ⟨true, q8, .cells [.chan (some q35)].toArray 142 (0, 0)⟩, ⟨true, q9, .cells [.chan (some q36)].toArray 143 (0, 0)⟩, ⟨true, q36, .chan 0 #[] false 0 0 false⟩] : Hp) ⟨true, 0, .cells #[] 0 (0, 0)⟩ [1, 2, 0, 3] 4 rfl (by decide)
                        simpa using this
                      exact ⟨q35, q36, q8, q9, exU rfl, Weak.trans weakSub (Weak.perm (List.Perm.append_left (h ++ [⟨true, q1, .cells (bkL b pm nm cm pr nr cr).toArray 25 (0, 0)⟩, ⟨true, q5, .cells (bkL b pm nm cm pr nr cr).toArray 109 (0, 0)⟩]) hperm))⟩
              · refine DrawT.split 1 2 (by decide) ?_ ?_
                · refine DrawT.leaf [(3, .alloc), (0, .keep), (1, .keep), (2, .alloc), (4, .free), (5, .free)] (by kernel_rfl) ?_
                  refine k_new rfl zq (fun q9 => k_hp (k_put ?_)); refine k_mkchan kdq rfl zq (by kernel_rfl) (fun q35 => k_hp (k_put ?_)); refine k_mkchan kdq rfl zq (by kernel_rfl) (fun q36 => k_hp (k_put ?_)); refine k_new rfl zq (fun q8 => k_hp (k_put ?_)); refine k_st1 rfl zq ?_; refine k_st1 rfl zq ?_; refine k_nil ?_; have hperm : List.Perm ([⟨true, q9, .cells [.chan (some q36)].toArray 143 (0, 0)⟩, ⟨true, q35, .chan 0 #[] false 0 0 false⟩, ⟨true, q36, .chan 0 #[] false 0 0 false⟩, ⟨true, q8, .cells [.chan (some q35)].toArray 142 (0, 0)⟩] : Hp) ([⟨true, q8, .cells [.chan (some q35)].toArray 142 (0, 0)⟩, ⟨true, q9, .cells [.chan (some q36)].toArray 143 (0, 0)⟩, ⟨true, q35, .chan 0 #[] false 0 0 false⟩, ⟨true, q36, .chan 0 #[] false 0 0 false⟩] : Hp) := by
                    have := perm_idx ([⟨true, q9, .cells [.chan (some q36)].toArray 143 (0, 0)⟩, ⟨true, q35, .chan 0 #[] false 0 0 false⟩, ⟨true, q36, .chan 0 #[] false 0 0 false⟩, ⟨true, q8, .cells [.chan (some q35)].toArray 142 (0, 0)⟩] : Hp) ⟨true, 0, .cells #[] 0 (0, 0)⟩ [3, 0, 1, 2] 4 rfl (by decide)
                    simpa using this
                  exact ⟨q35, q36, q8, q9, exU rfl, Weak.trans weakSub (Weak.perm (List.Perm.append_left (h ++ [⟨true, q1, .cells (bkL b pm nm cm pr nr cr).toArray 25 (0, 0)⟩, ⟨true, q5, .cells (bkL b pm nm cm pr nr cr).toArray 109 (0, 0)⟩]) hperm))⟩
                · refine DrawT.split 1 4 (by decide) ?_ ?_
                  · refine DrawT.leaf [(3, .alloc), (0, .keep), (2, .alloc), (1, .keep), (4, .free), (5, .free)] (by kernel_rfl) ?_
                    refine k_new rfl zq (fun q9 => k_hp (k_put ?_)); refine k_mkchan kdq rfl zq (by kernel_rfl) (fun q35 => k_hp (k_put ?_)); refine k_new rfl zq (fun q8 => k_hp (k_put ?_)); refine k_mkchan kdq rfl zq (by kernel_rfl) (fun q36 => k_hp (k_put ?_)); refine k_st1 rfl zq ?_; refine k_st1 rfl zq ?_; refine k_nil ?_; have hperm : List.Perm ([⟨true, q9, .cells [.chan (some q36)].toArray 143 (0, 0)⟩, ⟨true, q35, .chan 0 #[] false 0 0 false⟩, ⟨true, q8, .cells [.chan (some q35)].toArray 142 (0, 0)⟩, ⟨true, q36, .chan 0 #[] false 0 0 false⟩] : Hp) ([⟨true, q8, .cells [.chan (some q35)].toArray 142 (0, 0)⟩, ⟨true, q9, .cells [.chan (some q36)].toArray 143 (0, 0)⟩, ⟨true, q35, .chan 0 #[] false 0 0 false⟩, ⟨true, q36, .chan 0 #[] false 0 0 false⟩] : Hp) := by
                      have := perm_idx ([⟨true, q9, .cells [.chan (some q36)].toArray 143 (0, 0)⟩, ⟨true, q35, .chan 0 #[] false 0 0 false⟩, ⟨true, q8, .cells [.chan (some q35)].toArray 142 (0, 0)⟩, ⟨true, q36, .chan 0 #[] false 0 0 false⟩] : Hp) ⟨true, 0, .cells #[] 0 (0, 0)⟩ [2, 0, 1, 3] 4 rfl (by decide)
                      simpa using this
                    exact ⟨q35, q36, q8, q9, exU rfl, Weak.trans weakSub (Weak.perm (List.Perm.append_left (h ++ [⟨true, q1, .cells (bkL b pm nm cm pr nr cr).toArray 25 (0, 0)⟩, ⟨true, q5, .cells (bkL b pm nm cm pr nr cr).toArray 109 (0, 0)⟩]) hperm))⟩
                  · refine DrawT.leaf [(3, .alloc), (0, .keep), (2, .alloc), (4, .free), (1, .keep), (5, .free)] (by kernel_rfl) ?_
                    refine k_new rfl zq (fun q9 => k_hp (k_put ?_)); refine k_mkchan kdq rfl zq (by kernel_rfl) (fun q35 => k_hp (k_put ?_)); refine k_new rfl zq (fun q8 => k_hp (k_put ?_)); refine k_st1 rfl zq ?_; refine k_mkchan kdq rfl zq (by kernel_rfl) (fun q36 => k_hp (k_put ?_)); refine k_st1 rfl zq ?_; refine k_nil ?_; have hperm : List.Perm ([⟨true, q9, .cells [.chan (some q36)].toArray 143 (0, 0)⟩, ⟨true, q35, .chan 0 #[] false 0 0 false⟩, ⟨true, q8, .cells [.chan (some q35)].toArray 142 (0, 0)⟩, ⟨true, q36, .chan 0 #[] false 0 0 false⟩] : Hp) ([⟨true, q8, .cells [.chan (some q35)].toArray 142 (0, 0)⟩, ⟨true, q9, .cells [.chan (some q36)].toArray 143 (0, 0)⟩, ⟨true, q35, .chan 0 #[] false 0 0 false⟩, ⟨true, q36, .chan 0 #[] false 0 0 false⟩] : Hp) := by
                      have := perm_idx ([⟨true, q9, .cells [.chan (some q36)].toArray 143 (0, 0)⟩, ⟨true, q35, .chan 0 #[] false 0 0 false⟩, ⟨true, q8, .cells [.chan (some q35)].toArray 142 (0, 0)⟩, ⟨true, q36, .chan 0 #[] false 0 0 false⟩] : Hp) ⟨true, 0, .cells #[] 0 (0, 0)⟩ [2, 0, 1, 3] 4 rfl (by decide)
                      simpa using this
                    exact ⟨q35, q36, q8, q9, exU rfl, Weak.trans weakSub (Weak.perm (List.Perm.append_left (h ++ [⟨true, q1, .cells (bkL b pm nm cm pr nr cr).toArray 25 (0, 0)⟩, ⟨true, q5, .cells (bkL b pm nm cm pr nr cr).toArray 109 (0, 0)⟩]) hperm))⟩
            · refine DrawT.split 0 3 (by decide) ?_ ?_
              · refine DrawT.split 1 3 (by decide) ?_ ?_
                · refine DrawT.leaf [(2, .alloc), (0, .keep), (1, .keep), (3, .alloc), (4, .free), (5, .free)] (by kernel_rfl) ?_
                  refine k_new rfl zq (fun q8 => k_hp (k_put ?_)); refine k_mkchan kdq rfl zq (by kernel_rfl) (fun q35 => k_hp (k_put ?_)); refine k_mkchan kdq rfl zq (by kernel_rfl) (fun q36 => k_hp (k_put ?_)); refine k_new rfl zq (fun q9 => k_hp (k_put ?_)); refine k_st1 rfl zq ?_; refine k_st1 rfl zq ?_; refine k_nil ?_; have hperm : List.Perm ([⟨true, q8, .cells [.chan (some q35)].toArray 142 (0, 0)⟩, ⟨true, q35, .chan 0 #[] false 0 0 false⟩, ⟨true, q36, .chan 0 #[] false 0 0 false⟩, ⟨true, q9, .cells [.chan (some q36)].toArray 143 (0, 0)⟩] : Hp) ([⟨true, q8, .cells [.chan (some q35)].toArray 142 (0, 0)⟩, ⟨true, q9, .cells [.chan (some q36)].toArray 143 (0, 0)⟩, ⟨true, q35, .chan 0 #[] false 0 0 false⟩, ⟨true, q36, .chan 0 #[] false 0 0 false⟩] : Hp) := by
                    have := perm_idx ([⟨true, q8, .cells [.chan (some q35)].toArray 142 (0, 0)⟩, ⟨true, q35, .chan 0 #[] false 0 0 false⟩, ⟨true, q36, .chan 0 #[] false 0 0 false⟩, ⟨true, q9, .cells [.chan (some q36)].toArray 143 (0, 0)⟩] : Hp) ⟨true, 0, .cells #[] 0 (0, 0)⟩ [0, 3, 1, 2] 4 rfl (by decide)
                    simpa using this
                  exact ⟨q35, q36, q8, q9, exU rfl, Weak.trans weakSub (Weak.perm (List.Perm.append_left (h ++ [⟨true, q1, .cells (bkL b pm nm cm pr nr cr).toArray 25 (0, 0)⟩, ⟨true, q5, .cells (bkL b pm nm cm pr nr cr).toArray 109 (0, 0)⟩]) hperm))⟩
                · refine DrawT.split 1 4 (by decide) ?_ ?_
                  · refine DrawT.leaf [(2, .alloc), (0, .keep), (3, .alloc), (1, .keep), (4, .free), (5, .free)] (by kernel_rfl) ?_
                    refine k_new rfl zq (fun q8 => k_hp (k_put ?_)); refine k_mkchan kdq rfl zq (by kernel_rfl) (fun q35 => k_hp (k_put ?_)); refine k_new rfl zq (fun q9 => k_hp (k_put ?_)); refine k_mkchan kdq rfl zq (by kernel_rfl) (fun q36 => k_hp (k_put ?_)); refine k_st1 rfl zq ?_; refine k_st1 rfl zq ?_; refine k_nil ?_; have hperm : List.Perm ([⟨true, q8, .cells [.chan (some q35)].toArray 142 (0, 0)⟩, ⟨true, q35, .chan 0 #[] false 0 0 false⟩, ⟨true, q9, .cells [.chan (some q36)].toArray 143 (0, 0)⟩, ⟨true, q36, .chan 0 #[] false 0 0 false⟩] : Hp) ([⟨true, q8, .cells [.chan (some q35)].toArray 142 (0, 0)⟩, ⟨true, q9, .cells [.chan (some q36)].toArray 143 (0, 0)⟩, ⟨true, q35, .chan 0 #[] false 0 0 false⟩, ⟨true, q36, .chan 0 #[] false 0 0 false⟩] : Hp) := by
                      have := perm_idx ([⟨true, q8, .cells [.chan (some q35)].toArray 142 (0, 0)⟩, ⟨true, q35, .chan 0 #[] false 0 0 false⟩, ⟨true, q9, .cells [.chan (some q36)].toArray 143 (0, 0)⟩, ⟨true, q36, .chan 0 #[] false 0 0 false⟩] : Hp) ⟨true, 0, .cells #[] 0 (0, 0)⟩ [0, 2, 1, 3] 4 rfl (by decide)
                      simpa using this
                    exact ⟨q35, q36, q8, q9, exU rfl, Weak.trans weakSub (Weak.perm (List.Perm.append_left (h ++ [⟨true, q1, .cells (bkL b pm nm cm pr nr cr).toArray 25 (0, 0)⟩, ⟨true, q5, .cells (bkL b pm nm cm pr nr cr).toArray 109 (0, 0)⟩]) hperm))⟩
                  · refine DrawT.leaf [(2, .alloc), (0, .keep), (3, .alloc), (4, .free), (1, .keep), (5, .free)] (by kernel_rfl) ?_
                    refine k_new rfl zq (fun q8 => k_hp (k_put ?_)); refine k_mkchan kdq rfl zq (by kernel_rfl) (fun q35 => k_hp (k_put ?_)); refine k_new rfl zq (fun q9 => k_hp (k_put ?_)); refine k_st1 rfl zq ?_; refine k_mkchan kdq rfl zq (by kernel_rfl) (fun q36 => k_hp (k_put ?_)); refine k_st1 rfl zq ?_; refine k_nil ?_; have hperm : List.Perm ([⟨true, q8, .cells [.chan (some q35)].toArray 142 (0, 0)⟩, ⟨true, q35, .chan 0 #[] false 0 0 false⟩, ⟨true, q9, .cells [.chan (some q36)].toArray 143 (0, 0)⟩, ⟨true, q36, .chan 0 #[] false 0 0 false⟩] : Hp) ([⟨true, q8, .cells [.chan (some q35)].toArray 142 (0, 0)⟩, ⟨true, q9, .cells [.chan (some q36)].toArray 143 (0, 0)⟩, ⟨true, q35, .chan 0 #[] false 0 0 false⟩, ⟨true, q36, .chan 0 #[] false 0 0 false⟩] : Hp) := by
                      have := perm_idx ([⟨true, q8, .cells [.chan (some q35)].toArray 142 (0, 0)⟩, ⟨true, q35, .chan 0 #[] false 0 0 false⟩, ⟨true, q9, .cells [.chan (some q36)].toArray 143 (0, 0)⟩, ⟨true, q36, .chan 0 #[] false 0 0 false⟩] : Hp) ⟨true, 0, .cells #[] 0 (0, 0)⟩ [0, 2, 1, 3] 4 rfl (by decide)
                      simpa using this
                    exact ⟨q35, q36, q8, q9, exU rfl, Weak.trans weakSub (Weak.perm (List.Perm.append_left (h ++ [⟨true, q1, .cells (bkL b pm nm cm pr nr cr).toArray 25 (0, 0)⟩, ⟨true, q5, .cells (bkL b pm nm cm pr nr cr).toArray 109 (0, 0)⟩]) hperm))⟩
              · refine DrawT.split 1 4 (by decide) ?_ ?_
                · refine DrawT.leaf [(2, .alloc), (3, .alloc), (0, .keep), (1, .keep), (4, .free), (5, .free)] (by kernel_rfl) ?_
                  refine k_new rfl zq (fun q8 => k_hp (k_put ?_)); refine k_new rfl zq (fun q9 => k_hp (k_put ?_)); refine k_mkchan kdq rfl zq (by kernel_rfl) (fun q35 => k_hp (k_put ?_)); refine k_mkchan kdq rfl zq (by kernel_rfl) (fun q36 => k_hp (k_put ?_)); refine k_st1 rfl zq ?_; refine k_st1 rfl zq ?_; refine k_nil ?_; have hperm : List.Perm ([⟨true, q8, .cells [.chan (some q35)].toArray 142 (0, 0)⟩, ⟨true, q9, .cells [.chan (some q36)].toArray 143 (0, 0)⟩, ⟨true, q35, .chan 0 #[] false 0 0 false⟩, ⟨true, q36, .chan 0 #[] false 0 0 false⟩] : Hp) ([⟨true, q8, .cells [.chan (some q35)].toArray 142 (0, 0)⟩, ⟨true, q9, .cells [.chan (some q36)].toArray 143 (0, 0)⟩, ⟨true, q35, .chan 0 #[] false 0 0 false⟩, ⟨true, q36, .chan 0 #[] false 0 0 false⟩] : Hp) := by
                    have := perm_idx ([⟨true, q8, .cells [.chan (some q35)].toArray 142 (0, 0)⟩, ⟨true, q9, .cells [.chan (some q36)].toArray 143 (0, 0)⟩, ⟨true, q35, .chan 0 #[] false 0 0 false⟩, ⟨true, q36, .chan 0 #[] false 0 0 false⟩] : Hp) ⟨true, 0, .cells #[] 0 (0, 0)⟩ [0, 1, 2, 3] 4 rfl (by decide)
                    simpa using this
                  exact ⟨q35, q36, q8, q9, exU rfl, Weak.trans weakSub (Weak.perm (List.Perm.append_left (h ++ [⟨true, q1, .cells (bkL b pm nm cm pr nr cr).toArray 25 (0, 0)⟩, ⟨true, q5, .cells (bkL b pm nm cm pr nr cr).toArray 109 (0, 0)⟩]) hperm))⟩
                · refine DrawT.leaf [(2, .alloc), (3, .alloc), (0, .keep), (4, .free), (1, .keep), (5, .free)] (by kernel_rfl) ?_
                  refine k_new rfl zq (fun q8 => k_hp (k_put ?_)); refine k_new rfl zq (fun q9 => k_hp (k_put ?_)); refine k_mkchan kdq rfl zq (by kernel_rfl) (fun q35 => k_hp (k_put ?_)); refine k_st1 rfl zq ?_; refine k_mkchan kdq rfl zq (by kernel_rfl) (fun q36 => k_hp (k_put ?_)); refine k_st1 rfl zq ?_; refine k_nil ?_; have hperm : List.Perm ([⟨true, q8, .cells [.chan (some q35)].toArray 142 (0, 0)⟩, ⟨true, q9, .cells [.chan (some q36)].toArray 143 (0, 0)⟩, ⟨true, q35, .chan 0 #[] false 0 0 false⟩, ⟨true, q36, .chan 0 #[] false 0 0 false⟩] : Hp) ([⟨true, q8, .cells [.chan (some q35)].toArray 142 (0, 0)⟩, ⟨true, q9, .cells [.chan (some q36)].toArray 143 (0, 0)⟩, ⟨true, q35, .chan 0 #[] false 0 0 false⟩, ⟨true, q36, .chan 0 #[] false 0 0 false⟩] : Hp) := by
                    have := perm_idx ([⟨true, q8, .cells [.chan (some q35)].toArray 142 (0, 0)⟩, ⟨true, q9, .cells [.chan (some q36)].toArray 143 (0, 0)⟩, ⟨true, q35, .chan 0 #[] false 0 0 false⟩, ⟨true, q36, .chan 0 #[] false 0 0 false⟩] : Hp) ⟨true, 0, .cells #[] 0 (0, 0)⟩ [0, 1, 2, 3] 4 rfl (by decide)
                    simpa using this
                  exact ⟨q35, q36, q8, q9, exU rfl, Weak.trans weakSub (Weak.perm (List.Perm.append_left (h ++ [⟨true, q1, .cells (bkL b pm nm cm pr nr cr).toArray 25 (0, 0)⟩, ⟨true, q5, .cells (bkL b pm nm cm pr nr cr).toArray 109 (0, 0)⟩]) hperm))⟩
          · refine DrawT.split 0 2 (by decide) ?_ ?_
            · refine DrawT.split 0 3 (by decide) ?_ ?_
              · refine DrawT.leaf [(1, .keep), (0, .keep), (2, .alloc), (3, .alloc), (4, .free), (5, .free)] (by kernel_rfl) ?_
                refine k_mkchan kdq rfl zq (by kernel_rfl) (fun q36 => k_hp (k_put ?_)); refine k_mkchan kdq rfl zq (by kernel_rfl) (fun q35 => k_hp (k_put ?_)); refine k_new rfl zq (fun q8 => k_hp (k_put ?_)); refine k_new rfl zq (fun q9 => k_hp (k_put ?_)); refine k_st1 rfl zq ?_; refine k_st1 rfl zq ?_; refine k_nil ?_; have hperm : List.Perm ([⟨true, q36, .chan 0 #[] false 0 0 false⟩, ⟨true, q35, .chan 0 #[] false 0 0 false⟩, ⟨true, q8, .cells [.chan (some q35)].toArray 142 (0, 0)⟩, ⟨true, q9, .cells [.chan (some q36)].toArray 143 (0, 0)⟩] : Hp) ([⟨true, q8, .cells [.chan (some q35)].toArray 142 (0, 0)⟩, ⟨true, q9, .cells [.chan (some q36)].toArray 143 (0, 0)⟩, ⟨true, q35, .chan 0 #[] false 0 0 false⟩, ⟨true, q36, .chan 0 #[] false 0 0 false⟩] : Hp) := by
                  have := perm_idx ([⟨true, q36, .chan 0 #[] false 0 0 false⟩, ⟨true, q35, .chan 0 #[] false 0 0 false⟩, ⟨true, q8, .cells [.chan (some q35)].toArray 142 (0, 0)⟩, ⟨true, q9, .cells [.chan (some q36)].toArray 143 (0, 0)⟩] : Hp) ⟨true, 0, .cells #[] 0 (0, 0)⟩ [2, 3, 1, 0] 4 rfl (by decide)
                  simpa using this
                exact ⟨q35, q36, q8, q9, exU rfl, Weak.trans weakSub (Weak.perm (List.Perm.append_left (h ++ [⟨true, q1, .cells (bkL b pm nm cm pr nr cr).toArray 25 (0, 0)⟩, ⟨true, q5, .cells (bkL b pm nm cm pr nr cr).toArray 109 (0, 0)⟩]) hperm))⟩
              · refine DrawT.split 1 3 (by decide) ?_ ?_
                · refine DrawT.leaf [(1, .keep), (3, .alloc), (0, .keep), (2, .alloc), (4, .free), (5, .free)] (by kernel_rfl) ?_
                  refine k_mkchan kdq rfl zq (by kernel_rfl) (fun q36 => k_hp (k_put ?_)); refine k_new rfl zq (fun q9 => k_hp (k_put ?_)); refine k_mkchan kdq rfl zq (by kernel_rfl) (fun q35 => k_hp (k_put ?_)); refine k_new rfl zq (fun q8 => k_hp (k_put ?_)); refine k_st1 rfl zq ?_; refine k_st1 rfl zq ?_; refine k_nil ?_; have hperm : List.Perm ([⟨true, q36, .chan 0 #[] false 0 0 false⟩, ⟨true, q9, .cells [.chan (some q36)].toArray 143 (0, 0)⟩, ⟨true, q35, .chan 0 #[] false 0 0 false⟩, ⟨true, q8, .cells [.chan (some q35)].toArray 142 (0, 0)⟩] : Hp) ([⟨true, q8, .cells [.chan (some q35)].toArray 142 (0, 0)⟩, ⟨true, q9, .cells [.chan (some q36)].toArray 143 (0, 0)⟩, ⟨true, q35, .chan 0 #[] false 0 0 false⟩, ⟨true, q36, .chan 0 #[] false 0 0 false⟩] : Hp) := by
                    have := perm_idx ([⟨true, q36, .chan 0 #[] false 0 0 false⟩, ⟨true, q9, .cells [.chan (some q36)].toArray 143 (0, 0)⟩, ⟨true, q35, .chan 0 #[] false 0 0 false⟩, ⟨true, q8, .cells [.chan (some q35)].toArray 142 (0, 0)⟩] : Hp) ⟨true, 0, .cells #[] 0 (0, 0)⟩ [3, 1, 2, 0] 4 rfl (by decide)
                    simpa using this
                  exact ⟨q35, q36, q8, q9, exU rfl, Weak.trans weakSub (Weak.perm (List.Perm.append_left (h ++ [⟨true, q1, .cells (bkL b pm nm cm pr nr cr).toArray 25 (0, 0)⟩, ⟨true, q5, .cells (bkL b pm nm cm pr nr cr).toArray 109 (0, 0)⟩]) hperm))⟩
                · refine DrawT.leaf [(3, .alloc), (1, .keep), (0, .keep), (2, .alloc), (4, .free), (5, .free)] (by kernel_rfl) ?_
                  refine k_new rfl zq (fun q9 => k_hp (k_put ?_)); refine k_mkchan kdq rfl zq (by kernel_rfl) (fun q36 => k_hp (k_put ?_)); refine k_mkchan kdq rfl zq (by kernel_rfl) (fun q35 => k_hp (k_put ?_)); refine k_new rfl zq (fun q8 => k_hp (k_put ?_)); refine k_st1 rfl zq ?_; refine k_st1 rfl zq ?_; refine k_nil ?_; have hperm : List.Perm ([⟨true, q9, .cells [.chan (some q36)].toArray 143 (0, 0)⟩, ⟨true, q36, .chan 0 #[] false 0 0 false⟩, ⟨true, q35, .chan 0 #[] false 0 0 false⟩, ⟨true, q8, .cells [.chan (some q35)].toArray 142 (0, 0)⟩] : Hp) ([⟨true, q8, .cells [.chan (some q35)].toArray 142 (0, 0)⟩, ⟨true, q9, .cells [.chan (some q36)].toArray 143 (0, 0)⟩, ⟨true, q35, .chan 0 #[] false 0 0 false⟩, ⟨true, q36, .chan 0 #[] false 0 0 false⟩] : Hp) := by
                    have := perm_idx ([⟨true, q9, .cells [.chan (some q36)].toArray 143 (0, 0)⟩, ⟨true, q36, .chan 0 #[] false 0 0 false⟩, ⟨true, q35, .chan 0 #[] false 0 0 false⟩, ⟨true, q8, .cells [.chan (some q35)].toArray 142 (0, 0)⟩] : Hp) ⟨true, 0, .cells #[] 0 (0, 0)⟩ [3, 0, 2, 1] 4 rfl (by decide)
                    simpa using this
                  exact ⟨q35, q36, q8, q9, exU rfl, Weak.trans weakSub (Weak.perm (List.Perm.append_left (h ++ [⟨true, q1, .cells (bkL b pm nm cm pr nr cr).toArray 25 (0, 0)⟩, ⟨true, q5, .cells (bkL b pm nm cm pr nr cr).toArray 109 (0, 0)⟩]) hperm))⟩
            · refine DrawT.split 0 3 (by decide) ?_ ?_
              · refine DrawT.split 1 2 (by decide) ?_ ?_
                · refine DrawT.leaf [(1, .keep), (2, .alloc), (0, .keep), (3, .alloc), (4, .free), (5, .free)] (by kernel_rfl) ?_
                  refine k_mkchan kdq rfl zq (by kernel_rfl) (fun q36 => k_hp (k_put ?_)); refine k_new rfl zq (fun q8 => k_hp (k_put ?_)); refine k_mkchan kdq rfl zq (by kernel_rfl) (fun q35 => k_hp (k_put ?_)); refine k_new rfl zq (fun q9 => k_hp (k_put ?_)); refine k_st1 rfl zq ?_; refine k_st1 rfl zq ?_; refine k_nil ?_; have hperm : List.Perm ([⟨true, q36, .chan 0 #[] false 0 0 false⟩, ⟨true, q8, .cells [.chan (some q35)].toArray 142 (0, 0)⟩, ⟨true, q35, .chan 0 #[] false 0 0 false⟩, ⟨true, q9, .cells [.chan (some q36)].toArray 143 (0, 0)⟩] : Hp) ([⟨true, q8, .cells [.chan (some q35)].toArray 142 (0, 0)⟩, ⟨true, q9, .cells [.chan (some q36)].toArray 143 (0, 0)⟩, ⟨true, q35, .chan 0 #[] false 0 0 false⟩, ⟨true, q36, .chan 0 #[] false 0 0 false⟩] : Hp) := by
                    have := perm_idx ([⟨true, q36, .chan 0 #[] false 0 0 false⟩, ⟨true, q8, .cells [.chan (some q35)].toArray 142 (0, 0)⟩, ⟨true, q35, .chan 0 #[] false 0 0 false⟩, ⟨true, q9, .cells [.chan (some q36)].toArray 143 (0, 0)⟩] : Hp) ⟨true, 0, .cells #[] 0 (0, 0)⟩ [1, 3, 2, 0] 4 rfl (by decide)
                    simpa using this
                  exact ⟨q35, q36, q8, q9, exU rfl, Weak.trans weakSub (Weak.perm (List.Perm.append_left (h ++ [⟨true, q1, .cells (bkL b pm nm cm pr nr cr).toArray 25 (0, 0)⟩, ⟨true, q5, .cells (bkL b pm nm cm pr nr cr).toArray 109 (0, 0)⟩]) hperm))⟩
                · refine DrawT.leaf [(2, .alloc), (1, .keep), (0, .keep), (3, .alloc), (4, .free), (5, .free)] (by kernel_rfl) ?_
                  refine k_new rfl zq (fun q8 => k_hp (k_put ?_)); refine k_mkchan kdq rfl zq (by kernel_rfl) (fun q36 => k_hp (k_put ?_)); refine k_mkchan kdq rfl zq (by kernel_rfl) (fun q35 => k_hp (k_put ?_)); refine k_new rfl zq (fun q9 => k_hp (k_put ?_)); refine k_st1 rfl zq ?_; refine k_st1 rfl zq ?_; refine k_nil ?_; have hperm : List.Perm ([⟨true, q8, .cells [.chan (some q35)].toArray 142 (0, 0)⟩, ⟨true, q36, .chan 0 #[] false 0 0 false⟩, ⟨true, q35, .chan 0 #[] false 0 0 false⟩, ⟨true, q9, .cells [.chan (some q36)].toArray 143 (0, 0)⟩] : Hp) ([⟨true, q8, .cells [.chan (some q35)].toArray 142 (0, 0)⟩, ⟨true, q9, .cells [.chan (some q36)].toArray 143 (0, 0)⟩, ⟨true, q35, .chan 0 #[] false 0 0 false⟩, ⟨true, q36, .chan 0 #[] false 0 0 false⟩] : Hp) := by
                    have := perm_idx ([⟨true, q8, .cells [.chan (some q35)].toArray 142 (0, 0)⟩, ⟨true, q36, .chan 0 #[] false 0 0 false⟩, ⟨true, q35, .chan 0 #[] false 0 0 false⟩, ⟨true, q9, .cells [.chan (some q36)].toArray 143 (0, 0)⟩] : Hp) ⟨true, 0, .cells #[] 0 (0, 0)⟩ [0, 3, 2, 1] 4 rfl (by decide)
                    simpa using this
                  exact ⟨q35, q36, q8, q9, exU rfl, Weak.trans weakSub (Weak.perm (List.Perm.append_left (h ++ [⟨true, q1, .cells (bkL b pm nm cm pr nr cr).toArray 25 (0, 0)⟩, ⟨true, q5, .cells (bkL b pm nm cm pr nr cr).toArray 109 (0, 0)⟩]) hperm))⟩
              · refine DrawT.split 1 2 (by decide) ?_ ?_
                · refine DrawT.split 1 3 (by decide) ?_ ?_
                  · refine DrawT.leaf [(1, .keep), (2, .alloc), (3, .alloc), (0, .keep), (4, .free), (5, .free)] (by kernel_rfl) ?_
                    refine k_mkchan kdq rfl zq (by kernel_rfl) (fun q36 => k_hp (k_put ?_)); refine k_new rfl zq (fun q8 => k_hp (k_put ?_)); refine k_new rfl zq (fun q9 => k_hp (k_put ?_)); refine k_mkchan kdq rfl zq (by kernel_rfl) (fun q35 => k_hp (k_put ?_)); refine k_st1 rfl zq ?_; refine k_st1 rfl zq ?_; refine k_nil ?_; have hperm : List.Perm ([⟨true, q36, .chan 0 #[] false 0 0 false⟩, ⟨true, q8, .cells [.chan (some q35)].toArray 142 (0, 0)⟩, ⟨true, q9, .cells [.chan (some q36)].toArray 143 (0, 0)⟩, ⟨true, q35, .chan 0 #[] false 0 0 false⟩] : Hp) ([⟨true, q8, .cells [.chan (some q35)].toArray 142 (0, 0)⟩, ⟨true, q9, .cells [.chan (some q36)].toArray 143 (0, 0)⟩, ⟨true, q35, .chan 0 #[] false 0 0 false⟩, ⟨true, q36, .chan 0 #[] false 0 0 false⟩] : Hp) := by
                      have := perm_idx ([⟨true, q36, .chan 0 #[] false 0 0 false⟩, ⟨true, q8, .cells [.chan (some q35)].toArray 142 (0, 0)⟩, ⟨true, q9, .cells [.chan (some q36)].toArray 143 (0, 0)⟩, ⟨true, q35, .chan 0 #[] false 0 0 false⟩] : Hp) ⟨true, 0, .cells #[] 0 (0, 0)⟩ [1, 2, 3, 0] 4 rfl (by decide)
                      simpa using this
                    exact ⟨q35, q36, q8, q9, exU rfl, Weak.trans weakSub (Weak.perm (List.Perm.append_left (h ++ [⟨true, q1, .cells (bkL b pm nm cm pr nr cr).toArray 25 (0, 0)⟩, ⟨true, q5, .cells (bkL b pm nm cm pr nr cr).toArray 109 (0, 0)⟩]) hperm))⟩
                  · refine DrawT.leaf [(3, .alloc), (1, .keep), (2, .alloc), (0, .keep), (4, .free), (5, .free)] (by kernel_rfl) ?_
                    refine k_new rfl zq (fun q9 => k_hp (k_put ?_)); refine k_mkchan kdq rfl zq (by kernel_rfl) (fun q36 => k_hp (k_put ?_)); refine k_new rfl zq (fun q8 => k_hp (k_put ?_)); refine k_mkchan kdq rfl zq (by kernel_rfl) (fun q35 => k_hp (k_put ?_)); refine k_st1 rfl zq ?_; refine k_st1 rfl zq ?_; refine k_nil ?_; have hperm : List.Perm ([⟨true, q9, .cells [.chan (some q36)].toArray 143 (0, 0)⟩, ⟨true, q36, .chan 0 #[] false 0 0 false⟩, ⟨true, q8, .cells [.chan (some q35)].toArray 142 (0, 0)⟩, ⟨true, q35, .chan 0 #[] false 0 0 false⟩] : Hp) ([⟨true, q8, .cells [.chan (some q35)].toArray 142 (0, 0)⟩, ⟨true, q9, .cells [.chan (some q36)].toArray 143 (0, 0)⟩, ⟨true, q35, .chan 0 #[] false 0 0 false⟩, ⟨true, q36, .chan 0 #[] false 0 0 false⟩] : Hp) := by
                      have := perm_idx ([⟨true, q9, .cells [.chan (some q36)].toArray 143 (0, 0)⟩, ⟨true, q36, .chan 0 #[] false 0 0 false⟩, ⟨true, q8, .cells [.chan (some q35)].toArray 142 (0, 0)⟩, ⟨true, q35, .chan 0 #[] false 0 0 false⟩] : Hp) ⟨true, 0, .cells #[] 0 (0, 0)⟩ [2, 0, 3, 1] 4 rfl (by decide)
                      simpa using this
                    exact ⟨q35, q36, q8, q9, exU rfl, Weak.trans weakSub (Weak.perm (List.Perm.append_left (h ++ [⟨true, q1, .cells (bkL b pm nm cm pr nr cr).toArray 25 (0, 0)⟩, ⟨true, q5, .cells (bkL b pm nm cm pr nr cr).toArray 109 (0, 0)⟩]) hperm))⟩
                · refine DrawT.split 1 3 (by decide) ?_ ?_
                  · refine DrawT.leaf [(2, .alloc), (1, .keep), (3, .alloc), (0, .keep), (4, .free), (5, .free)] (by kernel_rfl) ?_
                    refine k_new rfl zq (fun q8 => k_hp (k_put ?_)); refine k_mkchan kdq rfl zq (by kernel_rfl) (fun q36 => k_hp (k_put ?_)); refine k_new rfl zq (fun q9 => k_hp (k_put ?_)); refine k_mkchan kdq rfl zq (by kernel_rfl) (fun q35 => k_hp (k_put ?_)); refine k_st1 rfl zq ?_; refine k_st1 rfl zq ?_; refine k_nil ?_; have hperm : List.Perm ([⟨true, q8, .cells [.chan (some q35)].toArray 142 (0, 0)⟩, ⟨true, q36, .chan 0 #[] false 0 0 false⟩, ⟨true, q9, .cells [.chan (some q36)].toArray 143 (0, 0)⟩, ⟨true, q35, .chan 0 #[] false 0 0 false⟩] : Hp) ([⟨true, q8, .cells [.chan (some q35)].toArray 142 (0, 0)⟩, ⟨true, q9, .cells [.chan (some q36)].toArray 143 (0, 0)⟩, ⟨true, q35, .chan 0 #[] false 0 0 false⟩, ⟨true, q36, .chan 0 #[] false 0 0 false⟩] : Hp) := by
                      have := perm_idx ([⟨true, q8, .cells [.chan (some q35)].toArray 142 (0, 0)⟩, ⟨true, q36, .chan 0 #[] false 0 0 false⟩, ⟨true, q9, .cells [.chan (some q36)].toArray 143 (0, 0)⟩, ⟨true, q35, .chan 0 #[] false 0 0 false⟩] : Hp) ⟨true, 0, .cells #[] 0 (0, 0)⟩ [0, 2, 3, 1] 4 rfl (by decide)
                      simpa using this
                    exact ⟨q35, q36, q8, q9, exU rfl, Weak.trans weakSub (Weak.perm (List.Perm.append_left (h ++ [⟨true, q1, .cells (bkL b pm nm cm pr nr cr).toArray 25 (0, 0)⟩, ⟨true, q5, .cells (bkL b pm nm cm pr nr cr).toArray 109 (0, 0)⟩]) hperm))⟩
                  · refine DrawT.leaf [(2, .alloc), (3, .alloc), (1, .keep), (0, .keep), (4, .free), (5, .free)] (by kernel_rfl) ?_
                    refine k_new rfl zq (fun q8 => k_hp (k_put ?_)); refine k_new rfl zq (fun q9 => k_hp (k_put ?_)); refine k_mkchan kdq rfl zq (by kernel_rfl) (fun q36 => k_hp (k_put ?_)); refine k_mkchan kdq rfl zq (by kernel_rfl) (fun q35 => k_hp (k_put ?_)); refine k_st1 rfl zq ?_; refine k_st1 rfl zq ?_; refine k_nil ?_; have hperm : List.Perm ([⟨true, q8, .cells [.chan (some q35)].toArray 142 (0, 0)⟩, ⟨true, q9, .cells [.chan (some q36)].toArray 143 (0, 0)⟩, ⟨true, q36, .chan 0 #[] false 0 0 false⟩, ⟨true, q35, .chan 0 #[] false 0 0 false⟩] : Hp) ([⟨true, q8, .cells [.chan (some q35)].toArray 142 (0, 0)⟩, ⟨true, q9, .cells [.chan (some q36)].toArray 143 (0, 0)⟩, ⟨true, q35, .chan 0 #[] false 0 0 false⟩, ⟨true, q36, .chan 0 #[] false 0 0 false⟩] : Hp) := by
                      have := perm_idx ([⟨true, q8, .cells [.chan (some q35)].toArray 142 (0, 0)⟩, ⟨true, q9, .cells [.chan (some q36)].toArray 143 (0, 0)⟩, ⟨true, q36, .chan 0 #[] false 0 0 false⟩, ⟨true, q35, .chan 0 #[] false 0 0 false⟩] : Hp) ⟨true, 0, .cells #[] 0 (0, 0)⟩ [0, 1, 3, 2] 4 rfl (by decide)
                      simpa using this
                    exact ⟨q35, q36, q8, q9, exU rfl, Weak.trans weakSub (Weak.perm (List.Perm.append_left (h ++ [⟨true, q1, .cells (bkL b pm nm cm pr nr cr).toArray 25 (0, 0)⟩, ⟨true, q5, .cells (bkL b pm nm cm pr nr cr).toArray 109 (0, 0)⟩]) hperm))⟩
        · rintro l' h' ⟨qf, qd, q8, q9, ⟨U, rfl⟩, hwk⟩; refine (Md.star Tryz.prog B).weak hwk ?_
          by_cases hne : qf = qd
          · exact run_absurd rfl (fun w sw => not_sat2 hne (X := h ++ [⟨true, q1, .cells (bkL b pm nm cm pr nr cr).toArray 25 (0, 0)⟩, ⟨true, q5, .cells (bkL b pm nm cm pr nr cr).toArray 109 (0, 0)⟩, ⟨true, q8, .cells [.chan (some qf)].toArray 142 (0, 0)⟩, ⟨true, q9, .cells [.chan (some qd)].toArray 143 (0, 0)⟩]) (by simpa using sw))
          obtain ⟨N, hN⟩ : ∃ N : Nat, N = 2 ^ nr := ⟨_, rfl⟩
          have hN16 : 1 ≤ N ∧ N ≤ 16 := by
            rcases (by omega : nr = 0 ∨ nr = 1 ∨ nr = 2 ∨ nr = 3 ∨ nr = 4) with rfl | rfl | rfl | rfl | rfl <;> subst hN <;> decide
          refine run_seq ?_; refine run_seq ?_; refine fun Q0 F0 hF0 => ?_
          refine MRun.weak (h' := ro h ++ [⟨false, q1, .cells (bkL b pm nm cm pr nr cr).toArray 25 (0, 0)⟩, ⟨false, q5, .cells (bkL b pm nm cm pr nr cr).toArray 109 (0, 0)⟩, ⟨false, q8, .cells [.chan (some qf)].toArray 142 (0, 0)⟩, ⟨false, q9, .cells [.chan (some qd)].toArray 143 (0, 0)⟩] ++ (clashQ b qf qd).chans.map fun r => ⟨true, r, .chan 0 #[] false 0 0 false⟩) (by have := weak_ro (B := B) (h ++ [⟨true, q1, .cells (bkL b pm nm cm pr nr cr).toArray 25 (0, 0)⟩, ⟨true, q5, .cells (bkL b pm nm cm pr nr cr).toArray 109 (0, 0)⟩, ⟨true, q8, .cells [.chan (some qf)].toArray 142 (0, 0)⟩, ⟨true, q9, .cells [.chan (some qd)].toArray 143 (0, 0)⟩]) [⟨true, qf, .chan 0 #[] false 0 0 false⟩, ⟨true, qd, .chan 0 #[] false 0 0 false⟩]; simpa [ro, clashQ] using this) ?_
          refine MRun.share (clashQ b qf qd) hF0 ?_
          refine Md.at.to ?_
          refine rr5 (by kernel_rfl) ?_; first | refine k_fa0 rfl zq ?_ | refine k_fa rfl zq ?_
          refine k_ldh rfl zq ?_; refine k_len rfl zq ?_; refine k_shl ((N : Nat) : Int) rfl zq (by omega) (by rw [hN]; exact shl_small nr (by omega)) ?_; refine mq rfl ?_; refine k_nil ?_; refine run_block ?_; refine Md.at.of ?_
          refine mrun_loop (fun nn F l h' => ∃ (t : Nat) (ix : Nat → Nat), nn = N - t ∧ (t ≤ N) ∧ (SP F ix t) ∧ (∃ U : Nat → Value, l = [U 0, .pointer (some ⟨q1, 0, none⟩), U 2, U 3, U 4, .pointer (some ⟨q5, 0, none⟩), U 6, U 7, .pointer (some ⟨q8, 0, none⟩), .pointer (some ⟨q9, 0, none⟩), U 10, U 11, U 12, U 13, U 14, U 15, U 16, U 17, U 18, U 19, U 20, U 21, U 22, U 23, U 24, U 25, U 26, U 27, U 28, U 29, U 30, U 31, U 32, U 33, U 34, U 35, U 36, U 37, U 38, U 39, .int .i64 (N : Int), .int .i64 (t : Int), U 42, U 43, U 44, U 45, U 46, U 47, U 48, U 49, U 50, U 51, U 52, U 53, U 54, U 55, U 56, U 57, U 58, U 59, U 60, U 61, U 62, U 63, U 64, U 65, U 66, U 67, U 68, U 69]) ∧ ro h ++ [⟨false, q1, .cells (bkL b pm nm cm pr nr cr).toArray 25 (0, 0)⟩, ⟨false, q5, .cells (bkL b pm nm cm pr nr cr).toArray 109 (0, 0)⟩, ⟨false, q8, .cells [.chan (some qf)].toArray 142 (0, 0)⟩, ⟨false, q9, .cells [.chan (some qd)].toArray 143 (0, 0)⟩] = h') _ _ ⟨0, id, rfl, by omega, SP.zero hF0 _, exU rfl, rfl⟩ ?_
          rintro nn F l h' ⟨t, ix, rfl, ht, hsp, ⟨U, rfl⟩, rfl⟩ hnext1; refine Md.at.to ?_
          refine rs1 (by kernel_rfl) ?_; refine k_lssS rfl zq (fun hc => ?_) (fun hc => ?_)
          · refine k_nil ?_; refine run_seq ?_; refine run_yes ?_; refine run_skip ?_; refine run_seq ?_; refine run_block ?_; refine rs3 (by kernel_rfl) ?_; refine mq rfl ?_; refine k_new rfl zq (fun q10 => k_hp (k_put ?_)); refine k_st1 rfl zq ?_; refine k_nil ?_; refine run_regionS [(0, .free)] [1] (by kernel_rfl) (by kernel_rfl) ?_; refine k_fun rfl zq ?_; refine k_nil ?_; refine Md.at.of ?_
            refine MRun.spawn (h' := ro h ++ [⟨false, q1, .cells (bkL b pm nm cm pr nr cr).toArray 25 (0, 0)⟩, ⟨false, q5, .cells (bkL b pm nm cm pr nr cr).toArray 109 (0, 0)⟩, ⟨false, q8, .cells [.chan (some qf)].toArray 142 (0, 0)⟩, ⟨false, q9, .cells [.chan (some qd)].toArray 143 (0, 0)⟩]) (hc := ro h ++ [⟨false, q5, .cells (bkL b pm nm cm pr nr cr).toArray 109 (0, 0)⟩, ⟨false, q8, .cells [.chan (some qf)].toArray 142 (0, 0)⟩, ⟨false, q9, .cells [.chan (some qd)].toArray 143 (0, 0)⟩, ⟨true, q10, .cells [.int .i64 (t : Int)].toArray 3 (0, 0)⟩]) (2 * t) rfl rfl (fun w _ => stepG_spawn0 rfl w) weakSub weakSub (fun w sw => ?_) (kid131 rdm.ro rdr.ro hv hne (by omega)) (fun j hj hFj => ?_)
            · refine ap_last (F := ro h ++ [⟨false, q1, .cells (bkL b pm nm cm pr nr cr).toArray 25 (0, 0)⟩, ⟨false, q5, .cells (bkL b pm nm cm pr nr cr).toArray 109 (0, 0)⟩, ⟨false, q8, .cells [.chan (some qf)].toArray 142 (0, 0)⟩, ⟨false, q9, .cells [.chan (some qd)].toArray 143 (0, 0)⟩]) (q := q10) (o := .cells [.int .i64 (t : Int)].toArray 3 (0, 0)) (by simpa using sw) (fun c hc => ?_) (fun d hd hr => ?_)
              · rcases List.mem_append.1 hc with hc | hc
                · exact (ro_mem hc).1
                · simp only [List.mem_cons, List.not_mem_nil, or_false] at hc
                  rcases hc with rfl | rfl | rfl | rfl <;> rfl
              · rcases List.mem_append.1 hd with hd | hd
                · rw [(ro_mem hd).1] at hr; cases hr
                · simp only [List.mem_cons, List.not_mem_nil, or_false] at hd
                  rcases hd with rfl | rfl | rfl | rfl
                  · cases hr
                  · cases hr
                  · cases hr
                  · rfl
            refine Md.at.to ?_
            refine run_region_end ?_; refine run_inBlock ?_; refine rr2 (by kernel_rfl) ?_; refine k_add rfl zq (by unfold In64; omega) ?_; refine mq rfl ?_; refine k_nil ?_; refine Md.at.of ?_
            exact MRun.weak weakSub (hnext1 _ _ _ _ (by omega) ⟨t + 1, _, rfl, by omega, hsp.more hFj, exU rfl, rfl⟩)
          · refine k_nil ?_; refine run_seq ?_; refine run_no ?_; refine run_exit rfl ?_; refine rs1 (by kernel_rfl) ?_; obtain rfl : t = N := by omega
            refine aq rfl ?_; refine rs1 (by kernel_rfl) ?_; refine aq rfl ?_; refine run_seq ?_; refine rs5 (by kernel_rfl) ?_; first | refine k_fa0 rfl zq ?_ | refine k_fa rfl zq ?_
            refine k_ldh rfl zq ?_; refine k_len rfl zq ?_; refine k_shl ((t : Nat) : Int) rfl zq (by omega) (by rw [hN]; exact shl_small nr (by omega)) ?_; refine aq rfl ?_; refine run_block ?_; refine Md.at.of ?_
            refine mrun_loop (fun nn F l h' => ∃ (left : Nat) (an : Bool) (ip : Option Addr) (ic : Nat) (gl : List Int) (G : Hp), nn = wtN F ix t ∧ (SQ b F ix t left an gl) ∧ (RdS B G 1 (.slice ip gl.length ic) gl.length (ints gl)) ∧ (gl.length ≤ 4 ∧ gl.length ≤ ic) ∧ (left ≤ 16) ∧ (∃ U : Nat → Value, l = [U 0, .pointer (some ⟨q1, 0, none⟩), U 2, U 3, U 4, .pointer (some ⟨q5, 0, none⟩), U 6, U 7, .pointer (some ⟨q8, 0, none⟩), .pointer (some ⟨q9, 0, none⟩), U 10, .slice ip gl.length ic, .bool an, .int .i64 (left : Int), U 14, U 15, U 16, U 17, U 18, U 19, U 20, U 21, U 22, U 23, U 24, U 25, U 26, U 27, U 28, U 29, U 30, U 31, U 32, U 33, U 34, U 35, U 36, U 37, U 38, U 39, U 40, U 41, U 42, U 43, U 44, U 45, U 46, U 47, U 48, U 49, U 50, U 51, U 52, U 53, U 54, U 55, U 56, U 57, U 58, U 59, U 60, U 61, U 62, U 63, U 64, U 65, U 66, U 67, U 68, U 69]) ∧ ro h ++ [⟨false, q1, .cells (bkL b pm nm cm pr nr cr).toArray 25 (0, 0)⟩, ⟨false, q5, .cells (bkL b pm nm cm pr nr cr).toArray 109 (0, 0)⟩, ⟨false, q8, .cells [.chan (some qf)].toArray 142 (0, 0)⟩, ⟨false, q9, .cells [.chan (some qd)].toArray 143 (0, 0)⟩] ++ G = h') _ _ ⟨t, false, none, 0, [], [], rfl, SQ.start hsp, ⟨none, 0, rfl, rfl, .inl ⟨rfl, rfl⟩⟩, ⟨by simp, by simp⟩, by omega, exU rfl, (by simp)⟩ ?_
            rintro nn F l h' ⟨left, an, ip, ic, gl, G, rfl, hsq, hgr, hg4, hl16, ⟨U, rfl⟩, rfl⟩ hnext2; refine Md.at.to ?_
            refine run_seq ?_; refine rs2 (by kernel_rfl) ?_; refine mq rfl ?_; refine k_gtrS rfl zq (fun hc => ?_) (fun hc => ?_)
            · refine k_nil ?_; refine run_yes ?_; refine run_skip ?_; refine run_block ?_; refine run_seq ?_; refine rs1 (by kernel_rfl) ?_; have hlp : 0 < left := by omega
              refine k_ldh rfl zq ?_; refine k_nil ?_; refine rr1 (by kernel_rfl) ?_; refine k_ldh rfl zq ?_; refine k_nil ?_; refine run_seq ?_; refine run_regionS [] [0, 1, 2, 3] (by kernel_rfl) (by kernel_rfl) ?_; refine k_nil ?_; refine Md.at.of ?_
              refine MRun.recv (cases := #[Conc.rcase qf (.slice none 0 0), Conc.rcase qd (.bool false)]) (shape := .select) rfl (fun w _ => stepG_comm rfl rfl (fun c => by simp) (mute_select2 rfl) true w) (by rw [hsq.cnt] at hlp; obtain ⟨a, s, e⟩ := lfN_pos _ hlp; exact ⟨_, s, e⟩) (fun c hc => ?_) (fun cc hcc => ?_) (fun k k' c z z' h1 h2 => ?_) (fun k r z v hp i s s' hk hF hm => ?_)
              · simp only [clashQ, List.mem_cons, List.not_mem_nil, or_false] at hc
                rcases hc with rfl | rfl
                · exact ⟨0, _, rfl⟩
                · exact ⟨1, _, rfl⟩
              · simp only [List.mem_toArray, List.mem_cons, List.not_mem_nil, or_false] at hcc
                rcases hcc with rfl | rfl
                · exact ⟨qf, _, rfl, by simp [clashQ]⟩
                · exact ⟨qd, _, rfl, by simp [clashQ]⟩
              · rcases k with _ | _ | k <;> rcases k' with _ | _ | k' <;> first | rfl | (simp [Conc.rcase] at h1 h2; done) | (simp [Conc.rcase] at h1 h2; exact absurd (h1.1.trans h2.1.symm) hne) | (simp [Conc.rcase] at h1 h2; exact absurd (h2.1.trans h1.1.symm) hne)
              rw [served_Gr' rfl]; have hk2 : (k = 0 ∧ r = qf) ∨ (k = 1 ∧ r = qd) := by
                rcases k with _ | _ | k
                · simp [Conc.rcase] at hk; exact .inl ⟨rfl, hk.1.symm⟩
                · simp [Conc.rcase] at hk; exact .inr ⟨rfl, hk.1.symm⟩
                · simp at hk
              refine Md.at.to ?_
              rcases hm with ⟨rfl, mm, rfl, rfl, hfo, hown⟩ | ⟨rfl, rfl, rfl, hst⟩
              · obtain ⟨rfl, _⟩ := hk2.resolve_right (fun e => hne e.2)
                rw [if_neg (show ¬ r = (clashQ b r qd).done from hne)]; obtain ⟨hmm, rfl⟩ := hsq.which hF
                have hF2 := hF
                have hkl2 := keptI_le mm b.rules.length
                obtain ⟨vp, vc, rfl, hvc, rI⟩ := own_rdA (B := B) hown
                rw [comm_sel0]; refine run_restS [(1, .free), (2, .free), (3, .free)] (by kernel_rfl) (by rfl) ?_; refine k_put ?_; refine k_ext0 rfl zq ?_; first | refine k_eqlT rfl zq (by decide) ?_ | refine k_eqlF rfl zq (by decide) ?_
                first | refine k_eqlT rfl zq (by decide) ?_ | refine k_eqlF rfl zq (by decide) ?_
                refine k_nil ?_; refine run_block ?_; refine run_yes ?_; refine rs2 (by kernel_rfl) ?_; refine k_ext2 rfl zq ?_; refine aq rfl ?_; refine run_seq ?_; cases an
                · refine rr7 (by kernel_rfl) ?_; refine mq rfl ?_; refine k_notF rfl zq ?_; refine mq rfl ?_; refine k_off rfl rfl ?_; refine k_off rfl rfl ?_; refine k_off rfl rfl ?_; refine k_pickT rfl zq ?_; refine k_nil ?_; refine run_yes ?_; refine rr3 (by kernel_rfl) ?_; refine mq rfl ?_; refine k_as rfl zq ?_; refine aq rfl ?_; refine run_inBlock ?_; refine run_inBlock ?_; obtain ⟨hsq2, hless⟩ := hsq.foul hF2 hmm hfo (an' := true) (gl' := keptI mm b.rules.length) ⟨rfl, .inl ⟨rfl, fun e => by cases e⟩⟩
                  refine Md.at.of ?_
                  exact MRun.weak weakSub (hnext2 _ _ _ _ hless ⟨left, true, _, _, keptI mm b.rules.length, hp, rfl, hsq2, rI, ⟨by omega, hvc⟩, hl16, exU rfl, rfl⟩)
                · refine rr7 (by kernel_rfl) ?_; refine mq rfl ?_; refine k_notT rfl zq ?_; refine mq rfl ?_; refine k_mv rfl rfl ?_; refine k_mv rfl rfl ?_; refine k_calP (Post := fun v => IsB _ v) rfl rfl (by kernel_rfl) (fun H' hH => f128_c _ H' (rI.keeps (sq hH)) (by omega) (hgr.keeps (sq hH))) ?_; rintro v (⟨hc, rfl⟩ | ⟨hc, rfl⟩)
                  · refine k_put ?_; refine k_pickF rfl zq ?_; refine k_nil ?_; refine run_yes ?_; refine rr3 (by kernel_rfl) ?_; refine mq rfl ?_; refine k_as rfl zq ?_; refine aq rfl ?_; refine run_inBlock ?_; refine run_inBlock ?_; obtain ⟨hsq2, hless⟩ := hsq.foul hF2 hmm hfo (an' := true) (gl' := keptI mm b.rules.length) ⟨rfl, .inl ⟨rfl, fun _ => hc⟩⟩
                    refine Md.at.of ?_
                    exact MRun.weak weakSub (hnext2 _ _ _ _ hless ⟨left, true, _, _, keptI mm b.rules.length, hp, rfl, hsq2, rI, ⟨by omega, hvc⟩, hl16, exU rfl, rfl⟩)
                  · refine k_put ?_; refine k_pickF rfl zq ?_; refine k_nil ?_; refine run_no ?_; refine run_skip ?_; refine run_inBlock ?_; refine run_inBlock ?_; obtain ⟨hsq2, hless⟩ := hsq.foul hF2 hmm hfo (an' := true) (gl' := gl) ⟨rfl, .inr ⟨rfl, rfl, hc⟩⟩
                    refine Md.at.of ?_
                    exact MRun.weak weakSub (hnext2 _ _ _ _ hless ⟨left, true, _, _, gl, G, rfl, hsq2, hgr, hg4, hl16, exU rfl, rfl⟩)
              · obtain ⟨rfl, _⟩ := hk2.resolve_left (fun e => hne e.2.symm)
                rw [if_pos (show r = (clashQ b qf r).done from rfl)]; rw [comm_sel1]; refine run_restS [(1, .free), (2, .free), (3, .free)] (by kernel_rfl) (by rfl) ?_; refine k_put ?_; refine k_ext0 rfl zq ?_; first | refine k_eqlT rfl zq (by decide) ?_ | refine k_eqlF rfl zq (by decide) ?_
                first | refine k_eqlT rfl zq (by decide) ?_ | refine k_eqlF rfl zq (by decide) ?_
                refine k_nil ?_; refine run_block ?_; refine run_no ?_; refine run_yes ?_; refine rr3 (by kernel_rfl) ?_; refine mq rfl ?_; refine k_sub rfl zq (by unfold In64; omega) ?_; refine aq rfl ?_; refine run_inBlock ?_; refine run_inBlock ?_; obtain ⟨hsq2, hless, hpos⟩ := hsq.done hF hst
                rw [show ((left : Int) - 1) = ((left - 1 : Nat) : Int) by omega]; refine Md.at.of ?_
                exact MRun.weak weakSub (hnext2 _ _ _ _ hless ⟨left - 1, an, _, _, gl, G, rfl, hsq2, hgr, hg4, by omega, exU rfl, rfl⟩)
            · refine k_nil ?_; refine run_no ?_; refine run_exit rfl ?_; refine rs3 (by kernel_rfl) ?_; have hl0 : left = 0 := by omega
              have hFn : ∀ i, F i = none := fun i => by
                cases e : F i with
                | none => rfl
                | some s =>
                  obtain ⟨a, ha, rfl⟩ := hsq.only i s e
                  have := lfN_zero (F := F) (ix := ix) t (by rw [← hsq.cnt]; exact hl0) a ha
                  rw [this] at e; cases e
              refine mq rfl ?_; refine k_as rfl zq ?_; refine aq rfl ?_; refine run_ret rfl ?_; refine run_res (ro h ++ G) rfl Tryz.func51 rfl weakSub ?_; refine Md.at.of ?_
              refine hK _ _ ?_ _ _ hFn
              have hz : bookS b = 0 := by assumption
              refine ⟨G, rfl, _, gl, by rw [clashS, if_neg (fun e => e hz), if_neg (fun e => e hbe), if_neg hob], ⟨_, _, rfl, hgr⟩, ?_, fun p n c e => by cases e; exact hg4.2⟩
              rw [ClashOk, if_neg (by rintro (e | e | e); exact e hz; exact e hbe; exact hob e), hrl, ← hN]; have hall : ∀ a, a < t → foulM b a → an = true ∧ ¬ fewer (keptI a b.rules.length) gl := fun a ha hf => (hsq.got a ha hf).resolve_left (fun e => by rw [lfN_zero (F := F) (ix := ix) t (by rw [← hsq.cnt]; exact hl0) a ha] at e; cases e)
              rw [← hrl]; exact ⟨hsq.best (hall (t - 1) (by omega) (full_foul (by omega) hbe (by rw [hN, hrl]))).1, fun a ha hf => (hall a ha hf).2⟩
end Go.Proofs
namespace Go.Lo
open Go.Conc (G)
section
variable {P : Program} {B : Array Obj} {h : Hp}
theorem reads_partA {e n : Nat} {cs : Array Value} {o : Nat} [AggT P e n] : Reads P B (part e cs o) h (.agg (cs.extract o (o + n))) := by
  unfold part
  refine Reads.bind und_agg ?_
  exact Reads.bind (size_agg (P := P) (n := n)) (Reads.pure _)
def key4B (P : Program) (t : TypeId) : Bool := match P.underlying t with
  | some (.struct fs) => (match fs.toList with
    | [f, g, s] => f.offset == 0 && g.offset == 1 && s.offset == 2 && f.name != "_" && g.name != "_" && s.name != "_" && scalB P f.type && scalB P g.type && aggB P s.type 2 && keyB P s.type && (match P.underlying f.type with | some (.int .i64) => true | _ => false) && (match P.underlying g.type with | some (.int .i64) => true | _ => false)
    | _ => false) && !P.stoodInHeld t
  | _ => false
class Key4T (P : Program) (t : TypeId) : Prop where
  eq : key4B P t = true
theorem Key4T.spec {t : TypeId} [k : Key4T P t] : ∃ f g s : Field, P.underlying t = some (.struct #[f, g, s]) ∧ f.offset = 0 ∧ g.offset = 1 ∧ s.offset = 2 ∧ f.name ≠ "_" ∧ g.name ≠ "_" ∧ s.name ≠ "_" ∧ Scal P f.type ∧ Scal P g.type ∧ AggT P s.type 2 ∧ KeyT P s.type ∧ P.underlying f.type = some (.int .i64) ∧ P.underlying g.type = some (.int .i64) ∧ P.stoodInHeld t = false := by
  have := k.eq
  unfold key4B at this
  split at this
  · rename_i fs hu
    rw [Bool.and_eq_true] at this
    obtain ⟨h1, h2⟩ := this
    split at h1
    · rename_i f g s hfs
      simp only [Bool.and_eq_true, beq_iff_eq, bne_iff_ne, ne_eq] at h1
      obtain ⟨⟨⟨⟨⟨⟨⟨⟨⟨⟨⟨a1, a2⟩, a3⟩, b1⟩, b2⟩, b3⟩, c1⟩, c2⟩, c3⟩, c4⟩, a7⟩, a8⟩ := h1
      refine ⟨f, g, s, ?_, a1, a2, a3, b1, b2, b3, ⟨c1⟩, ⟨c2⟩, ⟨c3⟩, ⟨c4⟩, ?_, ?_, by simpa using h2⟩
      · rw [hu]; congr 2; exact Array.ext' (by rw [hfs])
      · split at a7
        · assumption
        · cases a7
      · split at a8
        · assumption
        · cases a8
    · cases h1
  · cases this
theorem reads_eq4 (dd : Nat) {t : TypeId} [Key4T P t] (a b c d a' b' c' d' : Int) : Reads P B (Op.equalIn (dd + 3) t (.agg [.int .i64 a, .int .i64 b, .int .i64 c, .int .i64 d].toArray) (.agg [.int .i64 a', .int .i64 b', .int .i64 c', .int .i64 d'].toArray)) h (a == a' && (b == b' && (c == c' && d == d'))) := by
  obtain ⟨f, g, s, hu, o1, o2, o3, n1, n2, n3, s1, s2, s3, s4, u1, u2, hs⟩ := Key4T.spec (P := P) (t := t)
  unfold Op.equalIn
  refine Reads.bind (still_und hu).reads ?_
  refine Reads.bind Reads.program' ?_
  simp only [hs, Bool.false_eq_true, if_false, pure_bind]
  rw [← Array.forIn_toList]; simp only [List.forIn_cons, List.forIn_nil, n1, n2, n3, ne_eq, not_false_eq_true, if_true, o1, o2, o3, bind_assoc]
  refine Reads.bind (reads_partS (v := .int .i64 a) rfl) (Reads.bind (reads_partS (v := .int .i64 a') rfl) (Reads.bind (reads_eqi (dd + 1) u1 a a') ?_))
  cases h1 : (a == a')
  · simp only [Bool.not_false, if_true, pure_bind, Bool.false_and]; exact Reads.pure _
  · simp only [Bool.not_true, Bool.false_eq_true, if_false, pure_bind, Bool.true_and, bind_assoc]
    refine Reads.bind (reads_partS (v := .int .i64 b) rfl) (Reads.bind (reads_partS (v := .int .i64 b') rfl) (Reads.bind (reads_eqi (dd + 1) u2 b b') ?_))
    cases h2 : (b == b')
    · simp only [Bool.not_false, if_true, pure_bind, Bool.false_and]; exact Reads.pure _
    · simp only [Bool.not_true, Bool.false_eq_true, if_false, pure_bind, Bool.true_and, bind_assoc]
      refine Reads.bind (reads_partA (n := 2)) (Reads.bind (reads_partA (n := 2)) (Reads.bind (reads_eqK dd (t := s.type) c d c' d') ?_))
      cases h3 : (c == c' && d == d')
      · simp only [Bool.not_false, if_true, pure_bind]; exact Reads.pure _
      · simp only [Bool.not_true, Bool.false_eq_true, if_false, pure_bind]; exact Reads.pure _
end
section
variable {P : Program} {B : Array Obj} {m : Md P B} {ops : Array Oper} {l l' l'' : List Value} {S h h' H : Hp} {C : List Value → Hp → Prop} {i : Nat} {kd : Kd} {r : List (Nat × Kd)}
  {d : Option Tmp} {ty : TypeId} {pos : String} {af : Array Edge} {g : Option (Nat × Bool)}
theorem k_neqG {t u : TypeId} {x y : Operand} {vs ws : List Value} {e : Bool} (ho : ops[i]? = some ⟨d, .binOp .neq t x y u, ty, pos, af, g⟩) (hw : Wt ops l g) [KHeap kd S h H] [ex : OpV l x (.agg vs.toArray)] [ey : OpV l y (.agg ws.toArray)]
    (hg : P.eqGuardType P.depth t = false) (he : Reads P B (Op.equalIn 10000 t (.agg vs.toArray) (.agg ws.toArray)) H e) [PutV l d (.bool !e) l'] (q : RegK m S ops r l' h C) : RegK m S ops ((i, kd) :: r) l h C :=
  RegK.rd (v := .bool !e) ho hw (by
    simp only [execOp, ex.eq, ey.eq]
    refine Reads.value (Reads.bind (a := ()) ?_ ?_)
    · unfold eqGuard
      refine Reads.bind Reads.program' (Reads.bind Reads.program' ?_)
      rw [if_pos (by simp [hg])]; exact Reads.pure _
    · show Reads P B (Op.equal t (.agg vs.toArray) (.agg ws.toArray) >>= fun b => pure (Value.bool !b)) H _
      exact Reads.bind he (Reads.pure _)) q
theorem k_neq2 {t u : TypeId} {x y : Operand} {a b a' b' : Int} (ho : ops[i]? = some ⟨d, .binOp .neq t x y u, ty, pos, af, g⟩) (hw : Wt ops l g) [kh : KHeap kd S h H] [ex : OpV l x (.agg [.int .i64 a, .int .i64 b].toArray)] [ey : OpV l y (.agg [.int .i64 a', .int .i64 b'].toArray)] [KeyT P t]
    (hg : P.eqGuardType P.depth t = false) [pt : PutV l d (.bool true) l'] [pf : PutV l d (.bool false) l''] (yes : ¬ (a = a' ∧ b = b') → RegK m S ops r l' h C) (no : a = a' ∧ b = b' → RegK m S ops r l'' h C) : RegK m S ops ((i, kd) :: r) l h C := by
  have he := reads_eqK (P := P) (B := B) (h := H) 9998 (t := t) a b a' b'
  by_cases e : a = a' ∧ b = b'
  · have e2 : (a == a' && b == b') = true := by simp [e]
    rw [e2] at he
    haveI : PutV l d (.bool !true) l'' := pf
    exact k_neqG ho hw hg he (no e)
  · have e2 : (a == a' && b == b') = false := by simpa using e
    rw [e2] at he
    haveI : PutV l d (.bool !false) l' := pt
    exact k_neqG ho hw hg he (yes e)
theorem k_neq4 {t u : TypeId} {x y : Operand} {a b c e a' b' c' e' : Int} (ho : ops[i]? = some ⟨d, .binOp .neq t x y u, ty, pos, af, g⟩) (hw : Wt ops l g) [kh : KHeap kd S h H] [ex : OpV l x (.agg [.int .i64 a, .int .i64 b, .int .i64 c, .int .i64 e].toArray)] [ey : OpV l y (.agg [.int .i64 a', .int .i64 b', .int .i64 c', .int .i64 e'].toArray)] [Key4T P t]
    (hg : P.eqGuardType P.depth t = false) [pt : PutV l d (.bool true) l'] [pf : PutV l d (.bool false) l''] (yes : ¬ (a = a' ∧ b = b' ∧ c = c' ∧ e = e') → RegK m S ops r l' h C) (no : a = a' ∧ b = b' ∧ c = c' ∧ e = e' → RegK m S ops r l'' h C) : RegK m S ops ((i, kd) :: r) l h C := by
  have he := reads_eq4 (P := P) (B := B) (h := H) 9997 (t := t) a b c e a' b' c' e'
  by_cases hx : a = a' ∧ b = b' ∧ c = c' ∧ e = e'
  · have e2 : (a == a' && (b == b' && (c == c' && e == e'))) = true := by simp [hx]
    rw [e2] at he
    haveI : PutV l d (.bool !true) l'' := pf
    exact k_neqG ho hw hg he (no hx)
  · have e2 : (a == a' && (b == b' && (c == c' && e == e'))) = false := by simpa using hx
    rw [e2] at he
    haveI : PutV l d (.bool !false) l' := pt
    exact k_neqG ho hw hg he (yes hx)
end
end Go.Lo
namespace Go.Proofs
open Go.Lo
open Go.Conc (G)
set_option maxRecDepth 100000
set_option synthInstance.maxSize 100000
set_option synthInstance.maxHeartbeats 1000000
set_option maxHeartbeats 4000000
variable {B : Array Obj}
variable [Laid B]
instance : KeyT Tryz.prog 92 := ⟨by kernel_rfl⟩
instance : Key4T Tryz.prog 94 := ⟨by kernel_rfl⟩
def exA : Bk := ⟨3, 3, 1, [⟨10, 10⟩, ⟨12, 13⟩, ⟨13, 14⟩, ⟨13, 14⟩], []⟩
def exO : Bk := ⟨3, 2, 2, [⟨14, 14⟩, ⟨13, 13⟩, ⟨11, 12⟩], []⟩
def sameB (b b2 : Bk) : Prop := b.bend = b2.bend ∧ b.twist = b2.twist ∧ b.turns = b2.turns ∧ b.marks = b2.marks ∧ b.rules = b2.rules
theorem same_take {α : Type} [Inhabited α] {xs ys : List α} {k : Nat} (h1 : k < xs.length) (h2 : k < ys.length) (h : xs.take k = ys.take k) (e : xs.getD k default = ys.getD k default) : xs.take (k + 1) = ys.take (k + 1) := by
  rw [List.take_succ, List.take_succ, h, List.getElem?_eq_getElem h1, List.getElem?_eq_getElem h2]; rw [List.getD_eq_getElem?_getD, List.getD_eq_getElem?_getD, List.getElem?_eq_getElem h1, List.getElem?_eq_getElem h2] at e
  simp only [Option.getD_some] at e
  rw [e]
theorem f88_c (m : Md Tryz.prog B) (h : Hp) : FnC m 88 #[] h fun v h' => ∃ nw, h' = h ++ nw ∧ BkR B exA nw v := by
  refine fn_enter Tryz.func88 rfl rfl (l := uu7) rfl ?_
  intro cf cs K hK
  refine rs1 (by kernel_rfl) ?_; refine k_new rfl zq (fun q0 => k_hp (k_put ?_)); refine k_nil ?_; refine rs7 (by kernel_rfl) ?_; refine k_calP (Post := fun v => v = _) rfl zq (by kernel_rfl) (fun H' hH => f84_c m H' _) ?_; rintro v rfl; refine k_put ?_; refine k_calP (Post := fun v => v = _) rfl zq (by kernel_rfl) (fun H' hH => f90_c m H' _ _) ?_; rintro v rfl; refine k_put ?_; refine k_calP (Post := fun v => v = _) rfl zq (by kernel_rfl) (fun H' hH => f90_c m H' _ _) ?_; rintro v rfl; refine k_put ?_; refine k_calP (Post := fun v => v = _) rfl zq (by kernel_rfl) (fun H' hH => f90_c m H' _ _) ?_; rintro v rfl; refine k_put ?_; refine k_bs kdq rfl zq (by decide) (by decide) rfl (fun q5 => k_hp (k_put ?_)); refine k_bld rfl zq ?_; refine k_stA rfl zq rfl ?_; refine k_nil ?_; refine run_ret rfl ?_; refine run_res (h ++ [⟨true, q5, .cells [.int .i64 10, .int .i64 10, .int .i64 12, .int .i64 13, .int .i64 13, .int .i64 14, .int .i64 13, .int .i64 14].toArray 92 (0, 0)⟩]) rfl Tryz.func88 rfl weakSub ?_; refine hK _ _ ?_
  exact ⟨_, rfl, _, _, _, none, 0, 0, rfl, rfl, rfl, Nat.le_refl _, Nat.le_refl _, rdS_has (q := q5) (t := 92) (rw := true) (f := (0, 0)) (ys := encs exA.marks) (x := ⟨List.mem_cons_self⟩) rfl, ⟨none, 0, rfl, rfl, .inl ⟨rfl, rfl⟩⟩⟩
theorem f89_c (m : Md Tryz.prog B) (h : Hp) : FnC m 89 #[] h fun v h' => ∃ nw, h' = h ++ nw ∧ BkR B exO nw v := by
  refine fn_enter Tryz.func89 rfl rfl (l := uu6) rfl ?_
  intro cf cs K hK
  refine rs1 (by kernel_rfl) ?_; refine k_new rfl zq (fun q0 => k_hp (k_put ?_)); refine k_nil ?_; refine rs6 (by kernel_rfl) ?_; refine k_calP (Post := fun v => v = _) rfl zq (by kernel_rfl) (fun H' hH => f84_c m H' _) ?_; rintro v rfl; refine k_put ?_; refine k_calP (Post := fun v => v = _) rfl zq (by kernel_rfl) (fun H' hH => f84_c m H' _) ?_; rintro v rfl; refine k_put ?_; refine k_calP (Post := fun v => v = _) rfl zq (by kernel_rfl) (fun H' hH => f90_c m H' _ _) ?_; rintro v rfl; refine k_put ?_; refine k_bs kdq rfl zq (by decide) (by decide) rfl (fun q5 => k_hp (k_put ?_)); refine k_bld rfl zq ?_; refine k_stA rfl zq rfl ?_; refine k_nil ?_; refine run_ret rfl ?_; refine run_res (h ++ [⟨true, q5, .cells [.int .i64 14, .int .i64 14, .int .i64 13, .int .i64 13, .int .i64 11, .int .i64 12].toArray 92 (0, 0)⟩]) rfl Tryz.func89 rfl weakSub ?_; refine hK _ _ ?_
  exact ⟨_, rfl, _, _, _, none, 0, 0, rfl, rfl, rfl, Nat.le_refl _, Nat.le_refl _, rdS_has (q := q5) (t := 92) (rw := true) (f := (0, 0)) (ys := encs exO.marks) (x := ⟨List.mem_cons_self⟩) rfl, ⟨none, 0, rfl, rfl, .inl ⟨rfl, rfl⟩⟩⟩
theorem sp_ext {x y : Sp} (h1 : x.lo = y.lo) (h2 : x.hi = y.hi) : x = y := by cases x; cases y; simp_all
theorem ru_ext {x y : Ru} (h1 : x.a = y.a) (h2 : x.b = y.b) (h3 : x.lo = y.lo) (h4 : x.hi = y.hi) : x = y := by cases x; cases y; simp_all
theorem f75_c (m : Md Tryz.prog B) (h : Hp) {b : Bk} {pm : Option Addr} {nm cm : Nat} {pr : Option Addr} {nr cr : Nat} (rdm : RdS B h 2 (.slice pm nm cm) nm (encs b.marks)) (hm : nm ≤ 1000) (rdr : RdS B h 4 (.slice pr nr cr) nr (encs b.rules)) (hr : nr ≤ 1000) {b2 : Bk} {pm2 : Option Addr} {nm2 cm2 : Nat} {pr2 : Option Addr} {nr2 cr2 : Nat} (rdm2 : RdS B h 2 (.slice pm2 nm2 cm2) nm2 (encs b2.marks)) (hm2 : nm2 ≤ 1000) (rdr2 : RdS B h 4 (.slice pr2 nr2 cr2) nr2 (encs b2.rules)) (hr2 : nr2 ≤ 1000) : FnC m 75 #[bkV b pm nm cm pr nr cr, bkV b2 pm2 nm2 cm2 pr2 nr2 cr2] h fun v h' => h' = h ∧ IsB (sameB b b2) v := by
  have hml := rdm.elen (by decide)
  have hrl := rdr.elen (by decide)
  have hml2 := rdm2.elen (by decide)
  have hrl2 := rdr2.elen (by decide)
  refine fn_enter Tryz.func75 rfl rfl (l := (bkV b pm nm cm pr nr cr) :: (bkV b2 pm2 nm2 cm2 pr2 nr2 cr2) :: uu78) rfl ?_
  intro cf cs K hK
  refine rs3 (by kernel_rfl) ?_; refine k_box rfl zq (fun q2 => k_hp (k_put ?_)); refine k_box rfl zq (fun q3 => k_hp (k_put ?_)); refine aq rfl ?_; refine run_seq ?_; refine run_seq ?_; refine run_region [(0, .free), (1, .free), (2, .free), (3, .free), (4, .free), (5, .free), (6, .free), (7, .free), (8, .free), (9, .free), (10, .free), (11, .free), (12, .free), (13, .free), (14, .free), (15, .free), (16, .free), (17, .free), (18, .free), (19, .free), (20, .free), (21, .free), (22, .free), (23, .free), (24, .free), (25, .free), (26, .free), (27, .free), (28, .free), (29, .free), (30, .free), (31, .free), (32, .free), (33, .free), (34, .free), (35, .free), (36, .free)] (by kernel_rfl) (by kernel_rfl) ?_; first | refine k_fa0 rfl zq ?_ | refine k_fa rfl zq ?_
  refine k_ldh rfl zq ?_; first | refine k_fa0 rfl zq ?_ | refine k_fa rfl zq ?_
  refine k_ldh rfl zq ?_; refine k_neqS rfl zq (fun hc => ?_) (fun hc => ?_)
  · refine mq rfl ?_; refine k_off rfl rfl ?_; refine k_off rfl rfl ?_; refine k_off rfl rfl ?_; refine k_off rfl rfl ?_; refine k_off rfl rfl ?_; refine k_pickT rfl zq ?_; refine mq rfl ?_; refine k_off rfl rfl ?_; refine k_off rfl rfl ?_; refine k_off rfl rfl ?_; refine k_off rfl rfl ?_; refine k_off rfl rfl ?_; refine k_pickT rfl zq ?_; refine mq rfl ?_; refine k_off rfl rfl ?_; refine k_off rfl rfl ?_; refine k_off rfl rfl ?_; refine k_off rfl rfl ?_; refine k_off rfl rfl ?_; refine k_off rfl rfl ?_; refine k_off rfl rfl ?_; refine k_pickT rfl zq ?_; refine mq rfl ?_; refine k_off rfl rfl ?_; refine k_off rfl rfl ?_; refine k_off rfl rfl ?_; refine k_off rfl rfl ?_; refine k_off rfl rfl ?_; refine k_off rfl rfl ?_; refine k_off rfl rfl ?_; refine k_pickT rfl zq ?_; refine k_nil ?_; refine run_yes ?_; refine rs1 (by kernel_rfl) ?_; refine aq rfl ?_; refine run_ret rfl ?_; refine run_res (h) rfl Tryz.func75 rfl weakSub ?_; refine hK _ _ ?_
    first
      | (have hrr : b.rules = b2.rules := by
           rw [List.take_of_length_le (by omega), List.take_of_length_le (by omega)] at her; exact her
         exact ⟨rfl, IsB.yes ⟨by omega, by omega, by omega, hmk, hrr⟩⟩)
      | exact ⟨rfl, IsB.no (fun e => by
      obtain ⟨e1, e2, e3, e4, e5⟩ := e
      have e6 := congrArg List.length e4
      have e7 := congrArg List.length e5
      first | omega | (rw [e4] at hx; exact hx ⟨rfl, rfl⟩) | (rw [e5] at hx; exact hx ⟨rfl, rfl, rfl, rfl⟩))⟩
  · refine mq rfl ?_; first | refine k_fa0 rfl rfl ?_ | refine k_fa rfl rfl ?_
    refine k_ldh rfl rfl ?_; first | refine k_fa0 rfl rfl ?_ | refine k_fa rfl rfl ?_
    refine k_ldh rfl rfl ?_; refine k_neqS rfl rfl (fun hc => ?_) (fun hc => ?_)
    · refine k_pickF rfl zq ?_; refine mq rfl ?_; refine k_off rfl rfl ?_; refine k_off rfl rfl ?_; refine k_off rfl rfl ?_; refine k_off rfl rfl ?_; refine k_off rfl rfl ?_; refine k_pickT rfl zq ?_; refine mq rfl ?_; refine k_off rfl rfl ?_; refine k_off rfl rfl ?_; refine k_off rfl rfl ?_; refine k_off rfl rfl ?_; refine k_off rfl rfl ?_; refine k_off rfl rfl ?_; refine k_off rfl rfl ?_; refine k_pickT rfl zq ?_; refine mq rfl ?_; refine k_off rfl rfl ?_; refine k_off rfl rfl ?_; refine k_off rfl rfl ?_; refine k_off rfl rfl ?_; refine k_off rfl rfl ?_; refine k_off rfl rfl ?_; refine k_off rfl rfl ?_; refine k_pickT rfl zq ?_; refine k_nil ?_; refine run_yes ?_; refine rs1 (by kernel_rfl) ?_; refine aq rfl ?_; refine run_ret rfl ?_; refine run_res (h) rfl Tryz.func75 rfl weakSub ?_; refine hK _ _ ?_
      first
        | (have hrr : b.rules = b2.rules := by
             rw [List.take_of_length_le (by omega), List.take_of_length_le (by omega)] at her; exact her
           exact ⟨rfl, IsB.yes ⟨by omega, by omega, by omega, hmk, hrr⟩⟩)
        | exact ⟨rfl, IsB.no (fun e => by
        obtain ⟨e1, e2, e3, e4, e5⟩ := e
        have e6 := congrArg List.length e4
        have e7 := congrArg List.length e5
        first | omega | (rw [e4] at hx; exact hx ⟨rfl, rfl⟩) | (rw [e5] at hx; exact hx ⟨rfl, rfl, rfl, rfl⟩))⟩
    · refine k_pickF rfl zq ?_; refine mq rfl ?_; first | refine k_fa0 rfl rfl ?_ | refine k_fa rfl rfl ?_
      refine k_ldh rfl rfl ?_; first | refine k_fa0 rfl rfl ?_ | refine k_fa rfl rfl ?_
      refine k_ldh rfl rfl ?_; refine k_neqS rfl rfl (fun hc => ?_) (fun hc => ?_)
      · refine k_pickF rfl zq ?_; refine mq rfl ?_; refine k_off rfl rfl ?_; refine k_off rfl rfl ?_; refine k_off rfl rfl ?_; refine k_off rfl rfl ?_; refine k_off rfl rfl ?_; refine k_off rfl rfl ?_; refine k_off rfl rfl ?_; refine k_pickT rfl zq ?_; refine mq rfl ?_; refine k_off rfl rfl ?_; refine k_off rfl rfl ?_; refine k_off rfl rfl ?_; refine k_off rfl rfl ?_; refine k_off rfl rfl ?_; refine k_off rfl rfl ?_; refine k_off rfl rfl ?_; refine k_pickT rfl zq ?_; refine k_nil ?_; refine run_yes ?_; refine rs1 (by kernel_rfl) ?_; refine aq rfl ?_; refine run_ret rfl ?_; refine run_res (h) rfl Tryz.func75 rfl weakSub ?_; refine hK _ _ ?_
        first
          | (have hrr : b.rules = b2.rules := by
               rw [List.take_of_length_le (by omega), List.take_of_length_le (by omega)] at her; exact her
             exact ⟨rfl, IsB.yes ⟨by omega, by omega, by omega, hmk, hrr⟩⟩)
          | exact ⟨rfl, IsB.no (fun e => by
          obtain ⟨e1, e2, e3, e4, e5⟩ := e
          have e6 := congrArg List.length e4
          have e7 := congrArg List.length e5
          first | omega | (rw [e4] at hx; exact hx ⟨rfl, rfl⟩) | (rw [e5] at hx; exact hx ⟨rfl, rfl, rfl, rfl⟩))⟩
      · refine k_pickF rfl zq ?_; refine mq rfl ?_; first | refine k_fa0 rfl rfl ?_ | refine k_fa rfl rfl ?_
        refine k_ldh rfl rfl ?_; refine k_len rfl rfl ?_; first | refine k_fa0 rfl rfl ?_ | refine k_fa rfl rfl ?_
        refine k_ldh rfl rfl ?_; refine k_len rfl rfl ?_; refine k_neqS rfl rfl (fun hc => ?_) (fun hc => ?_)
        · refine k_pickF rfl zq ?_; refine mq rfl ?_; refine k_off rfl rfl ?_; refine k_off rfl rfl ?_; refine k_off rfl rfl ?_; refine k_off rfl rfl ?_; refine k_off rfl rfl ?_; refine k_off rfl rfl ?_; refine k_off rfl rfl ?_; refine k_pickT rfl zq ?_; refine k_nil ?_; refine run_yes ?_; refine rs1 (by kernel_rfl) ?_; refine aq rfl ?_; refine run_ret rfl ?_; refine run_res (h) rfl Tryz.func75 rfl weakSub ?_; refine hK _ _ ?_
          first
            | (have hrr : b.rules = b2.rules := by
                 rw [List.take_of_length_le (by omega), List.take_of_length_le (by omega)] at her; exact her
               exact ⟨rfl, IsB.yes ⟨by omega, by omega, by omega, hmk, hrr⟩⟩)
            | exact ⟨rfl, IsB.no (fun e => by
            obtain ⟨e1, e2, e3, e4, e5⟩ := e
            have e6 := congrArg List.length e4
            have e7 := congrArg List.length e5
            first | omega | (rw [e4] at hx; exact hx ⟨rfl, rfl⟩) | (rw [e5] at hx; exact hx ⟨rfl, rfl, rfl, rfl⟩))⟩
        · refine k_pickF rfl zq ?_; refine mq rfl ?_; first | refine k_fa0 rfl rfl ?_ | refine k_fa rfl rfl ?_
          refine k_ldh rfl rfl ?_; refine k_len rfl rfl ?_; first | refine k_fa0 rfl rfl ?_ | refine k_fa rfl rfl ?_
          refine k_ldh rfl rfl ?_; refine k_len rfl rfl ?_; refine k_neqS rfl rfl (fun hc => ?_) (fun hc => ?_)
          · refine k_pickF rfl zq ?_; refine k_nil ?_; refine run_yes ?_; refine rs1 (by kernel_rfl) ?_; refine aq rfl ?_; refine run_ret rfl ?_; refine run_res (h) rfl Tryz.func75 rfl weakSub ?_; refine hK _ _ ?_
            first
              | (have hrr : b.rules = b2.rules := by
                   rw [List.take_of_length_le (by omega), List.take_of_length_le (by omega)] at her; exact her
                 exact ⟨rfl, IsB.yes ⟨by omega, by omega, by omega, hmk, hrr⟩⟩)
              | exact ⟨rfl, IsB.no (fun e => by
              obtain ⟨e1, e2, e3, e4, e5⟩ := e
              have e6 := congrArg List.length e4
              have e7 := congrArg List.length e5
              first | omega | (rw [e4] at hx; exact hx ⟨rfl, rfl⟩) | (rw [e5] at hx; exact hx ⟨rfl, rfl, rfl, rfl⟩))⟩
          · refine k_pickF rfl zq ?_; refine k_nil ?_; refine run_no ?_; refine run_skip ?_; refine run_seq ?_; refine rs1 (by kernel_rfl) ?_; refine aq rfl ?_; refine run_block ?_; refine run_loop (fun nn l h' => ∃ (k : Nat), nn = nm - k ∧ (k ≤ nm) ∧ (b.marks.take k = b2.marks.take k) ∧ (∃ U : Nat → Value, l = [U 0, U 1, .pointer (some ⟨q2, 0, none⟩), .pointer (some ⟨q3, 0, none⟩), U 4, .int .i64 (k : Int), U 6, U 7, U 8, U 9, U 10, U 11, U 12, U 13, U 14, U 15, U 16, U 17, U 18, U 19, U 20, U 21, U 22, U 23, U 24, U 25, U 26, U 27, U 28, U 29, U 30, U 31, U 32, U 33, U 34, U 35, U 36, U 37, U 38, U 39, U 40, U 41, U 42, U 43, U 44, U 45, U 46, U 47, U 48, U 49, U 50, U 51, U 52, U 53, U 54, U 55, U 56, U 57, U 58, U 59, U 60, U 61, U 62, U 63, U 64, U 65, U 66, U 67, U 68, U 69, U 70, U 71, U 72, U 73, U 74, U 75, U 76, U 77, U 78, U 79]) ∧ h ++ [⟨true, q2, .cells (bkL b pm nm cm pr nr cr).toArray 25 (0, 0)⟩, ⟨true, q3, .cells (bkL b2 pm2 nm2 cm2 pr2 nr2 cr2).toArray 25 (0, 0)⟩] = h') _ ⟨0, rfl, by omega, rfl, exU rfl, rfl⟩ ?_; rintro nn l h' ⟨k, rfl, hk, he, ⟨U, rfl⟩, rfl⟩ hnext1; refine run_seq ?_; refine rs5 (by kernel_rfl) ?_; refine mq rfl ?_; first | refine k_fa0 rfl zq ?_ | refine k_fa rfl zq ?_
            refine k_ldh rfl zq ?_; refine k_len rfl zq ?_; refine k_lssS rfl zq (fun hc => ?_) (fun hc => ?_)
            · refine k_nil ?_; refine run_yes ?_; refine run_skip ?_; refine run_seq ?_; refine run_block ?_; refine run_seq ?_; refine run_draw [(0, .pure), (2, .pure), (5, .pure), (7, .pure), (1, .read), (3, .pure), (4, .read), (6, .read), (8, .pure), (9, .read), (10, .pure)] (by kernel_rfl) (by kernel_rfl) (List.Sublist.refl _) ?_; first | refine k_fa0 rfl zq ?_ | refine k_fa rfl zq ?_
              refine mq rfl ?_; first | refine k_fa0 rfl zq ?_ | refine k_fa rfl zq ?_
              refine mq rfl ?_; refine k_ldh rfl zq ?_; obtain ⟨mb, mo, rfl⟩ := rdm.ptr (by omega)
              refine k_ixs rfl zq (by first | rfl | assumption) (by omega) (by omega) ?_; refine k_ldN (vs := spL (b.marks.getD k default)) rfl zq rfl (rdm.eat k (by omega) (by omega)) ?_; refine k_ldh rfl zq ?_; obtain ⟨mb2, mo2, rfl⟩ := rdm2.ptr (by omega)
              refine k_ixs rfl zq (by first | rfl | assumption) (by omega) (by omega) ?_; refine k_ldN (vs := spL (b2.marks.getD k default)) rfl zq rfl (rdm2.eat k (by omega) (by omega)) ?_; refine k_neq2 (hg := by kernel_rfl) rfl zq (fun hc => ?_) (fun hc => ?_)
              · have hx := hc
                refine k_nil ?_; refine run_yes ?_; refine rs1 (by kernel_rfl) ?_; refine aq rfl ?_; refine run_ret rfl ?_; refine run_res (h) rfl Tryz.func75 rfl weakSub ?_; refine hK _ _ ?_
                first
                  | (have hrr : b.rules = b2.rules := by
                       rw [List.take_of_length_le (by omega), List.take_of_length_le (by omega)] at her; exact her
                     exact ⟨rfl, IsB.yes ⟨by omega, by omega, by omega, hmk, hrr⟩⟩)
                  | exact ⟨rfl, IsB.no (fun e => by
                  obtain ⟨e1, e2, e3, e4, e5⟩ := e
                  have e6 := congrArg List.length e4
                  have e7 := congrArg List.length e5
                  first | omega | (rw [e4] at hx; exact hx ⟨rfl, rfl⟩) | (rw [e5] at hx; exact hx ⟨rfl, rfl, rfl, rfl⟩))⟩
              · have hx := hc
                refine k_nil ?_; refine run_no ?_; refine run_skip ?_; refine run_inBlock ?_; refine rr3 (by kernel_rfl) ?_; refine mq rfl ?_; refine k_add rfl zq (by unfold In64; omega) ?_; refine aq rfl ?_; exact m.weak weakSub (hnext1 _ _ _ (by omega) ⟨k + 1, rfl, by omega, same_take (by omega) (by omega) he (sp_ext hx.1 hx.2), exU rfl, rfl⟩)
            · refine k_nil ?_; refine run_no ?_; refine run_exit rfl ?_; refine run_seq ?_; refine rs1 (by kernel_rfl) ?_; have hkn : k = nm := by omega
              have hmk : b.marks = b2.marks := by
                rw [List.take_of_length_le (by omega), List.take_of_length_le (by omega)] at he; exact he
              refine aq rfl ?_; refine run_block ?_; refine run_loop (fun nn l h' => ∃ (t : Nat), nn = nr - t ∧ (t ≤ nr) ∧ (b.rules.take t = b2.rules.take t) ∧ (∃ U : Nat → Value, l = [U 0, U 1, .pointer (some ⟨q2, 0, none⟩), .pointer (some ⟨q3, 0, none⟩), U 4, U 5, .int .i64 (t : Int), U 7, U 8, U 9, U 10, U 11, U 12, U 13, U 14, U 15, U 16, U 17, U 18, U 19, U 20, U 21, U 22, U 23, U 24, U 25, U 26, U 27, U 28, U 29, U 30, U 31, U 32, U 33, U 34, U 35, U 36, U 37, U 38, U 39, U 40, U 41, U 42, U 43, U 44, U 45, U 46, U 47, U 48, U 49, U 50, U 51, U 52, U 53, U 54, U 55, U 56, U 57, U 58, U 59, U 60, U 61, U 62, U 63, U 64, U 65, U 66, U 67, U 68, U 69, U 70, U 71, U 72, U 73, U 74, U 75, U 76, U 77, U 78, U 79]) ∧ h ++ [⟨true, q2, .cells (bkL b pm nm cm pr nr cr).toArray 25 (0, 0)⟩, ⟨true, q3, .cells (bkL b2 pm2 nm2 cm2 pr2 nr2 cr2).toArray 25 (0, 0)⟩] = h') _ ⟨0, rfl, by omega, rfl, exU rfl, rfl⟩ ?_; rintro nn l h' ⟨t, rfl, ht, her, ⟨U, rfl⟩, rfl⟩ hnext2; refine run_seq ?_; refine rs5 (by kernel_rfl) ?_; refine mq rfl ?_; first | refine k_fa0 rfl zq ?_ | refine k_fa rfl zq ?_
              refine k_ldh rfl zq ?_; refine k_len rfl zq ?_; refine k_lssS rfl zq (fun hc => ?_) (fun hc => ?_)
              · refine k_nil ?_; refine run_yes ?_; refine run_skip ?_; refine run_seq ?_; refine run_block ?_; refine run_seq ?_; refine run_draw [(0, .pure), (2, .pure), (5, .pure), (7, .pure), (1, .read), (3, .pure), (4, .read), (6, .read), (8, .pure), (9, .read), (10, .pure)] (by kernel_rfl) (by kernel_rfl) (List.Sublist.refl _) ?_; first | refine k_fa0 rfl zq ?_ | refine k_fa rfl zq ?_
                refine mq rfl ?_; first | refine k_fa0 rfl zq ?_ | refine k_fa rfl zq ?_
                refine mq rfl ?_; refine k_ldh rfl zq ?_; obtain ⟨rb, ro1, rfl⟩ := rdr.ptr (by omega)
                refine k_ixs rfl zq (by first | rfl | assumption) (by omega) (by omega) ?_; refine k_ldN (vs := ruL (b.rules.getD t default)) rfl zq rfl (rdr.eat t (by omega) (by omega)) ?_; refine k_ldh rfl zq ?_; obtain ⟨rb2, ro2, rfl⟩ := rdr2.ptr (by omega)
                refine k_ixs rfl zq (by first | rfl | assumption) (by omega) (by omega) ?_; refine k_ldN (vs := ruL (b2.rules.getD t default)) rfl zq rfl (rdr2.eat t (by omega) (by omega)) ?_; refine k_neq4 (hg := by kernel_rfl) rfl zq (fun hc => ?_) (fun hc => ?_)
                · have hx := hc
                  refine k_nil ?_; refine run_yes ?_; refine rs1 (by kernel_rfl) ?_; refine aq rfl ?_; refine run_ret rfl ?_; refine run_res (h) rfl Tryz.func75 rfl weakSub ?_; refine hK _ _ ?_
                  first
                    | (have hrr : b.rules = b2.rules := by
                         rw [List.take_of_length_le (by omega), List.take_of_length_le (by omega)] at her; exact her
                       exact ⟨rfl, IsB.yes ⟨by omega, by omega, by omega, hmk, hrr⟩⟩)
                    | exact ⟨rfl, IsB.no (fun e => by
                    obtain ⟨e1, e2, e3, e4, e5⟩ := e
                    have e6 := congrArg List.length e4
                    have e7 := congrArg List.length e5
                    first | omega | (rw [e4] at hx; exact hx ⟨rfl, rfl⟩) | (rw [e5] at hx; exact hx ⟨rfl, rfl, rfl, rfl⟩))⟩
                · have hx := hc
                  refine k_nil ?_; refine run_no ?_; refine run_skip ?_; refine run_inBlock ?_; refine rr3 (by kernel_rfl) ?_; refine mq rfl ?_; refine k_add rfl zq (by unfold In64; omega) ?_; refine aq rfl ?_; exact m.weak weakSub (hnext2 _ _ _ (by omega) ⟨t + 1, rfl, by omega, same_take (by omega) (by omega) her (ru_ext hx.1 hx.2.1 hx.2.2.1 hx.2.2.2), exU rfl, rfl⟩)
              · refine k_nil ?_; refine run_no ?_; refine run_exit rfl ?_; refine rs1 (by kernel_rfl) ?_; refine aq rfl ?_; refine run_ret rfl ?_; refine run_res (h) rfl Tryz.func75 rfl weakSub ?_; refine hK _ _ ?_
                first
                  | (have hrr : b.rules = b2.rules := by
                       rw [List.take_of_length_le (by omega), List.take_of_length_le (by omega)] at her; exact her
                     exact ⟨rfl, IsB.yes ⟨by omega, by omega, by omega, hmk, hrr⟩⟩)
                  | exact ⟨rfl, IsB.no (fun e => by
                  obtain ⟨e1, e2, e3, e4, e5⟩ := e
                  have e6 := congrArg List.length e4
                  have e7 := congrArg List.length e5
                  first | omega | (rw [e4] at hx; exact hx ⟨rfl, rfl⟩) | (rw [e5] at hx; exact hx ⟨rfl, rfl, rfl, rfl⟩))⟩
section
variable {P : Program} {B : Array Obj} {m : Md P B} {ops : Array Oper} {l l' : List Value} {S h h' H : Hp} {C : List Value → Hp → Prop} {i : Nat} {kd : Kd} {r : List (Nat × Kd)}
  {d : Option Tmp} {ty : TypeId} {pos : String} {af : Array Edge} {g : Option (Nat × Bool)}
theorem k_neqF {t u : TypeId} {x y : Operand} {a b : Int} {k : IntKind} (ho : ops[i]? = some ⟨d, .binOp .neq t x y u, ty, pos, af, g⟩) (hw : Wt ops l g) [kh : KHeap kd S h H] [ex : OpV l x (.int k a)] [ey : OpV l y (.int k b)] (e : a = b) [pt : PutV l d (.bool false) l'] (q : RegK m S ops r l' h C) : RegK m S ops ((i, kd) :: r) l h C := by
  have pq := pt; rw [← decide_eq_false (fun h : a ≠ b => h e)] at pq; exact k_neq (l' := l') ho hw q
end
def lnA : List Int := [10, 13, 13, 14]
def lnB : List Int := [10, 12, 14, 13]
def lnC : List Int := [10, 11, 13, 15]
def ruA : Ru := ⟨1, 3, 0, 0⟩
def exR : Bk := ⟨3, 3, 1, [⟨10, 10⟩, ⟨12, 13⟩, ⟨13, 14⟩, ⟨13, 14⟩], [⟨1, 3, 0, 0⟩, ⟨0, 1, 2, 2⟩]⟩
def exS : Bk := ⟨3, 2, 1, [⟨10, 10⟩, ⟨12, 13⟩, ⟨14, 14⟩, ⟨13, 13⟩, ⟨11, 12⟩], []⟩
theorem xA1 : handedS exA lnA = 0 := by decide +kernel
theorem xA2 : bends lnA = [-3, 1] := by decide +kernel
theorem xA3 : diffs (bends lnA) = [4] := by decide +kernel
theorem xA4 : turns lnA = 1 := by decide +kernel
theorem xA5 : ¬ fair exA.bend exA.twist exA.turns lnA := by decide +kernel
theorem xA6 : handedS exA lnB = 0 ∧ boat exA lnB := by decide +kernel
theorem xA7 : bookS exA = 0 ∧ (boatsOf exA).length = 7 := by decide +kernel
theorem xA8 : openS exA 0 = 0 ∧ heightsAt (boatsOf exA) 1 = [12, 12, 12, 12, 13, 13, 13] := by decide +kernel
theorem xA9 : told (hollowN (boatsOf exA) 1) (boatsOf exA).length = 2 := by decide +kernel
theorem xB1 : straightL exA = [10, 12, 13, 14] ∧ straightN exA = 1 := by decide +kernel
theorem xB2 : lineO exA lnA = 0 ∧ nearL exA lnA = [10, 12, 13, 14] ∧ nearN exA lnA = 1 := by decide +kernel
theorem xB3 : pulledL exA lnA = [1] := by decide +kernel
theorem xB4 : lineO exA lnC = 0 ∧ mustL exA lnC = [1, 3] := by decide +kernel
theorem xB5 : askAt exA = 1 ∧ askLeft exA = 4 := by decide +kernel
theorem xB6 : noteS exA ruA = 0 ∧ bookS (noteB exA ruA) = 0 ∧ (boatsOf (noteB exA ruA)).length = 2 := by decide +kernel
theorem xB7 : spliceS exA exO 2 = 0 ∧ bookS (spliceB exA exO 2) = 0 ∧ (boatsOf (spliceB exA exO 2)).length = 2 := by decide +kernel
theorem xB8 : sameB (spliceB exA exO 2) exS := by
  have : spliceB exA exO 2 = exS := by decide +kernel
  rw [this]; exact ⟨rfl, rfl, rfl, rfl, rfl⟩
theorem xB9 : clashS exR = 0 ∧ bookS exR = 0 ∧ boatsOf exR = [] ∧ boatsOf (onlyB exR 0) ≠ [] := by decide +kernel
theorem asc_ext : ∀ xs ys : List Int, Asc xs → Asc ys → (∀ z, z ∈ xs ↔ z ∈ ys) → xs = ys
  | [], [], _, _, _ => rfl
  | [], b :: s, _, _, h => by have := (h b).2 List.mem_cons_self; simp at this
  | a :: r, [], _, _, h => by have := (h a).1 List.mem_cons_self; simp at this
  | a :: r, b :: s, h1, h2, h => by
    obtain ⟨p1, p2⟩ := List.pairwise_cons.1 h1
    obtain ⟨q1, q2⟩ := List.pairwise_cons.1 h2
    have hab : a = b := by
      rcases List.mem_cons.1 ((h a).1 List.mem_cons_self) with e | e
      · exact e
      · rcases List.mem_cons.1 ((h b).2 List.mem_cons_self) with e' | e'
        · exact e'.symm
        · have := p1 b e'; have := q1 a e; omega
    subst hab
    congr 1
    refine asc_ext r s p2 q2 fun z => ⟨fun hz => ?_, fun hz => ?_⟩
    · rcases List.mem_cons.1 ((h z).1 (List.mem_cons_of_mem _ hz)) with e | e
      · have := p1 z hz; omega
      · exact e
    · rcases List.mem_cons.1 ((h z).2 (List.mem_cons_of_mem _ hz)) with e | e
      · have := q1 z hz; omega
      · exact e
theorem xD1 : openS exA (if 0 ≤ (1 : Int) ∧ (1 : Int) ≤ ((exA.marks.length : Nat) : Int) - 1 then 0 else 6) = 0 := by decide +kernel
theorem xD2 : openS exA (if 1 ≤ (2 : Int) ∧ (2 : Int) ≤ ((exA.marks.length : Nat) : Int) - 2 then 0 else 6) = 0 := by decide +kernel
theorem xD3 {ys : List Int} (h1 : Asc ys) (h2 : ∀ z, z ∈ ys ↔ z ∈ heightsAt (openL exA (if 0 ≤ (1 : Int) ∧ (1 : Int) ≤ ((exA.marks.length : Nat) : Int) - 1 then 0 else 6)) (1 : Int).toNat) : ys = [12, 13] := by
  refine asc_ext _ _ h1 (by unfold Asc; decide) fun z => ?_
  rw [h2, openL_yes xD1, show (1 : Int).toNat = 1 from rfl, xA8.2]; simp
theorem xC1 : ∀ mm, mm < 4 → (foulM exR mm ↔ mm = 3) := by decide +kernel
theorem xC2 {g : List Int} (h : ClashOk exR g) : g = [0, 1] := by
  rw [ClashOk, if_neg (by rintro (e | e | e); exact e xB9.2.1; exact e xB9.2.2.1; exact xB9.2.2.2 e)] at h
  obtain ⟨⟨mm, hlt, hf, rfl⟩, _⟩ := h
  obtain rfl := (xC1 mm (by simpa [exR] using hlt)).1 hf
  decide +kernel
instance hasRo {h : Hp} {b : Nat} {rw : Bool} {o : Obj} [s : Has h b rw o] : Has (ro h) b false o := ⟨List.mem_map.2 ⟨_, s.mem, rfl⟩⟩
instance subRo {a b : Hp} [s : SubH a b] : SubH (ro a) (ro b) := ⟨s.sub.map _⟩
end Go.Proofs
