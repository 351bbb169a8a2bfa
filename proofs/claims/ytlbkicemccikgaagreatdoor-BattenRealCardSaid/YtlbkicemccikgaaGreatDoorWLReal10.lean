/- A part of the proof of a law: my own separation logic over the machine, and walks of the program. Condition of each theorem: as its statement says. -/
import Derived.Test.YtlbkicemccikgaaGreatDoorWLReal9
import Derived.Conc.Holds
import Derived.Conc.LeavingOf
import Derived.Deep.Slices
import Derived.OpenShut
import Derived.Carry
import Derived.LaidMore
import Derived.Stop.Joined
import Derived.SevenTiedAt
import Derived.LaidOnce
import Derived.Test.YtlbkicemccikgaaGreatDoorCards
import Derived.Test.YtlbkicemccikgaaGreatDoorTie
set_option linter.all false
namespace Go.Lo
open Go.Conc
theorem choose_lt (P : Program) (w : World) (q : Question) (n : Nat) (hn : 0 < n) (hq : q = .select n ∨ ∃ s, q = .extern s n) : ∃ a d, (choose q).run P w = .ok a (w.at d) ∧ a < n := by
  by_cases hf : q.forced = true
  · refine ⟨0, w.drawn, ?_, hn⟩
    simp [choose, Sem.run, hf, World.at]
  · refine ⟨_, w.drawn + 1, by simp [choose, Sem.run, hf, World.at]; rfl, ?_⟩
    rcases hq with rfl | ⟨s, rfl⟩ <;> simp only [Question.cut] <;> first | exact Nat.mod_lt _ hn | (rw [if_neg (by omega)]; exact Nat.mod_lt _ hn)
section
variable {P : Program} {gs : Array Goroutine} {w : World} {sl : Option (Nat × Nat)} {i : Nat} {g g₂ : Goroutine} {es : Array Event} {shape : CommShape} {blocking : Bool} {cases : Array CommCase}
theorem crowd_sel_meets_any (hi : gs[i]? = some g) (h : stepG P (i == 0) g w = .comm g₂ cases blocking shape w es)
    (hcs : ∀ cc ∈ cases, ∃ c z k tm, cc = rcase c z ∧ w.heap[c]? = some (.chan 0 #[] false k k tm))
    (hall : ∀ cc ∈ cases, ∀ c z, cc = rcase c z → ∀ j m, (j, m) ∈ partners (gs.setIfInBounds i ph) c true → m = 0 ∧ j ≠ i ∧ ∃ gj vj zj, gs[j]? = some (parked gj #[scase c vj zj] .send))
    (hsome : ∃ cc ∈ cases, ∃ c z, cc = rcase c z ∧ partners (gs.setIfInBounds i ph) c true ≠ []) :
    ∃ (k : Nat) (c : Nat) (z : Value) (j : Nat) (gj : Goroutine) (vj zj : Value) (n : Nat) (tm : Bool) (d : Nat), cases[k]? = some (rcase c z) ∧ j ≠ i ∧ gs[j]? = some (parked gj #[scase c vj zj] .send) ∧ w.heap[c]? = some (.chan 0 #[] false n n tm) ∧
      runT P (crowd gs w sl) i = (.next (crowd ((gs.setIfInBounds j (Conc.served gj undef)).setIfInBounds i (Conc.served g₂ (commResult cases shape k vj true))) ((w.at d).setChan c 0 #[] false (n + 1) (n + 1) tm) sl),
        MemOp.ofEvents i g.frame.fn g.frame.place es ++ met j i gj.frame.fn gj.frame.place g₂.frame.fn g₂.frame.place c n 0) := by
  have hways : ∀ cc ∈ cases, ∀ c z, cc = rcase c z → ways w (gs.setIfInBounds i ph) cc = (partners (gs.setIfInBounds i ph) c true).map fun (h, k) => Way.partner h k := by
    rintro cc hcc c z rfl; obtain ⟨c', z', k, tm, e, hc⟩ := hcs _ hcc
    obtain ⟨rfl, rfl⟩ : c = c' ∧ z = z' := by simpa [rcase] using e
    simp only [ways, rcase, hc]
    cases partners (gs.setIfInBounds i ph) c true with
    | nil => simp
    | cons p ps => simp
  generalize hrd : ((cases.zipIdx.toList.map fun (c, k) => (k, c, ways w (gs.setIfInBounds i ph) c)).filter fun (_, _, ws) => !ws.isEmpty) = ready
  have hmem : ∀ x ∈ ready, cases[x.1]? = some x.2.1 ∧ x.2.2 = ways w (gs.setIfInBounds i ph) x.2.1 ∧ x.2.2 ≠ [] := by
    intro x hx
    rw [← hrd, List.mem_filter] at hx
    obtain ⟨hx1, hx2⟩ := hx
    simp only [List.mem_map, Prod.exists] at hx1
    obtain ⟨c, k, hm, rfl⟩ := hx1
    refine ⟨by have := Array.mem_zipIdx_iff_getElem?.1 (Array.mem_toList_iff.1 hm); simpa using this, rfl, ?_⟩
    intro e
    simp only at hx2 e
    rw [e] at hx2
    simp at hx2
  have hlen : 0 < ready.length := by
    obtain ⟨cc, hcc, c, z, e, hp⟩ := hsome
    obtain ⟨k, hk⟩ := Array.getElem?_of_mem hcc
    refine List.length_pos_of_mem (a := (k, cc, ways w (gs.setIfInBounds i ph) cc)) ?_
    rw [← hrd, List.mem_filter]; refine ⟨List.mem_map.2 ⟨(cc, k), Array.mem_toList_iff.2 (Array.mem_zipIdx_iff_getElem?.2 (by simpa using hk)), rfl⟩, ?_⟩
    rw [hways cc hcc c z e]; cases hpp : partners (gs.setIfInBounds i ph) c true with
    | nil => exact absurd hpp hp
    | cons p ps => rfl
  obtain ⟨a, d, hca, hla⟩ := choose_lt P w (.select ready.length) ready.length hlen (.inl rfl)
  obtain ⟨⟨k, cc, ws⟩, hx⟩ : ∃ x, ready[a]? = some x := ⟨_, List.getElem?_eq_getElem hla⟩
  obtain ⟨hk, hws, hne⟩ := hmem _ (List.mem_of_getElem? hx)
  simp only at hk hws hne
  have hcc : cc ∈ cases := Array.mem_of_getElem? hk
  obtain ⟨c, z, n, tm, e, hc⟩ := hcs cc hcc
  rw [hways cc hcc c z e] at hws
  have hwl : 0 < ws.length := List.length_pos_iff.2 hne
  obtain ⟨b, d', hcb, hlb⟩ := choose_lt P (w.at d) (.extern "which waiting goroutine is the partner" ws.length) ws.length hwl (.inr ⟨_, rfl⟩)
  obtain ⟨⟨j, m⟩, hp⟩ : ∃ p, (partners (gs.setIfInBounds i ph) c true)[b]? = some p := by
    have : b < (partners (gs.setIfInBounds i ph) c true).length := by rw [hws, List.length_map] at hlb; exact hlb
    exact ⟨_, List.getElem?_eq_getElem this⟩
  have hway : ws.getD b .closed = .partner j m := by rw [hws]; exact getD_map_partner _ b (j, m) hp
  obtain ⟨rfl, hji, gj, vj, zj, hj⟩ := hall cc hcc c z e j m (List.mem_of_getElem? hp)
  have hat : (w.at d).at d' = w.at d' := rfl
  rw [hat] at hcb
  refine ⟨k, c, z, j, gj, vj, zj, n, tm, d', by rw [← e]; exact hk, hji, hj, hc, ?_⟩
  rw [runT_crowd_comm hi h]; have hj' := stand_get (i := i) hji hj
  have hfp := finishPartner_at P (gs.setIfInBounds i ph) hj' (cs := #[scase c vj zj]) (sh := .send) rfl 0 undef
  have hgd : (gs.setIfInBounds i ph).getD j default = parked gj #[scase c vj zj] .send := by rw [Array.getD_eq_getD_getElem?, hj']; rfl
  have hov : offeredValue (gs.setIfInBounds i ph) j 0 = vj := by simp [offeredValue, hj', parked, scase]
  have hnot : ¬ cases.any (illMade w) = true := by
    rw [Bool.not_eq_true]; refine any_ill fun x hx => ?_
    obtain ⟨c', z', k', tm', rfl, hc'⟩ := hcs x hx
    exact made_recv z' hc'
  have hre : ready.isEmpty = false := by cases hr : ready with
    | nil => rw [hr] at hlen; simp at hlen
    | cons x xs => rfl
  have hgetD : ready.getD a (0, default, []) = (k, cc, ws) := by rw [List.getD_eq_getElem?_getD, hx]; rfl
  have hpick : (do
      let a ← choose (.select ready.length)
      let (k, c, ws) := ready.getD a (0, default, [])
      let b ← choose (.extern "which waiting goroutine is the partner" ws.length)
      pure (k, c, ws.getD b .closed) : Sem (Nat × CommCase × Way)).run P w = .ok (k, cc, .partner j 0) (w.at d') := by
    rw [Sem.run_bind, hca]; simp only [Result.andThen_ok, hgetD]
    rw [Sem.run_bind, hcb]; simp only [Result.andThen_ok, hway]
    rfl
  unfold communicate
  simp only [hrd, hre, Bool.false_eq_true, if_false]
  rw [if_neg (by exact hnot)]; simp only [hpick, e, rcase]
  have hc'' : (w.at d').heap[c]? = some (.chan 0 #[] false n n tm) := hc
  simp only [hc'']
  simp [hfp, hgd, hov, set_stand2, finishComm_parked, crowd, World.setChan, met, scase, parked]
  rfl
end
structure Cf (P : Program) (B : Array Obj) (W : World) (Q : Pro) (gs : Array Goroutine) (w : World) (t : Trace) (Hl : Nat → Hp) (Tf : Nat → Tr) (ow : Nat → Option Nat) : Prop where
  core : Core B W Q.chans (fun i => i ≠ 0 ∧ ow i = none) gs w t Hl
  kids : ∀ (i : Nat) g, i ≠ 0 → gs[i]? = some g → Kid P B Q (Tf i) (ow i) g (Hl i)
  dom : ow 0 = none ∧ ∀ i, gs.size ≤ i → ow i = none
section
variable {P : Program} {B : Array Obj} {W : World} {Q : Pro} {gs : Array Goroutine} {w : World} {t : Trace} {Hl : Nat → Hp} {Tf : Nat → Tr} {ow : Nat → Option Nat} {sl : Option (Nat × Nat)}
theorem get_set {i j : Nat} {x g : Goroutine} (h : (gs.setIfInBounds i x)[j]? = some g) : (j = i ∧ g = x) ∨ (j ≠ i ∧ gs[j]? = some g) := by
  by_cases e : i = j
  · subst e
    by_cases hlt : i < gs.size
    · rw [Array.getElem?_setIfInBounds_self_of_lt hlt] at h
      exact .inl ⟨rfl, (Option.some.inj h).symm⟩
    · rw [Array.getElem?_eq_none (by simpa using hlt)] at h; cases h
  · rw [Array.getElem?_setIfInBounds_ne e] at h
    exact .inr ⟨fun x => e x.symm, h⟩
theorem set_get {i : Nat} {x y : Goroutine} (h : gs[i]? = some y) : (gs.setIfInBounds i x)[i]? = some x := Array.getElem?_setIfInBounds_self_of_lt (Array.getElem?_eq_some_iff.1 h).1
theorem set_other {i j : Nat} {x : Goroutine} (h : j ≠ i) : (gs.setIfInBounds i x)[j]? = gs[j]? := Array.getElem?_setIfInBounds_ne fun e => h e.symm
theorem Kid.offers {T : Tr} {o : Option Nat} {g : Goroutine} {h : Hp} (k : Kid P B Q T o g h) (c : Nat) : offersAt g c false = [] := by
  cases k with
  | run c hs => exact offersAt_of_not_blocked (by rw [hs]; simp) _ _
  | wait hc hd m n => exact offersAt_parked_send' _ _ _ _ _ _
  | waitD hc m q => exact offersAt_parked_send' _ _ _ _ _ _
  | left q => exact offersAt_of_not_blocked (by rcases q.status' with h | h <;> rw [h] <;> simp) _ _
theorem Cf.set (c : Cf P B W Q gs w t Hl Tf ow) {i : Nat} {g g' : Goroutine} {w' : World} {u : Trace} {h' : Hp} {T : Tr} (hi : gs[i]? = some g)
    (core : Core B W Q.chans (fun i => i ≠ 0 ∧ ow i = none) (gs.setIfInBounds i g') w' (t ++ u) (updH Hl i h')) (k : Kid P B Q T (ow i) g' h') : Cf P B W Q (gs.setIfInBounds i g') w' (t ++ u) (updH Hl i h') (updT Tf i T) ow := by
  refine ⟨core, fun j x hj hx => ?_, by rw [Array.size_setIfInBounds]; exact c.dom⟩
  rcases get_set hx with ⟨rfl, rfl⟩ | ⟨hne, hx'⟩
  · rw [updH_same, updT_same]; exact k
  · rw [updH_ne _ _ hne, updT_ne _ _ hne]; exact c.kids j x hj hx'
theorem updH_updH (f : Nat → Hp) (i : Nat) (a b : Hp) : updH (updH f i a) i b = updH f i b := by
  funext j; by_cases e : j = i <;> simp [updH, e]
theorem updH_self (f : Nat → Hp) (i : Nat) (a : Hp) (h : f i = a) : updH f i a = f := by
  funext j; by_cases e : j = i
  · subst e; simp [h]
  · simp [updH, e]
def Moved (P : Program) (B : Array Obj) (W : World) (Q : Pro) (gs : Array Goroutine) (w : World) (sl : Option (Nat × Nat)) (t : Trace) (Hl : Nat → Hp) (Tf : Nat → Tr) (ow : Nat → Option Nat) (i : Nat) (Ok : Goroutine → Prop) : Prop :=
  ∃ g' w' u Hl' Tf', runT P (crowd gs w sl) i = (.next (crowd (gs.setIfInBounds i g') w' sl), u) ∧ Cf P B W Q (gs.setIfInBounds i g') w' (t ++ u) Hl' Tf' ow ∧ Ok g' ∧ Hl' 0 = Hl 0 ∧ TLt gs.size Tf' Tf
def AtSend (P : Program) (B : Array Obj) (Q : Pro) (T : Tr) (s s' : Nat) (g : Goroutine) (hr hp : Hp) (r : Nat) (v z : Value) (w : World) : Prop :=
  r ∈ Q.chans ∧ stepG P false g w = .comm g #[scase r v z] true .send w #[] ∧ Q.Msg r v hp s s' ∧
    ((r ≠ Q.done ∧ ∃ T', Tr.Lt (.node fun _ _ => T') T ∧ CRunT P B Q T' s' (Conc.served g undef) hr) ∨ (r = Q.done ∧ ∃ k, Tr.Lt (.node fun _ _ => .ofNat k) T ∧ QuitsIn P k (Conc.served g undef)))
theorem kid_step {i : Nat} {g : Goroutine} (hi0 : i ≠ 0) (hi : gs[i]? = some g) (hg : g.status = .running) (c : Cf P B W Q gs w t Hl Tf ow) :
    Moved P B W Q gs w sl t Hl Tf ow i (fun g' => g'.status ≠ .blocked) ∨ (∃ s s', ow i = some s ∧ ∃ hr hp r v z, Weak B (Hl i) (hr ++ hp) ∧ AtSend P B Q (Tf i) s s' g hr hp r v z w) := by
  have hlt : i < gs.size := (Array.getElem?_eq_some_iff.1 hi).1
  have hz : (i == 0) = false := by simpa using hi0
  have hk := c.kids i g hi0 hi
  generalize hTe : Tf i = T at hk ⊢
  generalize hoe : ow i = o at hk ⊢
  generalize hhe : Hl i = h at hk ⊢
  cases hk with
  | run cr _ =>
    have gen : ∀ (T : Tr) (s : Nat) (g : Goroutine) (h : Hp), CRunT P B Q T s g h → ow i = some s → gs[i]? = some g → Tf i = T → Weak B (Hl i) h → Moved P B W Q gs w sl t Hl Tf ow i (fun g' => g'.status ≠ .blocked) ∨ (∃ s0 s', some s = some s0 ∧ ∃ hr hp r v z, Weak B (Hl i) (hr ++ hp) ∧ AtSend P B Q T s0 s' g hr hp r v z w) := by
      intro T s g h cr
      induction cr with
      | weak k _ ih => exact fun ho hi hT wk => ih ho hi hT (wk.trans k)
      | @step f s g h K' s0 n _ =>
        intro ho hi hT wk
        obtain ⟨g', w', es, h', hst, st, hK⟩ := s0.2 w (wk.sat _ (c.core.sat i))
        have cr' := n _ _ hK
        obtain ⟨r1, r2⟩ := c.core.own (P := P) (sl := sl) hi (by rw [hz]; exact hst) (st.weak_left wk) (fun x => by rw [ho] at x; cases x.2) (.runs cr'.running)
        exact .inl ⟨_, w', _, updH Hl i h', updT Tf i (f g' h'), r1, c.set hi r2 (by rw [ho]; exact .run cr' cr'.running), by show g'.status ≠ _; rw [cr'.running]; simp, updH_ne _ _ (fun e => hi0 e.symm), updT_lt hlt (by rw [hT]; exact Tr.lt f g' h')⟩
      | @send T s s' g hr hp c' v z hs e hc hd m n _ =>
        intro ho hi hT wk
        exact .inr ⟨s, s', rfl, hr, hp, c', v, z, wk, hc, e w (wk.sat _ (c.core.sat i)), m, .inl ⟨hd, T, Tr.lt (fun _ _ => Tr.node fun _ _ => T) g [], n⟩⟩
      | @done k s s' g hr hp v z hs e hc m q =>
        intro ho hi hT wk
        exact .inr ⟨s, s', rfl, hr, hp, Q.done, v, z, wk, hc, e w (wk.sat _ (c.core.sat i)), m, .inr ⟨rfl, k, Tr.lt (fun _ _ => Tr.node fun _ _ => Tr.ofNat k) g [], q⟩⟩
    have := gen T _ g h cr hoe hi hTe (by rw [hhe]; exact Weak.refl _ _)
    rw [hhe] at this
    exact this
  | wait hc hd m n => cases hg
  | waitD hc m q => cases hg
  | @left k _ q =>
    cases k with
    | zero => have : g.status = .finished := q; rw [this] at hg; cases hg
    | succ k =>
      rcases q with hf | ⟨_, g', hst, q'⟩
      · rw [hf] at hg; cases hg
      · obtain ⟨r1, r2⟩ := c.core.slip (P := P) (sl := sl) hi (by rw [hz]; exact hst w) (q'.status'.elim .runs .ended)
        have e : Hl = updH Hl i [] := (updH_self Hl i [] hhe).symm
        exact .inl ⟨_, w, #[], updH Hl i [], updT Tf i (.ofNat k), r1, c.set hi (by rw [Array.append_empty, ← e]; exact r2) (by rw [hoe]; exact .left q'), by rcases q'.status' with h | h <;> rw [h] <;> simp, updH_ne _ _ (fun e => hi0 e.symm), updT_lt hlt (by rw [hTe]; exact Tr.lt _ g [])⟩
theorem kid_lone {a : Goroutine} (h0 : gs[0]? = some a) (ha : a.status = .running) {i : Nat} {g : Goroutine} (hi0 : i ≠ 0) (hi : gs[i]? = some g) (hg : g.status = .running) (c : Cf P B W Q gs w t Hl Tf ow) :
    Moved P B W Q gs w sl t Hl Tf ow i (fun _ => True) := by
  have hlt : i < gs.size := (Array.getElem?_eq_some_iff.1 hi).1
  have hz : (i == 0) = false := by simpa using hi0
  rcases kid_step (sl := sl) hi0 hi hg c with ⟨g', w', u, Hl', Tf', h1, h2, _, h3, h4⟩ | ⟨s, s', hoe, hr, hp, r, v, z, wk, hc, hst, m, hT⟩
  · exact ⟨g', w', u, Hl', Tf', h1, h2, trivial, h3, h4⟩
  have nobody : ∀ (r : Nat), partners (gs.setIfInBounds i ph) r false = [] := fun r => partners_nil fun j x hx => by
    rcases getElem?_stand gs i j x hx with ⟨_, rfl⟩ | ⟨hji, hx'⟩
    · exact offersAt_ph _ _
    · by_cases e : j = 0
      · subst e
        rw [h0] at hx'
        obtain rfl := Option.some.inj hx'
        exact offersAt_of_not_blocked (by rw [ha]; simp) _ _
      · exact (c.kids j x e hx').offers r
  obtain ⟨k, tm, hch⟩ := c.core.chan r hc
  have hw := crowd_waits (P := P) (sl := sl) (w := w) (w₁ := w) (es := #[]) (g₂ := g) hi (by rw [hz]; exact hst) (fun cc hcc => by
    simp only [List.mem_toArray, List.mem_cons, List.not_mem_nil, or_false] at hcc
    subst hcc
    exact ⟨made_send v z hch, by simp [ways, scase, hch, nobody]⟩)
  have core' : Core B W Q.chans (fun i => i ≠ 0 ∧ ow i = none) (gs.setIfInBounds i (parked g #[scase r v z] .send)) w (t ++ #[]) (updH Hl i (hr ++ hp)) := by
    have := c.core.weak wk
    rw [Array.append_empty]; exact ⟨this.sat, this.apart, this.chan, this.chanB, this.ti, this.far, fun op hop => by rw [Array.size_setIfInBounds]; exact this.gsz op hop, fun j hj => this.out j (by simpa using hj), quiet_set this.quiet (.sends hc)⟩
  rcases hT with ⟨hd, T', hT, cr⟩ | ⟨rfl, k', hT, q⟩
  · exact ⟨_, w, #[], updH Hl i (hr ++ hp), updT Tf i (.node fun _ _ => T'), hw, c.set hi core' (by rw [hoe]; exact .wait hc hd m cr), trivial, updH_ne _ _ (fun e => hi0 e.symm), updT_lt hlt hT⟩
  · exact ⟨_, w, #[], updH Hl i (hr ++ hp), updT Tf i (.node fun _ _ => .ofNat k'), hw, c.set hi core' (by rw [hoe]; exact .waitD hc m q), trivial, updH_ne _ _ (fun e => hi0 e.symm), updT_lt hlt hT⟩
def Met (P : Program) (B : Array Obj) (W : World) (Q : Pro) (cases : Array CommCase) (shape : CommShape) (g₀ : Goroutine) (h₀ : Hp) (ow : Nat → Option Nat) (s : Stepped × Array MemOp) (sl : Option (Nat × Nat)) (t : Trace) : Prop :=
  ∃ (k : Nat) (r : Nat) (z v : Value) (hp : Hp) (gs' : Array Goroutine) (w' : World) (u : Trace) (Hl' : Nat → Hp) (Tf' : Nat → Tr) (i s0 s' : Nat), s = (.next (crowd gs' w' sl), u) ∧ cases[k]? = some (rcase r z) ∧ ow i = some s0 ∧ Q.Msg r v hp s0 s' ∧
    gs'[0]? = some (Conc.served g₀ (commResult cases shape k v true)) ∧ Hl' 0 = h₀ ++ hp ∧ Cf P B W Q gs' w' (t ++ u) Hl' Tf' (updO ow i (if r = Q.done then none else some s'))
theorem met_of (c : Cf P B W Q gs w t Hl Tf ow) {i k nn d s0 s' : Nat} {g g₀ : Goroutine} {hr hp : Hp} {r : Nat} {z v : Value} {tm : Bool} {cases : Array CommCase} {shape : CommShape} {s : Stepped × Array MemOp} {fh fj : FuncId} {ph' pj : String} {gs' : Array Goroutine} (hi0 : i ≠ 0) (hlt : i < gs.size) (h0 : 0 < gs.size)
    (hoe : ow i = some s0) (wk : Weak B (Hl i) (hr ++ hp)) (hc : r ∈ Q.chans) (hch : w.heap[r]? = some (.chan 0 #[] false nn nn tm)) (hk : cases[k]? = some (rcase r z)) (m : Q.Msg r v hp s0 s')
    (hT : (r ≠ Q.done ∧ ∃ T', CRunT P B Q T' s' (Conc.served g undef) hr) ∨ (r = Q.done ∧ ∃ k, QuitsIn P k (Conc.served g undef)))
    (hgs : gs'.size = gs.size) (hgi : gs'[i]? = some (Conc.served g undef)) (hg0 : gs'[0]? = some (Conc.served g₀ (commResult cases shape k v true))) (hgo : ∀ j, j ≠ i → j ≠ 0 → gs'[j]? = gs[j]?)
    (e : s = (.next (crowd gs' ((w.at d).setChan r 0 #[] false (nn + 1) (nn + 1) tm) sl), met i 0 fh ph' fj pj r nn 0)) : Met P B W Q cases shape g₀ (Hl 0) ow s sl t := by
  have c1 := c.core.weak wk
  have qn : ∀ (l : Nat) (x : Goroutine), gs'[l]? = some x → Quiet Q.chans x := fun l x hx => by
    by_cases e1 : l = i
    · subst e1
      rw [hgi] at hx
      obtain rfl := Option.some.inj hx
      exact .runs rfl
    · by_cases e2 : l = 0
      · subst e2
        rw [hg0] at hx
        obtain rfl := Option.some.inj hx
        exact .runs rfl
      · exact c.core.quiet l x (by rw [← hgo l e1 e2]; exact hx)
  have eh : updH Hl i (hr ++ hp) 0 = Hl 0 := updH_ne _ _ (fun e => hi0 e.symm)
  have i0 : updO ow i (if r = Q.done then none else some s') 0 = none ∧ ∀ l, gs'.size ≤ l → updO ow i (if r = Q.done then none else some s') l = none := by
    refine ⟨by rw [updO_ne _ _ (fun e => hi0 e.symm)]; exact c.dom.1, fun l hl => ?_⟩
    rw [updO_ne _ _ (by omega)]; exact c.dom.2 l (by omega)
  rcases hT with ⟨hd, T', cr⟩ | ⟨rfl, k', q⟩
  · have c2 := c1.meet (i := i) (j := 0) (x := Conc.served g undef) (y := Conc.served g undef) (hr := hr) (hp := hp) (Left' := fun l => l ≠ 0 ∧ updO ow i (some s') l = none) (d := d) hi0 hlt h0 hc hch (updH_same _ _ _) (.runs rfl) (.runs rfl) (fun l h => by
      by_cases e1 : l = i
      · subst e1; rw [updO_same] at h; cases h.2
      · rw [updO_ne _ _ e1] at h; exact .inl h) fh ph' fj pj gs' hgs qn
    rw [updH_updH, eh] at c2
    rw [if_neg hd] at i0
    refine ⟨k, r, z, v, hp, gs', (w.at d).setChan r 0 #[] false (nn + 1) (nn + 1) tm, met i 0 fh ph' fj pj r nn 0, updH (updH Hl i hr) 0 (Hl 0 ++ hp), updT Tf i T', i, s0, s', e, hk, hoe, m, hg0, updH_same _ _ _, ?_⟩
    rw [if_neg hd]; refine ⟨c2, fun j x hj hx => ?_, i0⟩
    rw [updH_ne _ _ hj]; by_cases e1 : j = i
    · subst e1
      rw [hgi] at hx
      obtain rfl := Option.some.inj hx
      rw [updH_same, updT_same, updO_same]; exact .run cr rfl
    · rw [updH_ne _ _ e1, updT_ne _ _ e1, updO_ne _ _ e1]; exact c.kids j x hj (by rw [← hgo j e1 hj]; exact hx)
  · have c2 := c1.meet (i := i) (j := 0) (x := Conc.served g undef) (y := Conc.served g undef) (hr := hr) (hp := hp) (Left' := fun l => l ≠ 0 ∧ updO ow i none l = none) (d := d) hi0 hlt h0 hc hch (updH_same _ _ _) (.runs rfl) (.runs rfl) (fun l h => by
      by_cases e1 : l = i
      · exact .inr ⟨e1, rfl⟩
      · rw [updO_ne _ _ e1] at h; exact .inl h) fh ph' fj pj gs' hgs qn
    rw [updH_updH, eh] at c2
    have e3 : updH (updH Hl i hr) 0 (Hl 0 ++ hp) i = hr := by rw [updH_ne _ _ hi0, updH_same]
    have c3 := c2.weak (i := i) (h' := []) (by rw [e3]; exact Weak.sub (List.nil_sublist _))
    rw [if_pos rfl] at i0
    refine ⟨k, Q.done, z, v, hp, gs', (w.at d).setChan Q.done 0 #[] false (nn + 1) (nn + 1) tm, met i 0 fh ph' fj pj Q.done nn 0, updH (updH (updH Hl i hr) 0 (Hl 0 ++ hp)) i [], updT Tf i (.ofNat k'), i, s0, s', e, hk, hoe, m, hg0, by rw [updH_ne _ _ (fun e => hi0 e.symm), updH_same], ?_⟩
    rw [if_pos rfl]; refine ⟨c3, fun j x hj hx => ?_, i0⟩
    by_cases e1 : j = i
    · subst e1
      rw [hgi] at hx
      obtain rfl := Option.some.inj hx
      rw [updH_same, updT_same, updO_same]; exact .left q
    · rw [updH_ne _ _ e1, updH_ne _ _ hj, updH_ne _ _ e1, updT_ne _ _ e1, updO_ne _ _ e1]; exact c.kids j x hj (by rw [← hgo j e1 hj]; exact hx)
theorem kid_meets {g₀ : Goroutine} {cases : Array CommCase} {shape : CommShape} (h0 : gs[0]? = some (parked g₀ cases shape))
    (cov : ∀ c ∈ Q.chans, ∃ (k : Nat) (z : Value), cases[k]? = some (rcase c z)) (one : ∀ (k k' : Nat) c z z', cases[k]? = some (rcase c z) → cases[k']? = some (rcase c z') → k = k') (only : ∀ cc ∈ cases, ∃ c z, cc = rcase c z ∧ c ∈ Q.chans)
    (nobl : ∀ (j : Nat) x, j ≠ 0 → gs[j]? = some x → x.status ≠ .blocked)
    {i : Nat} {g : Goroutine} (hi0 : i ≠ 0) (hi : gs[i]? = some g) (hg : g.status = .running) (c : Cf P B W Q gs w t Hl Tf ow) :
    Moved P B W Q gs w sl t Hl Tf ow i (fun g' => g'.status ≠ .blocked) ∨ Met P B W Q cases shape g₀ (Hl 0) ow (runT P (crowd gs w sl) i) sl t := by
  have hlt : i < gs.size := (Array.getElem?_eq_some_iff.1 hi).1
  have hz : (i == 0) = false := by simpa using hi0
  rcases kid_step (sl := sl) hi0 hi hg c with h | ⟨s, s', hoe, hr, hp, r, v, z, wk, hc, hst, m, hT⟩
  · exact .inl h
  refine .inr ?_
  obtain ⟨nn, tm, hch⟩ := c.core.chan r hc
  obtain ⟨k, z0, hk⟩ := cov r hc
  have h0i : (0 : Nat) ≠ i := fun e => hi0 e.symm
  have hp1 : partners (gs.setIfInBounds i ph) r false = [(0, k)] := by
    rw [partners_one (j := 0) (g := parked g₀ cases shape) (by rw [set_other h0i]; exact h0) (fun j x hj hx => ?_), offersAt_parked_at hk (fun q cc hq hcc e => ?_)]
    · rfl
    · obtain ⟨c', z', rfl, _⟩ := only cc (Array.mem_of_getElem? hcc)
      obtain rfl : c' = r := by simpa [rcase] using e
      exact hq (one q k _ _ _ hcc hk)
    · rcases getElem?_stand gs i j x hx with ⟨_, rfl⟩ | ⟨hji, hx'⟩
      · exact offersAt_ph _ _
      · exact offersAt_of_not_blocked (nobl j x hj hx') _ _
  have hr1 := crowd_send_meets_sel (P := P) (sl := sl) (w := w) (w₁ := w) (es := #[]) (g₂ := g) hi (by rw [hz]; exact hst) hch h0i h0 hk hp1
  refine met_of c (d := w.drawn) (fh := g.frame.fn) (ph' := g.frame.place) (fj := g₀.frame.fn) (pj := g₀.frame.place) (gs' := (gs.setIfInBounds 0 (g₀.finishComm P cases shape k v true)).setIfInBounds i (g.finishComm P #[scase r v z] .send 0 undef false)) hi0 hlt (by omega) hoe wk hc hch hk m
    (hT.imp (fun ⟨a, T', _, b⟩ => ⟨a, T', b⟩) (fun ⟨a, k, _, b⟩ => ⟨a, k, b⟩)) (by simp) (set_get (y := g) (by rw [set_other hi0]; exact hi)) (by rw [set_other h0i, set_get h0]; rfl) (fun j h1 h2 => by rw [set_other h1, set_other h2]) ?_
  rw [hr1]; rfl
theorem main_meets {g₀ : Goroutine} {cases : Array CommCase} {shape : CommShape} (h0 : gs[0]? = some g₀) (hst : stepG P true g₀ w = .comm g₀ cases true shape w #[])
    (cov : ∀ c ∈ Q.chans, ∃ (k : Nat) (z : Value), cases[k]? = some (rcase c z)) (only : ∀ cc ∈ cases, ∃ c z, cc = rcase c z ∧ c ∈ Q.chans) (hg0 : g₀.status = .running)
    (c : Cf P B W Q gs w t Hl Tf ow) : (∀ (j : Nat) x, j ≠ 0 → gs[j]? = some x → x.status ≠ .blocked) ∨ Met P B W Q cases shape g₀ (Hl 0) ow (runT P (crowd gs w sl) 0) sl t := by
  by_cases nobl : ∀ (j : Nat) x, j ≠ 0 → gs[j]? = some x → x.status ≠ .blocked
  · exact .inl nobl
  refine .inr ?_
  have h0l : 0 < gs.size := (Array.getElem?_eq_some_iff.1 h0).1
  -- who waits
  have wait : ∀ (j : Nat) x, j ≠ 0 → gs[j]? = some x → x.status = .blocked → ∃ gj r v z hr hp s0 s', x = parked gj #[scase r v z] .send ∧ r ∈ Q.chans ∧ ow j = some s0 ∧ Hl j = hr ++ hp ∧ Q.Msg r v hp s0 s' ∧
      ((r ≠ Q.done ∧ ∃ T', CRunT P B Q T' s' (Conc.served gj undef) hr) ∨ (r = Q.done ∧ ∃ k, QuitsIn P k (Conc.served gj undef))) := by
    intro j x hj hx hb
    have hk := c.kids j x hj hx
    generalize Tf j = T at hk
    generalize hoe : ow j = o at hk ⊢
    generalize hhe : Hl j = h at hk ⊢
    cases hk with
    | run cr hs => rw [hs] at hb; cases hb
    | wait hc hd m n => exact ⟨_, _, _, _, _, _, _, _, rfl, hc, rfl, rfl, m, .inl ⟨hd, _, n⟩⟩
    | waitD hc m q => exact ⟨_, _, _, _, _, _, _, _, rfl, hc, rfl, rfl, m, .inr ⟨rfl, _, q⟩⟩
    | left q => rcases q.status' with h | h <;> rw [h] at hb <;> cases hb
  have offer : ∀ (r j m : Nat), (j, m) ∈ partners (gs.setIfInBounds 0 ph) r true → m = 0 ∧ j ≠ 0 ∧ ∃ gj vj zj, gs[j]? = some (parked gj #[scase r vj zj] .send) := by
    intro r j m hm
    obtain ⟨x, hx, hk⟩ := mem_partners.1 hm
    rcases getElem?_stand gs 0 j x hx with ⟨_, rfl⟩ | ⟨hj, hx'⟩
    · rw [offersAt_ph] at hk; cases hk
    · by_cases hb : x.status = .blocked
      · obtain ⟨gj, r', v, z, hr, hp, _, _, rfl, _⟩ := wait j x hj hx' hb
        rw [offersAt_parked_send] at hk
        split at hk
        · rename_i e
          subst e
          exact ⟨by simpa using hk, hj, gj, v, z, hx'⟩
        · cases hk
      · rw [offersAt_of_not_blocked hb] at hk; cases hk
  have hsome : ∃ cc ∈ cases, ∃ r z, cc = rcase r z ∧ partners (gs.setIfInBounds 0 ph) r true ≠ [] := by
    have : ∃ (j : Nat) (x : Goroutine), j ≠ 0 ∧ gs[j]? = some x ∧ x.status = .blocked := by
      apply Classical.byContradiction
      intro hne
      exact nobl fun j x hj hx hb => hne ⟨j, x, hj, hx, hb⟩
    obtain ⟨j, x, hj, hx, hb⟩ := this
    obtain ⟨gj, r, v, z, hr, hp, _, _, rfl, hc, _⟩ := wait j x hj hx hb
    obtain ⟨k, z0, hk⟩ := cov r hc
    refine ⟨_, Array.mem_of_getElem? hk, r, z0, rfl, fun e => ?_⟩
    have : (j, 0) ∈ partners (gs.setIfInBounds 0 ph) r true := mem_partners.2 ⟨_, by rw [set_other hj]; exact hx, by rw [offersAt_parked_send]; simp⟩
    rw [e] at this; cases this
  obtain ⟨k, r, z, j, gj, vj, zj, nn, tm, d, hk, hj, hgj, hch, hrun⟩ := crowd_sel_meets_any (P := P) (sl := sl) (w := w) (es := #[]) (g₂ := g₀) h0 hst (fun cc hcc => by
    obtain ⟨r, z, e, hc⟩ := only cc hcc
    obtain ⟨k, tm, e'⟩ := c.core.chan r hc
    exact ⟨r, z, k, tm, e, e'⟩) (fun cc hcc r z e j m hm => offer r j m hm) hsome
  obtain ⟨gj', r', v', z', hr, hp, s0, s', e, hc, hoe, hhe, m, hT⟩ := wait j _ hj hgj rfl
  have e1 := congrArg (fun g : Goroutine => g.offers) e
  have e2 := congrArg (fun g : Goroutine => Conc.served g undef) e
  simp only [parked, Option.some.injEq, Prod.mk.injEq, and_true] at e1
  have e3 : Conc.served gj undef = Conc.served gj' undef := e2
  have e4 : scase r vj zj = scase r' v' z' := by simpa using e1
  simp only [scase, CommCase.mk.injEq, Value.chan.injEq, Option.some.injEq] at e4
  obtain ⟨rfl, rfl, rfl⟩ := e4
  refine met_of c (i := j) (d := d) (g := gj) (fh := gj.frame.fn) (ph' := gj.frame.place) (fj := g₀.frame.fn) (pj := g₀.frame.place) (gs' := (gs.setIfInBounds j (Conc.served gj undef)).setIfInBounds 0 (Conc.served g₀ (commResult cases shape k vj true))) hj (Array.getElem?_eq_some_iff.1 hgj).1 h0l hoe (by rw [hhe]; exact Weak.refl _ _) hc hch hk m
    (by rw [e3]; exact hT) (by simp) (by rw [set_other hj, set_get hgj]) (set_get (y := g₀) (by rw [set_other (fun e => hj e.symm)]; exact h0)) (fun l h1 h2 => by rw [set_other h2, set_other h1]) ?_
  rw [hrun]; rfl
end
end Go.Lo
namespace Go.Lo
open Go.Conc
section
variable {P : Program} {B : Array Obj} {W : World}
theorem MRun.running {K : Goroutine → Hp → Prop} (hK : ∀ g h, K g h → g.status = .running) {Q : Pro} {F : Nat → Option Nat} {g : Goroutine} {h : Hp} (r : MRun P B K Q F g h) : g.status = .running := by
  induction r with
  | stop hF k => exact hK _ _ k
  | step K'' s _ _ => exact s.1
  | weak k _ ih => exact ih
  | share Q' hF _ ih => exact ih
  | spawn s hs => exact hs
  | recv hs => exact hs
theorem Cf.at {Q : Pro} {gs : Array Goroutine} {w : World} {t : Trace} {Hl : Nat → Hp} {Tf : Nat → Tr} {ow : Nat → Option Nat} (c : Cf P B W Q gs w t Hl Tf ow) (d : Nat) : Cf P B W Q gs (w.at d) t Hl Tf ow := ⟨c.core.at d, c.kids, c.dom⟩
theorem runNT_step {m m' : Machine} {u t : Trace} {N : Nat} {R : Stepped × Trace} (h : stepT P m = (.next m', u)) (r : runNT P N m' (t ++ u) = R) : runNT P (N + 1) m t = R := by
  rw [← r]; simp only [runNT, h]
theorem Cf.pick {Q : Pro} {gs : Array Goroutine} {w : World} {t : Trace} {Hl : Nat → Hp} {Tf : Nat → Tr} {ow : Nat → Option Nat} (c : Cf P B W Q gs w t Hl Tf ow) (sl : Option (Nat × Nat)) (some1 : ∃ (i : Nat) (g : Goroutine), gs[i]? = some g ∧ g.status = .running) :
    ∃ (i : Nat) (g : Goroutine) (d : Nat) (sl' : Option (Nat × Nat)), gs[i]? = some g ∧ g.status = .running ∧ stepT P (crowd gs w sl) = runT P (crowd gs (w.at d) sl') i :=
  crowd_pick (fun g hg => by
    obtain ⟨i, hi⟩ := Array.getElem?_of_mem hg
    exact (c.core.quiet i g hi).awake) some1
theorem run_star {K : Goroutine → Hp → Prop} (hK : ∀ g h, K g h → g.status = .running) {Q : Pro} {F : Nat → Option Nat} {g : Goroutine} {h : Hp} (r : MRun P B K Q F g h) :
    ∀ (gs : Array Goroutine) (w : World) (sl : Option (Nat × Nat)) (t : Trace) (Hl : Nat → Hp) (Tf : Nat → Tr) (ow : Nat → Option Nat), gs[0]? = some g → Hl 0 = h → Cf P B W Q gs w t Hl Tf ow → ow = F →
      ∃ (N : Nat) (Q' : Pro) (g' : Goroutine) (gs' : Array Goroutine) (w' : World) (sl' : Option (Nat × Nat)) (t' : Trace) (Hl' : Nat → Hp) (Tf' : Nat → Tr) (ow' : Nat → Option Nat),
        runNT P N (crowd gs w sl) t = (.next (crowd gs' w' sl'), t') ∧ gs'[0]? = some g' ∧ K g' (Hl' 0) ∧ Cf P B W Q' gs' w' t' Hl' Tf' ow' ∧ (∀ i, ow' i = none) := by
  induction r with
  | @stop Q F g h hF k =>
    intro gs w sl t Hl Tf ow h0 hh c ho
    subst ho
    exact ⟨0, Q, g, gs, w, sl, t, Hl, Tf, ow, rfl, h0, by rw [hh]; exact k, c, hF⟩
  | @weak Q F g h h' k _ ih =>
    intro gs w sl t Hl Tf ow h0 hh c ho
    exact ih gs w sl t (updH Hl 0 h') Tf ow h0 (updH_same _ _ _) ⟨c.core.weak (by rw [hh]; exact k), fun i x hi hx => by rw [updH_ne _ _ hi]; exact c.kids i x hi hx, c.dom⟩ ho
  | @share Q F Q' g h hF cr ih =>
    intro gs w sl t Hl Tf ow h0 hh c ho0
    subst ho0
    have left : ∀ (i : Nat) x, i ≠ 0 → gs[i]? = some x → ∃ k, Tf i = .ofNat k ∧ ow i = none ∧ Hl i = [] ∧ QuitsIn P k x := fun i x hi hx => by
      have hk := c.kids i x hi hx
      have ho := hF i
      generalize Tf i = T at hk ⊢
      generalize hhe : Hl i = hl at hk ⊢
      rw [ho] at hk ⊢
      cases hk with
      | left q => exact ⟨_, rfl, rfl, rfl, q⟩
    refine ih gs w sl t (updH Hl 0 h) Tf ow h0 (updH_same _ _ _) ⟨c.core.share (fun i x hx => ?_) hh, fun i x hi hx => ?_, c.dom⟩ rfl
    · by_cases e : i = 0
      · subst e
        rw [h0] at hx
        obtain rfl := Option.some.inj hx
        exact .runs (cr.running hK)
      · obtain ⟨k, _, _, _, q⟩ := left i x e hx
        exact q.status'.elim .runs .ended
    · obtain ⟨k, e1, e2, e3, q⟩ := left i x hi hx
      rw [updH_ne _ _ hi, e1, e2, e3]; exact .left q
  | @step Q F g h K' s _ ih =>
    intro gs w sl t Hl Tf ow h0 hh c ho
    subst ho
    have gen : ∀ (m : Nat) (Tf : Nat → Tr), Acc (TLt m) Tf → ∀ (gs : Array Goroutine) (w : World) (sl : Option (Nat × Nat)) (t : Trace) (Hl : Nat → Hp), gs.size = m → gs[0]? = some g → Hl 0 = h → Cf P B W Q gs w t Hl Tf ow →
        ∃ (N : Nat) (Q' : Pro) (g' : Goroutine) (gs' : Array Goroutine) (w' : World) (sl' : Option (Nat × Nat)) (t' : Trace) (Hl' : Nat → Hp) (Tf' : Nat → Tr) (ow' : Nat → Option Nat),
          runNT P N (crowd gs w sl) t = (.next (crowd gs' w' sl'), t') ∧ gs'[0]? = some g' ∧ K g' (Hl' 0) ∧ Cf P B W Q' gs' w' t' Hl' Tf' ow' ∧ (∀ i, ow' i = none) := by
      intro m Tf acc
      induction acc with
      | intro Tf _ iha =>
        intro gs w sl t Hl hm h0 hh c
        obtain ⟨i, x, d, sl', hi, hx, hst⟩ := c.pick sl ⟨0, g, h0, s.1⟩
        have c' := c.at d
        by_cases e : i = 0
        · subst e
          rw [h0] at hi
          obtain rfl := Option.some.inj hi
          obtain ⟨g', w', es, h', hs, st, hk⟩ := s.2 (w.at d) (by rw [← hh]; exact c'.core.sat 0)
          obtain ⟨r1, r2⟩ := c'.core.own (P := P) (sl := sl') h0 hs (by rw [hh]; exact st) (fun x => x.1 rfl) (.runs ((‹∀ g' h', K' g' h' → MRun P B K Q ow g' h'› _ _ hk).running hK))
          obtain ⟨N, q⟩ := ih g' h' hk _ w' sl' _ (updH Hl 0 h') Tf ow (set_get h0) (updH_same _ _ _) ⟨r2, fun j y hj hy => by
            rw [set_other hj] at hy
            rw [updH_ne _ _ hj]; exact c.kids j y hj hy, by rw [Array.size_setIfInBounds]; exact c.dom⟩ rfl
          obtain ⟨Q', g'', gs', w'', sl'', t', Hl', Tf', ow', hr, q⟩ := q
          exact ⟨N + 1, Q', g'', gs', w'', sl'', t', Hl', Tf', ow', runNT_step (hst.trans r1) hr, q⟩
        · obtain ⟨g', w', u, Hl', Tf', r1, r2, _, r3, r4⟩ := kid_lone (sl := sl') h0 s.1 e hi hx c'
          obtain ⟨N, Q', g'', gs', w'', sl'', t', Hl'', Tf'', ow', hr, q⟩ := iha Tf' (by rw [← hm]; exact r4) (gs.setIfInBounds i g') w' sl' (t ++ u) Hl' (by rw [Array.size_setIfInBounds]; exact hm) (by rw [set_other (fun x => e x.symm)]; exact h0) (r3.trans hh) r2
          exact ⟨N + 1, Q', g'', gs', w'', sl'', t', Hl'', Tf'', ow', runNT_step (hst.trans r1) hr, q⟩
    exact gen gs.size Tf (TLt.acc _ _) gs w sl t Hl rfl h0 hh c
  | @spawn Q F g g₁ child h h₁ hc s0 hs hs' e k1 k2 ap kid cr ih =>
    intro gs w sl t Hl Tf ow h0 hh c ho
    subst ho
    obtain ⟨Tk, hTk⟩ := kid.tree
    have gen : ∀ (m : Nat) (Tf : Nat → Tr), Acc (TLt m) Tf → ∀ (gs : Array Goroutine) (w : World) (sl : Option (Nat × Nat)) (t : Trace) (Hl : Nat → Hp), gs.size = m → gs[0]? = some g → Hl 0 = h → Cf P B W Q gs w t Hl Tf ow →
        ∃ (N : Nat) (Q' : Pro) (g' : Goroutine) (gs' : Array Goroutine) (w' : World) (sl' : Option (Nat × Nat)) (t' : Trace) (Hl' : Nat → Hp) (Tf' : Nat → Tr) (ow' : Nat → Option Nat),
          runNT P N (crowd gs w sl) t = (.next (crowd gs' w' sl'), t') ∧ gs'[0]? = some g' ∧ K g' (Hl' 0) ∧ Cf P B W Q' gs' w' t' Hl' Tf' ow' ∧ (∀ i, ow' i = none) := by
      intro m Tf acc
      induction acc with
      | intro Tf _ iha =>
        intro gs w sl t Hl hm h0 hh c
        obtain ⟨i, x, d, sl', hi, hx, hst⟩ := c.pick sl ⟨0, g, h0, hs⟩
        have c' := c.at d
        have hpos : gs.size ≠ 0 := by have := (Array.getElem?_eq_some_iff.1 h0).1; omega
        by_cases ei : i = 0
        · subst ei
          rw [h0] at hi
          obtain rfl := Option.some.inj hi
          have hL : ∀ l, (l ≠ 0 ∧ updO ow gs.size (some s0) l = none) → (l ≠ 0 ∧ ow l = none) := fun l hl => by
            by_cases e1 : l = gs.size
            · subst e1; rw [updO_same] at hl; cases hl.2
            · rw [updO_ne _ _ e1] at hl; exact hl
          obtain ⟨r1, r2⟩ := (c'.core.stay hL).spawn (P := P) (sl := sl') h0 (e (w.at d) (by rw [← hh]; exact c'.core.sat 0)) (by rw [hh]; exact k1) (by rw [hh]; exact k2) (ap (w.at d) (by rw [← hh]; exact c'.core.sat 0)) (.runs hs') (.runs hTk.running)
          obtain ⟨N, Q', g'', gs', w'', sl'', t', Hl', Tf', ow', hr, q⟩ := ih gs.size hpos (c.dom.2 _ (Nat.le_refl _)) _ (w.at d) sl' _ (updH (updH Hl 0 h₁) gs.size hc) (updT Tf gs.size Tk) (updO ow gs.size (some s0)) (by
              rw [Array.getElem?_push_lt (by simpa using Nat.pos_of_ne_zero hpos)]; have := set_get (x := g₁) h0
              rw [Array.getElem?_eq_getElem (by simpa using Nat.pos_of_ne_zero hpos)] at this
              exact this) (by rw [updH_ne _ _ (fun x => hpos x.symm), updH_same]) ⟨r2, fun j y hj hy => by
            rw [Array.getElem?_push] at hy
            split at hy
            · rename_i e1
              rw [Array.size_setIfInBounds] at e1
              subst e1
              obtain rfl := Option.some.inj hy
              rw [updH_same, updT_same, updO_same]; exact .run hTk hTk.running
            · rename_i e1
              rw [Array.size_setIfInBounds] at e1
              rw [set_other hj] at hy
              rw [updH_ne _ _ e1, updH_ne _ _ hj, updT_ne _ _ e1, updO_ne _ _ e1]; exact c.kids j y hj hy, by rw [updO_ne _ _ (fun x => hpos x.symm)]; exact c.dom.1, fun l hl => by
            rw [Array.size_push, Array.size_setIfInBounds] at hl
            rw [updO_ne _ _ (by omega)]; exact c.dom.2 l (by omega)⟩ rfl
          exact ⟨N + 1, Q', g'', gs', w'', sl'', t', Hl', Tf', ow', runNT_step (hst.trans r1) hr, q⟩
        · obtain ⟨g', w', u, Hl', Tf', r1, r2, _, r3, r4⟩ := kid_lone (sl := sl') h0 hs ei hi hx c'
          obtain ⟨N, Q', g'', gs', w'', sl'', t', Hl'', Tf'', ow', hr, q⟩ := iha Tf' (by rw [← hm]; exact r4) (gs.setIfInBounds i g') w' sl' (t ++ u) Hl' (by rw [Array.size_setIfInBounds]; exact hm) (by rw [set_other (fun x => ei x.symm)]; exact h0) (r3.trans hh) r2
          exact ⟨N + 1, Q', g'', gs', w'', sl'', t', Hl'', Tf'', ow', runNT_step (hst.trans r1) hr, q⟩
    exact gen gs.size Tf (TLt.acc _ _) gs w sl t Hl rfl h0 hh c
  | @recv Q F g h cases shape hs e hn cov only one cr ih =>
    intro gs w sl t Hl Tf ow h0 hh c ho
    subst ho
    -- behind a message
    have behind : ∀ {s : Stepped × Array MemOp} {sl : Option (Nat × Nat)} {t : Trace} {m : Machine}, Met P B W Q cases shape g h ow s sl t → stepT P m = s →
        ∃ (N : Nat) (Q' : Pro) (g' : Goroutine) (gs' : Array Goroutine) (w' : World) (sl' : Option (Nat × Nat)) (t' : Trace) (Hl' : Nat → Hp) (Tf' : Nat → Tr) (ow' : Nat → Option Nat),
          runNT P N m t = (.next (crowd gs' w' sl'), t') ∧ gs'[0]? = some g' ∧ K g' (Hl' 0) ∧ Cf P B W Q' gs' w' t' Hl' Tf' ow' ∧ (∀ i, ow' i = none) := by
      rintro s sl t m ⟨k, r, z, v, hp, gs', w', u, Hl', Tf', i, s0, s', rfl, hk, hoe, hm, hg, hh', hc⟩ hst; obtain ⟨N, Q', g'', gs'', w'', sl'', t', Hl'', Tf'', ow'', hr, q⟩ := ih k r z v hp i s0 s' hk hoe hm gs' w' sl (t ++ u) Hl' Tf' _ hg hh' hc rfl
      exact ⟨N + 1, Q', g'', gs'', w'', sl'', t', Hl'', Tf'', ow'', runNT_step hst hr, q⟩
    -- goroutine 0 waits
    have parkd : ∀ (m : Nat) (Tf : Nat → Tr), Acc (TLt m) Tf → ∀ (gs : Array Goroutine) (w : World) (sl : Option (Nat × Nat)) (t : Trace) (Hl : Nat → Hp), gs.size = m → gs[0]? = some (parked g cases shape) → Hl 0 = h → (∀ (j : Nat) x, j ≠ 0 → gs[j]? = some x → x.status ≠ .blocked) → Cf P B W Q gs w t Hl Tf ow →
        ∃ (N : Nat) (Q' : Pro) (g' : Goroutine) (gs' : Array Goroutine) (w' : World) (sl' : Option (Nat × Nat)) (t' : Trace) (Hl' : Nat → Hp) (Tf' : Nat → Tr) (ow' : Nat → Option Nat),
          runNT P N (crowd gs w sl) t = (.next (crowd gs' w' sl'), t') ∧ gs'[0]? = some g' ∧ K g' (Hl' 0) ∧ Cf P B W Q' gs' w' t' Hl' Tf' ow' ∧ (∀ i, ow' i = none) := by
      intro m Tf acc
      induction acc with
      | intro Tf _ iha =>
        intro gs w sl t Hl hm h0 hh nobl c
        obtain ⟨q, sq, hqo⟩ := hn
        have hq0 : q ≠ 0 := fun e => by rw [e, c.dom.1] at hqo; cases hqo
        have hql : q < gs.size := Nat.lt_of_not_le fun e => by rw [c.dom.2 q e] at hqo; cases hqo
        have hqg : gs[q]? = some gs[q] := Array.getElem?_eq_getElem hql
        have hqr : gs[q].status = .running := by
          have hk := c.kids q _ hq0 hqg
          have hb := nobl q _ hq0 hqg
          rw [hqo] at hk
          generalize gs[q] = y at hk hb
          generalize Tf q = T at hk
          generalize Hl q = hl at hk
          cases hk with
          | run _ hs => exact hs
          | wait => exact absurd rfl hb
          | waitD => exact absurd rfl hb
        obtain ⟨i, x, d, sl', hi, hx, hst⟩ := c.pick sl ⟨q, _, hqg, hqr⟩
        have c' := c.at d
        have ei : i ≠ 0 := fun e1 => by
          subst e1
          rw [h0] at hi
          obtain rfl := Option.some.inj hi
          cases hx
        rcases kid_meets (sl := sl') h0 cov one only nobl ei hi hx c' with ⟨g', w', u, Hl', Tf', r1, r2, ok, r3, r4⟩ | met
        · obtain ⟨N, Q', g'', gs', w'', sl'', t', Hl'', Tf'', ow', hr, q⟩ := iha Tf' (by rw [← hm]; exact r4) (gs.setIfInBounds i g') w' sl' (t ++ u) Hl' (by rw [Array.size_setIfInBounds]; exact hm) (by rw [set_other (fun x => ei x.symm)]; exact h0) (r3.trans hh) (fun j y hj hy => by
            rcases get_set hy with ⟨rfl, rfl⟩ | ⟨_, hy'⟩
            · exact ok
            · exact nobl j y hj hy') r2
          exact ⟨N + 1, Q', g'', gs', w'', sl'', t', Hl'', Tf'', ow', runNT_step (hst.trans r1) hr, q⟩
        · rw [hh] at met
          exact behind met hst
    have gen : ∀ (m : Nat) (Tf : Nat → Tr), Acc (TLt m) Tf → ∀ (gs : Array Goroutine) (w : World) (sl : Option (Nat × Nat)) (t : Trace) (Hl : Nat → Hp), gs.size = m → gs[0]? = some g → Hl 0 = h → Cf P B W Q gs w t Hl Tf ow →
        ∃ (N : Nat) (Q' : Pro) (g' : Goroutine) (gs' : Array Goroutine) (w' : World) (sl' : Option (Nat × Nat)) (t' : Trace) (Hl' : Nat → Hp) (Tf' : Nat → Tr) (ow' : Nat → Option Nat),
          runNT P N (crowd gs w sl) t = (.next (crowd gs' w' sl'), t') ∧ gs'[0]? = some g' ∧ K g' (Hl' 0) ∧ Cf P B W Q' gs' w' t' Hl' Tf' ow' ∧ (∀ i, ow' i = none) := by
      intro m Tf acc
      induction acc with
      | intro Tf _ iha =>
        intro gs w sl t Hl hm h0 hh c
        obtain ⟨i, x, d, sl', hi, hx, hst⟩ := c.pick sl ⟨0, g, h0, hs⟩
        have c' := c.at d
        by_cases ei : i = 0
        · subst ei
          rw [h0] at hi
          obtain rfl := Option.some.inj hi
          have hsg := e (w.at d) (by rw [← hh]; exact c'.core.sat 0)
          rcases main_meets (sl := sl') h0 hsg cov only hs c' with nobl | met
          · have nobody : ∀ (r : Nat), partners (gs.setIfInBounds 0 ph) r true = [] := fun r => partners_nil fun j y hy => by
              rcases getElem?_stand gs 0 j y hy with ⟨_, rfl⟩ | ⟨hj, hy'⟩
              · exact offersAt_ph _ _
              · exact offersAt_of_not_blocked (nobl j y hj hy') _ _
            have hw := crowd_waits (P := P) (sl := sl') (w := w.at d) (w₁ := w.at d) (es := #[]) (g₂ := g) h0 hsg (fun cc hcc => by
              obtain ⟨r, z, rfl, hr⟩ := only cc hcc
              obtain ⟨k, tm, hch⟩ := c'.core.chan r hr
              exact ⟨made_recv z hch, by simp [ways, rcase, hch, nobody]⟩)
            obtain ⟨N, Q', g'', gs', w'', sl'', t', Hl'', Tf'', ow', hr, q⟩ := parkd m Tf (hm ▸ TLt.acc _ _) (gs.setIfInBounds 0 (parked g cases shape)) (w.at d) sl' (t ++ #[]) Hl (by rw [Array.size_setIfInBounds]; exact hm) (set_get h0) hh (fun j y hj hy => by
              rw [set_other hj] at hy; exact nobl j y hj hy) ⟨by
                rw [Array.append_empty]; have cc := c'.core
                exact ⟨cc.sat, cc.apart, cc.chan, cc.chanB, cc.ti, cc.far, fun op hop => by rw [Array.size_setIfInBounds]; exact cc.gsz op hop, fun j hj => cc.out j (by simpa using hj), quiet_set cc.quiet (.recvs only)⟩,
                fun j y hj hy => by rw [set_other hj] at hy; exact c.kids j y hj hy, by rw [Array.size_setIfInBounds]; exact c.dom⟩
            exact ⟨N + 1, Q', g'', gs', w'', sl'', t', Hl'', Tf'', ow', runNT_step (hst.trans hw) hr, q⟩
          · rw [hh] at met
            exact behind met hst
        · obtain ⟨g', w', u, Hl', Tf', r1, r2, _, r3, r4⟩ := kid_lone (sl := sl') h0 hs ei hi hx c'
          obtain ⟨N, Q', g'', gs', w'', sl'', t', Hl'', Tf'', ow', hr, q⟩ := iha Tf' (by rw [← hm]; exact r4) (gs.setIfInBounds i g') w' sl' (t ++ u) Hl' (by rw [Array.size_setIfInBounds]; exact hm) (by rw [set_other (fun x => ei x.symm)]; exact h0) (r3.trans hh) r2
          exact ⟨N + 1, Q', g'', gs', w'', sl'', t', Hl'', Tf'', ow', runNT_step (hst.trans r1) hr, q⟩
    exact gen gs.size Tf (TLt.acc _ _) gs w sl t Hl rfl h0 hh c
end
end Go.Lo
namespace Go.Lo
open Go.Conc
section
variable {P : Program} {B : Array Obj} {W : World}
def AtEnd (P : Program) (B : Array Obj) (K : Value → Hp → Prop) (g : Goroutine) (h : Hp) : Prop :=
  g.status = .running ∧ ∃ v, K v h ∧ ∀ w, Sat B h w → ∃ es, stepG P true g w = .ended (.done v) w es ∧ ∀ e ∈ es, EvOk B h w.heap.size w.heap.size e
theorem run_last {K : Value → Hp → Prop} {Post : Value → World → Prop} {Q : Pro} {g : Goroutine} {h : Hp} (k : AtEnd P B K g h) (hp : ∀ v w, K v h → Sat B h w → (w.os = W.os ∧ w.output = W.output ∧ w.tape = W.tape) → Post v w) :
    ∀ (m : Nat) (Tf : Nat → Tr), Acc (TLt m) Tf → ∀ (gs : Array Goroutine) (w : World) (sl : Option (Nat × Nat)) (t : Trace) (Hl : Nat → Hp) (ow : Nat → Option Nat), gs.size = m → gs[0]? = some g → Hl 0 = h → Cf P B W Q gs w t Hl Tf ow → (∀ i, ow i = none) →
      ∃ (N : Nat) (last : Machine) (tl : Trace) (o : Outcome) (w' : World) (t' : Trace), runNT P N (crowd gs w sl) t = (.next last, tl) ∧ runNT P 1 last tl = (.ended o w', t') ∧ Conc.Good P Post last o w' t' := by
  intro m Tf acc
  induction acc with
  | intro Tf _ iha =>
    intro gs w sl t Hl ow hm h0 hh c hF
    obtain ⟨i, x, d, sl', hi, hx, hst⟩ := c.pick sl ⟨0, g, h0, k.1⟩
    have c' := c.at d
    by_cases ei : i = 0
    · subst ei
      rw [h0] at hi
      obtain rfl := Option.some.inj hi
      obtain ⟨v, hk, he⟩ := k.2
      obtain ⟨es, hs, hev⟩ := he (w.at d) (by rw [← hh]; exact c'.core.sat 0)
      have hT := c'.core.ti.own (lim' := (w.at d).heap.size) (B := B) rfl (g := 0) (h' := Hl 0) (w := w.at d) (w' := w.at d) (es := es) rfl rfl { Stp.refl (c'.core.sat 0) with evs := by rw [hh]; exact hev } c'.core.sat (fun j hj => c'.core.apart j 0 hj) (fun x => x.1 rfl) g.frame.fn g.frame.place
      have left : ∀ (i : Nat) x, i ≠ 0 → gs[i]? = some x → ow i = none ∧ ∃ k, QuitsIn P k x := fun i x hi hx => by
        have hk := c.kids i x hi hx
        have ho := hF i
        rw [ho] at hk
        refine ⟨ho, ?_⟩
        generalize Tf i = T at hk
        generalize Hl i = hl at hk
        cases hk with
        | left q => exact ⟨_, q⟩
      have hrun : stepT P (crowd gs w sl) = (.ended (.done v) (w.at d), MemOp.ofEvents 0 g.frame.fn g.frame.place es) := hst.trans (runT_many_ended h0 hs)
      refine ⟨0, crowd gs w sl, t, .done v, w.at d, t ++ MemOp.ofEvents 0 g.frame.fn g.frame.place es, rfl, by simp only [runNT, hrun], v, rfl, hp v _ hk (by rw [← hh]; exact c'.core.sat 0) c'.core.far, hT.clean, hT.handed (fun i y hy hy0 => ?_), ⟨fun y hy => ?_, rfl⟩, fun i y hy hi0 => ?_⟩
      · have hlt : y.g < gs.size := by
          rcases getElem?_append_cases hy with ⟨_, hy'⟩ | ⟨_, hyu⟩
          · exact c.core.gsz y (mem_of_getElem? hy')
          · obtain ⟨e, _, rfl⟩ := mem_evs hyu
            exact absurd rfl hy0
        exact ⟨hy0, (left y.g _ hy0 (Array.getElem?_eq_getElem hlt)).1⟩
      · have hy' : y ∈ gs.toList.drop 1 := hy
        obtain ⟨j, hj⟩ := List.getElem?_of_mem hy'
        rw [List.getElem?_drop] at hj
        obtain ⟨_, k, q⟩ := left (1 + j) y (by omega) (by simpa using hj)
        exact ⟨k, (QuitsD.of_quitsIn q).leaves⟩
      · obtain ⟨_, k, q⟩ := left i y hi0 hy
        refine ⟨k, ?_⟩
        rw [hT.word.deaf]; exact (QuitsD.of_quitsIn q).hears _
    · obtain ⟨g', w', u, Hl', Tf', r1, r2, _, r3, r4⟩ := kid_lone (sl := sl') h0 k.1 ei hi hx c'
      obtain ⟨N, last, tl, o, w'', t', e1, e2, e3⟩ := iha Tf' (by rw [← hm]; exact r4) (gs.setIfInBounds i g') w' sl' (t ++ u) Hl' ow (by rw [Array.size_setIfInBounds]; exact hm) (by rw [set_other (fun x => ei x.symm)]; exact h0) (r3.trans hh) r2 hF
      exact ⟨N + 1, last, tl, o, w'', t', runNT_step (hst.trans r1) e1, e2, e3⟩
theorem runNT_trans' {m m' : Machine} {t t' : Trace} {N : Nat} (h : runNT P N m t = (.next m', t')) {M : Nat} {R : Stepped × Trace} (r : runNT P M m' t' = R) : runNT P (N + M) m t = R := by
  induction N generalizing m t with
  | zero =>
    simp only [runNT, Prod.mk.injEq, Stepped.next.injEq] at h
    obtain ⟨rfl, rfl⟩ := h
    rw [Nat.zero_add]; exact r
  | succ N ih =>
    rw [show N + 1 + M = N + M + 1 by omega]; simp only [runNT] at h ⊢
    cases hs : stepT P m with
    | mk s u =>
      rw [hs] at h
      cases s with
      | next m1 => exact ih h
      | ended o w => simp at h
theorem good_star {K : Value → Hp → Prop} {Post : Value → World → Prop} {g : Goroutine} (r : (Md.star P W.heap).R (AtEnd P W.heap K) g []) (hp : ∀ v h w, K v h → Sat W.heap h w → (w.os = W.os ∧ w.output = W.output ∧ w.tape = W.tape) → Post v w) :
    ∃ M last o w' t', runNT P (M + 1) (solo g W) #[] = (.ended o w', t') ∧ runN P M (solo g W) = .next last ∧ step P last = .ended o w' ∧ Conc.Good P Post last o w' t' := by
  have hK : ∀ g h, AtEnd P W.heap K g h → g.status = .running := fun g h k => k.1
  have r0 := r ⟨[], 0, fun _ _ _ _ _ => False⟩ (fun _ => none) (fun _ => rfl)
  have c0 : Cf P W.heap W ⟨[], 0, fun _ _ _ _ _ => False⟩ #[g] W #[] (fun _ => []) (fun _ => .leaf) (fun _ => none) := by
    refine ⟨⟨fun i => ⟨fun i o h => h, by simp, List.Pairwise.nil⟩, fun i j _ c hc => by simp at hc, fun c hc => by simp at hc, fun c hc => by simp at hc, ⟨fun said => ?_, fun op hop => by simp at hop, fun i a b ha => ?_, fun i a b ha => ?_, fun g c hc => by simp at hc, fun i x hx => by simp at hx⟩, ⟨rfl, rfl, rfl⟩, by simp, fun i hi => rfl, fun i x hx => ?_⟩, fun i x hi hx => ?_, rfl, fun _ _ => rfl⟩
    · rintro ⟨i, j, _, ⟨a, b, ha, _⟩, _⟩; simp [Trace.act?] at ha
    · simp [touchAt, Trace.act?] at ha
    · simp [touchAt, Trace.act?] at ha
    · by_cases e : i = 0
      · subst e
        simp at hx
        subst hx
        exact .runs (r0.running hK)
      · rw [Array.getElem?_eq_none (by simp; omega)] at hx; cases hx
    · rw [Array.getElem?_eq_none (by simp; omega)] at hx; cases hx
  obtain ⟨N, Q', g', gs', w', sl', t', Hl', Tf', ow', h1, h2, h3, h4, h5⟩ := run_star hK r0 #[g] W none #[] (fun _ => []) (fun _ => .leaf) (fun _ => none) (by simp) rfl c0 rfl
  obtain ⟨N2, last, tl, o, w'', t'', e1, e2, e3⟩ := run_last (Post := Post) (W := W) h3 (fun v w hk hs hf => hp v _ w hk hs hf) gs'.size Tf' (TLt.acc _ _) gs' w' sl' t' Hl' ow' rfl h2 rfl h4 h5
  have hrun : runNT P (N + N2) (solo g W) #[] = (.next last, tl) := by
    rw [solo_eq_crowd]; exact runNT_trans' h1 e1
  refine ⟨N + N2, last, o, w'', t'', runNT_trans' hrun e2, ?_, ?_, e3⟩
  · rw [← runNT_fst P _ _ #[], hrun]
  · have : (runNT P 1 last tl).1 = .ended o w'' := by rw [e2]
    unfold step
    simp only [runNT] at e2
    cases hs : stepT P last with
    | mk s u =>
      rw [hs] at e2
      cases s with
      | next m1 => simp at e2
      | ended o1 w1 => simp only [Prod.mk.injEq, Stepped.ended.injEq] at e2; obtain ⟨⟨rfl, rfl⟩, _⟩ := e2; rfl
end
end Go.Lo
namespace Go.Lo
open Go.Conc
section
variable {P : Program} {B : Array Obj} {m : Md P B}
theorem top_enter {f : FuncId} {fn : Func} {body : Code} {args l : List Value} {n : Nat} {K : Goroutine → Hp → Prop} {h : Hp} (hf : P.funcs[f]? = some fn) (hb : fn.body = some body) (hn : fn.ntmps = n) (hl : args ++ List.replicate (n - args.length) undef = l)
    (t : m.R K (Gr (bF f) l [] [.code body] []) h) : m.R K (G (Frame.enter P f args.toArray .normal) []) h := by
  have e : Frame.enter P f args.toArray .normal = Fr (bF f) l [] [.code body] := by
    subst hl
    simp [Frame.enter, hf, hb, hn, Fr, bF]
  rw [e]; exact t
theorem run_top {b : Frame} {l : List Value} {todo : List Item} {K : Value → Hp → Prop} {fn : Func} {rs : List ResultVar} {vs : List Value} {v : Value} {h : Hp} (hk : b.kind = .normal) (hf : P.funcs[b.fn]? = some fn) (hi : P.inits.idxOf? b.fn = none) (hr : fn.results = rs.toArray) [ResL P h l rs vs] [ResV vs v] (k : K v h) :
    m.R (AtEnd P B K) (Gret b l [] todo []) h := by
  refine m.stop ⟨rfl, v, k, fun w sw => ?_⟩
  obtain ⟨h1, h2⟩ := reads_res (P := P) (B := B) (h := h) (l := l) (vs := vs) (v := v) hr w sw
  refine ⟨seen P b.fn ((results fn l.toArray).events P w #[]), ?_, fun e he => h2 e (seen_sub _ _ _ e he)⟩
  simp [Gret, Fr, G, stepG, unwind, doReturn, hf, h1, hk, hi, GStep.after]
theorem law_good {W : World} {f : FuncId} {args : Array Value} (r : (Md.star P W.heap).R (AtEnd P W.heap fun v _ => v = .bool true) (G (Frame.enter P f args .normal) []) []) :
    ∃ M last o w' t', runNT P (M + 1) (solo (G (Frame.enter P f args .normal) []) W) #[] = (.ended o w', t') ∧ runN P M (solo (G (Frame.enter P f args .normal) []) W) = .next last ∧ step P last = .ended o w' ∧ Conc.Good P (fun v w' => v = .bool true ∧ RowKit.Below W.heap.size W w') last o w' t' :=
  good_star r fun v h w hk s ho => ⟨hk, ho.1, ho.2.2, ho.2.1, s.size, fun k hk => by rw [Array.getElem?_eq_getElem hk]; exact s.base _ _ (Array.getElem?_eq_getElem hk)⟩
end
theorem returnsInLeavingWide_of_change_and {H : Type} {enc : TypeId × Value → H} {a : Assume} {C : Checked} {os : Os} {f : FuncId} {fn : Func} {s : ChangeSpec} {conds : List PathCond} {apart fresh handsOn again : Bool} {X : World → Array Value → Prop}
    (hX : ∀ (w w' : World) (args : Array Value), w.heap = w'.heap → X w args → X w' args)
    (own : ownKnob C.prog.godebug = none) (started : os.Started) (hfn : C.prog.funcs[f]? = some fn)
    (witness : ∃ (w : World) (tape : Tape) (i : Input), w.os = os ∧ (w.forCall tape i).Shaped C.prog ∧ i.vars = [] ∧ Input.okWide C.prog (w.forCall tape i) .any w.heap.size f i ∧
      ((s.pre enc C.prog fn conds apart (w.forCall tape i).memory i.args ∧ X (w.forCall tape i).memory i.args) ∧ sizedMet enc C.prog fn (OpenSpec.ofChange s) apart (w.forCall tape i).memory i.args) ∧ a.holds C.prog (lone (Frame.enter C.prog f i.args .normal) [] (w.forCall tape i)))
    (runs : ∀ (W : World) (base : Nat) (args : Array Value) (ds gs : List (DataW H)) (before : List MemPlace),
      (∀ (j : Nat) t v, fn.params[j]? = some t → args[j]? = some v → Value.okWide C.prog W .any base t v) →
      DataW.Whole enc C.prog fn.params.toList s.vars apart W args.toList ds gs before → X W args →
      ∃ M last o w' t', runNT C.prog (M + 1) (solo (G (Frame.enter C.prog f args .normal) []) W) #[] = (.ended o w', t') ∧ runN C.prog M (solo (G (Frame.enter C.prog f args .normal) []) W) = .next last ∧
        step C.prog last = .ended o w' ∧ Conc.Good C.prog (fun v W' => s.post enc C.prog fn apart fresh handsOn again W args v W') last o w' t') :
    ReturnsInLeavingWide a C os f .any (fun w args => (s.pre enc C.prog fn conds apart w args ∧ X w args) ∧ sizedMet enc C.prog fn (OpenSpec.ofChange s) apart w args) (s.post enc C.prog fn apart fresh handsOn again) := by
  refine returnsInLeavingWide_of_good own started witness ?_
  intro w tape i _ _ _ hok hpre _
  obtain ⟨_, _, _, fn', hfn', _, _, _, _, hval⟩ := hok
  have e : fn' = fn := Option.some.inj (hfn'.symm.trans hfn)
  subst e
  obtain ⟨⟨⟨ds, gs, before, hw, _⟩, hx⟩, _⟩ := hpre
  have hw' := DataW.Whole.of_heap (w' := w.forCall tape i) (by rfl) hw
  obtain ⟨M, last, o, w', t', h1, h2, h3, h4⟩ := runs (w.forCall tape i) w.heap.size i.args ds gs before hval hw' (hX _ _ _ (by rfl) hx)
  exact ⟨M, last, o, w', t', h1, h2, h3, h4.mono fun v hp => ChangeSpec.post_blind hp⟩
section
variable {H : Type} {enc : TypeId × Value → H} {P : Program} {w : World} {base : Nat} {sp : Nat → Bool} {held : Bool}
theorem rd_of_cell {a : Addr} {v : Value} {h : Hp} (e : w.cell? a = some v) : Rd w.heap h a v := by
  unfold World.cell? at e
  split at e
  · rename_i c t f hb
    split at e
    · cases e
    · rename_i hs
      exact Rd.base (by simpa using hs) hb e
  · cases e
def intsB (P : Program) (kd : IntKind) : Nat → TypeId → Nat → Bool
  | 0, _, _ => false
  | dd + 1, t, k => P.cellsOf t == k && (match P.underlying t with
    | some (.int kk) => kk == kd && k == 1
    | some (.struct fs) => (List.range k).all fun i => (List.range fs.size).any fun j => match fs[j]? with
      | some f => decide (f.offset ≤ i) && decide (i < f.offset + P.cellsOf f.type) && intsB P kd dd f.type (P.cellsOf f.type)
      | none => false
    | _ => false)
theorem intsB_size {kd : IntKind} {dd k : Nat} {t : TypeId} (h : intsB P kd dd t k = true) : P.cellsOf t = k := by
  cases dd with
  | zero => simp [intsB] at h
  | succ dd =>
    unfold intsB at h
    rw [Bool.and_eq_true] at h
    exact eq_of_beq h.1
theorem trod_cells {kd : IntKind} : ∀ (dd : Nat) {t : TypeId} {k fuel : Nat} {cs : List Value} {x : DataW H × List MemPlace}, intsB P kd dd t k = true → DataW.trod enc P w base sp held fuel t cs = some x → cs.length = k ∧ ∀ i, i < k → ∃ n, cs[i]? = some (.int kd n) ∧ (Lit.int kd n).wf = true
  | 0, _, _, _, _, _, hB, _ => by simp [intsB] at hB
  | dd + 1, t, k, fuel, cs, x, hB, h => by
    unfold intsB at hB
    rw [Bool.and_eq_true] at hB
    obtain ⟨hc, hB⟩ := hB
    split at hB
    · rename_i kk hu
      simp only [Bool.and_eq_true, beq_iff_eq] at hB
      obtain ⟨rfl, rfl⟩ := hB
      obtain ⟨n, rfl, _, hw⟩ := DataW.trod_int hu h
      exact ⟨rfl, fun i hi => ⟨n, by rw [show i = 0 by omega]; rfl, hw⟩⟩
    · rename_i fs hu
      obtain ⟨xs, m, _, _, hl, hxl, hx⟩ := DataW.trod_struct hu h
      rw [beq_iff_eq] at hc
      refine ⟨hl.trans hc, fun i hi => ?_⟩
      obtain ⟨j, hj, hf⟩ := List.any_eq_true.1 (List.all_eq_true.1 hB i (List.mem_range.2 hi))
      split at hf
      · rename_i f hfj
        simp only [Bool.and_eq_true, decide_eq_true_eq] at hf
        obtain ⟨⟨h1, h2⟩, h3⟩ := hf
        have e := hx j f hfj
        rw [List.getElem?_eq_getElem (by rw [hxl]; exact List.mem_range.1 hj)] at e
        obtain ⟨_, hall⟩ := trod_cells dd h3 e
        obtain ⟨n, hn, hw⟩ := hall (i - f.offset) (by omega)
        rw [List.getElem?_take, if_pos (by omega), List.getElem?_drop, show f.offset + (i - f.offset) = i by omega] at hn
        exact ⟨n, hn, hw⟩
      · cases hf
    · cases hB
end
end Go.Lo
namespace Go.Proofs
open Go.Lo
open Go.Conc (G)
set_option maxRecDepth 100000
set_option synthInstance.maxSize 100000
set_option synthInstance.maxHeartbeats 1000000
set_option maxHeartbeats 4000000
variable {B : Array Obj}
variable [Laid B]
section
variable {P : Program} {B : Array Obj} {m : Md P B} {ops : Array Oper} {l l' : List Value} {S h h' H : Hp} {C : List Value → Hp → Prop} {i : Nat} {kd : Kd} {r : List (Nat × Kd)}
  {d : Option Tmp} {ty : TypeId} {pos : String} {af : Array Edge} {g : Option (Nat × Bool)}
theorem reads_eqBool {t : TypeId} (hb : P.underlying t = some .bool) (a c : Bool) : Reads P B (Op.equal t (.bool a) (.bool c)) H (a == c) := by
  show Reads P B (Op.equalIn 10000 t (.bool a) (.bool c)) H (a == c)
  unfold Op.equalIn
  exact Reads.bind (still_und hb).reads (Reads.pure _)
theorem k_eqBT {t u : TypeId} {x y : Operand} {a c : Bool} (ho : ops[i]? = some ⟨d, .binOp .eql t x y u, ty, pos, af, g⟩) (hw : Wt ops l g) (hb : P.underlying t = some .bool) [KHeap kd S h H] [ex : OpV l x (.bool a)] [ey : OpV l y (.bool c)] (e : a = c) [PutV l d (.bool true) l'] (q : RegK m S ops r l' h C) : RegK m S ops ((i, kd) :: r) l h C :=
  RegK.rd (v := .bool true) ho hw (by
    subst e
    simp only [execOp, ex.eq, ey.eq]
    refine Reads.value (Reads.bind (a := ()) (Reads.pure _) ?_)
    show Reads P B (Op.equal t (.bool a) (.bool a) >>= fun b => pure (Value.bool b)) H _
    have := reads_eqBool (P := P) (B := B) (H := H) hb a a
    rw [beq_self_eq_true] at this
    exact Reads.bind this (Reads.pure _)) q
end
theorem f19_c (m : Md Tryz.prog B) (h : Hp) {b : Bk} {pm : Option Addr} {nm cm : Nat} {pr : Option Addr} {nr cr : Nat} : FnC m 19 #[bkV b pm nm cm pr nr cr] h fun v h' => h' = h ∧ IsB (20 < (nm : Int) ∨ 20 < (nr : Int)) v := by
  refine fn_enter Tryz.func19 rfl rfl (l := (bkV b pm nm cm pr nr cr) :: uu12) rfl ?_
  intro cf cs K hK
  refine rs2 (by kernel_rfl) ?_; refine k_box rfl zq (fun q1 => k_hp (k_put ?_)); refine aq rfl ?_; refine run_seq ?_; refine run_region [(0, .free), (1, .free), (2, .free), (3, .free), (4, .free), (5, .free), (6, .free), (7, .free), (8, .free), (9, .free), (10, .free)] (by kernel_rfl) (by kernel_rfl) ?_; first | refine k_fa0 rfl zq ?_ | refine k_fa rfl zq ?_
  refine k_ldh rfl zq ?_; refine k_len rfl zq ?_; refine k_gtrS rfl zq (fun hc => ?_) (fun hc => ?_)
  · refine mq rfl ?_; refine k_off rfl rfl ?_; refine k_off rfl rfl ?_; refine k_off rfl rfl ?_; refine k_off rfl rfl ?_; refine k_pickT rfl zq ?_; refine aq rfl ?_; refine run_ret rfl ?_; refine run_res (h) rfl Tryz.func19 rfl weakSub ?_; refine hK _ _ ?_
    first | exact ⟨rfl, IsB.yes (by omega)⟩ | exact ⟨rfl, IsB.no (by omega)⟩
  · refine mq rfl ?_; first | refine k_fa0 rfl rfl ?_ | refine k_fa rfl rfl ?_
    refine k_ldh rfl rfl ?_; refine k_len rfl rfl ?_; refine k_gtrS rfl rfl (fun hc => ?_) (fun hc => ?_)
    · refine k_pickF rfl zq ?_; refine aq rfl ?_; refine run_ret rfl ?_; refine run_res (h) rfl Tryz.func19 rfl weakSub ?_; refine hK _ _ ?_
      first | exact ⟨rfl, IsB.yes (by omega)⟩ | exact ⟨rfl, IsB.no (by omega)⟩
    · refine k_pickF rfl zq ?_; refine aq rfl ?_; refine run_ret rfl ?_; refine run_res (h) rfl Tryz.func19 rfl weakSub ?_; refine hK _ _ ?_
      first | exact ⟨rfl, IsB.yes (by omega)⟩ | exact ⟨rfl, IsB.no (by omega)⟩
section
variable {P : Program} {B : Array Obj} {m : Md P B} {ops : Array Oper} {l l' : List Value} {S h h' H : Hp} {C : List Value → Hp → Prop} {i : Nat} {kd : Kd} {r : List (Nat × Kd)}
  {d : Option Tmp} {ty : TypeId} {pos : String} {af : Array Edge} {g : Option (Nat × Bool)}
theorem k_gtrF {t u : TypeId} {x y : Operand} {a b : Int} {k : IntKind} (ho : ops[i]? = some ⟨d, .binOp .gtr t x y u, ty, pos, af, g⟩) (hw : Wt ops l g) [kh : KHeap kd S h H] [ex : OpV l x (.int k a)] [ey : OpV l y (.int k b)] (e : ¬ b < a) [pt : PutV l d (.bool false) l'] (q : RegK m S ops r l' h C) : RegK m S ops ((i, kd) :: r) l h C := by
  have pq := pt; rw [← decide_eq_false e] at pq; exact k_gtr (l' := l') ho hw q
theorem k_lssF {t u : TypeId} {x y : Operand} {a b : Int} {k : IntKind} (ho : ops[i]? = some ⟨d, .binOp .lss t x y u, ty, pos, af, g⟩) (hw : Wt ops l g) [kh : KHeap kd S h H] [ex : OpV l x (.int k a)] [ey : OpV l y (.int k b)] (e : ¬ a < b) [pt : PutV l d (.bool false) l'] (q : RegK m S ops r l' h C) : RegK m S ops ((i, kd) :: r) l h C := by
  have pq := pt; rw [← decide_eq_false e] at pq; exact k_lss (l' := l') ho hw q
theorem k_rem {t u : TypeId} {x y : Operand} {a b : Nat} (ho : ops[i]? = some ⟨d, .binOp .rem t x y u, ty, pos, af, g⟩) (hw : Wt ops l g) [KHeap kd S h H] [ex : OpV l x (.int .i64 (a : Int))] [ey : OpV l y (.int .i64 (b : Int))] (hb : 0 < b) [PutV l d (.int .i64 ((a % b : Nat) : Int)) l'] (q : RegK m S ops r l' h C) : RegK m S ops ((i, kd) :: r) l h C :=
  RegK.rd (v := .int .i64 ((a % b : Nat) : Int)) ho hw (reads_int ex.eq ey.eq (by simp) (by
    have : (b : Int) ≠ 0 := by omega
    simp only [binOp, Op.intDiv, if_neg this, Int.ofNat_tmod]
    rfl)) q
end
theorem isB_true {p : Prop} {v : Value} (h : IsB p v) (k : p) : v = .bool true := h.elim (fun x => x.2) fun x => absurd k x.1
def chosen (ll : List (List Int)) (k : Nat) : List Int := if ll = [] then [] else ll.getD (k % ll.length) []
theorem chosen_mem {ll : List (List Int)} (h : ll ≠ []) (k : Nat) : chosen ll k ∈ ll := by
  have hl := List.length_pos_iff.2 h
  have hk := Nat.mod_lt k hl
  rw [chosen, if_neg h, List.getD_eq_getElem?_getD, List.getElem?_eq_getElem hk]; exact List.getElem_mem hk
def chosenV (ll : List (List Int)) (vs : List Value) (k : Nat) : Value := if ll = [] then .slice none 0 0 else vs.getD (k % ll.length) undef
theorem chosen_rd {B : Array Obj} {h : Hp} {ll : List (List Int)} {vs : List Value} (rde : RdE B h vs ll) (k : Nat) : RdI B h (chosenV ll vs k) (chosen ll k) := by
  unfold chosenV chosen
  split
  · exact RdI.nil
  · rename_i h0
    obtain ⟨ep, ec, ee, er⟩ := rde.2 (k % ll.length) (Nat.mod_lt _ (List.length_pos_iff.2 h0))
    exact ⟨ep, ec, ee, er⟩
theorem boat_handed {b : Bk} (h0 : bookS b = 0) {l : List Int} (h : l ∈ boatsOf b) : handedS b l = 0 ∧ boat b l ∧ l.length = b.marks.length ∧ Small 959 l := by
  have hb := (List.mem_filter.1 h)
  have hv := valid_of h0
  obtain ⟨h1, h2⟩ := line_of hb.1
  have hs := line_small hv hb.1
  refine ⟨?_, of_decide_eq_true hb.2, h1, hs⟩
  rw [handedS, if_neg (fun e => e h0), lineS, if_neg (fun e => e h1), if_pos fun x hx => ?_]; obtain ⟨i, hi, rfl⟩ := List.getElem_of_mem hx
  have h3 := h2 i (by omega)
  have hm := marksS_zero (ms := b.marks) (by
    unfold bookS at h0
    split at h0
    · omega
    · split at h0
      · contradiction
      · rename_i h; exact Classical.not_not.1 h)
  have h4 := hm.2 (b.marks.getD i default) (by rw [List.getD_eq_getElem?_getD, List.getElem?_eq_getElem (show i < b.marks.length by omega)]; exact List.getElem_mem _)
  unfold okM at h4
  rw [List.getD_eq_getElem?_getD (l := l), List.getElem?_eq_getElem hi] at h3
  simp only [Option.getD_some] at h3
  omega
theorem f48_c (m : Md Tryz.prog B) (h : Hp) {b : Bk} {pm : Option Addr} {nm cm : Nat} {pr : Option Addr} {nr cr : Nat} (rdm : RdS B h 2 (.slice pm nm cm) nm (encs b.marks)) (rdr : RdS B h 4 (.slice pr nr cr) nr (encs b.rules)) : FnC m 48 #[bkV b pm nm cm pr nr cr] h fun v h' => h' = h ∧ IsB (nm ≤ 20 ∧ nr ≤ 20 ∧ bookS b = 0) v := by
  refine fn_enter Tryz.func48 rfl rfl (l := (bkV b pm nm cm pr nr cr) :: uu10) rfl ?_
  intro cf cs K hK
  refine rs2 (by kernel_rfl) ?_; refine k_box rfl zq (fun q1 => k_hp (k_put ?_)); refine aq rfl ?_; refine rs9 (by kernel_rfl) ?_; refine k_ldA rfl zq ?_; refine k_calP (Post := fun v => IsB _ v) rfl zq (by kernel_rfl) (fun H' hH => f19_c m H') ?_; rintro v (⟨hc, rfl⟩ | ⟨hc, rfl⟩)
  · refine k_put ?_; refine k_notT rfl zq ?_; refine mq rfl ?_; refine k_off rfl rfl ?_; refine k_off rfl rfl ?_; refine k_off rfl rfl ?_; refine k_pickF rfl zq ?_; refine aq rfl ?_; refine run_ret rfl ?_; refine run_res (h) rfl Tryz.func48 rfl weakSub ?_; refine hK _ _ ?_
    first | exact ⟨rfl, IsB.yes ⟨by omega, by omega, by omega⟩⟩ | exact ⟨rfl, IsB.no (by omega)⟩
  · refine k_put ?_; refine k_notF rfl zq ?_; refine mq rfl ?_; refine k_ldA rfl rfl ?_; refine k_calP (Post := fun v => v = _) rfl rfl (by kernel_rfl) (fun H' hH => f22_c m H' (rdm.keeps (sq hH)) (by omega) (rdr.keeps (sq hH)) (by omega)) ?_; rintro v rfl; refine k_put ?_; refine k_eqlS rfl rfl (fun hc => ?_) (fun hc => ?_)
    · refine k_pickT rfl zq ?_; refine aq rfl ?_; refine run_ret rfl ?_; refine run_res (h) rfl Tryz.func48 rfl weakSub ?_; refine hK _ _ ?_
      first | exact ⟨rfl, IsB.yes ⟨by omega, by omega, by omega⟩⟩ | exact ⟨rfl, IsB.no (by omega)⟩
    · refine k_pickT rfl zq ?_; refine aq rfl ?_; refine run_ret rfl ?_; refine run_res (h) rfl Tryz.func48 rfl weakSub ?_; refine hK _ _ ?_
      first | exact ⟨rfl, IsB.yes ⟨by omega, by omega, by omega⟩⟩ | exact ⟨rfl, IsB.no (by omega)⟩
theorem f56_c (m : Md Tryz.prog B) (h : Hp) {p : Option Addr} {c : Nat} {ll : List (List Int)} {vs : List Value} (rdv : RdS B h 1 (.slice p ll.length c) ll.length vs) (rde : RdE B h vs ll) (hle : ll.length ≤ 2187) (k : Nat) : FnC m 56 #[.slice p ll.length c, .int .i64 (k : Int)] h fun v h' => h' = h ∧ v = chosenV ll vs k := by
  refine fn_enter Tryz.func56 rfl rfl (l := (.slice p ll.length c) :: (.int .i64 (k : Int)) :: uu13) rfl ?_
  intro cf cs K hK
  refine rs1 (by kernel_rfl) ?_; refine aq rfl ?_; refine run_seq ?_; refine rs3 (by kernel_rfl) ?_; refine mq rfl ?_; refine k_len rfl zq ?_; refine k_eqlS rfl zq (fun hc => ?_) (fun hc => ?_)
  · refine k_nil ?_; refine run_yes ?_; refine rs1 (by kernel_rfl) ?_; refine aq rfl ?_; refine run_ret rfl ?_; refine run_res (h) rfl Tryz.func56 rfl weakSub ?_; refine hK _ _ ?_
    exact ⟨rfl, by rw [chosenV, if_pos (List.length_eq_zero_iff.1 (by omega))]⟩
  · refine k_nil ?_; refine run_no ?_; refine run_skip ?_; refine rs8 (by kernel_rfl) ?_; refine mq rfl ?_; refine mq rfl ?_; refine mq rfl ?_; refine k_len rfl zq ?_; refine k_rem (a := k) (b := ll.length) rfl zq (by omega) ?_; have hlt : k % ll.length < ll.length := Nat.mod_lt _ (by omega)
    obtain ⟨pb, po, rfl⟩ := rdv.ptr (by omega)
    obtain ⟨ep, ec, ee, er⟩ := rde.2 (k % ll.length) hlt
    refine k_ixs rfl zq (by first | rfl | assumption) (by omega) (by omega) ?_; refine k_ld rfl zq (ee ▸ rdv.vat (k % ll.length) (by omega) (by omega)) ?_; refine aq rfl ?_; refine run_ret rfl ?_; refine run_res (h) rfl Tryz.func56 rfl weakSub ?_; refine hK _ _ ?_
    exact ⟨rfl, by rw [chosenV, if_neg (fun e => by rw [e] at hlt; simp at hlt), ee]⟩
theorem straight_facts {b : Bk} (h0 : bookS b = 0) (hb : boatsOf b ≠ []) : openS b 0 = 0 ∧ straightL b = bestBy ltStrain (boatsOf b) ∧ straightN b = strain (straightL b) ∧ straightL b ∈ boatsOf b ∧
    ∀ x ∈ boatsOf b, straightN b ≤ strain x ∧ (strain x = straightN b → before x (straightL b) = false) := by
  have ho : openS b 0 = 0 := by rw [openS, if_neg (fun e => e h0), if_neg (by omega), if_neg hb]
  have e1 : straightL b = bestBy ltStrain (boatsOf b) := by rw [straightL, if_neg (fun e => e ho)]
  have e2 : straightN b = strain (straightL b) := by rw [straightN, if_neg (fun e => e ho), e1]
  obtain ⟨a1, a2⟩ := straight_of hb
  exact ⟨ho, e1, e2, e1 ▸ a1, fun x hx => by rw [e2, e1]; exact a2 x hx⟩
abbrev u16s (zs : List Int) : List Value := zs.map (Value.int .u16)
theorem u16_at {zs : List Int} {k : Nat} (h : k < zs.length) : (u16s zs).getD k undef = .int .u16 (zs.getD k 0) := by
  rw [List.getD_eq_getElem?_getD, List.getD_eq_getElem?_getD, List.getElem?_map, List.getElem?_eq_getElem h]; rfl
theorem getD_all {zs : List Int} {p : Int → Prop} (h : ∀ z ∈ zs, p z) {k : Nat} (hk : k < zs.length) : p (zs.getD k 0) := by
  rw [List.getD_eq_getElem?_getD, List.getElem?_eq_getElem hk]; exact h _ (List.getElem_mem _)
theorem f129_c (m : Md Tryz.prog B) (h : Hp) {p : Option Addr} {n c : Nat} {zs : List Int} (rd : RdS B h 1 (.slice p n c) n (u16s zs)) (hz : ∀ z ∈ zs, 0 ≤ z ∧ z ≤ 65535) (k : Nat) : FnC m 129 #[.slice p n c, .int .i64 (k : Int)] h fun v h' => h' = h ∧ ∃ z : Nat, z ≤ 65535 ∧ v = .int .i64 (z : Int) := by
  refine fn_enter Tryz.func129 rfl rfl (l := (.slice p n c) :: (.int .i64 (k : Int)) :: uu12) rfl ?_
  intro cf cs K hK
  refine rs1 (by kernel_rfl) ?_; refine aq rfl ?_; refine run_seq ?_; refine rs4 (by kernel_rfl) ?_; refine mq rfl ?_; refine mq rfl ?_; refine k_len rfl zq ?_; refine k_lssS rfl zq (fun hc => ?_) (fun hc => ?_)
  · refine k_nil ?_; refine run_yes ?_; refine rs6 (by kernel_rfl) ?_; refine mq rfl ?_; refine mq rfl ?_; have hzl : zs.length = n := by have := rd.len; simpa using this
    obtain ⟨pb, po, rfl⟩ := rd.ptr (by omega)
    refine k_ixs rfl zq (by first | rfl | assumption) (by omega) (by omega) ?_; have hzk := getD_all hz (k := k) (by omega)
    refine k_ld rfl zq (u16_at (zs := zs) (k := k) (by omega) ▸ rd.vat k (by omega) (by omega)) ?_; refine k_conv rfl zq (by kernel_rfl) (n' := zs.getD k 0) (by generalize zs.getD k 0 = gz at hzk ⊢; unfold IntKind.wrap; simp [IntKind.bits, IntKind.signed]; omega) ?_; refine aq rfl ?_; refine run_ret rfl ?_; refine run_res (h) rfl Tryz.func129 rfl weakSub ?_; refine hK _ _ ?_
    exact ⟨rfl, (zs.getD k 0).toNat, by omega, by rw [Int.toNat_of_nonneg (by omega)]⟩
  · refine k_nil ?_; refine run_no ?_; refine run_skip ?_; refine rs1 (by kernel_rfl) ?_; refine aq rfl ?_; refine run_ret rfl ?_; refine run_res (h) rfl Tryz.func129 rfl weakSub ?_; refine hK _ _ ?_
    exact ⟨rfl, 0, by omega, rfl⟩
theorem boats_iff {b : Bk} (h0 : bookS b = 0) {l : List Int} : l ∈ boatsOf b ↔ handedS b l = 0 ∧ boat b l := by
  constructor
  · intro h
    exact ⟨(boat_handed h0 h).1, (boat_handed h0 h).2.1⟩
  · rintro ⟨h1, h2⟩; have hl := (lineS_zero (handedS_zero h1).2).1
    refine List.mem_filter.2 ⟨?_, decide_eq_true h2⟩
    have := (mem_linesOf (ms := b.marks) (k := b.marks.length) (l := l) (Nat.le_refl _)).2 ⟨hl, fun i hi => h2.1 i (by omega)⟩
    rw [List.take_length] at this
    exact this
theorem line_handed {b : Bk} (h0 : bookS b = 0) {l : List Int} (hl : l.length = b.marks.length) (h : ∀ x ∈ l, 0 ≤ x ∧ x ≤ 959) : lineS b.marks.length l = 0 ∧ handedS b l = 0 ∧ lineO b l = openS b 0 ∧ Small 959 l := by
  have e : lineS b.marks.length l = 0 := by rw [lineS, if_neg (fun x => x hl), if_pos h]
  exact ⟨e, by rw [handedS, if_neg (fun x => x h0), e], by rw [lineO, e], lineS_small e⟩
theorem near_facts {b : Bk} (h0 : bookS b = 0) (hb : boatsOf b ≠ []) {ln : List Int} (hl : ln.length = b.marks.length) (h : ∀ x ∈ ln, 0 ≤ x ∧ x ≤ 959) :
    lineO b ln = 0 ∧ nearL b ln ∈ boatsOf b ∧ nearN b ln = sumL (gaps (nearL b ln) ln) ∧ (nearN b ln = 0 ↔ ln ∈ boatsOf b) ∧ (∃ l ∈ boatsOf b, pulledL b ln = unlike l ln) ∧ (∀ l ∈ boatsOf b, ¬ fewer (unlike l ln) (pulledL b ln)) ∧ mustL b ln = mustF (boatsOf b) ln ln.length ∧
    ((pulledL b ln).length : Int) ≤ nearN b ln ∧
    ∀ x ∈ boatsOf b, nearN b ln ≤ sumL (gaps x ln) ∧ (sumL (gaps x ln) = nearN b ln → mostL (gaps (nearL b ln) ln) ≤ mostL (gaps x ln) ∧ (mostL (gaps x ln) = mostL (gaps (nearL b ln) ln) → before x (nearL b ln) = false)) := by
  obtain ⟨_, _, e3, _⟩ := line_handed h0 hl h
  have ho : openS b 0 = 0 := by rw [openS, if_neg (fun e => e h0), if_neg (by omega), if_neg hb]
  have e0 : lineO b ln = 0 := e3.trans ho
  have eL : nearL b ln = bestBy (ltFar ln) (boatsOf b) := by rw [nearL, if_neg (fun e => e e0)]
  have eN : nearN b ln = sumL (gaps (nearL b ln) ln) := by rw [nearN, if_neg (fun e => e e0), eL]
  have eP : pulledL b ln = bestBy ltFewer ((boatsOf b).map fun l => unlike l ln) := by rw [pulledL, if_neg (fun e => e e0)]
  have eM : mustL b ln = mustF (boatsOf b) ln ln.length := by rw [mustL, if_neg (fun e => e e0)]
  obtain ⟨m1, m2⟩ := near_of hb ln
  obtain ⟨f1, f2⟩ := fewest_of (ll := (boatsOf b).map fun l => unlike l ln) (by simpa using hb)
  rw [← eL] at m1 m2
  rw [← eP] at f1 f2
  have len : ∀ x ∈ boatsOf b, x.length = ln.length := fun x hx => ((boat_handed h0 hx).2.2.1).trans hl.symm
  obtain ⟨l0, hl0, el0⟩ := List.mem_map.1 f1
  have pf : ∀ l ∈ boatsOf b, ¬ fewer (unlike l ln) (pulledL b ln) := fun l hl' => f2 _ (List.mem_map.2 ⟨l, hl', rfl⟩)
  refine ⟨e0, m1, eN, ⟨fun e => ?_, fun e => ?_⟩, ⟨l0, hl0, el0.symm⟩, pf, eM, ?_, fun x hx => by rw [eN]; exact m2 x hx⟩
  · rw [eN] at e
    rw [← (gaps_zero (len _ m1)).1 e]; exact m1
  · have := (m2 ln e).1
    rw [(gaps_zero rfl).2 rfl] at this
    have h1 := gaps_unlike (xs := nearL b ln) (ys := ln) (by have := len _ m1; omega)
    rw [eN]; omega
  · have h1 := pf _ m1
    have h2 := gaps_unlike (xs := nearL b ln) (ys := ln) (by have := len _ m1; omega)
    rw [eN]; have : ¬ (unlike (nearL b ln) ln).length < (pulledL b ln).length := fun e => h1 (.inl e)
    omega
theorem asc_nodup {ys : List Int} (h : Asc ys) : ys.Nodup := List.Pairwise.imp (fun h => by omega) h
theorem rules1_of {many : Int} : ∀ {rs : List Ru}, (∀ r ∈ rs, (0 ≤ r.a ∧ r.a < many) ∧ (0 ≤ r.b ∧ r.b < many) ∧ r.a < r.b ∧ -959 ≤ r.lo ∧ r.lo ≤ r.hi ∧ r.hi ≤ 959) → rules1 many rs = 0
  | [], _ => rfl
  | r :: t, h => by
    have h1 := h r List.mem_cons_self
    rw [rules1, if_neg (by omega), if_neg (by omega), if_neg (by omega)]; exact rules1_of fun r' hr => h r' (List.mem_cons_of_mem _ hr)
theorem marks_zero {b : Bk} (h0 : bookS b = 0) : marksS b.marks = 0 ∧ rulesS b.marks.length b.rules = 0 ∧ ¬ (¬ (0 ≤ b.bend ∧ b.bend ≤ 99) ∨ ¬ (0 ≤ b.twist ∧ b.twist ≤ 99) ∨ ¬ (0 ≤ b.turns ∧ b.turns ≤ 5)) := by
  unfold bookS at h0
  split at h0
  · omega
  · rename_i h1
    split at h0
    · contradiction
    · rename_i h; exact ⟨Classical.not_not.1 h, h0, h1⟩
theorem book_rules {b o : Bk} (h0 : bookS b = 0) (e1 : o.bend = b.bend) (e2 : o.twist = b.twist) (e3 : o.turns = b.turns) (em : o.marks = b.marks) (hl : o.rules.length ≤ 4) (hr : ∀ r ∈ o.rules, r ∈ b.rules) : bookS o = 0 := by
  obtain ⟨h1, _, h3⟩ := marks_zero h0
  have hv := valid_of h0
  rw [bookS, e1, e2, e3, em, if_neg h3, if_neg (fun e => e h1), rulesS, if_neg (by omega)]; exact rules1_of fun r h => hv.rules r (hr r h)
def ordB (b : Bk) : Bk := ⟨b.bend, b.twist, b.turns, b.marks, b.rules.reverse⟩

def stfB (b : Bk) (x y z : Nat) : Bk := ⟨min (b.bend + ((x % 9 : Nat) : Int)) 99, min (b.twist + ((y % 9 : Nat) : Int)) 99, min (b.turns + ((z % 4 : Nat) : Int)) 5, b.marks, b.rules⟩
section
variable {P : Program} {B : Array Obj} {m : Md P B} {ops : Array Oper} {l l' : List Value} {S h h' H : Hp} {C : List Value → Hp → Prop} {i : Nat} {kd : Kd} {r : List (Nat × Kd)}
  {d : Option Tmp} {ty : TypeId} {pos : String} {af : Array Edge} {g : Option (Nat × Bool)}
end
theorem setSeg_encs {α : Type} {k : Nat} [Enc α k] {xs : List α} {junk : List Value} {j : Int} {i : Nat} (a : α) (hj : j = i) (hi : i < xs.length) : SetSeg (encs xs ++ junk) (0 + j.toNat * k) (Enc.enc a) (encs (xs.set i a) ++ junk) := by
  subst hj
  have hl : (Enc.enc a).length = k := Enc.len a
  have hle : i * k + k ≤ (encs xs).length := by
    rw [encs_length]; have : (i + 1) * k ≤ xs.length * k := Nat.mul_le_mul_right k hi
    rw [Nat.add_mul] at this; omega
  refine ⟨?_, by rw [Int.toNat_natCast, hl, List.length_append]; omega⟩
  rw [Int.toNat_natCast, Nat.zero_add, hl, List.take_append_of_le_length (by omega), List.drop_append_of_le_length (by omega), ← encs_take, show i * k + k = (i + 1) * k by rw [Nat.add_mul]; omega, ← encs_drop, List.set_eq_take_append_cons_drop, if_pos hi, encs_append]; simp [encs]
def freeM (ms : List Sp) (ln sm : List Int) : Nat → List Sp
  | 0 => ms
  | k + 1 => if (k : Int) ∈ sm then freeM ms ln sm k else (freeM ms ln sm k).set k ⟨ln.getD k 0, ln.getD k 0⟩
theorem own_blk_of {t k n : Nat} {v : Value} {cs : List Value} {new : Hp} (o : OwnS t k v n cs new) (h0 : 0 < n) : ∃ q cap junk, v = .slice (some ⟨q, 0, none⟩) n cap ∧ new = [⟨true, q, .cells (cs ++ junk).toArray t (0, 0)⟩] ∧ n ≤ cap ∧ cs.length + junk.length = cap * k := by
  cases o with
  | nil => omega
  | blk hl hc hn => exact ⟨_, _, _, rfl, rfl, hn, hc⟩
def freeB (b : Bk) (ln sm : List Int) : Bk := ⟨b.bend, b.twist, b.turns, freeM b.marks ln sm b.marks.length, b.rules⟩
def holds1 (b : Bk) (ln sm : List Int) (k : Nat) : Prop := ∀ i : Nat, i < k → (i : Int) ∉ sm → (b.marks.getD i default).lo ≤ ln.getD i 0 ∧ ln.getD i 0 ≤ (b.marks.getD i default).hi
section
variable {P : Program} {B : Array Obj} {m : Md P B} {ops : Array Oper} {l l' : List Value} {S h h' H : Hp} {C : List Value → Hp → Prop} {i : Nat} {kd : Kd} {r : List (Nat × Kd)}
  {d : Option Tmp} {ty : TypeId} {pos : String} {af : Array Edge} {g : Option (Nat × Bool)}
end
theorem asc_filter {xs : List Int} (h : Asc xs) (p : Int → Bool) : Asc (xs.filter p) := List.Pairwise.sublist List.filter_sublist h
theorem asc_firsts (k : Nat) : Asc (firsts k) := by
  unfold firsts
  refine List.pairwise_map.2 ?_
  exact List.Pairwise.imp (fun h => by omega) List.pairwise_lt_range
theorem asc_keptI (mm k : Nat) : Asc (keptI mm k) := asc_filter (asc_firsts _) _
def bitsum (p : Nat → Bool) : Nat → Nat
  | 0 => 0
  | n + 1 => if p n then 2 ^ n + bitsum p n else bitsum p n
theorem bitsum_lt (p : Nat → Bool) : ∀ n, bitsum p n < 2 ^ n
  | 0 => Nat.one_pos
  | n + 1 => by
    have := bitsum_lt p n
    rw [bitsum, Nat.pow_succ]; split <;> omega
theorem bitsum_bit (p : Nat → Bool) : ∀ n i, i < n → (bitsum p n).testBit i = p i
  | 0, i, h => by omega
  | n + 1, i, h => by
    rw [bitsum]; by_cases e : i = n
    · subst e
      have h1 := Nat.testBit_lt_two_pow (bitsum_lt p i)
      split
      · rw [Nat.testBit_two_pow_add_eq, h1]; rename_i h; rw [h]; rfl
      · rename_i h; rw [h1]; exact (Bool.eq_false_iff.2 h).symm
    · have ih := bitsum_bit p n i (by omega)
      split
      · rw [Nat.testBit_two_pow_add_gt (by omega)]; exact ih
      · exact ih
theorem bitN_test (mm i : Nat) : bitN mm i = 1 ↔ mm.testBit i = true := by
  rw [Nat.testBit_eq_decide_div_mod_eq]; unfold bitN; simp
theorem mem_keptI {mm k : Nat} {z : Int} : z ∈ keptI mm k ↔ ∃ i : Nat, i < k ∧ z = (i : Int) ∧ bitN mm i = 1 := by
  unfold keptI
  rw [mem_filter_firsts]; simp
theorem kept_of {n : Nat} {xs : List Int} (ha : Asc xs) (h : ∀ x ∈ xs, 0 ≤ x ∧ x < n) : ∃ mm, mm < 2 ^ n ∧ xs = keptI mm n := by
  refine ⟨bitsum (fun i => decide ((i : Int) ∈ xs)) n, bitsum_lt _ _, asc_ext _ _ ha (asc_keptI _ _) fun z => ?_⟩
  rw [mem_keptI]; constructor
  · intro hz
    have h1 := h z hz
    refine ⟨z.toNat, by omega, by omega, (bitN_test _ _).2 ?_⟩
    rw [bitsum_bit _ _ _ (by omega), show ((z.toNat : Nat) : Int) = z by omega]; exact decide_eq_true hz
  · rintro ⟨i, hi, rfl, hb⟩; have := (bitN_test _ _).1 hb
    rw [bitsum_bit _ _ _ hi] at this
    exact of_decide_eq_true this
def onlyR (rs : List Ru) (xs : List Int) : List Ru := xs.map fun i => rs.getD i.toNat default
def onlyI (b : Bk) (xs : List Int) : Bk := ⟨b.bend, b.twist, b.turns, b.marks, onlyR b.rules xs⟩
theorem onlyI_kept (b : Bk) (mm : Nat) : onlyI b (keptI mm b.rules.length) = onlyB b mm := by
  unfold onlyI onlyB onlyR keptI keptR firsts
  congr 1
  rw [List.filter_map, List.map_map]; congr 1
theorem onlyI_facts {b : Bk} (h0 : bookS b = 0) {xs : List Int} (hx : ∀ x ∈ xs, 0 ≤ x ∧ x < b.rules.length) (hl : xs.length ≤ 4) : bookS (onlyI b xs) = 0 := by
  refine book_rules h0 rfl rfl rfl rfl (by show (onlyR b.rules xs).length ≤ 4; unfold onlyR; rw [List.length_map]; omega) fun r hr => ?_
  obtain ⟨x, hx1, rfl⟩ := List.mem_map.1 hr
  have h1 := hx x hx1
  exact mem_getDR.2 ⟨x.toNat, by omega, rfl⟩
theorem onlyI_boats {b c : Bk} (h1 : bookS b = 0) (hr : ∀ r ∈ c.rules, r ∈ b.rules) (hm : c.marks = b.marks) (hs : c.bend = b.bend ∧ c.twist = b.twist ∧ c.turns = b.turns) {l : List Int} (h : l ∈ boatsOf b) : l ∈ boatsOf c := by
  unfold boatsOf at h ⊢
  obtain ⟨a1, a2⟩ := List.mem_filter.1 h
  obtain ⟨c1, c2, c3⟩ := of_decide_eq_true a2
  rw [← hm] at a1 c1
  exact List.mem_filter.2 ⟨a1, decide_eq_true ⟨c1, fun r hr' => c2 r (hr r hr'), by rw [hs.1, hs.2.1, hs.2.2]; exact c3⟩⟩
theorem keptI_zero (n : Nat) : keptI 0 n = [] := by
  unfold keptI
  refine List.filter_eq_nil_iff.2 fun x _ => ?_
  simp [bitN]
theorem onlyI_nil (b : Bk) : onlyI b [] = onlyB b 0 := by rw [← onlyI_kept, keptI_zero]
theorem clash_facts {b : Bk} {g : List Int} (h0 : bookS b = 0) (ok : ClashOk b g) :
    (boatsOf b ≠ [] ∧ clashS b = 0 ∧ boatsOf (onlyI b []) ≠ [] ∧ g = []) ∨ (boatsOf b = [] ∧ clashS b = 8 ∧ boatsOf (onlyI b []) = [] ∧ g = []) ∨
    (boatsOf b = [] ∧ clashS b = 0 ∧ boatsOf (onlyI b []) ≠ [] ∧ Asc g ∧ (∀ x ∈ g, 0 ≤ x ∧ x < b.rules.length) ∧ g.length ≤ b.rules.length ∧ boatsOf (onlyI b g) = [] ∧
      ∀ xs, Asc xs → (∀ x ∈ xs, 0 ≤ x ∧ x < b.rules.length) → fewer xs g → boatsOf (onlyI b xs) ≠ []) := by
  rw [onlyI_nil]; unfold clashS ClashOk at *
  rw [if_neg (fun e => e h0)]; by_cases h1 : boatsOf b = []
  · rw [if_neg (fun e => e h1)]; by_cases h2 : boatsOf (onlyB b 0) = []
    · rw [if_pos h2]; rw [if_pos (.inr (.inr h2))] at ok
      exact .inr (.inl ⟨h1, rfl, h2, ok⟩)
    · rw [if_neg h2]; rw [if_neg (by rintro (e | e | e); exact e h0; exact e h1; exact h2 e)] at ok
      obtain ⟨⟨mm, m1, m2, rfl⟩, m3⟩ := ok
      refine .inr (.inr ⟨h1, rfl, h2, asc_keptI _ _, fun x hx => ?_, keptI_le _ _, by rw [onlyI_kept]; exact m2, fun xs ha hx hf e => ?_⟩)
      · obtain ⟨i, hi, rfl, _⟩ := mem_keptI.1 hx; omega
      · obtain ⟨nn, n1, rfl⟩ := kept_of ha hx
        rw [onlyI_kept] at e
        exact m3 nn n1 e hf
  · rw [if_pos h1]; rw [if_pos (.inr (.inl h1))] at ok
    refine .inl ⟨h1, rfl, fun e => h1 (List.eq_nil_iff_forall_not_mem.2 fun l hl => ?_), ok⟩
    have := onlyI_boats (c := onlyB b 0) h0 (fun r hr => keptR_mem (Nat.le_refl _) hr) rfl ⟨rfl, rfl, rfl⟩ hl
    rw [e] at this; simp at this
section
variable {P : Program} {B : Array Obj} {m : Md P B} {ops : Array Oper} {l l' : List Value} {S h h' H : Hp} {C : List Value → Hp → Prop} {i : Nat} {kd : Kd} {r : List (Nat × Kd)}
  {d : Option Tmp} {ty : TypeId} {pos : String} {af : Array Edge} {g : Option (Nat × Bool)}
theorem k_gtrT {t u : TypeId} {x y : Operand} {a b : Int} {k : IntKind} (ho : ops[i]? = some ⟨d, .binOp .gtr t x y u, ty, pos, af, g⟩) (hw : Wt ops l g) [kh : KHeap kd S h H] [ex : OpV l x (.int k a)] [ey : OpV l y (.int k b)] (e : b < a) [pt : PutV l d (.bool true) l'] (q : RegK m S ops r l' h C) : RegK m S ops ((i, kd) :: r) l h C := by
  have pq := pt; rw [← decide_eq_true e] at pq; exact k_gtr (l' := l') ho hw q
end
def setB (b : Bk) (st : Nat) (x : Sp) : Bk := ⟨b.bend, b.twist, b.turns, b.marks.set st x, b.rules⟩
def butI (n st : Nat) : List Int := (firsts n).take st ++ (firsts n).drop (st + 1)
theorem heights_three {b : Bk} (h0 : bookS b = 0) {st : Nat} (hst : st < b.marks.length) {ys : List Int} (ha : Asc ys) (hm : ∀ z, z ∈ ys ↔ z ∈ heightsAt (boatsOf b) st) : ys.length ≤ 3 := by
  have hb : ∀ z ∈ ys, (b.marks.getD st default).lo ≤ z ∧ z ≤ (b.marks.getD st default).hi := fun z hz => by
    obtain ⟨l, hl, rfl⟩ := List.mem_map.1 ((hm z).1 hz)
    obtain ⟨_, c2, c3, _⟩ := boat_handed h0 hl
    exact c2.1 st (by omega)
  have hk := (valid_of h0).marks _ (mem_getDR.2 ⟨st, hst, rfl⟩)
  unfold okM at hk
  generalize b.marks.getD st default = x at hb hk
  have hs := List.Nodup.length_le_of_subset (asc_nodup ha) (l₂ := [x.lo, x.lo + 1, x.lo + 2]) fun z hz => by
    have := hb z hz
    simp only [List.mem_cons, List.not_mem_nil, or_false]; omega
  exact hs
def cntsF (ll : List (List Int)) (st : Nat) (ys : List Int) : List Int := ys.map fun y => (countAt ll st y : Int)
section
variable {P : Program} {B : Array Obj} {m : Md P B} {ops : Array Oper} {l l' : List Value} {S h h' H : Hp} {C : List Value → Hp → Prop} {i : Nat} {kd : Kd} {r : List (Nat × Kd)}
  {d : Option Tmp} {ty : TypeId} {pos : String} {af : Array Edge} {g : Option (Nat × Bool)}
end
theorem openS_boats {b : Bk} (h0 : bookS b = 0) (hb : boatsOf b ≠ []) : openS b 0 = 0 := by rw [openS, if_neg (fun e => e h0), if_neg (by omega), if_neg hb]
theorem f36_b (m : Md Tryz.prog B) (h : Hp) {b : Bk} {pm : Option Addr} {nm cm : Nat} {pr : Option Addr} {nr cr : Nat} (rdm : RdS B h 2 (.slice pm nm cm) nm (encs b.marks)) (hm : nm ≤ 1000) (rdr : RdS B h 4 (.slice pr nr cr) nr (encs b.rules)) (hr : nr ≤ 1000) (h0 : bookS b = 0) {st : Nat} (hst : st < nm) : FnC m 36 #[bkV b pm nm cm pr nr cr, .int .i64 (st : Int)] h fun v h' => ∃ new, h' = h ++ new ∧ ∃ w ys, v = .tuple [w, .int .i64 (openS b 0)].toArray ∧ OwnS 3 1 w ys.length (ints ys) new ∧ Asc ys ∧ (∀ z, z ∈ ys ↔ z ∈ heightsAt (boatsOf b) st) ∧ ys.length ≤ 3 := by
  have hml := rdm.elen (by decide)
  refine (f36_c m h (N := 60000) (f152_all _) (by decide) (b := b) rdm hm rdr hr (fun e => by have := boats_le (valid_of e); omega) st).mono ?_
  rintro v h' ⟨new, rfl, w, ys, rfl, ho, ha, hz⟩; rw [if_pos (by omega)] at hz ⊢
  have e : openL b 0 = boatsOf b := by
    by_cases hb : boatsOf b = []
    · rw [openL]; split
      · rfl
      · exact hb.symm
    · rw [openL, if_pos (openS_boats h0 hb)]
  rw [e, Int.toNat_natCast] at hz
  exact ⟨new, rfl, w, ys, rfl, ho, ha, hz, heights_three h0 (by omega) ha hz⟩
theorem f34_b (m : Md Tryz.prog B) (h : Hp) {b : Bk} {pm : Option Addr} {nm cm : Nat} {pr : Option Addr} {nr cr : Nat} (rdm : RdS B h 2 (.slice pm nm cm) nm (encs b.marks)) (hm : nm ≤ 1000) (rdr : RdS B h 4 (.slice pr nr cr) nr (encs b.rules)) (hr : nr ≤ 1000) (h0 : bookS b = 0) : FnC m 34 #[bkV b pm nm cm pr nr cr] h fun v h' => h' = h ∧ v = .tuple [.int .i64 ((boatsOf b).length : Int), .int .i64 0].toArray := by
  have := f34_c m h (b := b) rdm hm rdr hr
  rwa [if_neg (fun e => e h0), h0] at this
def tru (g : List Int) (r : Ru) : Ru := ⟨r.a, r.b, min r.lo (g.getD r.b.toNat 0 - g.getD r.a.toNat 0), max r.hi (g.getD r.b.toNat 0 - g.getD r.a.toNat 0)⟩
def truR (rs : List Ru) (g : List Int) : Nat → List Ru
  | 0 => rs
  | k + 1 => (truR rs g k).set k (tru g (rs.getD k default))
theorem truR_length (rs : List Ru) (g : List Int) : ∀ k, (truR rs g k).length = rs.length
  | 0 => rfl
  | k + 1 => by rw [truR, List.length_set]; exact truR_length rs g k
theorem truR_at (rs : List Ru) (g : List Int) {i : Nat} (hi : i < rs.length) : ∀ k, (truR rs g k).getD i default = if i < k then tru g (rs.getD i default) else rs.getD i default
  | 0 => by rw [if_neg (by omega)]; rfl
  | k + 1 => by
    have ih := truR_at rs g hi k
    have hl := truR_length rs g k
    rw [truR]; by_cases e : i = k
    · subst e
      rw [if_pos (by omega), List.getD_eq_getElem?_getD, List.getElem?_set_self (by omega)]; rfl
    · rw [List.getD_eq_getElem?_getD, List.getElem?_set_ne (fun x => e x.symm), ← List.getD_eq_getElem?_getD, ih]; by_cases e2 : i < k
      · rw [if_pos e2, if_pos (by omega)]
      · rw [if_neg e2, if_neg (by omega)]
theorem truR_all (rs : List Ru) (g : List Int) : truR rs g rs.length = rs.map (tru g) := by
  refine List.ext_getElem (by rw [truR_length, List.length_map]) fun i h1 h2 => ?_
  rw [List.length_map] at h2
  have h := truR_at rs g h2 rs.length
  rw [if_pos h2, List.getD_eq_getElem?_getD, List.getElem?_eq_getElem h1, List.getD_eq_getElem?_getD, List.getElem?_eq_getElem h2] at h
  rw [List.getElem_map]; exact h
def truB (b : Bk) (g : List Int) : Bk := ⟨b.bend, b.twist, b.turns, b.marks, b.rules.map (tru g)⟩
theorem setSeg_ru {xs : List Ru} {junk : List Value} {j : Int} {i : Nat} (r : Ru) (hr : r = xs.getD i default) (lo hi : Int) (hj : j = i) (hi' : i < xs.length) : SetSeg (encs xs ++ junk) (0 + j.toNat * 4 + 2) [.int .i64 lo, .int .i64 hi] (encs (xs.set i ⟨r.a, r.b, lo, hi⟩) ++ junk) := by
  have s := setSeg_encs (junk := junk) (⟨r.a, r.b, lo, hi⟩ : Ru) hj hi'
  obtain ⟨e, hle⟩ := s.eq
  subst hj
  have hv : (Enc.enc (⟨r.a, r.b, lo, hi⟩ : Ru)).length = 4 := rfl
  rw [hv] at hle e
  refine ⟨?_, by simp only [List.length_cons, List.length_nil]; omega⟩
  rw [e]; simp only [Nat.zero_add, Int.toNat_natCast, List.length_cons, List.length_nil] at hle ⊢
  have ht : (encs xs ++ junk).take (i * 4 + 2) = (encs xs ++ junk).take (i * 4) ++ [.int .i64 r.a, .int .i64 r.b] := by
    rw [List.take_add]; congr 1
    have : i * 4 ≤ (encs xs).length := by rw [encs_length]; omega
    rw [List.drop_append_of_le_length this, ← encs_drop, List.drop_eq_getElem_cons hi']; have hr2 : r = xs[i] := by rw [hr, List.getD_eq_getElem?_getD, List.getElem?_eq_getElem hi']; rfl
    rw [← hr2]; rfl
  rw [ht]; simp only [List.append_assoc]
  rfl
theorem real_facts {b : Bk} (h0 : bookS b = 0) {g : List Int} (hg : g ∈ boatsOf (onlyI b [])) : bookS (truB b g) = 0 ∧ g ∈ boatsOf (truB b g) := by
  obtain ⟨m1, m2, m3⟩ := marks_zero h0
  have hv := valid_of h0
  have h1 := onlyI_facts (b := b) h0 (xs := []) (fun x hx => by simp at hx) (by simp)
  obtain ⟨c1, c2, c3, _⟩ := boat_handed h1 hg
  have c3' : g.length = b.marks.length := c3
  have hs := (lineS_zero (handedS_zero c1).2).2
  have hgr : ∀ i, i < b.marks.length → 0 ≤ g.getD i 0 ∧ g.getD i 0 ≤ 959 := fun i hi => hs _ (mem_getD.2 ⟨i, by omega, rfl⟩)
  have h2 : bookS (truB b g) = 0 := by
    rw [bookS]; show (if ¬ (0 ≤ b.bend ∧ b.bend ≤ 99) ∨ ¬ (0 ≤ b.twist ∧ b.twist ≤ 99) ∨ ¬ (0 ≤ b.turns ∧ b.turns ≤ 5) then (1 : Int) else if marksS b.marks ≠ 0 then marksS b.marks else rulesS b.marks.length (b.rules.map (tru g))) = 0
    have hf := hv.few
    rw [if_neg m3, if_neg (fun e => e m1), rulesS, if_neg (by rw [List.length_map]; omega)]; refine rules1_of fun r hr => ?_
    obtain ⟨r0, hr0, rfl⟩ := List.mem_map.1 hr
    have a := hv.rules r0 hr0
    have b1 := hgr r0.a.toNat (by omega)
    have b2 := hgr r0.b.toNat (by omega)
    unfold tru
    simp only
    omega
  refine ⟨h2, (boats_iff h2).2 ⟨by rw [handedS, if_neg (fun e => e h2)]; exact (handedS_zero c1).2, c2.1, fun r hr => ?_, c2.2.2⟩⟩
  obtain ⟨r0, hr0, rfl⟩ := List.mem_map.1 hr
  unfold tru
  simp only
  omega
theorem near_self {b : Bk} (h0 : bookS b = 0) {g : List Int} (hg : g ∈ boatsOf b) : lineO b g = 0 ∧ nearL b g = g ∧ nearN b g = 0 ∧ pulledL b g = [] ∧ mustL b g = [] := by
  obtain ⟨c1, c2, c3, _⟩ := boat_handed h0 hg
  have hs := (lineS_zero (handedS_zero c1).2).2
  obtain ⟨e0, hm, en, hn0, _, hpf, em, _, _⟩ := near_facts h0 (List.ne_nil_of_mem hg) c3 hs
  have en0 := hn0.2 hg
  have hu : unlike g g = [] := by
    refine List.eq_nil_iff_forall_not_mem.2 fun z hz => ?_
    obtain ⟨i, _, _, e⟩ := mem_unlike.1 hz
    exact e rfl
  refine ⟨e0, (gaps_zero ((boat_handed h0 hm).2.2.1.trans c3.symm)).1 (by rw [← en]; exact en0), en0, ?_, ?_⟩
  · have h1 := hpf g hg
    rw [hu] at h1
    refine List.length_eq_zero_iff.1 (Nat.eq_zero_of_not_pos fun h => h1 (.inl h))
  · have h1 := (must_le hg rfl).1
    rw [hu] at h1
    rw [em]; exact List.length_eq_zero_iff.1 (Nat.le_zero.1 h1)
theorem hollow_real {ll : List (List Int)} {g : List Int} (hg : g ∈ ll) (s : Nat) : told (hollowN ll s) ll.length = 0 ∨ (told (hollowN ll s) ll.length = 1 ∧ 0 < (bends g).getD s 0) ∨ (told (hollowN ll s) ll.length = 2 ∧ ¬ 0 < (bends g).getD s 0) := by
  unfold told
  by_cases h1 : (hollowN ll s : Int) = 0
  · rw [if_pos h1]; refine .inr (.inr ⟨rfl, fun h => ?_⟩)
    have : g ∈ ll.filter (fun l => decide (0 < (bends l).getD s 0)) := List.mem_filter.2 ⟨hg, decide_eq_true h⟩
    have := List.length_pos_of_mem this
    unfold hollowN at h1; omega
  · rw [if_neg h1]; split
    · rename_i h2
      refine .inr (.inl ⟨rfl, ?_⟩)
      have h3 : hollowN ll s = ll.length := by omega
      unfold hollowN at h3
      exact of_decide_eq_true (List.length_filter_eq_length_iff.1 h3 g hg)
    · exact .inl rfl
theorem f49_c (m : Md Tryz.prog B) (h : Hp) {b : Bk} {pm : Option Addr} {nm cm : Nat} {pr : Option Addr} {nr cr : Nat} (rdm : RdS B h 2 (.slice pm nm cm) nm (encs b.marks)) (hm : nm ≤ 1000) (hb0 : bookS b = 0) {p : Option Addr} {n c : Nat} {zs : List Int} (rd : RdS B h 1 (.slice p n c) n (u16s zs)) (hz : ∀ z ∈ zs, 0 ≤ z ∧ z ≤ 65535) : FnC m 49 #[bkV b pm nm cm pr nr cr, .slice p n c] h fun v h' => ∃ new, h' = h ++ new ∧ ∃ p2 c2 g, v = .slice p2 g.length c2 ∧ RdS B new 1 (.slice p2 g.length c2) g.length (ints g) ∧ (g = [] ∨ g ∈ boatsOf (onlyI b [])) := by
  have hv := valid_of (onlyI_facts (b := b) hb0 (xs := []) (fun x hx => by simp at hx) (by simp))
  refine fn_enter Tryz.func49 rfl rfl (l := (bkV b pm nm cm pr nr cr) :: (.slice p n c) :: uu9) rfl ?_
  intro cf cs K hK
  refine rs2 (by kernel_rfl) ?_; refine k_box rfl zq (fun q2 => k_hp (k_put ?_)); refine aq rfl ?_; refine rs2 (by kernel_rfl) ?_; first | refine k_fa0 rfl zq ?_ | refine k_fa rfl zq ?_
  refine k_st1 rfl zq ?_; refine k_nil ?_; refine rs6 (by kernel_rfl) ?_; refine k_ldA rfl zq ?_; refine k_calC rfl zq (by kernel_rfl) (Post := fun v new => ∃ vs, RdS B new 1 v (boatsOf (onlyI b [])).length vs ∧ RdE B new vs (boatsOf (onlyI b []))) (fun H' hH => f55_c m H' (b := onlyI b []) (rdm.keeps (sq hH)) hm (⟨none, 0, rfl, rfl, .inl ⟨rfl, rfl⟩⟩ : RdS B H' 4 (.slice none 0 0) 0 (encs (onlyI b []).rules)) (by decide) hv) ?_; rintro v n55 ⟨vs, ⟨pv, cv, rfl, hvl, hvr⟩, rde⟩; have rdv : RdS B n55 1 (.slice pv (boatsOf (onlyI b [])).length cv) (boatsOf (onlyI b [])).length vs := ⟨pv, cv, rfl, hvl, hvr⟩
  refine k_hpA (k_put ?_); refine mq rfl ?_; refine k_calP (Post := fun v => ∃ z : Nat, z ≤ 65535 ∧ v = .int .i64 (z : Int)) rfl zq (by kernel_rfl) (fun H' hH => f129_c m H' (rd.keeps (sq hH)) hz 0) ?_; rintro v ⟨z, hz2, rfl⟩; refine k_put ?_; refine k_calP (Post := fun v => v = chosenV (boatsOf (onlyI b [])) vs z) rfl zq (by kernel_rfl) (fun H' hH => f56_c m H' (rdv.keeps (sq hH)) (rde.keeps (sq hH)) (boats_le hv) z) ?_; rintro v rfl; refine k_put ?_; refine aq rfl ?_; refine run_ret rfl ?_; refine run_res (h ++ n55) rfl Tryz.func49 rfl weakSub ?_; refine hK _ _ ?_
  obtain ⟨pc, cc, ec, rc⟩ := chosen_rd rde z
  refine ⟨n55, rfl, pc, cc, chosen (boatsOf (onlyI b [])) z, ec, rc, ?_⟩
  by_cases he : boatsOf (onlyI b []) = []
  · exact .inl (by rw [chosen, if_pos he])
  · exact .inr (chosen_mem he z)
theorem f50_c (m : Md Tryz.prog B) (h : Hp) {b : Bk} {pm : Option Addr} {nm cm : Nat} {pr : Option Addr} {nr cr : Nat} (rdm : RdS B h 2 (.slice pm nm cm) nm (encs b.marks)) (rdr : RdS B h 4 (.slice pr nr cr) nr (encs b.rules)) (hr : nr ≤ 1000) {p : Option Addr} {n c : Nat} {xs : List Int} (rd : RdS B h 1 (.slice p n c) n (ints xs)) (hn : n ≤ 1000) (hru : ∀ r ∈ b.rules, (0 ≤ r.a ∧ r.a < n) ∧ (0 ≤ r.b ∧ r.b < n)) (hxs : ∀ x ∈ xs, 0 ≤ x ∧ x ≤ 959) : FnC m 50 #[bkV b pm nm cm pr nr cr, .slice p n c] h fun v h' => ∃ new, h' = h ++ new ∧ ∃ rp rc, v = bkV (truB b xs) pm nm cm rp nr rc ∧ RdS B new 4 (.slice rp nr rc) nr (encs (truB b xs).rules) := by
  have hl := rd.ilen
  have hrl := rdr.elen (by decide)
  refine fn_enter Tryz.func50 rfl rfl (l := (bkV b pm nm cm pr nr cr) :: (.slice p n c) :: uu53) rfl ?_
  intro cf cs K hK
  refine rs2 (by kernel_rfl) ?_; refine k_box rfl zq (fun q2 => k_hp (k_put ?_)); refine k_new rfl zq (fun q4 => k_hp (k_put ?_)); refine k_nil ?_; refine rs3 (by kernel_rfl) ?_; refine k_ldA rfl zq ?_; refine k_new rfl zq (fun q5 => k_hp (k_put ?_)); refine k_stA rfl zq rfl ?_; refine k_nil ?_; refine run_seq ?_; rcases Nat.eq_zero_or_pos nr with h3 | h3
  · subst h3
    refine rr6 (by kernel_rfl) ?_; refine k_bs0 kdq rfl zq (fun q10 => k_hp (k_put ?_)); first | refine k_fa0 rfl zq ?_ | refine k_fa rfl zq ?_
    refine k_ldh rfl zq ?_; refine k_app (F := h ++ [⟨true, q2, .cells (bkL b pm nm cm pr 0 cr).toArray 25 (0, 0)⟩, ⟨true, q4, .cells ([.int .i64 0, .int .i64 0, .int .i64 0, .slice none 0 0, .slice none 0 0] : List Value).toArray 25 (0, 0)⟩, ⟨true, q5, .cells ([.int .i64 b.bend, .int .i64 b.twist, .int .i64 b.turns, .slice pm nm cm, .slice pr 0 cr] : List Value).toArray 25 (0, 0)⟩]) rfl zq (Weak.sub (by simp)) OwnS.zero rdr.up (encs_one _) kdq (by omega) (by omega) (fun w9 n9 o9 => k_put ?_); replace o9 : OwnS 94 4 w9 0 (encs b.rules) n9 := by simpa using o9
    obtain ⟨p9, c9, rfl, hcp, r9⟩ := own_rdA (B := B) o9
    first | refine k_fa0 rfl zq ?_ | refine k_fa rfl zq ?_
    refine k_st1 rfl zq ?_; refine k_nil ?_; refine run_seq ?_; refine rs1 (by kernel_rfl) ?_; refine aq rfl ?_; refine run_block ?_; refine run_loop (fun nn l h' => ∃ (k : Nat), nn = k ∧ (k = 0) ∧ (∃ U : Nat → Value, l = [bkV b pm nm cm pr 0 cr, .slice p n c, .pointer (some ⟨q2, 0, none⟩), U 3, .pointer (some ⟨q4, 0, none⟩), .pointer (some ⟨q5, 0, none⟩), .int .i64 (k : Int), U 7, U 8, U 9, U 10, U 11, U 12, U 13, U 14, U 15, U 16, U 17, U 18, U 19, U 20, U 21, U 22, U 23, U 24, U 25, U 26, U 27, U 28, U 29, U 30, U 31, U 32, U 33, U 34, U 35, U 36, U 37, U 38, U 39, U 40, U 41, U 42, U 43, U 44, U 45, U 46, U 47, U 48, U 49, U 50, U 51, U 52, U 53, U 54]) ∧ h ++ [⟨true, q2, .cells (bkL b pm nm cm pr 0 cr).toArray 25 (0, 0)⟩, ⟨true, q4, .cells ([.int .i64 0, .int .i64 0, .int .i64 0, .slice none 0 0, .slice none 0 0] : List Value).toArray 25 (0, 0)⟩, ⟨true, q5, .cells ([.int .i64 b.bend, .int .i64 b.twist, .int .i64 b.turns, .slice pm nm cm, .slice p9 0 c9] : List Value).toArray 25 (0, 0)⟩] ++ n9 = h') _ ⟨0, rfl, rfl, exU rfl, rfl⟩ ?_; rintro nn l h' ⟨k, rfl, hk, ⟨U, rfl⟩, rfl⟩ hnext; refine run_seq ?_; refine rs5 (by kernel_rfl) ?_; refine mq rfl ?_; first | refine k_fa0 rfl zq ?_ | refine k_fa rfl zq ?_
    refine k_ldh rfl zq ?_; refine k_len rfl zq ?_; refine k_lssS rfl zq (fun hc => ?_) (fun hc => ?_)
    · exfalso; omega
    · refine k_nil ?_; refine run_no ?_; refine run_exit rfl ?_; refine rs2 (by kernel_rfl) ?_; refine k_ldA rfl zq ?_; refine k_stA rfl zq rfl ?_; refine k_nil ?_; refine run_ret rfl ?_; refine run_res (h ++ n9) rfl Tryz.func50 rfl weakSub ?_; refine hK _ _ ?_
      have e0 : b.rules = [] := List.length_eq_zero_iff.1 hrl
      exact ⟨n9, rfl, p9, c9, rfl, by rw [truB]; rw [e0] at r9 ⊢; exact r9⟩
  · refine rr6 (by kernel_rfl) ?_; refine k_bs0 kdq rfl zq (fun q10 => k_hp (k_put ?_)); first | refine k_fa0 rfl zq ?_ | refine k_fa rfl zq ?_
    refine k_ldh rfl zq ?_; refine k_app (F := h ++ [⟨true, q2, .cells (bkL b pm nm cm pr nr cr).toArray 25 (0, 0)⟩, ⟨true, q4, .cells ([.int .i64 0, .int .i64 0, .int .i64 0, .slice none 0 0, .slice none 0 0] : List Value).toArray 25 (0, 0)⟩, ⟨true, q5, .cells ([.int .i64 b.bend, .int .i64 b.twist, .int .i64 b.turns, .slice pm nm cm, .slice pr nr cr] : List Value).toArray 25 (0, 0)⟩]) rfl zq (Weak.sub (by simp)) OwnS.zero rdr.up (encs_one _) kdq (by omega) (by omega) (fun w9 n9 o9 => k_put ?_); replace o9 : OwnS 94 4 w9 nr (encs b.rules) n9 := by simpa using o9
    obtain ⟨qm, cp, junk, rfl, rfl, hcp, hcc⟩ := own_blk_of o9 h3
    first | refine k_fa0 rfl zq ?_ | refine k_fa rfl zq ?_
    refine k_st1 rfl zq ?_; refine k_nil ?_; refine run_seq ?_; refine rs1 (by kernel_rfl) ?_; refine aq rfl ?_; refine run_block ?_; refine run_loop (fun nn l h' => ∃ (k : Nat), nn = nr - k ∧ (k ≤ nr) ∧ (∃ U : Nat → Value, l = [bkV b pm nm cm pr nr cr, .slice p n c, .pointer (some ⟨q2, 0, none⟩), U 3, .pointer (some ⟨q4, 0, none⟩), .pointer (some ⟨q5, 0, none⟩), .int .i64 (k : Int), U 7, U 8, U 9, U 10, U 11, U 12, U 13, U 14, U 15, U 16, U 17, U 18, U 19, U 20, U 21, U 22, U 23, U 24, U 25, U 26, U 27, U 28, U 29, U 30, U 31, U 32, U 33, U 34, U 35, U 36, U 37, U 38, U 39, U 40, U 41, U 42, U 43, U 44, U 45, U 46, U 47, U 48, U 49, U 50, U 51, U 52, U 53, U 54]) ∧ h ++ [⟨true, q2, .cells (bkL b pm nm cm pr nr cr).toArray 25 (0, 0)⟩, ⟨true, q4, .cells ([.int .i64 0, .int .i64 0, .int .i64 0, .slice none 0 0, .slice none 0 0] : List Value).toArray 25 (0, 0)⟩, ⟨true, q5, .cells ([.int .i64 b.bend, .int .i64 b.twist, .int .i64 b.turns, .slice pm nm cm, .slice (some ⟨qm, 0, none⟩) nr cp] : List Value).toArray 25 (0, 0)⟩] ++ [⟨true, qm, .cells (encs (truR b.rules xs k) ++ junk).toArray 94 (0, 0)⟩] = h') _ ⟨0, rfl, by omega, exU rfl, rfl⟩ ?_; rintro nn l h' ⟨k, rfl, hk, ⟨U, rfl⟩, rfl⟩ hnext; have htl := truR_length b.rules xs k
    refine run_seq ?_; refine rs5 (by kernel_rfl) ?_; refine mq rfl ?_; first | refine k_fa0 rfl zq ?_ | refine k_fa rfl zq ?_
    refine k_ldh rfl zq ?_; refine k_len rfl zq ?_; refine k_lssS rfl zq (fun hc => ?_) (fun hc => ?_)
    · refine k_nil ?_; refine run_yes ?_; refine run_skip ?_; refine run_seq ?_; refine run_block ?_; refine run_seq ?_; have rdo : RdS B [⟨true, qm, .cells (encs (truR b.rules xs k) ++ junk).toArray 94 (0, 0)⟩] 4 (.slice (some ⟨qm, 0, none⟩) nr cp) nr (encs (truR b.rules xs k)) := (OwnS.blk (t := 94) (k := 4) (n := nr) (cap := cp) (b := qm) (cs := encs (truR b.rules xs k)) (junk := junk) (by rw [encs_length, htl, hrl]) (by rw [encs_length, htl]; rw [encs_length] at hcc; exact hcc) hcp).rd (List.Sublist.refl _)
      have hat : (truR b.rules xs k).getD k default = b.rules.getD k default := by rw [truR_at _ _ (by omega), if_neg (by omega)]
      have hrk := hru (b.rules.getD k default) (mem_getDR.2 ⟨k, by omega, rfl⟩)
      generalize hrr : b.rules.getD k default = r at hrk
      refine rr7 (by kernel_rfl) ?_; first | refine k_fa0 rfl zq ?_ | refine k_fa rfl zq ?_
      refine k_ldh rfl zq ?_; refine mq rfl ?_; refine k_ixs rfl zq (by first | rfl | assumption) (by omega) (by omega) ?_; refine k_ldN (vs := ruL r) rfl zq rfl (by have := rdo.eat (H := h ++ [⟨true, q2, .cells (bkL b pm nm cm pr nr cr).toArray 25 (0, 0)⟩, ⟨true, q4, .cells ([.int .i64 0, .int .i64 0, .int .i64 0, .slice none 0 0, .slice none 0 0] : List Value).toArray 25 (0, 0)⟩, ⟨true, q5, .cells ([.int .i64 b.bend, .int .i64 b.twist, .int .i64 b.turns, .slice pm nm cm, .slice (some ⟨qm, 0, none⟩) nr cp] : List Value).toArray 25 (0, 0)⟩] ++ [⟨true, qm, .cells (encs (truR b.rules xs k) ++ junk).toArray 94 (0, 0)⟩]) k (j := (k : Int)) rfl (by omega); rw [hat, hrr] at this; exact this) ?_; refine k_new rfl zq (fun q7 => k_hp (k_put ?_)); refine k_stA rfl zq rfl ?_; refine k_nil ?_; refine run_seq ?_; refine run_draw [(0, .pure), (1, .pure), (5, .pure), (6, .pure), (2, .read), (3, .pure), (4, .read), (7, .read), (8, .pure), (9, .read), (10, .pure), (11, .pure)] (by kernel_rfl) (by kernel_rfl) (List.Sublist.refl _) ?_; refine mq rfl ?_; first | refine k_fa0 rfl zq ?_ | refine k_fa rfl zq ?_
      refine mq rfl ?_; first | refine k_fa0 rfl zq ?_ | refine k_fa rfl zq ?_
      refine k_ldh rfl zq ?_; obtain ⟨pb, po, rfl⟩ := rd.ptr (by omega)
      refine k_ixs rfl zq (by first | rfl | assumption) (by omega) (by omega) ?_; refine k_ld rfl zq (rd.iat r.b.toNat (by omega) (by omega)) ?_; refine k_ldh rfl zq ?_; refine k_ixs rfl zq (by first | rfl | assumption) (by omega) (by omega) ?_; have hg1 := hxs _ (mem_getD.2 ⟨r.b.toNat, by omega, rfl⟩)
      have hg2 := hxs _ (mem_getD.2 ⟨r.a.toNat, by omega, rfl⟩)
      refine k_ld rfl zq (rd.iat r.a.toNat (by omega) (by omega)) ?_; refine k_sub rfl zq (by unfold In64; omega) ?_; refine aq rfl ?_; refine run_draw [(0, .pure), (2, .pure), (3, .pure), (4, .pure), (6, .pure), (8, .pure), (9, .pure), (11, .pure), (1, .read), (5, .read), (7, .pure), (10, .read), (12, .pure), (13, .keep), (14, .pure), (15, .pure), (16, .free)] (by kernel_rfl) (by kernel_rfl) (List.Sublist.refl _) ?_; first | refine k_fa0 rfl zq ?_ | refine k_fa rfl zq ?_
      refine mq rfl ?_; first | refine k_fa0 rfl zq ?_ | refine k_fa rfl zq ?_
      first | refine k_fa0 rfl zq ?_ | refine k_fa rfl zq ?_
      refine mq rfl ?_; first | refine k_fa0 rfl zq ?_ | refine k_fa rfl zq ?_
      first | refine k_fa0 rfl zq ?_ | refine k_fa rfl zq ?_
      refine mq rfl ?_; refine k_ldh rfl zq ?_; refine k_ldh rfl zq ?_; refine k_min rfl zq ?_; refine k_ldh rfl zq ?_; refine k_max rfl zq ?_; refine k_calP (Post := fun v => v = _) rfl zq (by kernel_rfl) (fun H' hH => f90_c m H' _ _) ?_; rintro v rfl; refine k_put ?_; refine k_ixs rfl zq (by first | rfl | assumption) (by omega) (by omega) ?_; first | refine k_fa0 rfl zq ?_ | refine k_fa rfl zq ?_
      haveI hsg : SetSeg (encs (truR b.rules xs k) ++ junk) (0 + (k : Int).toNat * 4 + 2) [.int .i64 (min r.lo (xs.getD r.b.toNat 0 - xs.getD r.a.toNat 0)), .int .i64 (max r.hi (xs.getD r.b.toNat 0 - xs.getD r.a.toNat 0))] (encs (truR b.rules xs (k + 1)) ++ junk) := by
        have := setSeg_ru (junk := junk) (xs := truR b.rules xs k) (j := (k : Int)) r (by rw [hat, hrr]) (min r.lo (xs.getD r.b.toNat 0 - xs.getD r.a.toNat 0)) (max r.hi (xs.getD r.b.toNat 0 - xs.getD r.a.toNat 0)) rfl (by omega)
        rw [truR, hrr]; exact this
      refine k_stA rfl zq rfl ?_; refine k_nil ?_; refine run_inBlock ?_; refine rr3 (by kernel_rfl) ?_; refine mq rfl ?_; refine k_add rfl zq (by unfold In64; omega) ?_; refine aq rfl ?_; exact m.weak weakSub (hnext _ _ _ (by omega) ⟨k + 1, rfl, by omega, exU rfl, rfl⟩)
    · refine k_nil ?_; refine run_no ?_; refine run_exit rfl ?_; refine rs2 (by kernel_rfl) ?_; refine k_ldA rfl zq ?_; refine k_stA rfl zq rfl ?_; refine k_nil ?_; refine run_ret rfl ?_; refine run_res (h ++ [⟨true, qm, .cells (encs (truR b.rules xs k) ++ junk).toArray 94 (0, 0)⟩]) rfl Tryz.func50 rfl weakSub ?_; refine hK _ _ ?_
      obtain rfl : k = nr := by omega
      exact ⟨_, rfl, _, cp, rfl, by rw [truB, ← truR_all, hrl]; exact (OwnS.blk (t := 94) (k := 4) (n := k) (cap := cp) (b := qm) (cs := encs (truR b.rules xs k)) (junk := junk) (by rw [encs_length, truR_length, hrl]) (by rw [encs_length, truR_length]; rw [encs_length] at hcc; exact hcc) hcp).rd (List.Sublist.refl _)⟩
theorem f5_t (h : Hp) {b : Bk} {pm : Option Addr} {nm cm : Nat} {pr : Option Addr} {nr cr : Nat} (rdm : RdS B h 2 (.slice pm nm cm) nm (encs b.marks)) (rdr : RdS B h 4 (.slice pr nr cr) nr (encs b.rules)) {p : Option Addr} {n c : Nat} {zs : List Int} (rd : RdS B h 1 (.slice p n c) n (u16s zs)) (hz : ∀ z ∈ zs, 0 ≤ z ∧ z ≤ 65535) {x : Nat} (hx : x ≤ 255) : (Md.star Tryz.prog B).R (AtEnd Tryz.prog B fun v _ => v = .bool true) (G (Frame.enter Tryz.prog 5 #[bkV b pm nm cm pr nr cr, .slice p n c, .int .u8 (x : Int)] .normal) []) h := by
  refine top_enter Tryz.func5 rfl rfl (l := (bkV b pm nm cm pr nr cr) :: (.slice p n c) :: (.int .u8 (x : Int)) :: uu219) rfl ?_
  refine rs2 (by kernel_rfl) ?_; refine k_box rfl zq (fun q3 => k_hp (k_put ?_)); refine aq rfl ?_; refine run_seq ?_; refine rs3 (by kernel_rfl) ?_; refine k_ldA rfl zq ?_; refine k_calP (Post := fun v => IsB _ v) rfl zq (by kernel_rfl) (fun H' hH => f48_c _ H' (rdm.keeps (sq hH)) (rdr.keeps (sq hH))) ?_; rintro v (⟨hc, rfl⟩ | ⟨hc, rfl⟩)
  · refine k_put ?_; refine k_notT rfl zq ?_; refine k_nil ?_; refine run_no ?_; refine run_skip ?_; refine run_seq ?_; obtain ⟨hm20, hr20, hb0⟩ : nm ≤ 20 ∧ nr ≤ 20 ∧ bookS b = 0 := by assumption
    have hm : nm ≤ 1000 := by omega
    have hr : nr ≤ 1000 := by omega
    have hml := rdm.elen (by decide)
    have hv := valid_of hb0
    have hbl := boats_le hv
    have hmany := hv.many
    have hrl := rdr.elen (by decide)
    refine rr4 (by kernel_rfl) ?_; refine k_ldA rfl zq ?_; refine mq rfl ?_; refine k_calC rfl zq (by kernel_rfl) (Post := fun v new => ∃ p2 c2 g, v = .slice p2 g.length c2 ∧ RdS B new 1 (.slice p2 g.length c2) g.length (ints g) ∧ (g = [] ∨ g ∈ boatsOf (onlyI b []))) (fun H' hH => f49_c _ H' (b := b) (rdm.keeps (sq hH)) hm hb0 (rd.keeps (sq hH)) hz) ?_; rintro v n49 ⟨p49, c49, g, rfl, r49, hg49⟩; refine k_hpA (k_put ?_); refine aq rfl ?_; refine run_seq ?_; refine run_seq ?_; rcases hg49 with rfl | hg
    · refine rr3 (by kernel_rfl) ?_; refine mq rfl ?_; refine k_len rfl zq ?_; refine k_eqlT rfl zq rfl ?_; refine k_nil ?_; refine run_yes ?_; refine rs2 (by kernel_rfl) ?_; refine k_cal rfl zq (by kernel_rfl) (f20_c _) ?_; rintro v h' ⟨nF, rfl, rfl⟩; refine k_put ?_; refine aq rfl ?_; refine run_ret rfl ?_; refine run_top rfl Tryz.func5 (by kernel_rfl) rfl ?_; rfl
    · have hgl : g.length = b.marks.length := (boat_handed (onlyI_facts (b := b) hb0 (xs := []) (fun x hx => by simp at hx) (by simp)) hg).2.2.1
      obtain ⟨hT0, hgT⟩ := real_facts hb0 hg
      have hgx : ∀ x ∈ g, 0 ≤ x ∧ x ≤ 959 := (lineS_zero (handedS_zero (boat_handed hT0 hgT).1).2).2
      refine rr3 (by kernel_rfl) ?_; refine mq rfl ?_; refine k_len rfl zq ?_; refine k_eqlF rfl zq (by omega) ?_; refine k_nil ?_; refine run_no ?_; refine run_skip ?_; refine rs4 (by kernel_rfl) ?_; refine k_ldA rfl zq ?_; refine mq rfl ?_; refine k_calC rfl zq (by kernel_rfl) (Post := fun v new => ∃ rp rc, v = bkV (truB b g) pm nm cm rp nr rc ∧ RdS B new 4 (.slice rp nr rc) nr (encs (truB b g).rules)) (fun H' hH => f50_c _ H' (b := b) (rdm.keeps (sq hH)) (rdr.keeps (sq hH)) hr (r49.keeps (sq hH)) (by omega) (fun r hr => by have := hv.rules r hr; omega) hgx) ?_; rintro v n50 ⟨rp, rc, rfl, rrT⟩; have rdmT : RdS B h 2 (.slice pm nm cm) nm (encs (truB b g).marks) := rdm
      have hmT : (truB b g).marks.length = nm := hml
      have hvT := valid_of hT0
      have hbnT := List.ne_nil_of_mem hgT
      obtain ⟨so, _, sN, sM, sA⟩ := straight_facts hT0 hbnT
      obtain ⟨e1, e2, e3, e4, e5⟩ := near_self hT0 hgT
      obtain ⟨hgh, hgb, _, hgs⟩ := boat_handed hT0 hgT
      have hposT := List.length_pos_iff.2 hbnT
      have hstr := (sA g hgT).1
      generalize truB b g = bT at rrT rdmT hmT hvT hbnT so sN sM sA e1 e2 e3 e4 e5 hgh hgb hposT hstr hT0 hgT ⊢
      refine k_hpA (k_put ?_); refine k_stA rfl zq rfl ?_; refine k_nil ?_; refine rs6 (by kernel_rfl) ?_; refine mq rfl ?_; refine k_conv rfl zq (by kernel_rfl) (n' := (x : Int)) (by unfold IntKind.wrap; simp [IntKind.bits, IntKind.signed]; omega) ?_; refine mq rfl ?_; refine k_len rfl zq ?_; refine k_rem (a := x) (b := g.length) rfl zq (by omega) ?_; have hst := Nat.mod_lt x (show g.length > 0 by omega)
      generalize x % g.length = st at hst ⊢
      refine aq rfl ?_; refine rs8 (by kernel_rfl) ?_; refine k_ldA rfl zq ?_; refine mq rfl ?_; refine k_calP (Post := fun v => v = .tuple [.bool true, .int .i64 0].toArray) rfl zq (by kernel_rfl) (fun H' hH => (f32_c _ H' (b := bT) (xs := g) (rdmT.keeps (sq hH)) hm (rrT.keeps (sq hH)) hr (r49.keeps (sq hH)) (by omega)).mono fun v h' ⟨e, w, ev, hw⟩ => ⟨e, by rw [ev, hgh, isB_true hw ⟨hgh, hgb⟩]⟩) ?_; rintro v rfl; refine k_put ?_; refine mq rfl ?_; refine k_ext0 rfl zq ?_; refine k_ext1 rfl zq ?_; refine k_as rfl zq ?_; refine aq rfl ?_; refine rs7 (by kernel_rfl) ?_; refine k_ldA rfl zq ?_; refine k_calP (Post := fun v => v = .tuple [.int .i64 ((boatsOf bT).length : Int), .int .i64 0].toArray) rfl zq (by kernel_rfl) (fun H' hH => f34_b _ H' (b := bT) (rdmT.keeps (sq hH)) hm (rrT.keeps (sq hH)) hr hT0) ?_; rintro v rfl; refine k_put ?_; refine mq rfl ?_; refine k_ext0 rfl zq ?_; refine k_ext1 rfl zq ?_; refine k_as rfl zq ?_; refine aq rfl ?_; refine rs8 (by kernel_rfl) ?_; refine k_ldA rfl zq ?_; refine mq rfl ?_; refine k_calC rfl zq (by kernel_rfl) (Post := fun v new => ∃ w ys, v = .tuple [w, .int .i64 (openS bT 0)].toArray ∧ OwnS 3 1 w ys.length (ints ys) new ∧ Asc ys ∧ (∀ z, z ∈ ys ↔ z ∈ heightsAt (boatsOf bT) st) ∧ ys.length ≤ 3) (fun H' hH => f36_b _ H' (b := bT) (rdmT.keeps (sq hH)) hm (rrT.keeps (sq hH)) hr hT0 (by omega)) ?_; rintro v n36 ⟨w36, y36, rfl, o36, ha36, hm36, hl36⟩; obtain ⟨p36, c36, rfl, _, r36⟩ := own_rdA (B := B) o36
      have hin36 : g.getD st 0 ∈ y36 := (hm36 _).2 (List.mem_map.2 ⟨g, hgT, rfl⟩)
      refine k_hpA (k_put ?_); refine mq rfl ?_; refine k_ext0 rfl zq ?_; refine k_ext1 rfl zq ?_; refine k_as rfl zq ?_; refine aq rfl ?_; refine rs9 (by kernel_rfl) ?_; refine k_ldA rfl zq ?_; refine k_calC rfl zq (by kernel_rfl) (Post := fun v new => ∃ w, v = .tuple [w, .int .i64 (straightN bT), .int .i64 (openS bT 0)].toArray ∧ RdI B new w (straightL bT)) (fun H' hH => by have := f40_c (Md.star Tryz.prog B) H' (b := bT) (rdmT.keeps (sq hH)) hm (rrT.keeps (sq hH)) hr; exact this) ?_; rintro v n11 ⟨w11, rfl, p11, c11, rfl, r11⟩; refine k_hpA (k_put ?_); refine mq rfl ?_; refine k_ext0 rfl zq ?_; refine k_ext1 rfl zq ?_; refine k_ext2 rfl zq ?_; refine k_as rfl zq ?_; refine k_as rfl zq ?_; refine aq rfl ?_; refine rs10 (by kernel_rfl) ?_; refine k_ldA rfl zq ?_; refine mq rfl ?_; refine k_calC rfl zq (by kernel_rfl) (Post := fun v new => ∃ w, v = .tuple [w, .int .i64 (0), .int .i64 (0)].toArray ∧ RdI B new w (g)) (fun H' hH => by have := f42_c (Md.star Tryz.prog B) H' (b := bT) (xs := g) (rdmT.keeps (sq hH)) hm (rrT.keeps (sq hH)) hr (r49.keeps (sq hH)) (by omega); rw [e1, e2, e3] at this; exact this) ?_; rintro v n12 ⟨w12, rfl, p12, c12, rfl, r12⟩; refine k_hpA (k_put ?_); refine mq rfl ?_; refine k_ext0 rfl zq ?_; refine k_ext1 rfl zq ?_; refine k_ext2 rfl zq ?_; refine k_as rfl zq ?_; refine k_as rfl zq ?_; refine aq rfl ?_; refine rs8 (by kernel_rfl) ?_; refine k_ldA rfl zq ?_; refine mq rfl ?_; refine k_calC rfl zq (by kernel_rfl) (Post := fun v new => ∃ w, v = .tuple [w, .int .i64 (0)].toArray ∧ RdI B new w ([])) (fun H' hH => by have := f44_c (Md.star Tryz.prog B) H' (b := bT) (xs := g) (rdmT.keeps (sq hH)) hm (rrT.keeps (sq hH)) hr (r49.keeps (sq hH)) (by omega); rw [e1, e4] at this; exact this) ?_; rintro v n13 ⟨w13, rfl, p13, c13, rfl, r13⟩
      refine k_hpA (k_put ?_); refine mq rfl ?_; refine k_ext0 rfl zq ?_; refine k_ext1 rfl zq ?_; refine k_as rfl zq ?_; refine aq rfl ?_; refine rs8 (by kernel_rfl) ?_; refine k_ldA rfl zq ?_; refine mq rfl ?_; refine k_calC rfl zq (by kernel_rfl) (Post := fun v new => ∃ w, v = .tuple [w, .int .i64 (0)].toArray ∧ RdI B new w ([])) (fun H' hH => by have := f46_c (Md.star Tryz.prog B) H' (b := bT) (xs := g) (rdmT.keeps (sq hH)) hm (rrT.keeps (sq hH)) hr (r49.keeps (sq hH)) (by omega); rw [e1, e5] at this; exact this) ?_; rintro v n14 ⟨w14, rfl, p14, c14, rfl, r14⟩; refine k_hpA (k_put ?_); refine mq rfl ?_; refine k_ext0 rfl zq ?_; refine k_ext1 rfl zq ?_; refine k_as rfl zq ?_; refine aq rfl ?_; refine rs7 (by kernel_rfl) ?_; refine k_ldA rfl zq ?_; refine k_cal rfl zq (by kernel_rfl) (f51_c _ (b := bT) (rdmT.keeps SubH.sub) hm (rrT.keeps SubH.sub) hr) ?_; rintro v h' ⟨nC, rfl, wC, gC, rfl, ⟨pC, cC, rfl, rdC⟩, okC, _⟩; refine k_put ?_; obtain ⟨eC, rfl⟩ : clashS bT = 0 ∧ gC = [] := by
        rcases clash_facts hT0 okC with ⟨_, a, _, c⟩ | ⟨a, _⟩ | ⟨a, _⟩
        · exact ⟨a, c⟩
        · exact absurd a hbnT
        · exact absurd a hbnT
      rw [eC, so]; replace rdmT := rdmT.ro
      replace rrT := rrT.ro
      replace r49 := r49.ro
      replace r36 := r36.ro
      replace r12 := r12.ro
      refine mq rfl ?_; refine k_ext0 rfl zq ?_; refine k_ext1 rfl zq ?_; refine k_as rfl zq ?_; refine aq rfl ?_; refine run_seq ?_; refine run_seq ?_; refine run_region [(0, .free), (1, .free), (2, .free), (3, .free), (4, .free), (5, .free), (6, .free), (7, .free), (8, .free), (9, .free), (10, .free), (11, .free), (12, .free), (13, .free), (14, .free), (15, .free), (16, .free), (17, .free), (18, .free), (19, .free), (20, .free), (21, .free), (22, .free), (23, .free), (24, .free), (25, .free), (26, .free), (27, .free), (28, .free), (29, .free), (30, .free), (31, .free), (32, .free), (33, .free), (34, .free), (35, .free), (36, .free), (37, .free), (38, .free), (39, .free), (40, .free), (41, .free), (42, .free), (43, .free), (44, .free), (45, .free), (46, .free), (47, .free), (48, .free), (49, .free), (50, .free), (51, .free), (52, .free), (53, .free), (54, .free), (55, .free), (56, .free), (57, .free), (58, .free), (59, .free), (60, .free), (61, .free), (62, .free), (63, .free), (64, .free), (65, .free), (66, .free), (67, .free), (68, .free), (69, .free), (70, .free), (71, .free), (72, .free), (73, .free), (74, .free), (75, .free), (76, .free), (77, .free)] (by kernel_rfl) (by kernel_rfl) ?_; refine mq rfl ?_; refine k_neqF rfl zq rfl ?_; refine mq rfl ?_; refine k_mv rfl rfl ?_; refine k_neqF rfl rfl rfl ?_; refine k_pickF rfl zq ?_; refine mq rfl ?_; refine k_mv rfl rfl ?_; refine k_neqF rfl rfl rfl ?_; refine k_pickF rfl zq ?_; refine mq rfl ?_; refine k_mv rfl rfl ?_; refine k_neqF rfl rfl rfl ?_; refine k_pickF rfl zq ?_; refine mq rfl ?_; refine k_mv rfl rfl ?_; refine k_neqF rfl rfl rfl ?_; refine k_pickF rfl zq ?_; refine mq rfl ?_; refine k_mv rfl rfl ?_; refine k_neqF rfl rfl rfl ?_; refine k_pickF rfl zq ?_; refine mq rfl ?_; refine k_mv rfl rfl ?_; refine k_neqF rfl rfl rfl ?_; refine k_pickF rfl zq ?_; refine mq rfl ?_; refine k_mv rfl rfl ?_; refine k_neqF rfl rfl rfl ?_; refine k_pickF rfl zq ?_
      refine mq rfl ?_; refine k_mv rfl rfl ?_; refine k_notT rfl rfl ?_; refine k_pickF rfl zq ?_; refine mq rfl ?_; refine k_mv rfl rfl ?_; refine k_lssF rfl rfl (by omega) ?_; refine k_pickF rfl zq ?_; refine mq rfl ?_; refine k_mv rfl rfl ?_; refine k_mv rfl rfl ?_; refine k_mv rfl rfl ?_; obtain ⟨gb, go, rfl⟩ := r49.ptr (by omega)
      refine k_ixs rfl rfl (by first | rfl | assumption) (by omega) (by omega) ?_; refine k_ld rfl rfl (r49.iat st rfl (by omega)) ?_; refine k_calP (Post := fun v => IsB _ v) rfl rfl (by kernel_rfl) (fun H' hH => f52_c _ H' _ (r36.keeps (sq hH)) (by omega)) ?_; rintro v (⟨hc, rfl⟩ | ⟨hc, rfl⟩)
      · refine k_put ?_; refine k_notT rfl rfl ?_; refine k_pickF rfl zq ?_; refine mq rfl ?_; refine k_mv rfl rfl ?_; refine k_mv rfl rfl ?_; refine k_calP (Post := fun v => v = _) rfl rfl (by kernel_rfl) (fun H' hH => f53_c _ H' (r49.keeps (sq hH)) (by omega) (hgs.le (show 959 ≤ 100000 by omega))) ?_; rintro v rfl; refine k_put ?_; refine k_gtrF rfl rfl (by omega) ?_; refine k_pickF rfl zq ?_; refine mq rfl ?_; refine k_mv rfl rfl ?_; refine k_neqF rfl rfl rfl ?_; refine k_pickF rfl zq ?_; refine mq rfl ?_; refine k_mv rfl rfl ?_; refine k_mv rfl rfl ?_; refine k_calP (Post := fun v => IsB _ v) rfl rfl (by kernel_rfl) (fun H' hH => f31_c _ H' (r12.keeps (sq hH)) (by omega) (r49.keeps (sq hH))) ?_; rintro v (⟨hc, rfl⟩ | ⟨hc, rfl⟩)
        · refine k_put ?_; refine k_notT rfl rfl ?_; refine k_pickF rfl zq ?_; refine mq rfl ?_; refine k_mv rfl rfl ?_; refine k_len rfl rfl ?_; refine k_gtrF rfl rfl (by decide) ?_; refine k_pickF rfl zq ?_; refine mq rfl ?_; refine k_mv rfl rfl ?_; refine k_len rfl rfl ?_; refine k_gtrF rfl rfl (by decide) ?_; refine k_pickF rfl zq ?_; refine mq rfl ?_; refine k_mv rfl rfl ?_; refine k_len rfl rfl ?_; refine k_gtrF rfl rfl (by decide) ?_; refine k_pickF rfl zq ?_; refine k_nil ?_; refine run_no ?_; refine run_skip ?_; refine run_seq ?_; refine rs9 (by kernel_rfl) ?_; refine mq rfl ?_; refine k_eqlS rfl zq (fun hc => ?_) (fun hc => ?_)
          · refine mq rfl ?_; refine k_off rfl rfl ?_; refine k_off rfl rfl ?_; refine k_off rfl rfl ?_; refine k_off rfl rfl ?_; refine k_off rfl rfl ?_; refine k_pickT rfl zq ?_; refine k_nil ?_; refine run_yes ?_; refine rs2 (by kernel_rfl) ?_; refine k_cal rfl zq (by kernel_rfl) (f20_c _) ?_; rintro v h' ⟨nF, rfl, rfl⟩; refine k_put ?_; refine aq rfl ?_; refine run_ret rfl ?_; refine run_top rfl Tryz.func5 (by kernel_rfl) rfl ?_; rfl
          · refine mq rfl ?_; refine k_mv rfl rfl ?_; refine k_mv rfl rfl ?_; refine k_len rfl rfl ?_; refine k_sub rfl rfl (by unfold In64; omega) ?_; refine k_eqlS rfl rfl (fun hc => ?_) (fun hc => ?_)
            · refine k_pickF rfl zq ?_; refine k_nil ?_; refine run_yes ?_; refine rs2 (by kernel_rfl) ?_; refine k_cal rfl zq (by kernel_rfl) (f20_c _) ?_; rintro v h' ⟨nF, rfl, rfl⟩; refine k_put ?_; refine aq rfl ?_; refine run_ret rfl ?_; refine run_top rfl Tryz.func5 (by kernel_rfl) rfl ?_; rfl
            · refine k_pickF rfl zq ?_; refine k_nil ?_; refine run_no ?_; refine run_skip ?_; refine rs8 (by kernel_rfl) ?_; refine k_ldA rfl zq ?_; refine mq rfl ?_; refine k_calP (Post := fun v => v = _) rfl zq (by kernel_rfl) (fun H' hH => (by have := f38_c (Md.star Tryz.prog B) H' (b := bT) (rdmT.keeps (sq hH)) hm (rrT.keeps (sq hH)) hr (st : Int) (by unfold In64; omega); rw [if_pos (show 1 ≤ (st : Int) ∧ (st : Int) ≤ nm - 2 by omega), so, if_neg (by decide), show ((st : Int) - 1).toNat = st - 1 by omega] at this; exact this)) ?_; rintro v rfl; refine k_put ?_; refine mq rfl ?_; refine k_ext0 rfl zq ?_; refine k_ext1 rfl zq ?_; refine k_as rfl zq ?_; refine aq rfl ?_; refine run_seq ?_; refine run_draw [(0, .pure), (1, .pure), (2, .pure), (3, .pure), (5, .pure), (6, .pure), (7, .pure), (8, .pure), (11, .pure), (12, .pure), (13, .pure), (4, .read), (9, .read), (10, .pure), (14, .read), (15, .pure), (16, .pure), (17, .pure)] (by kernel_rfl) (by kernel_rfl) (List.Sublist.refl _) ?_; refine mq rfl ?_; refine mq rfl ?_; refine k_sub rfl zq (by unfold In64; omega) ?_; have hx1 := hgx _ (mem_getD.2 ⟨st - 1, by omega, rfl⟩)
              have hx2 := hgx _ (mem_getD.2 ⟨st + 1, by omega, rfl⟩)
              have hx3 := hgx _ (mem_getD.2 ⟨st, by omega, rfl⟩)
              refine k_ixs rfl zq (by first | rfl | assumption) (by omega) (by omega) ?_; refine mq rfl ?_; refine mq rfl ?_; refine k_add rfl zq (by unfold In64; omega) ?_; refine k_ixs rfl zq (by first | rfl | assumption) (by omega) (by omega) ?_; refine mq rfl ?_; refine mq rfl ?_; refine k_ixs rfl zq (by first | rfl | assumption) (by omega) (by omega) ?_; refine k_ld rfl zq (r49.iat (st - 1) (by omega) (by omega)) ?_; refine k_ld rfl zq (r49.iat (st + 1) (by omega) (by omega)) ?_; refine k_add rfl zq (by unfold In64; omega) ?_; refine k_ld rfl zq (r49.iat st rfl (by omega)) ?_; refine k_mul rfl zq (by unfold In64; omega) ?_; refine k_sub rfl zq (by unfold In64; omega) ?_; refine aq rfl ?_; refine run_seq ?_; have hbe := bends_getD g (st - 1) (by omega)
              rw [show st - 1 + 2 = st + 1 by omega, show st - 1 + 1 = st by omega] at hbe
              rcases hollow_real hgT (st - 1) with e | ⟨e, e6⟩ | ⟨e, e6⟩
              · rw [e]; refine rr17 (by kernel_rfl) ?_; refine mq rfl ?_; refine k_eqlT rfl zq rfl ?_; refine mq rfl ?_; refine k_mv rfl rfl ?_; refine k_eqlT rfl rfl rfl ?_; refine k_mv rfl rfl ?_; refine k_off rfl rfl ?_; refine k_off rfl rfl ?_; refine k_off rfl rfl ?_; refine k_off rfl rfl ?_; refine k_off rfl rfl ?_; refine k_pickT rfl rfl ?_; refine k_pickT rfl zq ?_; refine mq rfl ?_; refine k_cal rfl rfl (by kernel_rfl) (f20_c _) ?_; rintro v h' ⟨nF, rfl, rfl⟩; refine k_put ?_; refine k_pickT rfl zq ?_; refine aq rfl ?_; refine run_ret rfl ?_; refine run_top rfl Tryz.func5 (by kernel_rfl) rfl ?_; rfl
              · rw [e]; refine rr17 (by kernel_rfl) ?_; refine mq rfl ?_; refine k_eqlT rfl zq rfl ?_; refine mq rfl ?_; refine k_mv rfl rfl ?_; refine k_eqlF rfl rfl (by decide) ?_; refine k_mv rfl rfl ?_; refine k_mv rfl rfl ?_; refine k_eqlT rfl rfl rfl ?_; refine k_mv rfl rfl ?_; refine k_gtrT rfl rfl (by omega) ?_; refine k_eqBT rfl rfl (by kernel_rfl) rfl ?_; refine k_pickF rfl rfl ?_; refine k_pickT rfl zq ?_; refine mq rfl ?_; refine k_cal rfl rfl (by kernel_rfl) (f20_c _) ?_; rintro v h' ⟨nF, rfl, rfl⟩; refine k_put ?_; refine k_pickT rfl zq ?_; refine aq rfl ?_; refine run_ret rfl ?_; refine run_top rfl Tryz.func5 (by kernel_rfl) rfl ?_; rfl
              · rw [e]; refine rr17 (by kernel_rfl) ?_; refine mq rfl ?_; refine k_eqlT rfl zq rfl ?_; refine mq rfl ?_; refine k_mv rfl rfl ?_; refine k_eqlF rfl rfl (by decide) ?_; refine k_mv rfl rfl ?_; refine k_mv rfl rfl ?_; refine k_eqlF rfl rfl (by decide) ?_; refine k_mv rfl rfl ?_; refine k_gtrF rfl rfl (by omega) ?_; refine k_eqBT rfl rfl (by kernel_rfl) rfl ?_; refine k_pickF rfl rfl ?_; refine k_pickT rfl zq ?_; refine mq rfl ?_; refine k_cal rfl rfl (by kernel_rfl) (f20_c _) ?_; rintro v h' ⟨nF, rfl, rfl⟩; refine k_put ?_; refine k_pickT rfl zq ?_; refine aq rfl ?_; refine run_ret rfl ?_; refine run_top rfl Tryz.func5 (by kernel_rfl) rfl ?_; rfl
        · refine k_put ?_; exact absurd rfl hc
      · refine k_put ?_; exact absurd hin36 hc
  · refine k_put ?_; refine k_notF rfl zq ?_; refine k_nil ?_; refine run_yes ?_; refine rs2 (by kernel_rfl) ?_; refine k_cal rfl zq (by kernel_rfl) (f20_c _) ?_; rintro v h' ⟨nF, rfl, rfl⟩; refine k_put ?_; refine aq rfl ?_; refine run_ret rfl ?_; refine run_top rfl Tryz.func5 (by kernel_rfl) rfl ?_; rfl
end Go.Proofs
namespace Go.Lo
set_option maxRecDepth 100000
section
variable {H : Type} {enc : TypeId × Value → H} {P : Program} {w : World} {base : Nat} {sp : Nat → Bool} {held : Bool}
theorem slice_open {kd : IntKind} {t e : TypeId} {k fuel : Nat} {cs : List Value} {x : DataW H × List MemPlace} (hu : P.underlying t = some (.slice e)) (hB : intsB P kd 3 e k = true) (h : DataW.trod enc P w base sp held fuel t cs = some x) (hs : ∀ a n c, cs = [.slice (some a) n c] → a.spot = none) :
    ∃ (p : Option Addr) (n c : Nat) (zs : List Int), cs = [.slice p n c] ∧ n ≤ c ∧ zs.length = n * k ∧ RdS w.heap [] k (.slice p n c) n (zs.map (Value.int kd)) ∧ ∀ z ∈ zs, (Lit.int kd z).wf = true := by
  rcases Deep.open_slice hu h with ⟨rfl, _⟩ | ⟨a, len, cap, m, n, D, Pl, rfl, hb, hl, hm, hmm, _, hx⟩
  · exact ⟨none, 0, 0, [], rfl, Nat.le_refl _, by simp, ⟨none, 0, rfl, by simp, .inl ⟨rfl, rfl⟩⟩, fun z hz => by simp at hz⟩
  · have hlm : len ≤ m := by rw [hmm]; split <;> omega
    have hc : P.cellsOf e = k := intsB_size hB
    obtain ⟨ab, ao, sx⟩ := a
    obtain rfl : sx = none := hs _ _ _ rfl
    obtain ⟨V, hV⟩ := Deep.choose_lt (α := Int) (n := len * k) (p := fun q z => w.cell? ⟨ab, ao + q, none⟩ = some (.int kd z) ∧ (Lit.int kd z).wf = true) (fun q hq => by
      have hk : 0 < k := by rcases Nat.eq_zero_or_pos k with e0 | e0; subst e0; simp at hq; exact e0
      have hi : q / k < len := Nat.div_lt_of_lt_mul (by rw [Nat.mul_comm]; exact hq)
      obtain ⟨cs', h1, h2⟩ := hx (q / k) (by omega)
      obtain ⟨_, hlen, hcell⟩ := World.cells?_some h1
      obtain ⟨_, hall⟩ := trod_cells 3 hB h2
      obtain ⟨z, hz, hw⟩ := hall (q % k) (Nat.mod_lt _ hk)
      refine ⟨z, ?_, hw⟩
      have := hcell (q % k) (by rw [hc]; exact Nat.mod_lt _ hk)
      rw [hz, Addr.add_none, Addr.add_none, hc] at this
      rw [← this]; have e := Nat.div_add_mod q k
      have e2 : q / k * k = k * (q / k) := Nat.mul_comm _ _
      congr 2; omega)
    refine ⟨some ⟨ab, ao, none⟩, len, cap, (List.range (len * k)).map V, rfl, hl, by simp, ⟨_, cap, rfl, by simp, .inr ⟨ab, ao, rfl, fun j hj => ?_⟩⟩, fun z hz => ?_⟩
    · have hj' : j < len * k := by simpa using hj
      have : (((List.range (len * k)).map V).map (Value.int kd)).getD j undef = .int kd (V j) := by
        rw [List.getD_eq_getElem?_getD, List.getElem?_map, List.getElem?_map, List.getElem?_range hj']; rfl
      rw [this]; exact rd_of_cell (hV j hj').1
    · obtain ⟨q, hq, rfl⟩ := List.mem_map.1 hz
      exact (hV q (List.mem_range.1 hq)).2
theorem spot_of {r : Reach} {b0 : Nat} {t e : TypeId} {v : Value} (hu : P.underlying t = some (.slice e)) (h : Cell.okWide P w r b0 t v) : ∀ a n c, [v] = [.slice (some a) n c] → a.spot = none := fun a n c e1 => by
  obtain rfl := List.head_eq_of_cons_eq e1
  unfold Cell.okWide at h
  rw [hu] at h
  simp only [Cell.ok, hu] at h
  exact h.2.2.2.1
end
def spsOf : List Int → List Sp
  | a :: b :: r => ⟨a, b⟩ :: spsOf r
  | _ => []
theorem spsOf_enc : ∀ (n : Nat) (zs : List Int), zs.length = n * 2 → encs (spsOf zs) = ints zs
  | 0, zs, h => by
    obtain rfl := List.length_eq_zero_iff.1 (by simpa using h)
    rfl
  | n + 1, a :: b :: r, h => by
    have := spsOf_enc n r (by simp only [List.length_cons] at h; omega)
    simp only [spsOf, encs, this]
    rfl
  | n + 1, [], h => by simp at h
  | n + 1, [a], h => by simp at h; omega
def rusOf : List Int → List Ru
  | a :: b :: c :: d :: r => ⟨a, b, c, d⟩ :: rusOf r
  | _ => []
theorem rusOf_enc : ∀ (n : Nat) (zs : List Int), zs.length = n * 4 → encs (rusOf zs) = ints zs
  | 0, zs, h => by
    obtain rfl := List.length_eq_zero_iff.1 (by simpa using h)
    rfl
  | n + 1, a :: b :: c :: d :: r, h => by
    have := rusOf_enc n r (by simp only [List.length_cons] at h; omega)
    simp only [rusOf, encs, this]
    rfl
  | n + 1, [], h => by simp at h
  | n + 1, [a], h => by simp at h; omega
  | n + 1, [a, b], h => by simp at h; omega
  | n + 1, [a, b, c], h => by simp at h; omega
end Go.Lo
namespace Go.Proofs
open Go.Lo
set_option maxRecDepth 100000
section
variable {H : Type} {enc : TypeId × Value → H} {w : World} {sp : Nat → Bool} {held : Bool}
theorem int_arg {r : Reach} {b0 : Nat} {t : TypeId} {kd : IntKind} {v : Value} {d : DataW H} {ps : List MemPlace} (ht : Tryz.prog.underlying t = some (.int kd)) (hv : Value.okWide Tryz.prog w r b0 t v) (h : DataW.Trod enc Tryz.prog w 0 sp held t v d ps) :
    ∃ n, v = .int kd n ∧ (Lit.int kd n).wf = true := by
  obtain ⟨n, e, _, _, hw⟩ := ChangeShapes.open_int ht hv h
  exact ⟨n, e, hw⟩
theorem nat_arg {n M : Int} {kd : IntKind} {v : Value} (e : v = .int kd n ∧ (Lit.int kd n).wf = true) (h : (Lit.int kd n).wf = true → 0 ≤ n ∧ n ≤ M) : ∃ z : Nat, v = .int kd (z : Int) ∧ (z : Int) ≤ M := by
  obtain ⟨h0, h1⟩ := h e.2
  exact ⟨n.toNat, by rw [e.1, Int.toNat_of_nonneg h0], by rw [Int.toNat_of_nonneg h0]; exact h1⟩
theorem u8_arg {r : Reach} {b0 : Nat} {v : Value} {d : DataW H} {ps : List MemPlace} (hv : Value.okWide Tryz.prog w r b0 5 v) (h : DataW.Trod enc Tryz.prog w 0 sp held 5 v d ps) : ∃ z : Nat, v = .int .u8 (z : Int) ∧ z ≤ 255 := by
  obtain ⟨n, e⟩ := int_arg (kd := .u8) (by kernel_rfl) hv h
  obtain ⟨z, e, hz⟩ := nat_arg (M := 255) e (fun hw => by simp [Lit.wf, IntKind.min, IntKind.max, IntKind.signed, IntKind.bits] at hw; omega)
  exact ⟨z, e, by omega⟩
theorem nums_arg {r : Reach} {b0 : Nat} {t e : TypeId} {kd : IntKind} {v : Value} {d : DataW H} {ps : List MemPlace} (hu : Tryz.prog.underlying t = some (.slice e)) (hB : intsB Tryz.prog kd 3 e 1 = true) (hv : Value.okWide Tryz.prog w r b0 t v) (h : DataW.Trod enc Tryz.prog w 0 sp held t v d ps) :
    ∃ (p : Option Addr) (n c : Nat) (xs : List Int), v = .slice p n c ∧ RdS w.heap [] 1 (.slice p n c) n (xs.map (Value.int kd)) ∧ ∀ x ∈ xs, (Lit.int kd x).wf = true := by
  have hv' : Cell.okWide Tryz.prog w r b0 t v := by
    unfold Value.okWide at hv
    rw [hu] at hv
    exact hv
  obtain ⟨fuel, h⟩ := h
  have hsl : v.cells.toList = [v] := by
    unfold Cell.okWide at hv'
    rw [hu] at hv'
    cases v <;> first | rfl | (simp [Cell.ok, hu] at hv')
  rw [hsl] at h
  obtain ⟨p, n, c, zs, e, _, _, rd, hw⟩ := slice_open hu hB h (spot_of hu hv')
  exact ⟨p, n, c, zs, List.head_eq_of_cons_eq e, rd, hw⟩
theorem picks_arg {r : Reach} {b0 : Nat} {v : Value} {d : DataW H} {ps : List MemPlace} (hv : Value.okWide Tryz.prog w r b0 48 v) (h : DataW.Trod enc Tryz.prog w 0 sp held 48 v d ps) :
    ∃ (p : Option Addr) (n c : Nat) (xs : List Int), v = .slice p n c ∧ RdS w.heap [] 1 (.slice p n c) n (xs.map (Value.int .u16)) ∧ ∀ x ∈ xs, 0 ≤ x ∧ x ≤ 65535 := by
  obtain ⟨p, n, c, xs, e, rd, hw⟩ := nums_arg (e := 55) (kd := .u16) (by kernel_rfl) (by kernel_rfl) hv h
  exact ⟨p, n, c, xs, e, rd, fun x hx => by have := hw x hx; simp [Lit.wf, IntKind.min, IntKind.max, IntKind.signed, IntKind.bits] at this; omega⟩
theorem trodAll_cons {P : Program} {base : Nat} {t : TypeId} {ts : List TypeId} {vs : List Value} {ds : List (DataW H)} {ps : List MemPlace} (h : DataW.TrodAll enc P w base sp held (t :: ts) vs ds ps) :
    ∃ v vr d dr p q, vs = v :: vr ∧ ds = d :: dr ∧ ps = p ++ q ∧ DataW.Trod enc P w base sp held t v d p ∧ DataW.TrodAll enc P w base sp held ts vr dr q := by
  cases vs with
  | nil => cases ds <;> exact absurd h id
  | cons v vr =>
    cases ds with
    | nil => exact absurd h id
    | cons d dr =>
      obtain ⟨p, q, h1, h2, e⟩ := h
      exact ⟨v, vr, d, dr, p, q, rfl, rfl, e, h1, h2⟩
theorem trodAll_end {P : Program} {base : Nat} {vs : List Value} {ds : List (DataW H)} {ps : List MemPlace} (h : DataW.TrodAll enc P w base sp held [] vs ds ps) : vs = [] ∧ ds = [] ∧ ps = [] := by
  cases vs with
  | nil =>
    cases ds with
    | nil => exact ⟨rfl, rfl, h⟩
    | cons d dr => exact absurd h id
  | cons v vr => cases ds <;> exact absurd h id
theorem trodAll_more {P : Program} {base : Nat} {t : TypeId} {ts : List TypeId} {v : Value} {vs : List Value} {d : DataW H} {ds : List (DataW H)} {p q : List MemPlace} (h : DataW.Trod enc P w base sp held t v d p) (k : DataW.TrodAll enc P w base sp held ts vs ds q) : DataW.TrodAll enc P w base sp held (t :: ts) (v :: vs) (d :: ds) (p ++ q) := ⟨p, q, h, k, rfl⟩
theorem book_arg {r : Reach} {b0 : Nat} {v : Value} {d : DataW H} {ps : List MemPlace} (hv : Value.okWide Tryz.prog w r b0 25 v) (h : DataW.Trod enc Tryz.prog w 0 sp held 25 v d ps) :
    ∃ b pm nm cm pr nr cr, v = bkV b pm nm cm pr nr cr ∧ nm ≤ cm ∧ nr ≤ cr ∧ RdS w.heap [] 2 (.slice pm nm cm) nm (encs b.marks) ∧ RdS w.heap [] 4 (.slice pr nr cr) nr (encs b.rules) ∧ (Lit.int .i64 b.bend).wf = true ∧ (Lit.int .i64 b.twist).wf = true ∧ (Lit.int .i64 b.turns).wf = true := by
  obtain ⟨fs, hu, hfs⟩ : ∃ fs, Tryz.prog.underlying 25 = some (.struct fs) ∧ fs.toList.map (fun f => (f.offset, f.type)) = [(0, 3), (1, 3), (2, 3), (3, 22), (4, 23)] := ⟨_, Tryz.underlying25, by kernel_rfl⟩
  have hct : Tryz.prog.cellTypes Tryz.prog.depth 25 = some [3, 3, 3, 22, 23] := by kernel_rfl
  have h3 : Tryz.prog.underlying 3 = some (.int .i64) := by kernel_rfl
  have h22 : Tryz.prog.underlying 22 = some (.slice 92) := by kernel_rfl
  have h23 : Tryz.prog.underlying 23 = some (.slice 94) := by kernel_rfl
  unfold Value.okWide at hv
  rw [hu] at hv
  obtain ⟨cs, rfl, hsz, ts, hts, _, hall⟩ := hv
  rw [hct] at hts
  obtain rfl := Option.some.inj hts
  obtain ⟨fuel, h⟩ := h
  obtain ⟨xs, m, _, _, hl, hxl, hx⟩ := DataW.trod_struct hu h
  have hl5 : cs.size = 5 := hsz.trans (by kernel_rfl)
  obtain ⟨cl⟩ := cs
  have hl5' : cl.length = 5 := hl5
  obtain ⟨c0, c1, c2, c3, c4, rfl⟩ : ∃ c0 c1 c2 c3 c4, cl = [c0, c1, c2, c3, c4] := by
    match cl, hl5' with
    | [c0, c1, c2, c3, c4], _ => exact ⟨_, _, _, _, _, rfl⟩
  obtain ⟨f0, f1, f2, f3, f4, rfl⟩ : ∃ f0 f1 f2 f3 f4, fs = #[f0, f1, f2, f3, f4] := by
    obtain ⟨fl⟩ := fs
    have hlen : fl.length = 5 := by simpa using congrArg List.length hfs
    match fl, hlen with
    | [f0, f1, f2, f3, f4], _ => exact ⟨_, _, _, _, _, rfl⟩
  simp only [List.map_cons, List.map_nil, List.cons.injEq, Prod.mk.injEq, and_true] at hfs
  obtain ⟨⟨o0, t0⟩, ⟨o1, t1⟩, ⟨o2, t2⟩, ⟨o3, t3⟩, o4, t4⟩ := hfs
  have s3 : Tryz.prog.cellsOf 3 = 1 := by kernel_rfl
  have s22 : Tryz.prog.cellsOf 22 = 1 := by kernel_rfl
  have s23 : Tryz.prog.cellsOf 23 = 1 := by kernel_rfl
  have go : ∀ i, i < 5 → ∃ y, xs[i]? = some y := fun i hi => ⟨_, List.getElem?_eq_getElem (by rw [hxl]; exact hi)⟩
  obtain ⟨y0, e0⟩ := go 0 (by omega); obtain ⟨y1, e1⟩ := go 1 (by omega); obtain ⟨y2, e2⟩ := go 2 (by omega); obtain ⟨y3, e3⟩ := go 3 (by omega); obtain ⟨y4, e4⟩ := go 4 (by omega)
  have g0 := (hx 0 f0 rfl).trans e0
  have g1 := (hx 1 f1 rfl).trans e1
  have g2 := (hx 2 f2 rfl).trans e2
  have g3 := (hx 3 f3 rfl).trans e3
  have g4 := (hx 4 f4 rfl).trans e4
  rw [t0, o0, s3] at g0
  rw [t1, o1, s3] at g1
  rw [t2, o2, s3] at g2
  rw [t3, o3, s22] at g3
  rw [t4, o4, s23] at g4
  obtain ⟨n0, q0, _, w0⟩ := DataW.trod_int h3 g0
  obtain ⟨n1, q1, _, w1⟩ := DataW.trod_int h3 g1
  obtain ⟨n2, q2, _, w2⟩ := DataW.trod_int h3 g2
  obtain rfl := List.head_eq_of_cons_eq (show [c0] = [Value.int .i64 n0] from q0)
  obtain rfl := List.head_eq_of_cons_eq (show [c1] = [Value.int .i64 n1] from q1)
  obtain rfl := List.head_eq_of_cons_eq (show [c2] = [Value.int .i64 n2] from q2)
  obtain ⟨u3, hu3, k3⟩ := hall 3 c3 rfl
  obtain ⟨u4, hu4, k4⟩ := hall 4 c4 rfl
  obtain rfl : 22 = u3 := Option.some.inj hu3
  obtain rfl : 23 = u4 := Option.some.inj hu4
  obtain ⟨pm, nm, cm, zm, em, hcm, hzm, rdm, _⟩ := slice_open (cs := [c3]) h22 (by kernel_rfl : intsB Tryz.prog .i64 3 92 2 = true) g3 (spot_of h22 k3)
  obtain ⟨pr, nr, cr, zr, er, hcr, hzr, rdr, _⟩ := slice_open (cs := [c4]) h23 (by kernel_rfl : intsB Tryz.prog .i64 3 94 4 = true) g4 (spot_of h23 k4)
  obtain rfl := List.head_eq_of_cons_eq em
  obtain rfl := List.head_eq_of_cons_eq er
  exact ⟨⟨n0, n1, n2, spsOf zm, rusOf zr⟩, pm, nm, cm, pr, nr, cr, rfl, hcm, hcr, by rw [spsOf_enc _ _ hzm]; exact rdm, by rw [rusOf_enc _ _ hzr]; exact rdr, w0, w1, w2⟩
end
end Go.Proofs
namespace Go.Proofs.YtlbkicemccikgaaGreatDoor
open Go Go.Lo Go.ChangeShapes Go.WideShapes Go.ChangeAt Go.RowKit Go.Conc
set_option maxRecDepth 100000
theorem tied_goes_at (Lk : Looks) {p : Pinned} {s : OpenSpec} {k : StoodClaim8} {ks : List StandKind} (kinds : List LaidKind) (tests : Bool) (h : Claim7.holdsNew p (.plain s) { stood := k, kinds := ks }) (hw : k.row.wfByText s = true) :
    Claim7.holdsNew p (.plain s) { stood := k, kinds := ks, goes := true, laidByText := true, laidKinds := kinds, laidTests := tests, laidLooks := Lk } := by
  obtain ⟨_, rest⟩ := h
  exact ⟨hw, rest⟩
theorem card_of (Lk : Looks) {p : Pinned} {s : OpenSpec} {c : OpenClaim} (kinds : List LaidKind) (tests : Bool) (har : Bool × String) (lk : Bool)
    (hc : c.holds p s) (hw : c.wfByText s = true) (htie : c.laidByTextAt Lk p kinds tests)
    (hst : c.start = .entering) (hnb : c.noBlocks = false ∧ c.again = false) (hm : p.checked.prog.mainIs = some (har.1, har.2.toList)) (hn : (!har.1 && har.2.isEmpty && !lk) = false)
    (hl : ∀ f fn, p.checked.prog.funcNamed c.func = some f → p.checked.prog.funcs[f]? = some fn → lk = p.checked.prog.looks [] ∧ ∀ (j : Nat) t, fn.params[j]? = some t → p.checked.prog.wantsStandIn t = false)
    (hg : true = c.goesBy p.checked.prog) :
    Claim7.holds p (.plain s) { stood := { row := c, standIns := [], harness := har, looks := lk }, kinds := [], alts := [], goes := true, laidByText := true, laidKinds := kinds, laidTests := tests, laidLooks := Lk } := by
  have h6 : ∀ r : OpenClaim, Claim7.isSixth { stood := { row := r, standIns := [], harness := har, looks := lk }, kinds := [] } = false := fun r => by simpa [Claim7.isSixth] using hn
  exact ⟨tied_goes_at Lk kinds tests (Claim7.new_of_sixth hc har lk hst hnb hm (h6 c) hl) hw, (fun D hD => by cases hD), htie, (fun h => by cases h), hg⟩
theorem own : ownKnob Tryz.prog.godebug = none := by kernel_rfl
theorem laidOut : laidOutB Tryz.prog = true := by kernel_rfl
theorem laidOutP : laidOutB Tryz.pinned.checked.prog = true := laidOut
def laidL : List (String × DataW Unit) := [("ribband/batten.checks", Rows.laid_ribband_batten_checks)]
theorem door_met (os : Os) (args : Array Value) : laidMetH Tryz.prog laidL ((World.doorLaid Tryz.prog 14 os).forCall (fun _ _ => 0) ⟨#[], args, []⟩).memory :=
  laidMetH_of_parts3 (fuel := 8) (laidMet_nil _ _) (by kernel_rfl) (by kernel_rfl)
theorem laid_of {W : World} (h : laidMetH Tryz.prog laidL W) : Laid W.heap := by
  obtain ⟨g, t, cs, fuel, p, hg, ht, hv, hd⟩ := h.funcs (n := "ribband/batten.checks") (List.mem_cons_self ..)
  obtain rfl := Option.some.inj ((show Tryz.prog.globalNamed "ribband/batten.checks" = some 0 by kernel_rfl).symm.trans hg)
  obtain rfl := Option.some.inj ((show (Tryz.prog.globals[0]?).map (·.type) = some 107 by kernel_rfl).symm.trans ht)
  have hu : Tryz.prog.underlying 107 = some (.array 3 106) := by kernel_rfl
  have hc1 : Tryz.prog.cellsOf 106 = 1 := by kernel_rfl
  obtain ⟨ps, rs, va, h106⟩ : ∃ ps rs va, Tryz.prog.underlying 106 = some (.func ps rs va) := ⟨_, _, _, Tryz.underlying106⟩
  obtain ⟨xs, m, _, ex, hl, hxl, hx⟩ := DataW.trod_array hu hd
  have hl3 : cs.toList.length = 3 := hl.trans (by kernel_rfl)
  obtain ⟨cl⟩ := cs
  obtain ⟨c0, c1, c2, rfl⟩ : ∃ c0 c1 c2, cl = [c0, c1, c2] := by
    match cl, hl3 with
    | [c0, c1, c2], _ => exact ⟨_, _, _, rfl⟩
  obtain ⟨y0, y1, y2, rfl⟩ : ∃ y0 y1 y2, xs = [y0, y1, y2] := by
    match xs, hxl with
    | [y0, y1, y2], _ => exact ⟨_, _, _, rfl⟩
  have e2 : ∃ a b c : List UInt8, (Rows.laid_ribband_batten_checks : DataW Unit) = .iface "func table" (.agg [.iface "func" (.lit (.string a)), .iface "func" (.lit (.string b)), .iface "func" (.lit (.string c))]) ∧
      ((List.range Tryz.prog.funcs.size).filter fun f => (Tryz.prog.funcs[f]?).any (·.name.toUTF8.data.toList == a)) = [199] ∧ ((List.range Tryz.prog.funcs.size).filter fun f => (Tryz.prog.funcs[f]?).any (·.name.toUTF8.data.toList == b)) = [200] ∧
      ((List.range Tryz.prog.funcs.size).filter fun f => (Tryz.prog.funcs[f]?).any (·.name.toUTF8.data.toList == c)) = [201] ∧ a ≠ [] ∧ b ≠ [] ∧ c ≠ [] ∧
      [y0.1, y1.1, y2.1] = [.held a, .held b, .held c] := by
    refine ⟨_, _, _, rfl, by kernel_rfl, by kernel_rfl, by kernel_rfl, by simp, by simp, by simp, ?_⟩
    have := congrArg Prod.fst ex
    simp only [DataW.funcsOut] at this
    injection this with this
    exact this.symm
  obtain ⟨a, b, c, _, fa, fb, fc, na, nb, nc, e3⟩ := e2
  simp only [List.cons.injEq, and_true] at e3
  obtain ⟨z0, z1, z2⟩ := e3
  have g0 := hx 0 (by omega)
  have g1 := hx 1 (by omega)
  have g2 := hx 2 (by omega)
  rw [hc1] at g0 g1 g2
  have key : ∀ (v : Value) (y : DataW (List UInt8) × List MemPlace) (l : List UInt8) (f0 : FuncId), DataW.trod (funcToken Tryz.prog) Tryz.prog W 0 (fun _ => true) true m 106 [v] = some y → y.1 = .held l → l ≠ [] → ((List.range Tryz.prog.funcs.size).filter fun f => (Tryz.prog.funcs[f]?).any (·.name.toUTF8.data.toList == l)) = [f0] → v = .func (.func f0) #[] #[] := by
    intro v y l f0 h1 h2 h3 h4
    obtain ⟨y1, y2⟩ := y
    obtain rfl : y1 = .held l := h2
    cases l with
    | nil => exact absurd rfl h3
    | cons b0 r0 => exact func_of_trod h106 h4 h1
  obtain rfl := key c0 y0 a 199 g0 z0 na fa
  obtain rfl := key c1 y1 b 200 g1 z1 nb fb
  obtain rfl := key c2 y2 c 201 g2 z2 nc fc
  unfold World.var? at hv
  rw [hg] at hv
  simp only [Option.bind_some] at hv
  split at hv
  · rename_i cs t f hb
    obtain rfl := Option.some.inj hv
    exact ⟨t, f, hb⟩
  · cases hv
end Go.Proofs.YtlbkicemccikgaaGreatDoor
