/- A part of the proof of a law: my own separation logic over the machine, and walks of the program. Condition of each theorem: as its statement says. -/
import Derived.Test.YtlbkicemccikgaaGreatDoorWLReal8
set_option linter.all false
namespace Go.Proofs
open Go.Lo
open Go.Conc (G)
set_option maxRecDepth 100000
set_option synthInstance.maxSize 100000
set_option synthInstance.maxHeartbeats 1000000
set_option maxHeartbeats 4000000
variable {B : Array Obj}
variable [Laid B]
section
variable {P : Program} {B : Array Obj} {m : Md P B} {ops : Array Oper} {l l' l'' : List Value} {S h h' H : Hp} {C : List Value → Hp → Prop} {i : Nat} {kd : Kd} {r : List (Nat × Kd)}
  {d : Option Tmp} {ty : TypeId} {pos : String} {af : Array Edge} {g : Option (Nat × Bool)}
theorem k_eqlT {t u : TypeId} {x y : Operand} {a b : Int} {k : IntKind} (ho : ops[i]? = some ⟨d, .binOp .eql t x y u, ty, pos, af, g⟩) (hw : Wt ops l g) [kh : KHeap kd S h H] [ex : OpV l x (.int k a)] [ey : OpV l y (.int k b)] (e : a = b) [pt : PutV l d (.bool true) l'] (q : RegK m S ops r l' h C) : RegK m S ops ((i, kd) :: r) l h C := by
  have pq := pt; rw [← decide_eq_true e] at pq; exact k_eql (l' := l') ho hw q
theorem k_eqlF {t u : TypeId} {x y : Operand} {a b : Int} {k : IntKind} (ho : ops[i]? = some ⟨d, .binOp .eql t x y u, ty, pos, af, g⟩) (hw : Wt ops l g) [kh : KHeap kd S h H] [ex : OpV l x (.int k a)] [ey : OpV l y (.int k b)] (e : a ≠ b) [pt : PutV l d (.bool false) l'] (q : RegK m S ops r l' h C) : RegK m S ops ((i, kd) :: r) l h C := by
  have pq := pt; rw [← decide_eq_false e] at pq; exact k_eql (l' := l') ho hw q
theorem k_shl {t u : TypeId} {x y : Operand} {a b : Int} {k k' : IntKind} (v : Int) (ho : ops[i]? = some ⟨d, .binOp .shl t x y u, ty, pos, af, g⟩) (hw : Wt ops l g) [KHeap kd S h H] [ex : OpV l x (.int k a)] [ey : OpV l y (.int k' b)] (h0 : 0 ≤ b) (hv : k.wrap (a * 2 ^ (min b.toNat k.bits)) = v) [PutV l d (.int k v) l'] (q : RegK m S ops r l' h C) : RegK m S ops ((i, kd) :: r) l h C :=
  RegK.rd (v := .int k v) ho hw (by
    simp only [execOp, ex.eq, ey.eq]
    refine Reads.value (Reads.bind (a := ()) (Reads.pure _) ?_)
    show Reads P B (Op.shift .shl k a k' b) H _
    unfold Op.shift
    rw [if_neg (by omega), ← hv]; exact Reads.pure _) q
theorem ap_last {B : Array Obj} {F hc : Hp} {q : Nat} {o : Obj} {w : World} (s : Sat B (F ++ [⟨true, q, o⟩]) w) (hF : ∀ c ∈ F, c.rw = false) (hd : ∀ d ∈ hc, d.rw = true → d.b = q) : ApH F hc := fun c hc' d hd' hr => by
  have h1 := hF c hc'
  have h2 : d.rw = true := hr.resolve_left (by rw [h1]; simp)
  rw [hd d hd' h2]; exact (List.pairwise_append.1 s.apart).2.2 c hc' _ (List.mem_singleton.2 rfl) (.inr rfl)
end
theorem shl_small : ∀ n : Nat, n < 5 → IntKind.wrap .i64 (1 * 2 ^ (min (n : Int).toNat IntKind.i64.bits)) = ((2 ^ n : Nat) : Int) := by decide
def clashS (b : Bk) : Int := if bookS b ≠ 0 then bookS b else if boatsOf b ≠ [] then 0 else if boatsOf (onlyB b 0) = [] then 8 else 0
def ClashOk (b : Bk) (g : List Int) : Prop := if bookS b ≠ 0 ∨ boatsOf b ≠ [] ∨ boatsOf (onlyB b 0) = [] then g = [] else
  (∃ mm, mm < 2 ^ b.rules.length ∧ foulM b mm ∧ g = keptI mm b.rules.length) ∧ ∀ mm, mm < 2 ^ b.rules.length → foulM b mm → ¬ fewer (keptI mm b.rules.length) g
def SP (F : Nat → Option Nat) (ix : Nat → Nat) (t : Nat) : Prop := (∀ a c, a < t → c < t → ix a = ix c → a = c) ∧ (∀ a, a < t → F (ix a) = some (2 * a)) ∧ ∀ i s, F i = some s → ∃ a, a < t ∧ i = ix a
theorem SP.zero {F : Nat → Option Nat} (h : ∀ i, F i = none) (ix : Nat → Nat) : SP F ix 0 := ⟨fun a c h => by omega, fun a h => by omega, fun i s e => by rw [h i] at e; cases e⟩
theorem SP.more {F : Nat → Option Nat} {ix : Nat → Nat} {t j : Nat} (s : SP F ix t) (hj : F j = none) : SP (updO F j (some (2 * t))) (fun a => if a = t then j else ix a) (t + 1) := by
  obtain ⟨s1, s2, s3⟩ := s
  have ne : ∀ a, a < t → ix a ≠ j := fun a ha e => by have := s2 a ha; rw [e, hj] at this; cases this
  refine ⟨fun a c ha hc e => ?_, fun a ha => ?_, fun i s e => ?_⟩
  · simp only at e
    by_cases h1 : a = t
    · by_cases h2 : c = t
      · omega
      · rw [if_pos h1, if_neg h2] at e; exact absurd e.symm (ne c (by omega))
    · by_cases h2 : c = t
      · rw [if_neg h1, if_pos h2] at e; exact absurd e (ne a (by omega))
      · rw [if_neg h1, if_neg h2] at e; exact s1 a c (by omega) (by omega) e
  · by_cases h1 : a = t
    · simp only [if_pos h1]; rw [updO_same, h1]
    · simp only [if_neg h1]; rw [updO_ne _ _ (ne a (by omega))]; exact s2 a (by omega)
  · by_cases h1 : i = j
    · exact ⟨t, by omega, by simp [h1]⟩
    · rw [updO_ne _ _ h1] at e
      obtain ⟨a, ha, e'⟩ := s3 i s e
      exact ⟨a, by omega, by simp only; rw [if_neg (by omega)]; exact e'⟩
theorem before_irrefl : ∀ xs : List Int, before xs xs = false
  | [] => rfl
  | a :: r => by unfold before; rw [if_pos rfl]; exact before_irrefl r
theorem before_trans : ∀ xs ys zs : List Int, before xs ys = true → before ys zs = true → before xs zs = true
  | [], [], _, h, _ => by simp [before] at h
  | [], _ :: _, [], _, h => by simp [before] at h
  | [], _ :: _, _ :: _, _, _ => rfl
  | _ :: _, [], _, h, _ => by simp [before] at h
  | _ :: _, _ :: _, [], _, h => by simp [before] at h
  | a :: r, c :: s, d :: t, h1, h2 => by
    unfold before at h1 h2 ⊢
    by_cases e1 : a = c
    · by_cases e2 : c = d
      · rw [if_pos e1] at h1; rw [if_pos e2] at h2; rw [if_pos (e1.trans e2)]; exact before_trans r s t h1 h2
      · rw [if_neg e2] at h2; rw [if_neg (e1 ▸ e2), e1]; exact h2
    · rw [if_neg e1] at h1
      have h1 := of_decide_eq_true h1
      by_cases e2 : c = d
      · rw [if_neg (e2 ▸ e1), ← e2]; exact decide_eq_true h1
      · rw [if_neg e2] at h2
        have h2 := of_decide_eq_true h2
        rw [if_neg (by omega)]; exact decide_eq_true (by omega)
theorem fewer_irrefl (xs : List Int) : ¬ fewer xs xs := by
  rintro (h | ⟨_, h⟩)
  · omega
  · rw [before_irrefl] at h; cases h
theorem fewer_trans {xs ys zs : List Int} (h1 : fewer xs ys) (h2 : fewer ys zs) : fewer xs zs := by
  rcases h1 with h1 | ⟨h1, h1'⟩ <;> rcases h2 with h2 | ⟨h2, h2'⟩
  · exact .inl (by omega)
  · exact .inl (by omega)
  · exact .inl (by omega)
  · exact .inr ⟨by omega, before_trans _ _ _ h1' h2'⟩
def lfN (F : Nat → Option Nat) (ix : Nat → Nat) : Nat → Nat
  | 0 => 0
  | n + 1 => lfN F ix n + if F (ix n) = none then 0 else 1
def w1 (o : Option Nat) (n : Nat) : Nat := match o with | none => 0 | some s => if s = 2 * n then 2 else 1
def wtN (F : Nat → Option Nat) (ix : Nat → Nat) : Nat → Nat
  | 0 => 0
  | n + 1 => wtN F ix n + w1 (F (ix n)) n
theorem lfN_congr {F G : Nat → Option Nat} {ix : Nat → Nat} : ∀ n, (∀ a, a < n → F (ix a) = G (ix a)) → lfN F ix n = lfN G ix n ∧ wtN F ix n = wtN G ix n
  | 0, _ => ⟨rfl, rfl⟩
  | n + 1, h => by
    obtain ⟨h1, h2⟩ := lfN_congr n fun a ha => h a (by omega)
    simp only [lfN, wtN, h1, h2, h n (by omega), and_self]
theorem lfN_upd {F : Nat → Option Nat} {ix : Nat → Nat} {a : Nat} {v : Option Nat} : ∀ n, a < n → (∀ x c, x < n → c < n → ix x = ix c → x = c) →
    lfN (updO F (ix a) v) ix n + (if F (ix a) = none then 0 else 1) = lfN F ix n + (if v = none then 0 else 1) ∧ wtN (updO F (ix a) v) ix n + w1 (F (ix a)) a = wtN F ix n + w1 v a
  | 0, h, _ => by omega
  | n + 1, h, inj => by
    by_cases e : a = n
    · subst e
      obtain ⟨h1, h2⟩ := lfN_congr (F := updO F (ix a) v) (G := F) (ix := ix) a fun c hc => updO_ne _ _ fun e => by have := inj c a (by omega) (by omega) e; omega
      simp only [lfN, wtN, h1, h2, updO_same]
      omega
    · obtain ⟨h1, h2⟩ := lfN_upd (F := F) (ix := ix) (a := a) (v := v) n (by omega) fun x c hx hc => inj x c (by omega) (by omega)
      have : updO F (ix a) v (ix n) = F (ix n) := updO_ne _ _ fun e' => e (by have := inj n a (by omega) (by omega) e'; omega)
      simp only [lfN, wtN, this]
      omega
theorem lfN_zero {F : Nat → Option Nat} {ix : Nat → Nat} : ∀ n, lfN F ix n = 0 → ∀ a, a < n → F (ix a) = none
  | 0, _, a, h => by omega
  | n + 1, h0, a, h => by
    simp only [lfN] at h0
    by_cases e : a = n
    · subst e
      apply Classical.byContradiction
      intro hne
      rw [if_neg hne] at h0; omega
    · exact lfN_zero n (by omega) a (by omega)
theorem lfN_pos {F : Nat → Option Nat} {ix : Nat → Nat} : ∀ n, 0 < lfN F ix n → ∃ a s, F (ix a) = some s
  | 0, h => by simp [lfN] at h
  | n + 1, h => by
    cases e : F (ix n) with
    | some s => exact ⟨n, s, e⟩
    | none =>
      simp only [lfN, e, if_true] at h
      exact lfN_pos n (by omega)
theorem lfN_all {F : Nat → Option Nat} {ix : Nat → Nat} : ∀ n, (∀ a, a < n → F (ix a) = some (2 * a)) → lfN F ix n = n
  | 0, _ => rfl
  | n + 1, h => by
    simp only [lfN]
    rw [lfN_all n fun a ha => h a (by omega), h n (by omega), if_neg (by simp)]
structure SQ (b : Bk) (F : Nat → Option Nat) (ix : Nat → Nat) (N left : Nat) (an : Bool) (gl : List Int) : Prop where
  inj : ∀ a c, a < N → c < N → ix a = ix c → a = c
  st : ∀ a, a < N → F (ix a) = none ∨ F (ix a) = some (2 * a) ∨ F (ix a) = some (2 * a + 1)
  only : ∀ i s, F i = some s → ∃ a, a < N ∧ i = ix a
  cnt : left = lfN F ix N
  got : ∀ a, a < N → foulM b a → F (ix a) = some (2 * a) ∨ (an = true ∧ ¬ fewer (keptI a b.rules.length) gl)
  best : an = true → ∃ a, a < N ∧ foulM b a ∧ gl = keptI a b.rules.length
theorem SQ.start {b : Bk} {F : Nat → Option Nat} {ix : Nat → Nat} {N : Nat} (s : SP F ix N) : SQ b F ix N N false [] :=
  ⟨s.1, fun a ha => .inr (.inl (s.2.1 a ha)), s.2.2, (lfN_all N s.2.1).symm, fun a ha _ => .inl (s.2.1 a ha), fun e => by cases e⟩
theorem SQ.which {b : Bk} {F : Nat → Option Nat} {ix : Nat → Nat} {N left : Nat} {an : Bool} {gl : List Int} (q : SQ b F ix N left an gl) {i mm : Nat} (hF : F i = some (2 * mm)) : mm < N ∧ i = ix mm := by
  obtain ⟨a, ha, rfl⟩ := q.only i _ hF
  rcases q.st a ha with e | e | e <;> rw [hF] at e
  · cases e
  · have := Option.some.inj e; obtain rfl : mm = a := by omega
    exact ⟨ha, rfl⟩
  · have := Option.some.inj e; omega
theorem SQ.foul {b : Bk} {F : Nat → Option Nat} {ix : Nat → Nat} {N left : Nat} {an : Bool} {gl : List Int} (q : SQ b F ix N left an gl) {mm : Nat} (hF : F (ix mm) = some (2 * mm)) (hm : mm < N) (hf : foulM b mm) {an' : Bool} {gl' : List Int}
    (hg : an' = true ∧ ((gl' = keptI mm b.rules.length ∧ (an = true → fewer gl' gl)) ∨ (gl' = gl ∧ an = true ∧ ¬ fewer (keptI mm b.rules.length) gl))) :
    SQ b (updO F (ix mm) (some (2 * mm + 1))) ix N left an' gl' ∧ wtN (updO F (ix mm) (some (2 * mm + 1))) ix N < wtN F ix N := by
  obtain ⟨u1, u2⟩ := lfN_upd (F := F) (ix := ix) (v := some (2 * mm + 1)) N hm q.inj
  rw [hF] at u1 u2
  have ne : ∀ a, a < N → a ≠ mm → updO F (ix mm) (some (2 * mm + 1)) (ix a) = F (ix a) := fun a ha e => updO_ne _ _ fun e' => e (q.inj a mm ha hm e')
  refine ⟨⟨q.inj, fun a ha => ?_, fun i s e => ?_, ?_, fun a ha hfa => ?_, fun _ => ?_⟩, ?_⟩
  · by_cases e : a = mm
    · subst e; rw [updO_same]; exact .inr (.inr rfl)
    · rw [ne a ha e]; exact q.st a ha
  · by_cases e1 : i = ix mm
    · exact ⟨mm, hm, e1⟩
    · rw [updO_ne _ _ e1] at e; exact q.only i s e
  · have := q.cnt
    rw [if_neg (by simp), if_neg (by simp)] at u1
    omega
  · by_cases e : a = mm
    · subst e
      refine .inr ⟨hg.1, ?_⟩
      rcases hg.2 with ⟨h1, _⟩ | ⟨h1, _, h2⟩
      · rw [h1]; exact fewer_irrefl _
      · rw [h1]; exact h2
    · rw [ne a ha e]; refine (q.got a ha hfa).imp id fun ⟨h1, h2⟩ => ⟨hg.1, ?_⟩
      rcases hg.2 with ⟨_, h3⟩ | ⟨h3, _, _⟩
      · exact fun h4 => h2 (fewer_trans h4 (h3 h1))
      · rw [h3]; exact h2
  · rcases hg.2 with ⟨h1, _⟩ | ⟨h1, h2, _⟩
    · exact ⟨mm, hm, hf, h1⟩
    · rw [h1]; exact q.best h2
  · simp only [w1, if_pos] at u2
    rw [if_neg (by omega)] at u2
    omega
theorem SQ.done {b : Bk} {F : Nat → Option Nat} {ix : Nat → Nat} {N left : Nat} {an : Bool} {gl : List Int} (q : SQ b F ix N left an gl) {i s : Nat} (hF : F i = some s) (hs : (∃ mm, s = 2 * mm ∧ ¬ foulM b mm) ∨ ∃ mm, s = 2 * mm + 1) :
    SQ b (updO F i none) ix N (left - 1) an gl ∧ wtN (updO F i none) ix N < wtN F ix N ∧ 0 < left := by
  obtain ⟨a, ha, rfl⟩ := q.only i s hF
  obtain ⟨u1, u2⟩ := lfN_upd (F := F) (ix := ix) (v := none) N ha q.inj
  rw [hF] at u1 u2
  rw [if_neg (by simp), if_pos rfl] at u1
  have hc := q.cnt
  have ne : ∀ c, c < N → c ≠ a → updO F (ix a) none (ix c) = F (ix c) := fun c hc e => updO_ne _ _ fun e' => e (q.inj c a hc ha e')
  refine ⟨⟨q.inj, fun c hc => ?_, fun i s e => ?_, by omega, fun c hc hfc => ?_, q.best⟩, ?_, by omega⟩
  · by_cases e : c = a
    · subst e; rw [updO_same]; exact .inl rfl
    · rw [ne c hc e]; exact q.st c hc
  · by_cases e1 : i = ix a
    · exact ⟨a, ha, e1⟩
    · rw [updO_ne _ _ e1] at e; exact q.only i s e
  · by_cases e : c = a
    · subst e
      rcases q.got c hc hfc with h1 | h1
      · rw [hF] at h1
        have h1 := Option.some.inj h1
        rcases hs with ⟨mm, h2, h3⟩ | ⟨mm, h2⟩
        · obtain rfl : mm = c := by omega
          exact absurd hfc h3
        · omega
      · exact .inr h1
    · rw [ne c hc e]; exact q.got c hc hfc
  · have : 0 < w1 (some s) a := by simp only [w1]; split <;> omega
    have h0 : w1 none a = 0 := rfl
    omega
theorem full_bits : ∀ n : Nat, n < 5 → ∀ i : Nat, i < n → bitN (2 ^ n - 1) i = 1 := by decide
theorem full_foul {b : Bk} {t : Nat} (h4 : b.rules.length < 5) (hb : boatsOf b = []) (ht : t = 2 ^ b.rules.length) : foulM b (t - 1) := by
  have hk : keptR b.rules (t - 1) b.rules.length = b.rules := by
    have hbit : ∀ i, i < b.rules.length → bitN (t - 1) i = 1 := fun i hi => by
      subst ht
      exact full_bits _ h4 i hi
    unfold keptR
    rw [List.filter_eq_self.2 (fun i hi => decide_eq_true (hbit i (List.mem_range.1 hi)))]; apply List.ext_getElem (by simp)
    intro i h1 h2
    simp [List.getD_eq_getElem?_getD, List.getElem?_eq_getElem h2]
  unfold foulM onlyB
  rw [hk]; exact hb
theorem perm_idx (l : Hp) (d : Chunk) (p : List Nat) (n : Nat) (hn : l.length = n) (h : List.Perm (List.range n) p) : List.Perm l (p.map fun i => l.getD i d) := by
  subst hn
  have e : l = (List.range l.length).map fun i => l.getD i d := by
    apply List.ext_getElem (by simp)
    intro i h1 h2
    simp [List.getD_eq_getElem?_getD, List.getElem?_eq_getElem h1]
  have := h.map fun i => l.getD i d
  rw [← e] at this
  exact this
theorem run_absurd {P : Program} {B : Array Obj} {m : Md P B} {K : Goroutine → Hp → Prop} {g : Goroutine} {h : Hp} (hs : g.status = .running) (hh : ∀ w, ¬ Sat B h w) : m.R K g h :=
  m.step (K' := fun _ _ => False) ⟨hs, fun w sw => absurd sw (hh w)⟩ fun _ _ f => f.elim
theorem not_sat2 {B : Array Obj} {X : Hp} {c d : Nat} {o o' : Obj} {w : World} (e : c = d) (s : Sat B (X ++ [⟨true, c, o⟩, ⟨true, d, o'⟩]) w) : False := by
  have h1 := (List.pairwise_append.1 s.apart).2.1
  have h2 := (List.pairwise_cons.1 h1).1 ⟨true, d, o'⟩ (by simp)
  exact h2 (.inl rfl) e
theorem f51_c (h : Hp) {b : Bk} {pm : Option Addr} {nm cm : Nat} {pr : Option Addr} {nr cr : Nat} (rdm : RdS B h 2 (.slice pm nm cm) nm (encs b.marks)) (hm : nm ≤ 1000) (rdr : RdS B h 4 (.slice pr nr cr) nr (encs b.rules)) (hr : nr ≤ 1000) : FnC (Md.star Tryz.prog B) 51 #[bkV b pm nm cm pr nr cr] h fun v h' => ∃ nw, h' = ro h ++ nw ∧ ∃ w g, v = .tuple [w, .int .i64 (clashS b)].toArray ∧ RdI B nw w g ∧ ClashOk b g ∧ ∀ p n c, w = .slice p n c → n ≤ c := by
  have hml := rdm.elen (by decide)
  have hrl := rdr.elen (by decide)
  refine fn_enter Tryz.func51 rfl rfl (l := (bkV b pm nm cm pr nr cr) :: uu69) rfl ?_
  intro cf cs K hK
  refine rs3 (by kernel_rfl) ?_; refine k_box rfl zq (fun q1 => k_hp (k_put ?_)); refine k_as rfl zq ?_; refine aq rfl ?_; refine run_seq ?_; refine rs3 (by kernel_rfl) ?_; refine k_ldA rfl zq ?_; refine k_calP (Post := fun v => v = _) rfl zq (by kernel_rfl) (fun H' hH => f21_c _ H' (rdm.keeps (sq hH)) hm (rdr.keeps (sq hH)) hr) ?_; rintro v rfl; refine k_put ?_; refine aq rfl ?_; refine rs2 (by kernel_rfl) ?_; refine mq rfl ?_; refine k_neqS rfl zq (fun hc => ?_) (fun hc => ?_)
  · refine k_nil ?_; refine run_yes ?_; refine rs3 (by kernel_rfl) ?_; refine mq rfl ?_; refine k_as rfl zq ?_; refine aq rfl ?_; refine run_ret rfl ?_; refine run_res (h) rfl Tryz.func51 rfl weakSub ?_; refine (Md.star Tryz.prog B).weak (h' := ro h) (by simpa using weak_ro (B := B) h []) ?_
    refine hK _ _ ?_
    exact ⟨[], by simp, _, [], by rw [clashS, if_pos (by assumption)], RdI.nil, by rw [ClashOk, if_pos (.inl (by assumption))], fun p n c e => by cases e; exact Nat.le_refl _⟩
  · have hv := valid_of hc
    have hvm := hv.many
    have hr4 : nr ≤ 4 := by have := hv.few; omega
    refine k_nil ?_; refine run_no ?_; refine run_skip ?_; refine rs4 (by kernel_rfl) ?_; refine k_ldA rfl zq ?_; refine k_bld rfl zq ?_; refine k_new rfl zq (fun q5 => k_hp (k_put ?_)); refine k_stA rfl zq rfl ?_; refine k_nil ?_; refine run_seq ?_; refine rs4 (by kernel_rfl) ?_; refine k_ldA rfl zq ?_; refine k_calC rfl zq (by kernel_rfl) (Post := fun v nw => OwnS 112 7 v (boatsOf b).length (encs (boatsOf b)) nw) (fun H' hH => f104_c _ H' (rdm.keeps (sq hH)) hm (rdr.keeps (sq hH)) hr hv) ?_; rintro v nw o; obtain ⟨bp, bc, rfl, _⟩ := o.len
    refine k_hpA (k_put ?_); refine k_len rfl zq ?_; refine k_gtrS rfl zq (fun hc => ?_) (fun hc => ?_)
    · have hbne : boatsOf b ≠ [] := fun e => by rw [e] at hc; exact absurd hc (by decide)
      refine k_nil ?_; refine run_yes ?_; refine rs2 (by kernel_rfl) ?_; refine k_as rfl zq ?_; refine aq rfl ?_; refine run_ret rfl ?_; refine run_res (h) rfl Tryz.func51 rfl weakSub ?_; refine (Md.star Tryz.prog B).weak (h' := ro h) (by simpa using weak_ro (B := B) h []) ?_
      refine hK _ _ ?_
      have hz : bookS b = 0 := by assumption
      exact ⟨[], by simp, _, [], by rw [clashS, if_neg (fun e => e hz), if_pos hbne], RdI.nil, by rw [ClashOk, if_pos (.inr (.inl hbne))], fun p n c e => by cases e; exact Nat.le_refl _⟩
    · have hbe : boatsOf b = [] := List.length_eq_zero_iff.1 (by omega)
      refine k_nil ?_; refine run_no ?_; refine run_skip ?_; refine run_seq ?_; refine rs8 (by kernel_rfl) ?_; refine k_ldA rfl zq ?_; refine k_cal rfl zq (by kernel_rfl) (f130_c _ _ (mm := 0) rdr.up hr4 (by decide)) ?_; rintro v h' ⟨nI, nR, rfl, p, c, w, rfl, hrr, hoI⟩; refine k_put ?_; obtain ⟨ip, ic, rfl, hic, rI⟩ := own_rdA (B := B) hoI
      refine mq rfl ?_; refine k_ext0 rfl zq ?_; refine k_ext1 rfl zq ?_; refine k_new rfl zq (fun q6 => k_hp (k_put ?_)); refine k_stA rfl zq rfl ?_; refine aq rfl ?_; refine rs4 (by kernel_rfl) ?_; have hvo := onlyB_valid hv 0
      have hkl := keptR_le b.rules 0 nr
      have hrr' : RdS B nR 4 (.slice p (keptR b.rules 0 nr).length c) (keptR b.rules 0 nr).length (encs (onlyB b 0).rules) := by rw [onlyB, hrl]; exact hrr
      refine k_ldA rfl zq ?_; refine k_calC rfl zq (by kernel_rfl) (Post := fun v nw => OwnS 112 7 v (boatsOf (onlyB b 0)).length (encs (boatsOf (onlyB b 0))) nw) (fun H' hH => f104_c _ H' (b := onlyB b 0) (rdm.keeps (sq hH)) (by omega) (hrr'.keeps (sq hH)) (by omega) hvo) ?_; rintro v nw2 o2; obtain ⟨bp2, bc2, rfl, _⟩ := o2.len
      refine k_hpA (k_put ?_); refine k_len rfl zq ?_; refine k_eqlS rfl zq (fun hc => ?_) (fun hc => ?_)
      · have hob : boatsOf (onlyB b 0) = [] := List.length_eq_zero_iff.1 (by omega)
        refine k_nil ?_; refine run_yes ?_; refine rs2 (by kernel_rfl) ?_; refine k_as rfl zq ?_; refine aq rfl ?_; refine run_ret rfl ?_; refine run_res (h) rfl Tryz.func51 rfl weakSub ?_; refine (Md.star Tryz.prog B).weak (h' := ro h) (by simpa using weak_ro (B := B) h []) ?_
        refine hK _ _ ?_
        have hz : bookS b = 0 := by assumption
        exact ⟨[], by simp, _, [], by rw [clashS, if_neg (fun e => e hz), if_neg (fun e => e hbe), if_pos hob], RdI.nil, by rw [ClashOk, if_pos (.inr (.inr hob))], fun p n c e => by cases e; exact Nat.le_refl _⟩
      · have hob : boatsOf (onlyB b 0) ≠ [] := fun e => hc (by rw [e]; rfl)
        refine k_nil ?_; refine run_no ?_; refine run_skip ?_; refine run_seq ?_; refine run_drawC (fun l' h' => ∃ qf qd q8 q9 : Nat, (∃ U : Nat → Value, l' = [U 0, .pointer (some ⟨q1, 0, none⟩), U 2, U 3, U 4, .pointer (some ⟨q5, 0, none⟩), U 6, U 7, .pointer (some ⟨q8, 0, none⟩), .pointer (some ⟨q9, 0, none⟩), U 10, U 11, U 12, U 13, U 14, U 15, U 16, U 17, U 18, U 19, U 20, U 21, U 22, U 23, U 24, U 25, U 26, U 27, U 28, U 29, U 30, U 31, U 32, U 33, U 34, U 35, U 36, U 37, U 38, U 39, U 40, U 41, U 42, U 43, U 44, U 45, U 46, U 47, U 48, U 49, U 50, U 51, U 52, U 53, U 54, U 55, U 56, U 57, U 58, U 59, U 60, U 61, U 62, U 63, U 64, U 65, U 66, U 67, U 68, U 69]) ∧ Weak B h' (h ++ [⟨true, q1, .cells (bkL b pm nm cm pr nr cr).toArray 25 (0, 0)⟩, ⟨true, q5, .cells (bkL b pm nm cm pr nr cr).toArray 109 (0, 0)⟩] ++ [⟨true, q8, .cells [.chan (some qf)].toArray 142 (0, 0)⟩, ⟨true, q9, .cells [.chan (some qd)].toArray 143 (0, 0)⟩, ⟨true, qf, .chan 0 #[] false 0 0 false⟩, ⟨true, qd, .chan 0 #[] false 0 0 false⟩])) [0, 1, 2, 3, 4, 5] (by kernel_rfl) (by kernel_rfl) (List.Sublist.refl _) ?_ ?_
        · refine DrawT.split 0 1 (by decide) ?_ ?_
          · refine DrawT.split 0 2 (by decide) ?_ ?_
            · refine DrawT.split 0 3 (by decide) ?_ ?_
              · refine DrawT.split 1 2 (by decide) ?_ ?_
                · refine DrawT.split 1 3 (by decide) ?_ ?_
                  · refine DrawT.leaf [(0, .keep), (1, .keep), (2, .alloc), (3, .alloc), (4, .free), (5, .free)] (by kernel_rfl) ?_
                    refine k_mkchan kdq rfl zq (by kernel_rfl) (fun q35 => k_hp (k_put ?_)); refine k_mkchan kdq rfl zq (by kernel_rfl) (fun q36 => k_hp (k_put ?_)); refine k_new rfl zq (fun q8 => k_hp (k_put ?_)); refine k_new rfl zq (fun q9 => k_hp (k_put ?_)); refine k_st1 rfl zq ?_; refine k_st1 rfl zq ?_; refine k_nil ?_; have hperm : List.Perm ([⟨true, q35, .chan 0 #[] false 0 0 false⟩, ⟨true, q36, .chan 0 #[] false 0 0 false⟩, ⟨true, q8, .cells [.chan (some q35)].toArray 142 (0, 0)⟩, ⟨true, q9, .cells [.chan (some q36)].toArray 143 (0, 0)⟩] : Hp) ([⟨true, q8, .cells [.chan (some q35)].toArray 142 (0, 0)⟩, ⟨true, q9, .cells [.chan (some q36)].toArray 143 (0, 0)⟩, ⟨true, q35, .chan 0 #[] false 0 0 false⟩, ⟨true, q36, .chan 0 #[] false 0 0 false⟩] : Hp) := by
                      have := perm_idx ([⟨true, q35, .chan 0 #[] false 0 0 false⟩, ⟨true, q36, .chan 0 #[] false 0 0 false⟩, ⟨true, q8, .cells [.chan (some q35)].toArray 142 (0, 0)⟩, ⟨true, q9, .cells [.chan (some q36)].toArray 143 (0, 0)⟩] : Hp) ⟨true, 0, .cells #[] 0 (0, 0)⟩ [2, 3, 0, 1] 4 rfl (by decide)
                      simpa using this
                    exact ⟨q35, q36, q8, q9, exU rfl, Weak.trans weakSub (Weak.perm (List.Perm.append_left (h ++ [⟨true, q1, .cells (bkL b pm nm cm pr nr cr).toArray 25 (0, 0)⟩, ⟨true, q5, .cells (bkL b pm nm cm pr nr cr).toArray 109 (0, 0)⟩]) hperm))⟩
                  · refine DrawT.leaf [(0, .keep), (3, .alloc), (1, .keep), (2, .alloc), (4, .free), (5, .free)] (by kernel_rfl) ?_
                    refine k_mkchan kdq rfl zq (by kernel_rfl) (fun q35 => k_hp (k_put ?_)); refine k_new rfl zq (fun q9 => k_hp (k_put ?_)); refine k_mkchan kdq rfl zq (by kernel_rfl) (fun q36 => k_hp (k_put ?_)); refine k_new rfl zq (fun q8 => k_hp (k_put ?_)); refine k_st1 rfl zq ?_; refine k_st1 rfl zq ?_; refine k_nil ?_; have hperm : List.Perm ([⟨true, q35, .chan 0 #[] false 0 0 false⟩, ⟨true, q9, .cells [.chan (some q36)].toArray 143 (0, 0)⟩, ⟨true, q36, .chan 0 #[] false 0 0 false⟩, ⟨true, q8, .cells [.chan (some q35)].toArray 142 (0, 0)⟩] : Hp) ([⟨true, q8, .cells [.chan (some q35)].toArray 142 (0, 0)⟩, ⟨true, q9, .cells [.chan (some q36)].toArray 143 (0, 0)⟩, ⟨true, q35, .chan 0 #[] false 0 0 false⟩, ⟨true, q36, .chan 0 #[] false 0 0 false⟩] : Hp) := by
                      have := perm_idx ([⟨true, q35, .chan 0 #[] false 0 0 false⟩, ⟨true, q9, .cells [.chan (some q36)].toArray 143 (0, 0)⟩, ⟨true, q36, .chan 0 #[] false 0 0 false⟩, ⟨true, q8, .cells [.chan (some q35)].toArray 142 (0, 0)⟩] : Hp) ⟨true, 0, .cells #[] 0 (0, 0)⟩ [3, 1, 0, 2] 4 rfl (by decide)
                      simpa using this
                    exact ⟨q35, q36, q8, q9, exU rfl, Weak.trans weakSub (Weak.perm (List.Perm.append_left (h ++ [⟨true, q1, .cells (bkL b pm nm cm pr nr cr).toArray 25 (0, 0)⟩, ⟨true, q5, .cells (bkL b pm nm cm pr nr cr).toArray 109 (0, 0)⟩]) hperm))⟩
                · refine DrawT.split 1 3 (by decide) ?_ ?_
                  · refine DrawT.leaf [(0, .keep), (2, .alloc), (1, .keep), (3, .alloc), (4, .free), (5, .free)] (by kernel_rfl) ?_
                    refine k_mkchan kdq rfl zq (by kernel_rfl) (fun q35 => k_hp (k_put ?_)); refine k_new rfl zq (fun q8 => k_hp (k_put ?_)); refine k_mkchan kdq rfl zq (by kernel_rfl) (fun q36 => k_hp (k_put ?_)); refine k_new rfl zq (fun q9 => k_hp (k_put ?_)); refine k_st1 rfl zq ?_; refine k_st1 rfl zq ?_; refine k_nil ?_; have hperm : List.Perm ([⟨true, q35, .chan 0 #[] false 0 0 false⟩, ⟨true, q8, .cells [.chan (some q35)].toArray 142 (0, 0)⟩, ⟨true, q36, .chan 0 #[] false 0 0 false⟩, ⟨true, q9, .cells [.chan (some q36)].toArray 143 (0, 0)⟩] : Hp) ([⟨true, q8, .cells [.chan (some q35)].toArray 142 (0, 0)⟩, ⟨true, q9, .cells [.chan (some q36)].toArray 143 (0, 0)⟩, ⟨true, q35, .chan 0 #[] false 0 0 false⟩, ⟨true, q36, .chan 0 #[] false 0 0 false⟩] : Hp) := by
                      have := perm_idx ([⟨true, q35, .chan 0 #[] false 0 0 false⟩, ⟨true, q8, .cells [.chan (some q35)].toArray 142 (0, 0)⟩, ⟨true, q36, .chan 0 #[] false 0 0 false⟩, ⟨true, q9, .cells [.chan (some q36)].toArray 143 (0, 0)⟩] : Hp) ⟨true, 0, .cells #[] 0 (0, 0)⟩ [1, 3, 0, 2] 4 rfl (by decide)
                      simpa using this
                    exact ⟨q35, q36, q8, q9, exU rfl, Weak.trans weakSub (Weak.perm (List.Perm.append_left (h ++ [⟨true, q1, .cells (bkL b pm nm cm pr nr cr).toArray 25 (0, 0)⟩, ⟨true, q5, .cells (bkL b pm nm cm pr nr cr).toArray 109 (0, 0)⟩]) hperm))⟩
                  · refine DrawT.split 1 4 (by decide) ?_ ?_
                    · refine DrawT.leaf [(0, .keep), (2, .alloc), (3, .alloc), (1, .keep), (4, .free), (5, .free)] (by kernel_rfl) ?_
                      refine k_mkchan kdq rfl zq (by kernel_rfl) (fun q35 => k_hp (k_put ?_)); refine k_new rfl zq (fun q8 => k_hp (k_put ?_)); refine k_new rfl zq (fun q9 => k_hp (k_put ?_)); refine k_mkchan kdq rfl zq (by kernel_rfl) (fun q36 => k_hp (k_put ?_)); refine k_st1 rfl zq ?_; refine k_st1 rfl zq ?_; refine k_nil ?_; have hperm : List.Perm ([⟨true, q35, .chan 0 #[] false 0 0 false⟩, ⟨true, q8, .cells [.chan (some q35)].toArray 142 (0, 0)⟩, ⟨true, q9, .cells [.chan (some q36)].toArray 143 (0, 0)⟩, ⟨true, q36, .chan 0 #[] false 0 0 false⟩] : Hp) ([⟨true, q8, .cells [.chan (some q35)].toArray 142 (0, 0)⟩, ⟨true, q9, .cells [.chan (some q36)].toArray 143 (0, 0)⟩, ⟨true, q35, .chan 0 #[] false 0 0 false⟩, ⟨true, q36, .chan 0 #[] false 0 0 false⟩] : Hp) := by
                        have := perm_idx ([⟨true, q35, .chan 0 #[] false 0 0 false⟩, ⟨true, q8, .cells [.chan (some q35)].toArray 142 (0, 0)⟩, ⟨true, q9, .cells [.chan (some q36)].toArray 143 (0, 0)⟩, ⟨true, q36, .chan 0 #[] false 0 0 false⟩] : Hp) ⟨true, 0, .cells #[] 0 (0, 0)⟩ [1, 2, 0, 3] 4 rfl (by decide)
                        simpa using this
                      exact ⟨q35, q36, q8, q9, exU rfl, Weak.trans weakSub (Weak.perm (List.Perm.append_left (h ++ [⟨true, q1, .cells (bkL b pm nm cm pr nr cr).toArray 25 (0, 0)⟩, ⟨true, q5, .cells (bkL b pm nm cm pr nr cr).toArray 109 (0, 0)⟩]) hperm))⟩
                    · refine DrawT.leaf [(0, .keep), (2, .alloc), (3, .alloc), (4, .free), (1, .keep), (5, .free)] (by kernel_rfl) ?_
                      refine k_mkchan kdq rfl zq (by kernel_rfl) (fun q35 => k_hp (k_put ?_)); refine k_new rfl zq (fun q8 => k_hp (k_put ?_)); refine k_new rfl zq (fun q9 => k_hp (k_put ?_)); refine k_st1 rfl zq ?_; refine k_mkchan kdq rfl zq (by kernel_rfl) (fun q36 => k_hp (k_put ?_)); refine k_st1 rfl zq ?_; refine k_nil ?_; have hperm : List.Perm ([⟨true, q35, .chan 0 #[] false 0 0 false⟩, ⟨true, q8, .cells [.chan (some q35)].toArray 142 (0, 0)⟩, ⟨true, q9, .cells [.chan (some q36)].toArray 143 (0, 0)⟩, ⟨true, q36, .chan 0 #[] false 0 0 false⟩] : Hp) ([⟨true, q8, .cells [.chan (some q35)].toArray 142 (0, 0)⟩, ⟨true, q9, .cells [.chan (some q36)].toArray 143 (0, 0)⟩, ⟨true, q35, .chan 0 #[] false 0 0 false⟩, ⟨true, q36, .chan 0 #[] false 0 0 false⟩] : Hp) := by
                        have := perm_idx ([⟨true, q35, .chan 0 #[] false 0 0 false⟩, ⟨true, q8, .cells [.chan (some q35)].toArray 142 (0, 0)⟩, ⟨true, q9, .cells [.chan (some q36)].toArray 143 (0, 0)⟩, ⟨true, q36, .chan 0 #[] false 0 0 false⟩] : Hp) ⟨true, 0, .cells #[] 0 (0, 0)⟩ [1, 2, 0, 3] 4 rfl (by decide)
                        simpa using this
                      exact ⟨q35, q36, q8, q9, exU rfl, Weak.trans weakSub (Weak.perm (List.Perm.append_left (h ++ [⟨true, q1, .cells (bkL b pm nm cm pr nr cr).toArray 25 (0, 0)⟩, ⟨true, q5, .cells (bkL b pm nm cm pr nr cr).toArray 109 (0, 0)⟩]) hperm))⟩
              · refine DrawT.split 1 2 (by decide) ?_ ?_
                · refine DrawT.leaf [(3, .alloc), (0, .keep), (1, .keep), (2, .alloc), (4, .free), (5, .free)] (by kernel_rfl) ?_
                  refine k_new rfl zq (fun q9 => k_hp (k_put ?_)); refine k_mkchan kdq rfl zq (by kernel_rfl) (fun q35 => k_hp (k_put ?_)); refine k_mkchan kdq rfl zq (by kernel_rfl) (fun q36 => k_hp (k_put ?_)); refine k_new rfl zq (fun q8 => k_hp (k_put ?_)); refine k_st1 rfl zq ?_; refine k_st1 rfl zq ?_; refine k_nil ?_; have hperm : List.Perm ([⟨true, q9, .cells [.chan (some q36)].toArray 143 (0, 0)⟩, ⟨true, q35, .chan 0 #[] false 0 0 false⟩, ⟨true, q36, .chan 0 #[] false 0 0 false⟩, ⟨true, q8, .cells [.chan (some q35)].toArray 142 (0, 0)⟩] : Hp) ([⟨true, q8, .cells [.chan (some q35)].toArray 142 (0, 0)⟩, ⟨true, q9, .cells [.chan (some q36)].toArray 143 (0, 0)⟩, ⟨true, q35, .chan 0 #[] false 0 0 false⟩, ⟨true, q36, .chan 0 #[] false 0 0 false⟩] : Hp) := by
                    have := perm_idx ([⟨true, q9, .cells [.chan (some q36)].toArray 143 (0, 0)⟩, ⟨true, q35, .chan 0 #[] false 0 0 false⟩, ⟨true, q36, .chan 0 #[] false 0 0 false⟩, ⟨true, q8, .cells [.chan (some q35)].toArray 142 (0, 0)⟩] : Hp) ⟨true, 0, .cells #[] 0 (0, 0)⟩ [3, 0, 1, 2] 4 rfl (by decide)
                    simpa using this
                  exact ⟨q35, q36, q8, q9, exU rfl, Weak.trans weakSub (Weak.perm (List.Perm.append_left (h ++ [⟨true, q1, .cells (bkL b pm nm cm pr nr cr).toArray 25 (0, 0)⟩, ⟨true, q5, .cells (bkL b pm nm cm pr nr cr).toArray 109 (0, 0)⟩]) hperm))⟩
                · refine DrawT.split 1 4 (by decide) ?_ ?_
                  · refine DrawT.leaf [(3, .alloc), (0, .keep), (2, .alloc), (1, .keep), (4, .free), (5, .free)] (by kernel_rfl) ?_
                    refine k_new rfl zq (fun q9 => k_hp (k_put ?_)); refine k_mkchan kdq rfl zq (by kernel_rfl) (fun q35 => k_hp (k_put ?_)); refine k_new rfl zq (fun q8 => k_hp (k_put ?_)); refine k_mkchan kdq rfl zq (by kernel_rfl) (fun q36 => k_hp (k_put ?_)); refine k_st1 rfl zq ?_; refine k_st1 rfl zq ?_; refine k_nil ?_; have hperm : List.Perm ([⟨true, q9, .cells [.chan (some q36)].toArray 143 (0, 0)⟩, ⟨true, q35, .chan 0 #[] false 0 0 false⟩, ⟨true, q8, .cells [.chan (some q35)].toArray 142 (0, 0)⟩, ⟨true, q36, .chan 0 #[] false 0 0 false⟩] : Hp) ([⟨true, q8, .cells [.chan (some q35)].toArray 142 (0, 0)⟩, ⟨true, q9, .cells [.chan (some q36)].toArray 143 (0, 0)⟩, ⟨true, q35, .chan 0 #[] false 0 0 false⟩, ⟨true, q36, .chan 0 #[] false 0 0 false⟩] : Hp) := by
                      have := perm_idx ([⟨true, q9, .cells [.chan (some q36)].toArray 143 (0, 0)⟩, ⟨true, q35, .chan 0 #[] false 0 0 false⟩, ⟨true, q8, .cells [.chan (some q35)].toArray 142 (0, 0)⟩, ⟨true, q36, .chan 0 #[] false 0 0 false⟩] : Hp) ⟨true, 0, .cells #[] 0 (0, 0)⟩ [2, 0, 1, 3] 4 rfl (by decide)
                      simpa using this
                    exact ⟨q35, q36, q8, q9, exU rfl, Weak.trans weakSub (Weak.perm (List.Perm.append_left (h ++ [⟨true, q1, .cells (bkL b pm nm cm pr nr cr).toArray 25 (0, 0)⟩, ⟨true, q5, .cells (bkL b pm nm cm pr nr cr).toArray 109 (0, 0)⟩]) hperm))⟩
                  · refine DrawT.leaf [(3, .alloc), (0, .keep), (2, .alloc), (4, .free), (1, .keep), (5, .free)] (by kernel_rfl) ?_
                    refine k_new rfl zq (fun q9 => k_hp (k_put ?_)); refine k_mkchan kdq rfl zq (by kernel_rfl) (fun q35 => k_hp (k_put ?_)); refine k_new rfl zq (fun q8 => k_hp (k_put ?_)); refine k_st1 rfl zq ?_; refine k_mkchan kdq rfl zq (by kernel_rfl) (fun q36 => k_hp (k_put ?_)); refine k_st1 rfl zq ?_; refine k_nil ?_; have hperm : List.Perm ([⟨true, q9, .cells [.chan (some q36)].toArray 143 (0, 0)⟩, ⟨true, q35, .chan 0 #[] false 0 0 false⟩, ⟨true, q8, .cells [.chan (some q35)].toArray 142 (0, 0)⟩, ⟨true, q36, .chan 0 #[] false 0 0 false⟩] : Hp) ([⟨true, q8, .cells [.chan (some q35)].toArray 142 (0, 0)⟩, ⟨true, q9, .cells [.chan (some q36)].toArray 143 (0, 0)⟩, ⟨true, q35, .chan 0 #[] false 0 0 false⟩, ⟨true, q36, .chan 0 #[] false 0 0 false⟩] : Hp) := by
                      have := perm_idx ([⟨true, q9, .cells [.chan (some q36)].toArray 143 (0, 0)⟩, ⟨true, q35, .chan 0 #[] false 0 0 false⟩, ⟨true, q8, .cells [.chan (some q35)].toArray 142 (0, 0)⟩, ⟨true, q36, .chan 0 #[] false 0 0 false⟩] : Hp) ⟨true, 0, .cells #[] 0 (0, 0)⟩ [2, 0, 1, 3] 4 rfl (by decide)
                      simpa using this
                    exact ⟨q35, q36, q8, q9, exU rfl, Weak.trans weakSub (Weak.perm (List.Perm.append_left (h ++ [⟨true, q1, .cells (bkL b pm nm cm pr nr cr).toArray 25 (0, 0)⟩, ⟨true, q5, .cells (bkL b pm nm cm pr nr cr).toArray 109 (0, 0)⟩]) hperm))⟩
            · refine DrawT.split 0 3 (by decide) ?_ ?_
              · refine DrawT.split 1 3 (by decide) ?_ ?_
                · refine DrawT.leaf [(2, .alloc), (0, .keep), (1, .keep), (3, .alloc), (4, .free), (5, .free)] (by kernel_rfl) ?_
                  refine k_new rfl zq (fun q8 => k_hp (k_put ?_)); refine k_mkchan kdq rfl zq (by kernel_rfl) (fun q35 => k_hp (k_put ?_)); refine k_mkchan kdq rfl zq (by kernel_rfl) (fun q36 => k_hp (k_put ?_)); refine k_new rfl zq (fun q9 => k_hp (k_put ?_)); refine k_st1 rfl zq ?_; refine k_st1 rfl zq ?_; refine k_nil ?_; have hperm : List.Perm ([⟨true, q8, .cells [.chan (some q35)].toArray 142 (0, 0)⟩, ⟨true, q35, .chan 0 #[] false 0 0 false⟩, ⟨true, q36, .chan 0 #[] false 0 0 false⟩, ⟨true, q9, .cells [.chan (some q36)].toArray 143 (0, 0)⟩] : Hp) ([⟨true, q8, .cells [.chan (some q35)].toArray 142 (0, 0)⟩, ⟨true, q9, .cells [.chan (some q36)].toArray 143 (0, 0)⟩, ⟨true, q35, .chan 0 #[] false 0 0 false⟩, ⟨true, q36, .chan 0 #[] false 0 0 false⟩] : Hp) := by
                    have := perm_idx ([⟨true, q8, .cells [.chan (some q35)].toArray 142 (0, 0)⟩, ⟨true, q35, .chan 0 #[] false 0 0 false⟩, ⟨true, q36, .chan 0 #[] false 0 0 false⟩, ⟨true, q9, .cells [.chan (some q36)].toArray 143 (0, 0)⟩] : Hp) ⟨true, 0, .cells #[] 0 (0, 0)⟩ [0, 3, 1, 2] 4 rfl (by decide)
                    simpa using this
                  exact ⟨q35, q36, q8, q9, exU rfl, Weak.trans weakSub (Weak.perm (List.Perm.append_left (h ++ [⟨true, q1, .cells (bkL b pm nm cm pr nr cr).toArray 25 (0, 0)⟩, ⟨true, q5, .cells (bkL b pm nm cm pr nr cr).toArray 109 (0, 0)⟩]) hperm))⟩
                · refine DrawT.split 1 4 (by decide) ?_ ?_
                  · refine DrawT.leaf [(2, .alloc), (0, .keep), (3, .alloc), (1, .keep), (4, .free), (5, .free)] (by kernel_rfl) ?_
                    refine k_new rfl zq (fun q8 => k_hp (k_put ?_)); refine k_mkchan kdq rfl zq (by kernel_rfl) (fun q35 => k_hp (k_put ?_)); refine k_new rfl zq (fun q9 => k_hp (k_put ?_)); refine k_mkchan kdq rfl zq (by kernel_rfl) (fun q36 => k_hp (k_put ?_)); refine k_st1 rfl zq ?_; refine k_st1 rfl zq ?_; refine k_nil ?_; have hperm : List.Perm ([⟨true, q8, .cells [.chan (some q35)].toArray 142 (0, 0)⟩, ⟨true, q35, .chan 0 #[] false 0 0 false⟩, ⟨true, q9, .cells [.chan (some q36)].toArray 143 (0, 0)⟩, ⟨true, q36, .chan 0 #[] false 0 0 false⟩] : Hp) ([⟨true, q8, .cells [.chan (some q35)].toArray 142 (0, 0)⟩, ⟨true, q9, .cells [.chan (some q36)].toArray 143 (0, 0)⟩, ⟨true, q35, .chan 0 #[] false 0 0 false⟩, ⟨true, q36, .chan 0 #[] false 0 0 false⟩] : Hp) := by
                      have := perm_idx ([⟨true, q8, .cells [.chan (some q35)].toArray 142 (0, 0)⟩, ⟨true, q35, .chan 0 #[] false 0 0 false⟩, ⟨true, q9, .cells [.chan (some q36)].toArray 143 (0, 0)⟩, ⟨true, q36, .chan 0 #[] false 0 0 false⟩] : Hp) ⟨true, 0, .cells #[] 0 (0, 0)⟩ [0, 2, 1, 3] 4 rfl (by decide)
                      simpa using this
                    exact ⟨q35, q36, q8, q9, exU rfl, Weak.trans weakSub (Weak.perm (List.Perm.append_left (h ++ [⟨true, q1, .cells (bkL b pm nm cm pr nr cr).toArray 25 (0, 0)⟩, ⟨true, q5, .cells (bkL b pm nm cm pr nr cr).toArray 109 (0, 0)⟩]) hperm))⟩
                  · refine DrawT.leaf [(2, .alloc), (0, .keep), (3, .alloc), (4, .free), (1, .keep), (5, .free)] (by kernel_rfl) ?_
                    refine k_new rfl zq (fun q8 => k_hp (k_put ?_)); refine k_mkchan kdq rfl zq (by kernel_rfl) (fun q35 => k_hp (k_put ?_)); refine k_new rfl zq (fun q9 => k_hp (k_put ?_)); refine k_st1 rfl zq ?_; refine k_mkchan kdq rfl zq (by kernel_rfl) (fun q36 => k_hp (k_put ?_)); refine k_st1 rfl zq ?_; refine k_nil ?_; have hperm : List.Perm ([⟨true, q8, .cells [.chan (some q35)].toArray 142 (0, 0)⟩, ⟨true, q35, .chan 0 #[] false 0 0 false⟩, ⟨true, q9, .cells [.chan (some q36)].toArray 143 (0, 0)⟩, ⟨true, q36, .chan 0 #[] false 0 0 false⟩] : Hp) ([⟨true, q8, .cells [.chan (some q35)].toArray 142 (0, 0)⟩, ⟨true, q9, .cells [.chan (some q36)].toArray 143 (0, 0)⟩, ⟨true, q35, .chan 0 #[] false 0 0 false⟩, ⟨true, q36, .chan 0 #[] false 0 0 false⟩] : Hp) := by
                      have := perm_idx ([⟨true, q8, .cells [.chan (some q35)].toArray 142 (0, 0)⟩, ⟨true, q35, .chan 0 #[] false 0 0 false⟩, ⟨true, q9, .cells [.chan (some q36)].toArray 143 (0, 0)⟩, ⟨true, q36, .chan 0 #[] false 0 0 false⟩] : Hp) ⟨true, 0, .cells #[] 0 (0, 0)⟩ [0, 2, 1, 3] 4 rfl (by decide)
                      simpa using this
                    exact ⟨q35, q36, q8, q9, exU rfl, Weak.trans weakSub (Weak.perm (List.Perm.append_left (h ++ [⟨true, q1, .cells (bkL b pm nm cm pr nr cr).toArray 25 (0, 0)⟩, ⟨true, q5, .cells (bkL b pm nm cm pr nr cr).toArray 109 (0, 0)⟩]) hperm))⟩
              · refine DrawT.split 1 4 (by decide) ?_ ?_
                · refine DrawT.leaf [(2, .alloc), (3, .alloc), (0, .keep), (1, .keep), (4, .free), (5, .free)] (by kernel_rfl) ?_
                  refine k_new rfl zq (fun q8 => k_hp (k_put ?_)); refine k_new rfl zq (fun q9 => k_hp (k_put ?_)); refine k_mkchan kdq rfl zq (by kernel_rfl) (fun q35 => k_hp (k_put ?_)); refine k_mkchan kdq rfl zq (by kernel_rfl) (fun q36 => k_hp (k_put ?_)); refine k_st1 rfl zq ?_; refine k_st1 rfl zq ?_; refine k_nil ?_; have hperm : List.Perm ([⟨true, q8, .cells [.chan (some q35)].toArray 142 (0, 0)⟩, ⟨true, q9, .cells [.chan (some q36)].toArray 143 (0, 0)⟩, ⟨true, q35, .chan 0 #[] false 0 0 false⟩, ⟨true, q36, .chan 0 #[] false 0 0 false⟩] : Hp) ([⟨true, q8, .cells [.chan (some q35)].toArray 142 (0, 0)⟩, ⟨true, q9, .cells [.chan (some q36)].toArray 143 (0, 0)⟩, ⟨true, q35, .chan 0 #[] false 0 0 false⟩, ⟨true, q36, .chan 0 #[] false 0 0 false⟩] : Hp) := by
                    have := perm_idx ([⟨true, q8, .cells [.chan (some q35)].toArray 142 (0, 0)⟩, ⟨true, q9, .cells [.chan (some q36)].toArray 143 (0, 0)⟩, ⟨true, q35, .chan 0 #[] false 0 0 false⟩, ⟨true, q36, .chan 0 #[] false 0 0 false⟩] : Hp) ⟨true, 0, .cells #[] 0 (0, 0)⟩ [0, 1, 2, 3] 4 rfl (by decide)
                    simpa using this
                  exact ⟨q35, q36, q8, q9, exU rfl, Weak.trans weakSub (Weak.perm (List.Perm.append_left (h ++ [⟨true, q1, .cells (bkL b pm nm cm pr nr cr).toArray 25 (0, 0)⟩, ⟨true, q5, .cells (bkL b pm nm cm pr nr cr).toArray 109 (0, 0)⟩]) hperm))⟩
                · refine DrawT.leaf [(2, .alloc), (3, .alloc), (0, .keep), (4, .free), (1, .keep), (5, .free)] (by kernel_rfl) ?_
                  refine k_new rfl zq (fun q8 => k_hp (k_put ?_)); refine k_new rfl zq (fun q9 => k_hp (k_put ?_)); refine k_mkchan kdq rfl zq (by kernel_rfl) (fun q35 => k_hp (k_put ?_)); refine k_st1 rfl zq ?_; refine k_mkchan kdq rfl zq (by kernel_rfl) (fun q36 => k_hp (k_put ?_)); refine k_st1 rfl zq ?_; refine k_nil ?_; have hperm : List.Perm ([⟨true, q8, .cells [.chan (some q35)].toArray 142 (0, 0)⟩, ⟨true, q9, .cells [.chan (some q36)].toArray 143 (0, 0)⟩, ⟨true, q35, .chan 0 #[] false 0 0 false⟩, ⟨true, q36, .chan 0 #[] false 0 0 false⟩] : Hp) ([⟨true, q8, .cells [.chan (some q35)].toArray 142 (0, 0)⟩, ⟨true, q9, .cells [.chan (some q36)].toArray 143 (0, 0)⟩, ⟨true, q35, .chan 0 #[] false 0 0 false⟩, ⟨true, q36, .chan 0 #[] false 0 0 false⟩] : Hp) := by
                    have := perm_idx ([⟨true, q8, .cells [.chan (some q35)].toArray 142 (0, 0)⟩, ⟨true, q9, .cells [.chan (some q36)].toArray 143 (0, 0)⟩, ⟨true, q35, .chan 0 #[] false 0 0 false⟩, ⟨true, q36, .chan 0 #[] false 0 0 false⟩] : Hp) ⟨true, 0, .cells #[] 0 (0, 0)⟩ [0, 1, 2, 3] 4 rfl (by decide)
                    simpa using this
                  exact ⟨q35, q36, q8, q9, exU rfl, Weak.trans weakSub (Weak.perm (List.Perm.append_left (h ++ [⟨true, q1, .cells (bkL b pm nm cm pr nr cr).toArray 25 (0, 0)⟩, ⟨true, q5, .cells (bkL b pm nm cm pr nr cr).toArray 109 (0, 0)⟩]) hperm))⟩
          · refine DrawT.split 0 2 (by decide) ?_ ?_
            · refine DrawT.split 0 3 (by decide) ?_ ?_
              · refine DrawT.leaf [(1, .keep), (0, .keep), (2, .alloc), (3, .alloc), (4, .free), (5, .free)] (by kernel_rfl) ?_
                refine k_mkchan kdq rfl zq (by kernel_rfl) (fun q36 => k_hp (k_put ?_)); refine k_mkchan kdq rfl zq (by kernel_rfl) (fun q35 => k_hp (k_put ?_)); refine k_new rfl zq (fun q8 => k_hp (k_put ?_)); refine k_new rfl zq (fun q9 => k_hp (k_put ?_)); refine k_st1 rfl zq ?_; refine k_st1 rfl zq ?_; refine k_nil ?_; have hperm : List.Perm ([⟨true, q36, .chan 0 #[] false 0 0 false⟩, ⟨true, q35, .chan 0 #[] false 0 0 false⟩, ⟨true, q8, .cells [.chan (some q35)].toArray 142 (0, 0)⟩, ⟨true, q9, .cells [.chan (some q36)].toArray 143 (0, 0)⟩] : Hp) ([⟨true, q8, .cells [.chan (some q35)].toArray 142 (0, 0)⟩, ⟨true, q9, .cells [.chan (some q36)].toArray 143 (0, 0)⟩, ⟨true, q35, .chan 0 #[] false 0 0 false⟩, ⟨true, q36, .chan 0 #[] false 0 0 false⟩] : Hp) := by
                  have := perm_idx ([⟨true, q36, .chan 0 #[] false 0 0 false⟩, ⟨true, q35, .chan 0 #[] false 0 0 false⟩, ⟨true, q8, .cells [.chan (some q35)].toArray 142 (0, 0)⟩, ⟨true, q9, .cells [.chan (some q36)].toArray 143 (0, 0)⟩] : Hp) ⟨true, 0, .cells #[] 0 (0, 0)⟩ [2, 3, 1, 0] 4 rfl (by decide)
                  simpa using this
                exact ⟨q35, q36, q8, q9, exU rfl, Weak.trans weakSub (Weak.perm (List.Perm.append_left (h ++ [⟨true, q1, .cells (bkL b pm nm cm pr nr cr).toArray 25 (0, 0)⟩, ⟨true, q5, .cells (bkL b pm nm cm pr nr cr).toArray 109 (0, 0)⟩]) hperm))⟩
              · refine DrawT.split 1 3 (by decide) ?_ ?_
                · refine DrawT.leaf [(1, .keep), (3, .alloc), (0, .keep), (2, .alloc), (4, .free), (5, .free)] (by kernel_rfl) ?_
                  refine k_mkchan kdq rfl zq (by kernel_rfl) (fun q36 => k_hp (k_put ?_)); refine k_new rfl zq (fun q9 => k_hp (k_put ?_)); refine k_mkchan kdq rfl zq (by kernel_rfl) (fun q35 => k_hp (k_put ?_)); refine k_new rfl zq (fun q8 => k_hp (k_put ?_)); refine k_st1 rfl zq ?_; refine k_st1 rfl zq ?_; refine k_nil ?_; have hperm : List.Perm ([⟨true, q36, .chan 0 #[] false 0 0 false⟩, ⟨true, q9, .cells [.chan (some q36)].toArray 143 (0, 0)⟩, ⟨true, q35, .chan 0 #[] false 0 0 false⟩, ⟨true, q8, .cells [.chan (some q35)].toArray 142 (0, 0)⟩] : Hp) ([⟨true, q8, .cells [.chan (some q35)].toArray 142 (0, 0)⟩, ⟨true, q9, .cells [.chan (some q36)].toArray 143 (0, 0)⟩, ⟨true, q35, .chan 0 #[] false 0 0 false⟩, ⟨true, q36, .chan 0 #[] false 0 0 false⟩] : Hp) := by
                    have := perm_idx ([⟨true, q36, .chan 0 #[] false 0 0 false⟩, ⟨true, q9, .cells [.chan (some q36)].toArray 143 (0, 0)⟩, ⟨true, q35, .chan 0 #[] false 0 0 false⟩, ⟨true, q8, .cells [.chan (some q35)].toArray 142 (0, 0)⟩] : Hp) ⟨true, 0, .cells #[] 0 (0, 0)⟩ [3, 1, 2, 0] 4 rfl (by decide)
                    simpa using this
                  exact ⟨q35, q36, q8, q9, exU rfl, Weak.trans weakSub (Weak.perm (List.Perm.append_left (h ++ [⟨true, q1, .cells (bkL b pm nm cm pr nr cr).toArray 25 (0, 0)⟩, ⟨true, q5, .cells (bkL b pm nm cm pr nr cr).toArray 109 (0, 0)⟩]) hperm))⟩
                · refine DrawT.leaf [(3, .alloc), (1, .keep), (0, .keep), (2, .alloc), (4, .free), (5, .free)] (by kernel_rfl) ?_
                  refine k_new rfl zq (fun q9 => k_hp (k_put ?_)); refine k_mkchan kdq rfl zq (by kernel_rfl) (fun q36 => k_hp (k_put ?_)); refine k_mkchan kdq rfl zq (by kernel_rfl) (fun q35 => k_hp (k_put ?_)); refine k_new rfl zq (fun q8 => k_hp (k_put ?_)); refine k_st1 rfl zq ?_; refine k_st1 rfl zq ?_; refine k_nil ?_; have hperm : List.Perm ([⟨true, q9, .cells [.chan (some q36)].toArray 143 (0, 0)⟩, ⟨true, q36, .chan 0 #[] false 0 0 false⟩, ⟨true, q35, .chan 0 #[] false 0 0 false⟩, ⟨true, q8, .cells [.chan (some q35)].toArray 142 (0, 0)⟩] : Hp) ([⟨true, q8, .cells [.chan (some q35)].toArray 142 (0, 0)⟩, ⟨true, q9, .cells [.chan (some q36)].toArray 143 (0, 0)⟩, ⟨true, q35, .chan 0 #[] false 0 0 false⟩, ⟨true, q36, .chan 0 #[] false 0 0 false⟩] : Hp) := by
                    have := perm_idx ([⟨true, q9, .cells [.chan (some q36)].toArray 143 (0, 0)⟩, ⟨true, q36, .chan 0 #[] false 0 0 false⟩, ⟨true, q35, .chan 0 #[] false 0 0 false⟩, ⟨true, q8, .cells [.chan (some q35)].toArray 142 (0, 0)⟩] : Hp) ⟨true, 0, .cells #[] 0 (0, 0)⟩ [3, 0, 2, 1] 4 rfl (by decide)
                    simpa using this
                  exact ⟨q35, q36, q8, q9, exU rfl, Weak.trans weakSub (Weak.perm (List.Perm.append_left (h ++ [⟨true, q1, .cells (bkL b pm nm cm pr nr cr).toArray 25 (0, 0)⟩, ⟨true, q5, .cells (bkL b pm nm cm pr nr cr).toArray 109 (0, 0)⟩]) hperm))⟩
            · refine DrawT.split 0 3 (by decide) ?_ ?_
              · refine DrawT.split 1 2 (by decide) ?_ ?_
                · refine DrawT.leaf [(1, .keep), (2, .alloc), (0, .keep), (3, .alloc), (4, .free), (5, .free)] (by kernel_rfl) ?_
                  refine k_mkchan kdq rfl zq (by kernel_rfl) (fun q36 => k_hp (k_put ?_)); refine k_new rfl zq (fun q8 => k_hp (k_put ?_)); refine k_mkchan kdq rfl zq (by kernel_rfl) (fun q35 => k_hp (k_put ?_)); refine k_new rfl zq (fun q9 => k_hp (k_put ?_)); refine k_st1 rfl zq ?_; refine k_st1 rfl zq ?_; refine k_nil ?_; have hperm : List.Perm ([⟨true, q36, .chan 0 #[] false 0 0 false⟩, ⟨true, q8, .cells [.chan (some q35)].toArray 142 (0, 0)⟩, ⟨true, q35, .chan 0 #[] false 0 0 false⟩, ⟨true, q9, .cells [.chan (some q36)].toArray 143 (0, 0)⟩] : Hp) ([⟨true, q8, .cells [.chan (some q35)].toArray 142 (0, 0)⟩, ⟨true, q9, .cells [.chan (some q36)].toArray 143 (0, 0)⟩, ⟨true, q35, .chan 0 #[] false 0 0 false⟩, ⟨true, q36, .chan 0 #[] false 0 0 false⟩] : Hp) := by
                    have := perm_idx ([⟨true, q36, .chan 0 #[] false 0 0 false⟩, ⟨true, q8, .cells [.chan (some q35)].toArray 142 (0, 0)⟩, ⟨true, q35, .chan 0 #[] false 0 0 false⟩, ⟨true, q9, .cells [.chan (some q36)].toArray 143 (0, 0)⟩] : Hp) ⟨true, 0, .cells #[] 0 (0, 0)⟩ [1, 3, 2, 0] 4 rfl (by decide)
                    simpa using this
                  exact ⟨q35, q36, q8, q9, exU rfl, Weak.trans weakSub (Weak.perm (List.Perm.append_left (h ++ [⟨true, q1, .cells (bkL b pm nm cm pr nr cr).toArray 25 (0, 0)⟩, ⟨true, q5, .cells (bkL b pm nm cm pr nr cr).toArray 109 (0, 0)⟩]) hperm))⟩
                · refine DrawT.leaf [(2, .alloc), (1, .keep), (0, .keep), (3, .alloc), (4, .free), (5, .free)] (by kernel_rfl) ?_
                  refine k_new rfl zq (fun q8 => k_hp (k_put ?_)); refine k_mkchan kdq rfl zq (by kernel_rfl) (fun q36 => k_hp (k_put ?_)); refine k_mkchan kdq rfl zq (by kernel_rfl) (fun q35 => k_hp (k_put ?_)); refine k_new rfl zq (fun q9 => k_hp (k_put ?_)); refine k_st1 rfl zq ?_; refine k_st1 rfl zq ?_; refine k_nil ?_; have hperm : List.Perm ([⟨true, q8, .cells [.chan (some q35)].toArray 142 (0, 0)⟩, ⟨true, q36, .chan 0 #[] false 0 0 false⟩, ⟨true, q35, .chan 0 #[] false 0 0 false⟩, ⟨true, q9, .cells [.chan (some q36)].toArray 143 (0, 0)⟩] : Hp) ([⟨true, q8, .cells [.chan (some q35)].toArray 142 (0, 0)⟩, ⟨true, q9, .cells [.chan (some q36)].toArray 143 (0, 0)⟩, ⟨true, q35, .chan 0 #[] false 0 0 false⟩, ⟨true, q36, .chan 0 #[] false 0 0 false⟩] : Hp) := by
                    have := perm_idx ([⟨true, q8, .cells [.chan (some q35)].toArray 142 (0, 0)⟩, ⟨true, q36, .chan 0 #[] false 0 0 false⟩, ⟨true, q35, .chan 0 #[] false 0 0 false⟩, ⟨true, q9, .cells [.chan (some q36)].toArray 143 (0, 0)⟩] : Hp) ⟨true, 0, .cells #[] 0 (0, 0)⟩ [0, 3, 2, 1] 4 rfl (by decide)
                    simpa using this
                  exact ⟨q35, q36, q8, q9, exU rfl, Weak.trans weakSub (Weak.perm (List.Perm.append_left (h ++ [⟨true, q1, .cells (bkL b pm nm cm pr nr cr).toArray 25 (0, 0)⟩, ⟨true, q5, .cells (bkL b pm nm cm pr nr cr).toArray 109 (0, 0)⟩]) hperm))⟩
              · refine DrawT.split 1 2 (by decide) ?_ ?_
                · refine DrawT.split 1 3 (by decide) ?_ ?_
                  · refine DrawT.leaf [(1, .keep), (2, .alloc), (3, .alloc), (0, .keep), (4, .free), (5, .free)] (by kernel_rfl) ?_
                    refine k_mkchan kdq rfl zq (by kernel_rfl) (fun q36 => k_hp (k_put ?_)); refine k_new rfl zq (fun q8 => k_hp (k_put ?_)); refine k_new rfl zq (fun q9 => k_hp (k_put ?_)); refine k_mkchan kdq rfl zq (by kernel_rfl) (fun q35 => k_hp (k_put ?_)); refine k_st1 rfl zq ?_; refine k_st1 rfl zq ?_; refine k_nil ?_; have hperm : List.Perm ([⟨true, q36, .chan 0 #[] false 0 0 false⟩, ⟨true, q8, .cells [.chan (some q35)].toArray 142 (0, 0)⟩, ⟨true, q9, .cells [.chan (some q36)].toArray 143 (0, 0)⟩, ⟨true, q35, .chan 0 #[] false 0 0 false⟩] : Hp) ([⟨true, q8, .cells [.chan (some q35)].toArray 142 (0, 0)⟩, ⟨true, q9, .cells [.chan (some q36)].toArray 143 (0, 0)⟩, ⟨true, q35, .chan 0 #[] false 0 0 false⟩, ⟨true, q36, .chan 0 #[] false 0 0 false⟩] : Hp) := by
                      have := perm_idx ([⟨true, q36, .chan 0 #[] false 0 0 false⟩, ⟨true, q8, .cells [.chan (some q35)].toArray 142 (0, 0)⟩, ⟨true, q9, .cells [.chan (some q36)].toArray 143 (0, 0)⟩, ⟨true, q35, .chan 0 #[] false 0 0 false⟩] : Hp) ⟨true, 0, .cells #[] 0 (0, 0)⟩ [1, 2, 3, 0] 4 rfl (by decide)
                      simpa using this
                    exact ⟨q35, q36, q8, q9, exU rfl, Weak.trans weakSub (Weak.perm (List.Perm.append_left (h ++ [⟨true, q1, .cells (bkL b pm nm cm pr nr cr).toArray 25 (0, 0)⟩, ⟨true, q5, .cells (bkL b pm nm cm pr nr cr).toArray 109 (0, 0)⟩]) hperm))⟩
                  · refine DrawT.leaf [(3, .alloc), (1, .keep), (2, .alloc), (0, .keep), (4, .free), (5, .free)] (by kernel_rfl) ?_
                    refine k_new rfl zq (fun q9 => k_hp (k_put ?_)); refine k_mkchan kdq rfl zq (by kernel_rfl) (fun q36 => k_hp (k_put ?_)); refine k_new rfl zq (fun q8 => k_hp (k_put ?_)); refine k_mkchan kdq rfl zq (by kernel_rfl) (fun q35 => k_hp (k_put ?_)); refine k_st1 rfl zq ?_; refine k_st1 rfl zq ?_; refine k_nil ?_; have hperm : List.Perm ([⟨true, q9, .cells [.chan (some q36)].toArray 143 (0, 0)⟩, ⟨true, q36, .chan 0 #[] false 0 0 false⟩, ⟨true, q8, .cells [.chan (some q35)].toArray 142 (0, 0)⟩, ⟨true, q35, .chan 0 #[] false 0 0 false⟩] : Hp) ([⟨true, q8, .cells [.chan (some q35)].toArray 142 (0, 0)⟩, ⟨true, q9, .cells [.chan (some q36)].toArray 143 (0, 0)⟩, ⟨true, q35, .chan 0 #[] false 0 0 false⟩, ⟨true, q36, .chan 0 #[] false 0 0 false⟩] : Hp) := by
                      have := perm_idx ([⟨true, q9, .cells [.chan (some q36)].toArray 143 (0, 0)⟩, ⟨true, q36, .chan 0 #[] false 0 0 false⟩, ⟨true, q8, .cells [.chan (some q35)].toArray 142 (0, 0)⟩, ⟨true, q35, .chan 0 #[] false 0 0 false⟩] : Hp) ⟨true, 0, .cells #[] 0 (0, 0)⟩ [2, 0, 3, 1] 4 rfl (by decide)
                      simpa using this
                    exact ⟨q35, q36, q8, q9, exU rfl, Weak.trans weakSub (Weak.perm (List.Perm.append_left (h ++ [⟨true, q1, .cells (bkL b pm nm cm pr nr cr).toArray 25 (0, 0)⟩, ⟨true, q5, .cells (bkL b pm nm cm pr nr cr).toArray 109 (0, 0)⟩]) hperm))⟩
                · refine DrawT.split 1 3 (by decide) ?_ ?_
                  · refine DrawT.leaf [(2, .alloc), (1, .keep), (3, .alloc), (0, .keep), (4, .free), (5, .free)] (by kernel_rfl) ?_
                    refine k_new rfl zq (fun q8 => k_hp (k_put ?_)); refine k_mkchan kdq rfl zq (by kernel_rfl) (fun q36 => k_hp (k_put ?_)); refine k_new rfl zq (fun q9 => k_hp (k_put ?_)); refine k_mkchan kdq rfl zq (by kernel_rfl) (fun q35 => k_hp (k_put ?_)); refine k_st1 rfl zq ?_; refine k_st1 rfl zq ?_; refine k_nil ?_; have hperm : List.Perm ([⟨true, q8, .cells [.chan (some q35)].toArray 142 (0, 0)⟩, ⟨true, q36, .chan 0 #[] false 0 0 false⟩, ⟨true, q9, .cells [.chan (some q36)].toArray 143 (0, 0)⟩, ⟨true, q35, .chan 0 #[] false 0 0 false⟩] : Hp) ([⟨true, q8, .cells [.chan (some q35)].toArray 142 (0, 0)⟩, ⟨true, q9, .cells [.chan (some q36)].toArray 143 (0, 0)⟩, ⟨true, q35, .chan 0 #[] false 0 0 false⟩, ⟨true, q36, .chan 0 #[] false 0 0 false⟩] : Hp) := by
                      have := perm_idx ([⟨true, q8, .cells [.chan (some q35)].toArray 142 (0, 0)⟩, ⟨true, q36, .chan 0 #[] false 0 0 false⟩, ⟨true, q9, .cells [.chan (some q36)].toArray 143 (0, 0)⟩, ⟨true, q35, .chan 0 #[] false 0 0 false⟩] : Hp) ⟨true, 0, .cells #[] 0 (0, 0)⟩ [0, 2, 3, 1] 4 rfl (by decide)
                      simpa using this
                    exact ⟨q35, q36, q8, q9, exU rfl, Weak.trans weakSub (Weak.perm (List.Perm.append_left (h ++ [⟨true, q1, .cells (bkL b pm nm cm pr nr cr).toArray 25 (0, 0)⟩, ⟨true, q5, .cells (bkL b pm nm cm pr nr cr).toArray 109 (0, 0)⟩]) hperm))⟩
                  · refine DrawT.leaf [(2, .alloc), (3, .alloc), (1, .keep), (0, .keep), (4, .free), (5, .free)] (by kernel_rfl) ?_
                    refine k_new rfl zq (fun q8 => k_hp (k_put ?_)); refine k_new rfl zq (fun q9 => k_hp (k_put ?_)); refine k_mkchan kdq rfl zq (by kernel_rfl) (fun q36 => k_hp (k_put ?_)); refine k_mkchan kdq rfl zq (by kernel_rfl) (fun q35 => k_hp (k_put ?_)); refine k_st1 rfl zq ?_; refine k_st1 rfl zq ?_; refine k_nil ?_; have hperm : List.Perm ([⟨true, q8, .cells [.chan (some q35)].toArray 142 (0, 0)⟩, ⟨true, q9, .cells [.chan (some q36)].toArray 143 (0, 0)⟩, ⟨true, q36, .chan 0 #[] false 0 0 false⟩, ⟨true, q35, .chan 0 #[] false 0 0 false⟩] : Hp) ([⟨true, q8, .cells [.chan (some q35)].toArray 142 (0, 0)⟩, ⟨true, q9, .cells [.chan (some q36)].toArray 143 (0, 0)⟩, ⟨true, q35, .chan 0 #[] false 0 0 false⟩, ⟨true, q36, .chan 0 #[] false 0 0 false⟩] : Hp) := by
                      have := perm_idx ([⟨true, q8, .cells [.chan (some q35)].toArray 142 (0, 0)⟩, ⟨true, q9, .cells [.chan (some q36)].toArray 143 (0, 0)⟩, ⟨true, q36, .chan 0 #[] false 0 0 false⟩, ⟨true, q35, .chan 0 #[] false 0 0 false⟩] : Hp) ⟨true, 0, .cells #[] 0 (0, 0)⟩ [0, 1, 3, 2] 4 rfl (by decide)
                      simpa using this
                    exact ⟨q35, q36, q8, q9, exU rfl, Weak.trans weakSub (Weak.perm (List.Perm.append_left (h ++ [⟨true, q1, .cells (bkL b pm nm cm pr nr cr).toArray 25 (0, 0)⟩, ⟨true, q5, .cells (bkL b pm nm cm pr nr cr).toArray 109 (0, 0)⟩]) hperm))⟩
        · rintro l' h' ⟨qf, qd, q8, q9, ⟨U, rfl⟩, hwk⟩; refine (Md.star Tryz.prog B).weak hwk ?_
          by_cases hne : qf = qd
          · exact run_absurd rfl (fun w sw => not_sat2 hne (X := h ++ [⟨true, q1, .cells (bkL b pm nm cm pr nr cr).toArray 25 (0, 0)⟩, ⟨true, q5, .cells (bkL b pm nm cm pr nr cr).toArray 109 (0, 0)⟩, ⟨true, q8, .cells [.chan (some qf)].toArray 142 (0, 0)⟩, ⟨true, q9, .cells [.chan (some qd)].toArray 143 (0, 0)⟩]) (by simpa using sw))
          obtain ⟨N, hN⟩ : ∃ N : Nat, N = 2 ^ nr := ⟨_, rfl⟩
          have hN16 : 1 ≤ N ∧ N ≤ 16 := by
            rcases (by omega : nr = 0 ∨ nr = 1 ∨ nr = 2 ∨ nr = 3 ∨ nr = 4) with rfl | rfl | rfl | rfl | rfl <;> subst hN <;> decide
          refine run_seq ?_; refine run_seq ?_; refine fun Q0 F0 hF0 => ?_
          refine MRun.weak (h' := ro h ++ [⟨false, q1, .cells (bkL b pm nm cm pr nr cr).toArray 25 (0, 0)⟩, ⟨false, q5, .cells (bkL b pm nm cm pr nr cr).toArray 109 (0, 0)⟩, ⟨false, q8, .cells [.chan (some qf)].toArray 142 (0, 0)⟩, ⟨false, q9, .cells [.chan (some qd)].toArray 143 (0, 0)⟩] ++ (clashQ b qf qd).chans.map fun r => ⟨true, r, .chan 0 #[] false 0 0 false⟩) (by have := weak_ro (B := B) (h ++ [⟨true, q1, .cells (bkL b pm nm cm pr nr cr).toArray 25 (0, 0)⟩, ⟨true, q5, .cells (bkL b pm nm cm pr nr cr).toArray 109 (0, 0)⟩, ⟨true, q8, .cells [.chan (some qf)].toArray 142 (0, 0)⟩, ⟨true, q9, .cells [.chan (some qd)].toArray 143 (0, 0)⟩]) [⟨true, qf, .chan 0 #[] false 0 0 false⟩, ⟨true, qd, .chan 0 #[] false 0 0 false⟩]; simpa [ro, clashQ] using this) ?_
          refine MRun.share (clashQ b qf qd) hF0 ?_
          refine Md.at.to ?_
          refine rr5 (by kernel_rfl) ?_; first | refine k_fa0 rfl zq ?_ | refine k_fa rfl zq ?_
          refine k_ldh rfl zq ?_; refine k_len rfl zq ?_; refine k_shl ((N : Nat) : Int) rfl zq (by omega) (by rw [hN]; exact shl_small nr (by omega)) ?_; refine mq rfl ?_; refine k_nil ?_; refine run_block ?_; refine Md.at.of ?_
          refine mrun_loop (fun nn F l h' => ∃ (t : Nat) (ix : Nat → Nat), nn = N - t ∧ (t ≤ N) ∧ (SP F ix t) ∧ (∃ U : Nat → Value, l = [U 0, .pointer (some ⟨q1, 0, none⟩), U 2, U 3, U 4, .pointer (some ⟨q5, 0, none⟩), U 6, U 7, .pointer (some ⟨q8, 0, none⟩), .pointer (some ⟨q9, 0, none⟩), U 10, U 11, U 12, U 13, U 14, U 15, U 16, U 17, U 18, U 19, U 20, U 21, U 22, U 23, U 24, U 25, U 26, U 27, U 28, U 29, U 30, U 31, U 32, U 33, U 34, U 35, U 36, U 37, U 38, U 39, .int .i64 (N : Int), .int .i64 (t : Int), U 42, U 43, U 44, U 45, U 46, U 47, U 48, U 49, U 50, U 51, U 52, U 53, U 54, U 55, U 56, U 57, U 58, U 59, U 60, U 61, U 62, U 63, U 64, U 65, U 66, U 67, U 68, U 69]) ∧ ro h ++ [⟨false, q1, .cells (bkL b pm nm cm pr nr cr).toArray 25 (0, 0)⟩, ⟨false, q5, .cells (bkL b pm nm cm pr nr cr).toArray 109 (0, 0)⟩, ⟨false, q8, .cells [.chan (some qf)].toArray 142 (0, 0)⟩, ⟨false, q9, .cells [.chan (some qd)].toArray 143 (0, 0)⟩] = h') _ _ ⟨0, id, rfl, by omega, SP.zero hF0 _, exU rfl, rfl⟩ ?_
          rintro nn F l h' ⟨t, ix, rfl, ht, hsp, ⟨U, rfl⟩, rfl⟩ hnext1; refine Md.at.to ?_
          refine rs1 (by kernel_rfl) ?_; refine k_lssS rfl zq (fun hc => ?_) (fun hc => ?_)
          · refine k_nil ?_; refine run_seq ?_; refine run_yes ?_; refine run_skip ?_; refine run_seq ?_; refine run_block ?_; refine rs3 (by kernel_rfl) ?_; refine mq rfl ?_; refine k_new rfl zq (fun q10 => k_hp (k_put ?_)); refine k_st1 rfl zq ?_; refine k_nil ?_; refine run_regionS [(0, .free)] [1] (by kernel_rfl) (by kernel_rfl) ?_; refine k_fun rfl zq ?_; refine k_nil ?_; refine Md.at.of ?_
            refine MRun.spawn (h' := ro h ++ [⟨false, q1, .cells (bkL b pm nm cm pr nr cr).toArray 25 (0, 0)⟩, ⟨false, q5, .cells (bkL b pm nm cm pr nr cr).toArray 109 (0, 0)⟩, ⟨false, q8, .cells [.chan (some qf)].toArray 142 (0, 0)⟩, ⟨false, q9, .cells [.chan (some qd)].toArray 143 (0, 0)⟩]) (hc := ro h ++ [⟨false, q5, .cells (bkL b pm nm cm pr nr cr).toArray 109 (0, 0)⟩, ⟨false, q8, .cells [.chan (some qf)].toArray 142 (0, 0)⟩, ⟨false, q9, .cells [.chan (some qd)].toArray 143 (0, 0)⟩, ⟨true, q10, .cells [.int .i64 (t : Int)].toArray 3 (0, 0)⟩]) (2 * t) rfl rfl (fun w _ => stepG_spawn0 rfl w) weakSub weakSub (fun w sw => ?_) (kid131 rdm.ro rdr.ro hv hne (by omega)) (fun j hj hFj => ?_)
            · refine ap_last (F := ro h ++ [⟨false, q1, .cells (bkL b pm nm cm pr nr cr).toArray 25 (0, 0)⟩, ⟨false, q5, .cells (bkL b pm nm cm pr nr cr).toArray 109 (0, 0)⟩, ⟨false, q8, .cells [.chan (some qf)].toArray 142 (0, 0)⟩, ⟨false, q9, .cells [.chan (some qd)].toArray 143 (0, 0)⟩]) (q := q10) (o := .cells [.int .i64 (t : Int)].toArray 3 (0, 0)) (by simpa using sw) (fun c hc => ?_) (fun d hd hr => ?_)
              · rcases List.mem_append.1 hc with hc | hc
                · exact (ro_mem hc).1
                · simp only [List.mem_cons, List.not_mem_nil, or_false] at hc
                  rcases hc with rfl | rfl | rfl | rfl <;> rfl
              · rcases List.mem_append.1 hd with hd | hd
                · rw [(ro_mem hd).1] at hr; cases hr
                · simp only [List.mem_cons, List.not_mem_nil, or_false] at hd
                  rcases hd with rfl | rfl | rfl | rfl
                  · cases hr
                  · cases hr
                  · cases hr
                  · rfl
            refine Md.at.to ?_
            refine run_region_end ?_; refine run_inBlock ?_; refine rr2 (by kernel_rfl) ?_; refine k_add rfl zq (by unfold In64; omega) ?_; refine mq rfl ?_; refine k_nil ?_; refine Md.at.of ?_
            exact MRun.weak weakSub (hnext1 _ _ _ _ (by omega) ⟨t + 1, _, rfl, by omega, hsp.more hFj, exU rfl, rfl⟩)
          · refine k_nil ?_; refine run_seq ?_; refine run_no ?_; refine run_exit rfl ?_; refine rs1 (by kernel_rfl) ?_; obtain rfl : t = N := by omega
            refine aq rfl ?_; refine rs1 (by kernel_rfl) ?_; refine aq rfl ?_; refine run_seq ?_; refine rs5 (by kernel_rfl) ?_; first | refine k_fa0 rfl zq ?_ | refine k_fa rfl zq ?_
            refine k_ldh rfl zq ?_; refine k_len rfl zq ?_; refine k_shl ((t : Nat) : Int) rfl zq (by omega) (by rw [hN]; exact shl_small nr (by omega)) ?_; refine aq rfl ?_; refine run_block ?_; refine Md.at.of ?_
            refine mrun_loop (fun nn F l h' => ∃ (left : Nat) (an : Bool) (ip : Option Addr) (ic : Nat) (gl : List Int) (G : Hp), nn = wtN F ix t ∧ (SQ b F ix t left an gl) ∧ (RdS B G 1 (.slice ip gl.length ic) gl.length (ints gl)) ∧ (gl.length ≤ 4 ∧ gl.length ≤ ic) ∧ (left ≤ 16) ∧ (∃ U : Nat → Value, l = [U 0, .pointer (some ⟨q1, 0, none⟩), U 2, U 3, U 4, .pointer (some ⟨q5, 0, none⟩), U 6, U 7, .pointer (some ⟨q8, 0, none⟩), .pointer (some ⟨q9, 0, none⟩), U 10, .slice ip gl.length ic, .bool an, .int .i64 (left : Int), U 14, U 15, U 16, U 17, U 18, U 19, U 20, U 21, U 22, U 23, U 24, U 25, U 26, U 27, U 28, U 29, U 30, U 31, U 32, U 33, U 34, U 35, U 36, U 37, U 38, U 39, U 40, U 41, U 42, U 43, U 44, U 45, U 46, U 47, U 48, U 49, U 50, U 51, U 52, U 53, U 54, U 55, U 56, U 57, U 58, U 59, U 60, U 61, U 62, U 63, U 64, U 65, U 66, U 67, U 68, U 69]) ∧ ro h ++ [⟨false, q1, .cells (bkL b pm nm cm pr nr cr).toArray 25 (0, 0)⟩, ⟨false, q5, .cells (bkL b pm nm cm pr nr cr).toArray 109 (0, 0)⟩, ⟨false, q8, .cells [.chan (some qf)].toArray 142 (0, 0)⟩, ⟨false, q9, .cells [.chan (some qd)].toArray 143 (0, 0)⟩] ++ G = h') _ _ ⟨t, false, none, 0, [], [], rfl, SQ.start hsp, ⟨none, 0, rfl, rfl, .inl ⟨rfl, rfl⟩⟩, ⟨by simp, by simp⟩, by omega, exU rfl, (by simp)⟩ ?_
            rintro nn F l h' ⟨left, an, ip, ic, gl, G, rfl, hsq, hgr, hg4, hl16, ⟨U, rfl⟩, rfl⟩ hnext2; refine Md.at.to ?_
            refine run_seq ?_; refine rs2 (by kernel_rfl) ?_; refine mq rfl ?_; refine k_gtrS rfl zq (fun hc => ?_) (fun hc => ?_)
            · refine k_nil ?_; refine run_yes ?_; refine run_skip ?_; refine run_block ?_; refine run_seq ?_; refine rs1 (by kernel_rfl) ?_; have hlp : 0 < left := by omega
              refine k_ldh rfl zq ?_; refine k_nil ?_; refine rr1 (by kernel_rfl) ?_; refine k_ldh rfl zq ?_; refine k_nil ?_; refine run_seq ?_; refine run_regionS [] [0, 1, 2, 3] (by kernel_rfl) (by kernel_rfl) ?_; refine k_nil ?_; refine Md.at.of ?_
              refine MRun.recv (cases := #[Conc.rcase qf (.slice none 0 0), Conc.rcase qd (.bool false)]) (shape := .select) rfl (fun w _ => stepG_comm rfl rfl (fun c => by simp) (mute_select2 rfl) true w) (by rw [hsq.cnt] at hlp; obtain ⟨a, s, e⟩ := lfN_pos _ hlp; exact ⟨_, s, e⟩) (fun c hc => ?_) (fun cc hcc => ?_) (fun k k' c z z' h1 h2 => ?_) (fun k r z v hp i s s' hk hF hm => ?_)
              · simp only [clashQ, List.mem_cons, List.not_mem_nil, or_false] at hc
                rcases hc with rfl | rfl
                · exact ⟨0, _, rfl⟩
                · exact ⟨1, _, rfl⟩
              · simp only [List.mem_toArray, List.mem_cons, List.not_mem_nil, or_false] at hcc
                rcases hcc with rfl | rfl
                · exact ⟨qf, _, rfl, by simp [clashQ]⟩
                · exact ⟨qd, _, rfl, by simp [clashQ]⟩
              · rcases k with _ | _ | k <;> rcases k' with _ | _ | k' <;> first | rfl | (simp [Conc.rcase] at h1 h2; done) | (simp [Conc.rcase] at h1 h2; exact absurd (h1.1.trans h2.1.symm) hne) | (simp [Conc.rcase] at h1 h2; exact absurd (h2.1.trans h1.1.symm) hne)
              rw [served_Gr' rfl]; have hk2 : (k = 0 ∧ r = qf) ∨ (k = 1 ∧ r = qd) := by
                rcases k with _ | _ | k
                · simp [Conc.rcase] at hk; exact .inl ⟨rfl, hk.1.symm⟩
                · simp [Conc.rcase] at hk; exact .inr ⟨rfl, hk.1.symm⟩
                · simp at hk
              refine Md.at.to ?_
              rcases hm with ⟨rfl, mm, rfl, rfl, hfo, hown⟩ | ⟨rfl, rfl, rfl, hst⟩
              · obtain ⟨rfl, _⟩ := hk2.resolve_right (fun e => hne e.2)
                rw [if_neg (show ¬ r = (clashQ b r qd).done from hne)]; obtain ⟨hmm, rfl⟩ := hsq.which hF
                have hF2 := hF
                have hkl2 := keptI_le mm b.rules.length
                obtain ⟨vp, vc, rfl, hvc, rI⟩ := own_rdA (B := B) hown
                rw [comm_sel0]; refine run_restS [(1, .free), (2, .free), (3, .free)] (by kernel_rfl) (by rfl) ?_; refine k_put ?_; refine k_ext0 rfl zq ?_; first | refine k_eqlT rfl zq (by decide) ?_ | refine k_eqlF rfl zq (by decide) ?_
                first | refine k_eqlT rfl zq (by decide) ?_ | refine k_eqlF rfl zq (by decide) ?_
                refine k_nil ?_; refine run_block ?_; refine run_yes ?_; refine rs2 (by kernel_rfl) ?_; refine k_ext2 rfl zq ?_; refine aq rfl ?_; refine run_seq ?_; cases an
                · refine rr7 (by kernel_rfl) ?_; refine mq rfl ?_; refine k_notF rfl zq ?_; refine mq rfl ?_; refine k_off rfl rfl ?_; refine k_off rfl rfl ?_; refine k_off rfl rfl ?_; refine k_pickT rfl zq ?_; refine k_nil ?_; refine run_yes ?_; refine rr3 (by kernel_rfl) ?_; refine mq rfl ?_; refine k_as rfl zq ?_; refine aq rfl ?_; refine run_inBlock ?_; refine run_inBlock ?_; obtain ⟨hsq2, hless⟩ := hsq.foul hF2 hmm hfo (an' := true) (gl' := keptI mm b.rules.length) ⟨rfl, .inl ⟨rfl, fun e => by cases e⟩⟩
                  refine Md.at.of ?_
                  exact MRun.weak weakSub (hnext2 _ _ _ _ hless ⟨left, true, _, _, keptI mm b.rules.length, hp, rfl, hsq2, rI, ⟨by omega, hvc⟩, hl16, exU rfl, rfl⟩)
                · refine rr7 (by kernel_rfl) ?_; refine mq rfl ?_; refine k_notT rfl zq ?_; refine mq rfl ?_; refine k_mv rfl rfl ?_; refine k_mv rfl rfl ?_; refine k_calP (Post := fun v => IsB _ v) rfl rfl (by kernel_rfl) (fun H' hH => f128_c _ H' (rI.keeps (sq hH)) (by omega) (hgr.keeps (sq hH))) ?_; rintro v (⟨hc, rfl⟩ | ⟨hc, rfl⟩)
                  · refine k_put ?_; refine k_pickF rfl zq ?_; refine k_nil ?_; refine run_yes ?_; refine rr3 (by kernel_rfl) ?_; refine mq rfl ?_; refine k_as rfl zq ?_; refine aq rfl ?_; refine run_inBlock ?_; refine run_inBlock ?_; obtain ⟨hsq2, hless⟩ := hsq.foul hF2 hmm hfo (an' := true) (gl' := keptI mm b.rules.length) ⟨rfl, .inl ⟨rfl, fun _ => hc⟩⟩
                    refine Md.at.of ?_
                    exact MRun.weak weakSub (hnext2 _ _ _ _ hless ⟨left, true, _, _, keptI mm b.rules.length, hp, rfl, hsq2, rI, ⟨by omega, hvc⟩, hl16, exU rfl, rfl⟩)
                  · refine k_put ?_; refine k_pickF rfl zq ?_; refine k_nil ?_; refine run_no ?_; refine run_skip ?_; refine run_inBlock ?_; refine run_inBlock ?_; obtain ⟨hsq2, hless⟩ := hsq.foul hF2 hmm hfo (an' := true) (gl' := gl) ⟨rfl, .inr ⟨rfl, rfl, hc⟩⟩
                    refine Md.at.of ?_
                    exact MRun.weak weakSub (hnext2 _ _ _ _ hless ⟨left, true, _, _, gl, G, rfl, hsq2, hgr, hg4, hl16, exU rfl, rfl⟩)
              · obtain ⟨rfl, _⟩ := hk2.resolve_left (fun e => hne e.2.symm)
                rw [if_pos (show r = (clashQ b qf r).done from rfl)]; rw [comm_sel1]; refine run_restS [(1, .free), (2, .free), (3, .free)] (by kernel_rfl) (by rfl) ?_; refine k_put ?_; refine k_ext0 rfl zq ?_; first | refine k_eqlT rfl zq (by decide) ?_ | refine k_eqlF rfl zq (by decide) ?_
                first | refine k_eqlT rfl zq (by decide) ?_ | refine k_eqlF rfl zq (by decide) ?_
                refine k_nil ?_; refine run_block ?_; refine run_no ?_; refine run_yes ?_; refine rr3 (by kernel_rfl) ?_; refine mq rfl ?_; refine k_sub rfl zq (by unfold In64; omega) ?_; refine aq rfl ?_; refine run_inBlock ?_; refine run_inBlock ?_; obtain ⟨hsq2, hless, hpos⟩ := hsq.done hF hst
                rw [show ((left : Int) - 1) = ((left - 1 : Nat) : Int) by omega]; refine Md.at.of ?_
                exact MRun.weak weakSub (hnext2 _ _ _ _ hless ⟨left - 1, an, _, _, gl, G, rfl, hsq2, hgr, hg4, by omega, exU rfl, rfl⟩)
            · refine k_nil ?_; refine run_no ?_; refine run_exit rfl ?_; refine rs3 (by kernel_rfl) ?_; have hl0 : left = 0 := by omega
              have hFn : ∀ i, F i = none := fun i => by
                cases e : F i with
                | none => rfl
                | some s =>
                  obtain ⟨a, ha, rfl⟩ := hsq.only i s e
                  have := lfN_zero (F := F) (ix := ix) t (by rw [← hsq.cnt]; exact hl0) a ha
                  rw [this] at e; cases e
              refine mq rfl ?_; refine k_as rfl zq ?_; refine aq rfl ?_; refine run_ret rfl ?_; refine run_res (ro h ++ G) rfl Tryz.func51 rfl weakSub ?_; refine Md.at.of ?_
              refine hK _ _ ?_ _ _ hFn
              have hz : bookS b = 0 := by assumption
              refine ⟨G, rfl, _, gl, by rw [clashS, if_neg (fun e => e hz), if_neg (fun e => e hbe), if_neg hob], ⟨_, _, rfl, hgr⟩, ?_, fun p n c e => by cases e; exact hg4.2⟩
              rw [ClashOk, if_neg (by rintro (e | e | e); exact e hz; exact e hbe; exact hob e), hrl, ← hN]; have hall : ∀ a, a < t → foulM b a → an = true ∧ ¬ fewer (keptI a b.rules.length) gl := fun a ha hf => (hsq.got a ha hf).resolve_left (fun e => by rw [lfN_zero (F := F) (ix := ix) t (by rw [← hsq.cnt]; exact hl0) a ha] at e; cases e)
              rw [← hrl]; exact ⟨hsq.best (hall (t - 1) (by omega) (full_foul (by omega) hbe (by rw [hN, hrl]))).1, fun a ha hf => (hall a ha hf).2⟩
end Go.Proofs
namespace Go.Lo
open Go.Conc (G)
section
variable {P : Program} {B : Array Obj} {h : Hp}
theorem reads_partA {e n : Nat} {cs : Array Value} {o : Nat} [AggT P e n] : Reads P B (part e cs o) h (.agg (cs.extract o (o + n))) := by
  unfold part
  refine Reads.bind und_agg ?_
  exact Reads.bind (size_agg (P := P) (n := n)) (Reads.pure _)
def key4B (P : Program) (t : TypeId) : Bool := match P.underlying t with
  | some (.struct fs) => (match fs.toList with
    | [f, g, s] => f.offset == 0 && g.offset == 1 && s.offset == 2 && f.name != "_" && g.name != "_" && s.name != "_" && scalB P f.type && scalB P g.type && aggB P s.type 2 && keyB P s.type && (match P.underlying f.type with | some (.int .i64) => true | _ => false) && (match P.underlying g.type with | some (.int .i64) => true | _ => false)
    | _ => false) && !P.stoodInHeld t
  | _ => false
class Key4T (P : Program) (t : TypeId) : Prop where
  eq : key4B P t = true
theorem Key4T.spec {t : TypeId} [k : Key4T P t] : ∃ f g s : Field, P.underlying t = some (.struct #[f, g, s]) ∧ f.offset = 0 ∧ g.offset = 1 ∧ s.offset = 2 ∧ f.name ≠ "_" ∧ g.name ≠ "_" ∧ s.name ≠ "_" ∧ Scal P f.type ∧ Scal P g.type ∧ AggT P s.type 2 ∧ KeyT P s.type ∧ P.underlying f.type = some (.int .i64) ∧ P.underlying g.type = some (.int .i64) ∧ P.stoodInHeld t = false := by
  have := k.eq
  unfold key4B at this
  split at this
  · rename_i fs hu
    rw [Bool.and_eq_true] at this
    obtain ⟨h1, h2⟩ := this
    split at h1
    · rename_i f g s hfs
      simp only [Bool.and_eq_true, beq_iff_eq, bne_iff_ne, ne_eq] at h1
      obtain ⟨⟨⟨⟨⟨⟨⟨⟨⟨⟨⟨a1, a2⟩, a3⟩, b1⟩, b2⟩, b3⟩, c1⟩, c2⟩, c3⟩, c4⟩, a7⟩, a8⟩ := h1
      refine ⟨f, g, s, ?_, a1, a2, a3, b1, b2, b3, ⟨c1⟩, ⟨c2⟩, ⟨c3⟩, ⟨c4⟩, ?_, ?_, by simpa using h2⟩
      · rw [hu]; congr 2; exact Array.ext' (by rw [hfs])
      · split at a7
        · assumption
        · cases a7
      · split at a8
        · assumption
        · cases a8
    · cases h1
  · cases this
theorem reads_eq4 (dd : Nat) {t : TypeId} [Key4T P t] (a b c d a' b' c' d' : Int) : Reads P B (Op.equalIn (dd + 3) t (.agg [.int .i64 a, .int .i64 b, .int .i64 c, .int .i64 d].toArray) (.agg [.int .i64 a', .int .i64 b', .int .i64 c', .int .i64 d'].toArray)) h (a == a' && (b == b' && (c == c' && d == d'))) := by
  obtain ⟨f, g, s, hu, o1, o2, o3, n1, n2, n3, s1, s2, s3, s4, u1, u2, hs⟩ := Key4T.spec (P := P) (t := t)
  unfold Op.equalIn
  refine Reads.bind (still_und hu).reads ?_
  refine Reads.bind Reads.program' ?_
  simp only [hs, Bool.false_eq_true, if_false, pure_bind]
  rw [← Array.forIn_toList]; simp only [List.forIn_cons, List.forIn_nil, n1, n2, n3, ne_eq, not_false_eq_true, if_true, o1, o2, o3, bind_assoc]
  refine Reads.bind (reads_partS (v := .int .i64 a) rfl) (Reads.bind (reads_partS (v := .int .i64 a') rfl) (Reads.bind (reads_eqi (dd + 1) u1 a a') ?_))
  cases h1 : (a == a')
  · simp only [Bool.not_false, if_true, pure_bind, Bool.false_and]; exact Reads.pure _
  · simp only [Bool.not_true, Bool.false_eq_true, if_false, pure_bind, Bool.true_and, bind_assoc]
    refine Reads.bind (reads_partS (v := .int .i64 b) rfl) (Reads.bind (reads_partS (v := .int .i64 b') rfl) (Reads.bind (reads_eqi (dd + 1) u2 b b') ?_))
    cases h2 : (b == b')
    · simp only [Bool.not_false, if_true, pure_bind, Bool.false_and]; exact Reads.pure _
    · simp only [Bool.not_true, Bool.false_eq_true, if_false, pure_bind, Bool.true_and, bind_assoc]
      refine Reads.bind (reads_partA (n := 2)) (Reads.bind (reads_partA (n := 2)) (Reads.bind (reads_eqK dd (t := s.type) c d c' d') ?_))
      cases h3 : (c == c' && d == d')
      · simp only [Bool.not_false, if_true, pure_bind]; exact Reads.pure _
      · simp only [Bool.not_true, Bool.false_eq_true, if_false, pure_bind]; exact Reads.pure _
end
section
variable {P : Program} {B : Array Obj} {m : Md P B} {ops : Array Oper} {l l' l'' : List Value} {S h h' H : Hp} {C : List Value → Hp → Prop} {i : Nat} {kd : Kd} {r : List (Nat × Kd)}
  {d : Option Tmp} {ty : TypeId} {pos : String} {af : Array Edge} {g : Option (Nat × Bool)}
theorem k_neqG {t u : TypeId} {x y : Operand} {vs ws : List Value} {e : Bool} (ho : ops[i]? = some ⟨d, .binOp .neq t x y u, ty, pos, af, g⟩) (hw : Wt ops l g) [KHeap kd S h H] [ex : OpV l x (.agg vs.toArray)] [ey : OpV l y (.agg ws.toArray)]
    (hg : P.eqGuardType P.depth t = false) (he : Reads P B (Op.equalIn 10000 t (.agg vs.toArray) (.agg ws.toArray)) H e) [PutV l d (.bool !e) l'] (q : RegK m S ops r l' h C) : RegK m S ops ((i, kd) :: r) l h C :=
  RegK.rd (v := .bool !e) ho hw (by
    simp only [execOp, ex.eq, ey.eq]
    refine Reads.value (Reads.bind (a := ()) ?_ ?_)
    · unfold eqGuard
      refine Reads.bind Reads.program' (Reads.bind Reads.program' ?_)
      rw [if_pos (by simp [hg])]; exact Reads.pure _
    · show Reads P B (Op.equal t (.agg vs.toArray) (.agg ws.toArray) >>= fun b => pure (Value.bool !b)) H _
      exact Reads.bind he (Reads.pure _)) q
theorem k_neq2 {t u : TypeId} {x y : Operand} {a b a' b' : Int} (ho : ops[i]? = some ⟨d, .binOp .neq t x y u, ty, pos, af, g⟩) (hw : Wt ops l g) [kh : KHeap kd S h H] [ex : OpV l x (.agg [.int .i64 a, .int .i64 b].toArray)] [ey : OpV l y (.agg [.int .i64 a', .int .i64 b'].toArray)] [KeyT P t]
    (hg : P.eqGuardType P.depth t = false) [pt : PutV l d (.bool true) l'] [pf : PutV l d (.bool false) l''] (yes : ¬ (a = a' ∧ b = b') → RegK m S ops r l' h C) (no : a = a' ∧ b = b' → RegK m S ops r l'' h C) : RegK m S ops ((i, kd) :: r) l h C := by
  have he := reads_eqK (P := P) (B := B) (h := H) 9998 (t := t) a b a' b'
  by_cases e : a = a' ∧ b = b'
  · have e2 : (a == a' && b == b') = true := by simp [e]
    rw [e2] at he
    haveI : PutV l d (.bool !true) l'' := pf
    exact k_neqG ho hw hg he (no e)
  · have e2 : (a == a' && b == b') = false := by simpa using e
    rw [e2] at he
    haveI : PutV l d (.bool !false) l' := pt
    exact k_neqG ho hw hg he (yes e)
theorem k_neq4 {t u : TypeId} {x y : Operand} {a b c e a' b' c' e' : Int} (ho : ops[i]? = some ⟨d, .binOp .neq t x y u, ty, pos, af, g⟩) (hw : Wt ops l g) [kh : KHeap kd S h H] [ex : OpV l x (.agg [.int .i64 a, .int .i64 b, .int .i64 c, .int .i64 e].toArray)] [ey : OpV l y (.agg [.int .i64 a', .int .i64 b', .int .i64 c', .int .i64 e'].toArray)] [Key4T P t]
    (hg : P.eqGuardType P.depth t = false) [pt : PutV l d (.bool true) l'] [pf : PutV l d (.bool false) l''] (yes : ¬ (a = a' ∧ b = b' ∧ c = c' ∧ e = e') → RegK m S ops r l' h C) (no : a = a' ∧ b = b' ∧ c = c' ∧ e = e' → RegK m S ops r l'' h C) : RegK m S ops ((i, kd) :: r) l h C := by
  have he := reads_eq4 (P := P) (B := B) (h := H) 9997 (t := t) a b c e a' b' c' e'
  by_cases hx : a = a' ∧ b = b' ∧ c = c' ∧ e = e'
  · have e2 : (a == a' && (b == b' && (c == c' && e == e'))) = true := by simp [hx]
    rw [e2] at he
    haveI : PutV l d (.bool !true) l'' := pf
    exact k_neqG ho hw hg he (no hx)
  · have e2 : (a == a' && (b == b' && (c == c' && e == e'))) = false := by simpa using hx
    rw [e2] at he
    haveI : PutV l d (.bool !false) l' := pt
    exact k_neqG ho hw hg he (yes hx)
end
end Go.Lo
namespace Go.Proofs
open Go.Lo
open Go.Conc (G)
set_option maxRecDepth 100000
set_option synthInstance.maxSize 100000
set_option synthInstance.maxHeartbeats 1000000
set_option maxHeartbeats 4000000
variable {B : Array Obj}
variable [Laid B]
instance : KeyT Tryz.prog 92 := ⟨by kernel_rfl⟩
instance : Key4T Tryz.prog 94 := ⟨by kernel_rfl⟩
def exA : Bk := ⟨3, 3, 1, [⟨10, 10⟩, ⟨12, 13⟩, ⟨13, 14⟩, ⟨13, 14⟩], []⟩
def exO : Bk := ⟨3, 2, 2, [⟨14, 14⟩, ⟨13, 13⟩, ⟨11, 12⟩], []⟩
def sameB (b b2 : Bk) : Prop := b.bend = b2.bend ∧ b.twist = b2.twist ∧ b.turns = b2.turns ∧ b.marks = b2.marks ∧ b.rules = b2.rules
theorem same_take {α : Type} [Inhabited α] {xs ys : List α} {k : Nat} (h1 : k < xs.length) (h2 : k < ys.length) (h : xs.take k = ys.take k) (e : xs.getD k default = ys.getD k default) : xs.take (k + 1) = ys.take (k + 1) := by
  rw [List.take_succ, List.take_succ, h, List.getElem?_eq_getElem h1, List.getElem?_eq_getElem h2]; rw [List.getD_eq_getElem?_getD, List.getD_eq_getElem?_getD, List.getElem?_eq_getElem h1, List.getElem?_eq_getElem h2] at e
  simp only [Option.getD_some] at e
  rw [e]
theorem f88_c (m : Md Tryz.prog B) (h : Hp) : FnC m 88 #[] h fun v h' => ∃ nw, h' = h ++ nw ∧ BkR B exA nw v := by
  refine fn_enter Tryz.func88 rfl rfl (l := uu7) rfl ?_
  intro cf cs K hK
  refine rs1 (by kernel_rfl) ?_; refine k_new rfl zq (fun q0 => k_hp (k_put ?_)); refine k_nil ?_; refine rs7 (by kernel_rfl) ?_; refine k_calP (Post := fun v => v = _) rfl zq (by kernel_rfl) (fun H' hH => f84_c m H' _) ?_; rintro v rfl; refine k_put ?_; refine k_calP (Post := fun v => v = _) rfl zq (by kernel_rfl) (fun H' hH => f90_c m H' _ _) ?_; rintro v rfl; refine k_put ?_; refine k_calP (Post := fun v => v = _) rfl zq (by kernel_rfl) (fun H' hH => f90_c m H' _ _) ?_; rintro v rfl; refine k_put ?_; refine k_calP (Post := fun v => v = _) rfl zq (by kernel_rfl) (fun H' hH => f90_c m H' _ _) ?_; rintro v rfl; refine k_put ?_; refine k_bs kdq rfl zq (by decide) (by decide) rfl (fun q5 => k_hp (k_put ?_)); refine k_bld rfl zq ?_; refine k_stA rfl zq rfl ?_; refine k_nil ?_; refine run_ret rfl ?_; refine run_res (h ++ [⟨true, q5, .cells [.int .i64 10, .int .i64 10, .int .i64 12, .int .i64 13, .int .i64 13, .int .i64 14, .int .i64 13, .int .i64 14].toArray 92 (0, 0)⟩]) rfl Tryz.func88 rfl weakSub ?_; refine hK _ _ ?_
  exact ⟨_, rfl, _, _, _, none, 0, 0, rfl, rfl, rfl, Nat.le_refl _, Nat.le_refl _, rdS_has (q := q5) (t := 92) (rw := true) (f := (0, 0)) (ys := encs exA.marks) (x := ⟨List.mem_cons_self⟩) rfl, ⟨none, 0, rfl, rfl, .inl ⟨rfl, rfl⟩⟩⟩
theorem f89_c (m : Md Tryz.prog B) (h : Hp) : FnC m 89 #[] h fun v h' => ∃ nw, h' = h ++ nw ∧ BkR B exO nw v := by
  refine fn_enter Tryz.func89 rfl rfl (l := uu6) rfl ?_
  intro cf cs K hK
  refine rs1 (by kernel_rfl) ?_; refine k_new rfl zq (fun q0 => k_hp (k_put ?_)); refine k_nil ?_; refine rs6 (by kernel_rfl) ?_; refine k_calP (Post := fun v => v = _) rfl zq (by kernel_rfl) (fun H' hH => f84_c m H' _) ?_; rintro v rfl; refine k_put ?_; refine k_calP (Post := fun v => v = _) rfl zq (by kernel_rfl) (fun H' hH => f84_c m H' _) ?_; rintro v rfl; refine k_put ?_; refine k_calP (Post := fun v => v = _) rfl zq (by kernel_rfl) (fun H' hH => f90_c m H' _ _) ?_; rintro v rfl; refine k_put ?_; refine k_bs kdq rfl zq (by decide) (by decide) rfl (fun q5 => k_hp (k_put ?_)); refine k_bld rfl zq ?_; refine k_stA rfl zq rfl ?_; refine k_nil ?_; refine run_ret rfl ?_; refine run_res (h ++ [⟨true, q5, .cells [.int .i64 14, .int .i64 14, .int .i64 13, .int .i64 13, .int .i64 11, .int .i64 12].toArray 92 (0, 0)⟩]) rfl Tryz.func89 rfl weakSub ?_; refine hK _ _ ?_
  exact ⟨_, rfl, _, _, _, none, 0, 0, rfl, rfl, rfl, Nat.le_refl _, Nat.le_refl _, rdS_has (q := q5) (t := 92) (rw := true) (f := (0, 0)) (ys := encs exO.marks) (x := ⟨List.mem_cons_self⟩) rfl, ⟨none, 0, rfl, rfl, .inl ⟨rfl, rfl⟩⟩⟩
theorem sp_ext {x y : Sp} (h1 : x.lo = y.lo) (h2 : x.hi = y.hi) : x = y := by cases x; cases y; simp_all
theorem ru_ext {x y : Ru} (h1 : x.a = y.a) (h2 : x.b = y.b) (h3 : x.lo = y.lo) (h4 : x.hi = y.hi) : x = y := by cases x; cases y; simp_all
theorem f75_c (m : Md Tryz.prog B) (h : Hp) {b : Bk} {pm : Option Addr} {nm cm : Nat} {pr : Option Addr} {nr cr : Nat} (rdm : RdS B h 2 (.slice pm nm cm) nm (encs b.marks)) (hm : nm ≤ 1000) (rdr : RdS B h 4 (.slice pr nr cr) nr (encs b.rules)) (hr : nr ≤ 1000) {b2 : Bk} {pm2 : Option Addr} {nm2 cm2 : Nat} {pr2 : Option Addr} {nr2 cr2 : Nat} (rdm2 : RdS B h 2 (.slice pm2 nm2 cm2) nm2 (encs b2.marks)) (hm2 : nm2 ≤ 1000) (rdr2 : RdS B h 4 (.slice pr2 nr2 cr2) nr2 (encs b2.rules)) (hr2 : nr2 ≤ 1000) : FnC m 75 #[bkV b pm nm cm pr nr cr, bkV b2 pm2 nm2 cm2 pr2 nr2 cr2] h fun v h' => h' = h ∧ IsB (sameB b b2) v := by
  have hml := rdm.elen (by decide)
  have hrl := rdr.elen (by decide)
  have hml2 := rdm2.elen (by decide)
  have hrl2 := rdr2.elen (by decide)
  refine fn_enter Tryz.func75 rfl rfl (l := (bkV b pm nm cm pr nr cr) :: (bkV b2 pm2 nm2 cm2 pr2 nr2 cr2) :: uu78) rfl ?_
  intro cf cs K hK
  refine rs3 (by kernel_rfl) ?_; refine k_box rfl zq (fun q2 => k_hp (k_put ?_)); refine k_box rfl zq (fun q3 => k_hp (k_put ?_)); refine aq rfl ?_; refine run_seq ?_; refine run_seq ?_; refine run_region [(0, .free), (1, .free), (2, .free), (3, .free), (4, .free), (5, .free), (6, .free), (7, .free), (8, .free), (9, .free), (10, .free), (11, .free), (12, .free), (13, .free), (14, .free), (15, .free), (16, .free), (17, .free), (18, .free), (19, .free), (20, .free), (21, .free), (22, .free), (23, .free), (24, .free), (25, .free), (26, .free), (27, .free), (28, .free), (29, .free), (30, .free), (31, .free), (32, .free), (33, .free), (34, .free), (35, .free), (36, .free)] (by kernel_rfl) (by kernel_rfl) ?_; first | refine k_fa0 rfl zq ?_ | refine k_fa rfl zq ?_
  refine k_ldh rfl zq ?_; first | refine k_fa0 rfl zq ?_ | refine k_fa rfl zq ?_
  refine k_ldh rfl zq ?_; refine k_neqS rfl zq (fun hc => ?_) (fun hc => ?_)
  · refine mq rfl ?_; refine k_off rfl rfl ?_; refine k_off rfl rfl ?_; refine k_off rfl rfl ?_; refine k_off rfl rfl ?_; refine k_off rfl rfl ?_; refine k_pickT rfl zq ?_; refine mq rfl ?_; refine k_off rfl rfl ?_; refine k_off rfl rfl ?_; refine k_off rfl rfl ?_; refine k_off rfl rfl ?_; refine k_off rfl rfl ?_; refine k_pickT rfl zq ?_; refine mq rfl ?_; refine k_off rfl rfl ?_; refine k_off rfl rfl ?_; refine k_off rfl rfl ?_; refine k_off rfl rfl ?_; refine k_off rfl rfl ?_; refine k_off rfl rfl ?_; refine k_off rfl rfl ?_; refine k_pickT rfl zq ?_; refine mq rfl ?_; refine k_off rfl rfl ?_; refine k_off rfl rfl ?_; refine k_off rfl rfl ?_; refine k_off rfl rfl ?_; refine k_off rfl rfl ?_; refine k_off rfl rfl ?_; refine k_off rfl rfl ?_; refine k_pickT rfl zq ?_; refine k_nil ?_; refine run_yes ?_; refine rs1 (by kernel_rfl) ?_; refine aq rfl ?_; refine run_ret rfl ?_; refine run_res (h) rfl Tryz.func75 rfl weakSub ?_; refine hK _ _ ?_
    first
      | (have hrr : b.rules = b2.rules := by
           rw [List.take_of_length_le (by omega), List.take_of_length_le (by omega)] at her; exact her
         exact ⟨rfl, IsB.yes ⟨by omega, by omega, by omega, hmk, hrr⟩⟩)
      | exact ⟨rfl, IsB.no (fun e => by
      obtain ⟨e1, e2, e3, e4, e5⟩ := e
      have e6 := congrArg List.length e4
      have e7 := congrArg List.length e5
      first | omega | (rw [e4] at hx; exact hx ⟨rfl, rfl⟩) | (rw [e5] at hx; exact hx ⟨rfl, rfl, rfl, rfl⟩))⟩
  · refine mq rfl ?_; first | refine k_fa0 rfl rfl ?_ | refine k_fa rfl rfl ?_
    refine k_ldh rfl rfl ?_; first | refine k_fa0 rfl rfl ?_ | refine k_fa rfl rfl ?_
    refine k_ldh rfl rfl ?_; refine k_neqS rfl rfl (fun hc => ?_) (fun hc => ?_)
    · refine k_pickF rfl zq ?_; refine mq rfl ?_; refine k_off rfl rfl ?_; refine k_off rfl rfl ?_; refine k_off rfl rfl ?_; refine k_off rfl rfl ?_; refine k_off rfl rfl ?_; refine k_pickT rfl zq ?_; refine mq rfl ?_; refine k_off rfl rfl ?_; refine k_off rfl rfl ?_; refine k_off rfl rfl ?_; refine k_off rfl rfl ?_; refine k_off rfl rfl ?_; refine k_off rfl rfl ?_; refine k_off rfl rfl ?_; refine k_pickT rfl zq ?_; refine mq rfl ?_; refine k_off rfl rfl ?_; refine k_off rfl rfl ?_; refine k_off rfl rfl ?_; refine k_off rfl rfl ?_; refine k_off rfl rfl ?_; refine k_off rfl rfl ?_; refine k_off rfl rfl ?_; refine k_pickT rfl zq ?_; refine k_nil ?_; refine run_yes ?_; refine rs1 (by kernel_rfl) ?_; refine aq rfl ?_; refine run_ret rfl ?_; refine run_res (h) rfl Tryz.func75 rfl weakSub ?_; refine hK _ _ ?_
      first
        | (have hrr : b.rules = b2.rules := by
             rw [List.take_of_length_le (by omega), List.take_of_length_le (by omega)] at her; exact her
           exact ⟨rfl, IsB.yes ⟨by omega, by omega, by omega, hmk, hrr⟩⟩)
        | exact ⟨rfl, IsB.no (fun e => by
        obtain ⟨e1, e2, e3, e4, e5⟩ := e
        have e6 := congrArg List.length e4
        have e7 := congrArg List.length e5
        first | omega | (rw [e4] at hx; exact hx ⟨rfl, rfl⟩) | (rw [e5] at hx; exact hx ⟨rfl, rfl, rfl, rfl⟩))⟩
    · refine k_pickF rfl zq ?_; refine mq rfl ?_; first | refine k_fa0 rfl rfl ?_ | refine k_fa rfl rfl ?_
      refine k_ldh rfl rfl ?_; first | refine k_fa0 rfl rfl ?_ | refine k_fa rfl rfl ?_
      refine k_ldh rfl rfl ?_; refine k_neqS rfl rfl (fun hc => ?_) (fun hc => ?_)
      · refine k_pickF rfl zq ?_; refine mq rfl ?_; refine k_off rfl rfl ?_; refine k_off rfl rfl ?_; refine k_off rfl rfl ?_; refine k_off rfl rfl ?_; refine k_off rfl rfl ?_; refine k_off rfl rfl ?_; refine k_off rfl rfl ?_; refine k_pickT rfl zq ?_; refine mq rfl ?_; refine k_off rfl rfl ?_; refine k_off rfl rfl ?_; refine k_off rfl rfl ?_; refine k_off rfl rfl ?_; refine k_off rfl rfl ?_; refine k_off rfl rfl ?_; refine k_off rfl rfl ?_; refine k_pickT rfl zq ?_; refine k_nil ?_; refine run_yes ?_; refine rs1 (by kernel_rfl) ?_; refine aq rfl ?_; refine run_ret rfl ?_; refine run_res (h) rfl Tryz.func75 rfl weakSub ?_; refine hK _ _ ?_
        first
          | (have hrr : b.rules = b2.rules := by
               rw [List.take_of_length_le (by omega), List.take_of_length_le (by omega)] at her; exact her
             exact ⟨rfl, IsB.yes ⟨by omega, by omega, by omega, hmk, hrr⟩⟩)
          | exact ⟨rfl, IsB.no (fun e => by
          obtain ⟨e1, e2, e3, e4, e5⟩ := e
          have e6 := congrArg List.length e4
          have e7 := congrArg List.length e5
          first | omega | (rw [e4] at hx; exact hx ⟨rfl, rfl⟩) | (rw [e5] at hx; exact hx ⟨rfl, rfl, rfl, rfl⟩))⟩
      · refine k_pickF rfl zq ?_; refine mq rfl ?_; first | refine k_fa0 rfl rfl ?_ | refine k_fa rfl rfl ?_
        refine k_ldh rfl rfl ?_; refine k_len rfl rfl ?_; first | refine k_fa0 rfl rfl ?_ | refine k_fa rfl rfl ?_
        refine k_ldh rfl rfl ?_; refine k_len rfl rfl ?_; refine k_neqS rfl rfl (fun hc => ?_) (fun hc => ?_)
        · refine k_pickF rfl zq ?_; refine mq rfl ?_; refine k_off rfl rfl ?_; refine k_off rfl rfl ?_; refine k_off rfl rfl ?_; refine k_off rfl rfl ?_; refine k_off rfl rfl ?_; refine k_off rfl rfl ?_; refine k_off rfl rfl ?_; refine k_pickT rfl zq ?_; refine k_nil ?_; refine run_yes ?_; refine rs1 (by kernel_rfl) ?_; refine aq rfl ?_; refine run_ret rfl ?_; refine run_res (h) rfl Tryz.func75 rfl weakSub ?_; refine hK _ _ ?_
          first
            | (have hrr : b.rules = b2.rules := by
                 rw [List.take_of_length_le (by omega), List.take_of_length_le (by omega)] at her; exact her
               exact ⟨rfl, IsB.yes ⟨by omega, by omega, by omega, hmk, hrr⟩⟩)
            | exact ⟨rfl, IsB.no (fun e => by
            obtain ⟨e1, e2, e3, e4, e5⟩ := e
            have e6 := congrArg List.length e4
            have e7 := congrArg List.length e5
            first | omega | (rw [e4] at hx; exact hx ⟨rfl, rfl⟩) | (rw [e5] at hx; exact hx ⟨rfl, rfl, rfl, rfl⟩))⟩
        · refine k_pickF rfl zq ?_; refine mq rfl ?_; first | refine k_fa0 rfl rfl ?_ | refine k_fa rfl rfl ?_
          refine k_ldh rfl rfl ?_; refine k_len rfl rfl ?_; first | refine k_fa0 rfl rfl ?_ | refine k_fa rfl rfl ?_
          refine k_ldh rfl rfl ?_; refine k_len rfl rfl ?_; refine k_neqS rfl rfl (fun hc => ?_) (fun hc => ?_)
          · refine k_pickF rfl zq ?_; refine k_nil ?_; refine run_yes ?_; refine rs1 (by kernel_rfl) ?_; refine aq rfl ?_; refine run_ret rfl ?_; refine run_res (h) rfl Tryz.func75 rfl weakSub ?_; refine hK _ _ ?_
            first
              | (have hrr : b.rules = b2.rules := by
                   rw [List.take_of_length_le (by omega), List.take_of_length_le (by omega)] at her; exact her
                 exact ⟨rfl, IsB.yes ⟨by omega, by omega, by omega, hmk, hrr⟩⟩)
              | exact ⟨rfl, IsB.no (fun e => by
              obtain ⟨e1, e2, e3, e4, e5⟩ := e
              have e6 := congrArg List.length e4
              have e7 := congrArg List.length e5
              first | omega | (rw [e4] at hx; exact hx ⟨rfl, rfl⟩) | (rw [e5] at hx; exact hx ⟨rfl, rfl, rfl, rfl⟩))⟩
          · refine k_pickF rfl zq ?_; refine k_nil ?_; refine run_no ?_; refine run_skip ?_; refine run_seq ?_; refine rs1 (by kernel_rfl) ?_; refine aq rfl ?_; refine run_block ?_; refine run_loop (fun nn l h' => ∃ (k : Nat), nn = nm - k ∧ (k ≤ nm) ∧ (b.marks.take k = b2.marks.take k) ∧ (∃ U : Nat → Value, l = [U 0, U 1, .pointer (some ⟨q2, 0, none⟩), .pointer (some ⟨q3, 0, none⟩), U 4, .int .i64 (k : Int), U 6, U 7, U 8, U 9, U 10, U 11, U 12, U 13, U 14, U 15, U 16, U 17, U 18, U 19, U 20, U 21, U 22, U 23, U 24, U 25, U 26, U 27, U 28, U 29, U 30, U 31, U 32, U 33, U 34, U 35, U 36, U 37, U 38, U 39, U 40, U 41, U 42, U 43, U 44, U 45, U 46, U 47, U 48, U 49, U 50, U 51, U 52, U 53, U 54, U 55, U 56, U 57, U 58, U 59, U 60, U 61, U 62, U 63, U 64, U 65, U 66, U 67, U 68, U 69, U 70, U 71, U 72, U 73, U 74, U 75, U 76, U 77, U 78, U 79]) ∧ h ++ [⟨true, q2, .cells (bkL b pm nm cm pr nr cr).toArray 25 (0, 0)⟩, ⟨true, q3, .cells (bkL b2 pm2 nm2 cm2 pr2 nr2 cr2).toArray 25 (0, 0)⟩] = h') _ ⟨0, rfl, by omega, rfl, exU rfl, rfl⟩ ?_; rintro nn l h' ⟨k, rfl, hk, he, ⟨U, rfl⟩, rfl⟩ hnext1; refine run_seq ?_; refine rs5 (by kernel_rfl) ?_; refine mq rfl ?_; first | refine k_fa0 rfl zq ?_ | refine k_fa rfl zq ?_
            refine k_ldh rfl zq ?_; refine k_len rfl zq ?_; refine k_lssS rfl zq (fun hc => ?_) (fun hc => ?_)
            · refine k_nil ?_; refine run_yes ?_; refine run_skip ?_; refine run_seq ?_; refine run_block ?_; refine run_seq ?_; refine run_draw [(0, .pure), (2, .pure), (5, .pure), (7, .pure), (1, .read), (3, .pure), (4, .read), (6, .read), (8, .pure), (9, .read), (10, .pure)] (by kernel_rfl) (by kernel_rfl) (List.Sublist.refl _) ?_; first | refine k_fa0 rfl zq ?_ | refine k_fa rfl zq ?_
              refine mq rfl ?_; first | refine k_fa0 rfl zq ?_ | refine k_fa rfl zq ?_
              refine mq rfl ?_; refine k_ldh rfl zq ?_; obtain ⟨mb, mo, rfl⟩ := rdm.ptr (by omega)
              refine k_ixs rfl zq (by first | rfl | assumption) (by omega) (by omega) ?_; refine k_ldN (vs := spL (b.marks.getD k default)) rfl zq rfl (rdm.eat k (by omega) (by omega)) ?_; refine k_ldh rfl zq ?_; obtain ⟨mb2, mo2, rfl⟩ := rdm2.ptr (by omega)
              refine k_ixs rfl zq (by first | rfl | assumption) (by omega) (by omega) ?_; refine k_ldN (vs := spL (b2.marks.getD k default)) rfl zq rfl (rdm2.eat k (by omega) (by omega)) ?_; refine k_neq2 (hg := by kernel_rfl) rfl zq (fun hc => ?_) (fun hc => ?_)
              · have hx := hc
                refine k_nil ?_; refine run_yes ?_; refine rs1 (by kernel_rfl) ?_; refine aq rfl ?_; refine run_ret rfl ?_; refine run_res (h) rfl Tryz.func75 rfl weakSub ?_; refine hK _ _ ?_
                first
                  | (have hrr : b.rules = b2.rules := by
                       rw [List.take_of_length_le (by omega), List.take_of_length_le (by omega)] at her; exact her
                     exact ⟨rfl, IsB.yes ⟨by omega, by omega, by omega, hmk, hrr⟩⟩)
                  | exact ⟨rfl, IsB.no (fun e => by
                  obtain ⟨e1, e2, e3, e4, e5⟩ := e
                  have e6 := congrArg List.length e4
                  have e7 := congrArg List.length e5
                  first | omega | (rw [e4] at hx; exact hx ⟨rfl, rfl⟩) | (rw [e5] at hx; exact hx ⟨rfl, rfl, rfl, rfl⟩))⟩
              · have hx := hc
                refine k_nil ?_; refine run_no ?_; refine run_skip ?_; refine run_inBlock ?_; refine rr3 (by kernel_rfl) ?_; refine mq rfl ?_; refine k_add rfl zq (by unfold In64; omega) ?_; refine aq rfl ?_; exact m.weak weakSub (hnext1 _ _ _ (by omega) ⟨k + 1, rfl, by omega, same_take (by omega) (by omega) he (sp_ext hx.1 hx.2), exU rfl, rfl⟩)
            · refine k_nil ?_; refine run_no ?_; refine run_exit rfl ?_; refine run_seq ?_; refine rs1 (by kernel_rfl) ?_; have hkn : k = nm := by omega
              have hmk : b.marks = b2.marks := by
                rw [List.take_of_length_le (by omega), List.take_of_length_le (by omega)] at he; exact he
              refine aq rfl ?_; refine run_block ?_; refine run_loop (fun nn l h' => ∃ (t : Nat), nn = nr - t ∧ (t ≤ nr) ∧ (b.rules.take t = b2.rules.take t) ∧ (∃ U : Nat → Value, l = [U 0, U 1, .pointer (some ⟨q2, 0, none⟩), .pointer (some ⟨q3, 0, none⟩), U 4, U 5, .int .i64 (t : Int), U 7, U 8, U 9, U 10, U 11, U 12, U 13, U 14, U 15, U 16, U 17, U 18, U 19, U 20, U 21, U 22, U 23, U 24, U 25, U 26, U 27, U 28, U 29, U 30, U 31, U 32, U 33, U 34, U 35, U 36, U 37, U 38, U 39, U 40, U 41, U 42, U 43, U 44, U 45, U 46, U 47, U 48, U 49, U 50, U 51, U 52, U 53, U 54, U 55, U 56, U 57, U 58, U 59, U 60, U 61, U 62, U 63, U 64, U 65, U 66, U 67, U 68, U 69, U 70, U 71, U 72, U 73, U 74, U 75, U 76, U 77, U 78, U 79]) ∧ h ++ [⟨true, q2, .cells (bkL b pm nm cm pr nr cr).toArray 25 (0, 0)⟩, ⟨true, q3, .cells (bkL b2 pm2 nm2 cm2 pr2 nr2 cr2).toArray 25 (0, 0)⟩] = h') _ ⟨0, rfl, by omega, rfl, exU rfl, rfl⟩ ?_; rintro nn l h' ⟨t, rfl, ht, her, ⟨U, rfl⟩, rfl⟩ hnext2; refine run_seq ?_; refine rs5 (by kernel_rfl) ?_; refine mq rfl ?_; first | refine k_fa0 rfl zq ?_ | refine k_fa rfl zq ?_
              refine k_ldh rfl zq ?_; refine k_len rfl zq ?_; refine k_lssS rfl zq (fun hc => ?_) (fun hc => ?_)
              · refine k_nil ?_; refine run_yes ?_; refine run_skip ?_; refine run_seq ?_; refine run_block ?_; refine run_seq ?_; refine run_draw [(0, .pure), (2, .pure), (5, .pure), (7, .pure), (1, .read), (3, .pure), (4, .read), (6, .read), (8, .pure), (9, .read), (10, .pure)] (by kernel_rfl) (by kernel_rfl) (List.Sublist.refl _) ?_; first | refine k_fa0 rfl zq ?_ | refine k_fa rfl zq ?_
                refine mq rfl ?_; first | refine k_fa0 rfl zq ?_ | refine k_fa rfl zq ?_
                refine mq rfl ?_; refine k_ldh rfl zq ?_; obtain ⟨rb, ro1, rfl⟩ := rdr.ptr (by omega)
                refine k_ixs rfl zq (by first | rfl | assumption) (by omega) (by omega) ?_; refine k_ldN (vs := ruL (b.rules.getD t default)) rfl zq rfl (rdr.eat t (by omega) (by omega)) ?_; refine k_ldh rfl zq ?_; obtain ⟨rb2, ro2, rfl⟩ := rdr2.ptr (by omega)
                refine k_ixs rfl zq (by first | rfl | assumption) (by omega) (by omega) ?_; refine k_ldN (vs := ruL (b2.rules.getD t default)) rfl zq rfl (rdr2.eat t (by omega) (by omega)) ?_; refine k_neq4 (hg := by kernel_rfl) rfl zq (fun hc => ?_) (fun hc => ?_)
                · have hx := hc
                  refine k_nil ?_; refine run_yes ?_; refine rs1 (by kernel_rfl) ?_; refine aq rfl ?_; refine run_ret rfl ?_; refine run_res (h) rfl Tryz.func75 rfl weakSub ?_; refine hK _ _ ?_
                  first
                    | (have hrr : b.rules = b2.rules := by
                         rw [List.take_of_length_le (by omega), List.take_of_length_le (by omega)] at her; exact her
                       exact ⟨rfl, IsB.yes ⟨by omega, by omega, by omega, hmk, hrr⟩⟩)
                    | exact ⟨rfl, IsB.no (fun e => by
                    obtain ⟨e1, e2, e3, e4, e5⟩ := e
                    have e6 := congrArg List.length e4
                    have e7 := congrArg List.length e5
                    first | omega | (rw [e4] at hx; exact hx ⟨rfl, rfl⟩) | (rw [e5] at hx; exact hx ⟨rfl, rfl, rfl, rfl⟩))⟩
                · have hx := hc
                  refine k_nil ?_; refine run_no ?_; refine run_skip ?_; refine run_inBlock ?_; refine rr3 (by kernel_rfl) ?_; refine mq rfl ?_; refine k_add rfl zq (by unfold In64; omega) ?_; refine aq rfl ?_; exact m.weak weakSub (hnext2 _ _ _ (by omega) ⟨t + 1, rfl, by omega, same_take (by omega) (by omega) her (ru_ext hx.1 hx.2.1 hx.2.2.1 hx.2.2.2), exU rfl, rfl⟩)
              · refine k_nil ?_; refine run_no ?_; refine run_exit rfl ?_; refine rs1 (by kernel_rfl) ?_; refine aq rfl ?_; refine run_ret rfl ?_; refine run_res (h) rfl Tryz.func75 rfl weakSub ?_; refine hK _ _ ?_
                first
                  | (have hrr : b.rules = b2.rules := by
                       rw [List.take_of_length_le (by omega), List.take_of_length_le (by omega)] at her; exact her
                     exact ⟨rfl, IsB.yes ⟨by omega, by omega, by omega, hmk, hrr⟩⟩)
                  | exact ⟨rfl, IsB.no (fun e => by
                  obtain ⟨e1, e2, e3, e4, e5⟩ := e
                  have e6 := congrArg List.length e4
                  have e7 := congrArg List.length e5
                  first | omega | (rw [e4] at hx; exact hx ⟨rfl, rfl⟩) | (rw [e5] at hx; exact hx ⟨rfl, rfl, rfl, rfl⟩))⟩
section
variable {P : Program} {B : Array Obj} {m : Md P B} {ops : Array Oper} {l l' : List Value} {S h h' H : Hp} {C : List Value → Hp → Prop} {i : Nat} {kd : Kd} {r : List (Nat × Kd)}
  {d : Option Tmp} {ty : TypeId} {pos : String} {af : Array Edge} {g : Option (Nat × Bool)}
theorem k_neqF {t u : TypeId} {x y : Operand} {a b : Int} {k : IntKind} (ho : ops[i]? = some ⟨d, .binOp .neq t x y u, ty, pos, af, g⟩) (hw : Wt ops l g) [kh : KHeap kd S h H] [ex : OpV l x (.int k a)] [ey : OpV l y (.int k b)] (e : a = b) [pt : PutV l d (.bool false) l'] (q : RegK m S ops r l' h C) : RegK m S ops ((i, kd) :: r) l h C := by
  have pq := pt; rw [← decide_eq_false (fun h : a ≠ b => h e)] at pq; exact k_neq (l' := l') ho hw q
end
def lnA : List Int := [10, 13, 13, 14]
def lnB : List Int := [10, 12, 14, 13]
def lnC : List Int := [10, 11, 13, 15]
def ruA : Ru := ⟨1, 3, 0, 0⟩
def exR : Bk := ⟨3, 3, 1, [⟨10, 10⟩, ⟨12, 13⟩, ⟨13, 14⟩, ⟨13, 14⟩], [⟨1, 3, 0, 0⟩, ⟨0, 1, 2, 2⟩]⟩
def exS : Bk := ⟨3, 2, 1, [⟨10, 10⟩, ⟨12, 13⟩, ⟨14, 14⟩, ⟨13, 13⟩, ⟨11, 12⟩], []⟩
theorem xA1 : handedS exA lnA = 0 := by decide +kernel
theorem xA2 : bends lnA = [-3, 1] := by decide +kernel
theorem xA3 : diffs (bends lnA) = [4] := by decide +kernel
theorem xA4 : turns lnA = 1 := by decide +kernel
theorem xA5 : ¬ fair exA.bend exA.twist exA.turns lnA := by decide +kernel
theorem xA6 : handedS exA lnB = 0 ∧ boat exA lnB := by decide +kernel
theorem xA7 : bookS exA = 0 ∧ (boatsOf exA).length = 7 := by decide +kernel
theorem xA8 : openS exA 0 = 0 ∧ heightsAt (boatsOf exA) 1 = [12, 12, 12, 12, 13, 13, 13] := by decide +kernel
theorem xA9 : told (hollowN (boatsOf exA) 1) (boatsOf exA).length = 2 := by decide +kernel
theorem xB1 : straightL exA = [10, 12, 13, 14] ∧ straightN exA = 1 := by decide +kernel
theorem xB2 : lineO exA lnA = 0 ∧ nearL exA lnA = [10, 12, 13, 14] ∧ nearN exA lnA = 1 := by decide +kernel
theorem xB3 : pulledL exA lnA = [1] := by decide +kernel
theorem xB4 : lineO exA lnC = 0 ∧ mustL exA lnC = [1, 3] := by decide +kernel
theorem xB5 : askAt exA = 1 ∧ askLeft exA = 4 := by decide +kernel
theorem xB6 : noteS exA ruA = 0 ∧ bookS (noteB exA ruA) = 0 ∧ (boatsOf (noteB exA ruA)).length = 2 := by decide +kernel
theorem xB7 : spliceS exA exO 2 = 0 ∧ bookS (spliceB exA exO 2) = 0 ∧ (boatsOf (spliceB exA exO 2)).length = 2 := by decide +kernel
theorem xB8 : sameB (spliceB exA exO 2) exS := by
  have : spliceB exA exO 2 = exS := by decide +kernel
  rw [this]; exact ⟨rfl, rfl, rfl, rfl, rfl⟩
theorem xB9 : clashS exR = 0 ∧ bookS exR = 0 ∧ boatsOf exR = [] ∧ boatsOf (onlyB exR 0) ≠ [] := by decide +kernel
theorem asc_ext : ∀ xs ys : List Int, Asc xs → Asc ys → (∀ z, z ∈ xs ↔ z ∈ ys) → xs = ys
  | [], [], _, _, _ => rfl
  | [], b :: s, _, _, h => by have := (h b).2 List.mem_cons_self; simp at this
  | a :: r, [], _, _, h => by have := (h a).1 List.mem_cons_self; simp at this
  | a :: r, b :: s, h1, h2, h => by
    obtain ⟨p1, p2⟩ := List.pairwise_cons.1 h1
    obtain ⟨q1, q2⟩ := List.pairwise_cons.1 h2
    have hab : a = b := by
      rcases List.mem_cons.1 ((h a).1 List.mem_cons_self) with e | e
      · exact e
      · rcases List.mem_cons.1 ((h b).2 List.mem_cons_self) with e' | e'
        · exact e'.symm
        · have := p1 b e'; have := q1 a e; omega
    subst hab
    congr 1
    refine asc_ext r s p2 q2 fun z => ⟨fun hz => ?_, fun hz => ?_⟩
    · rcases List.mem_cons.1 ((h z).1 (List.mem_cons_of_mem _ hz)) with e | e
      · have := p1 z hz; omega
      · exact e
    · rcases List.mem_cons.1 ((h z).2 (List.mem_cons_of_mem _ hz)) with e | e
      · have := q1 z hz; omega
      · exact e
theorem xD1 : openS exA (if 0 ≤ (1 : Int) ∧ (1 : Int) ≤ ((exA.marks.length : Nat) : Int) - 1 then 0 else 6) = 0 := by decide +kernel
theorem xD2 : openS exA (if 1 ≤ (2 : Int) ∧ (2 : Int) ≤ ((exA.marks.length : Nat) : Int) - 2 then 0 else 6) = 0 := by decide +kernel
theorem xD3 {ys : List Int} (h1 : Asc ys) (h2 : ∀ z, z ∈ ys ↔ z ∈ heightsAt (openL exA (if 0 ≤ (1 : Int) ∧ (1 : Int) ≤ ((exA.marks.length : Nat) : Int) - 1 then 0 else 6)) (1 : Int).toNat) : ys = [12, 13] := by
  refine asc_ext _ _ h1 (by unfold Asc; decide) fun z => ?_
  rw [h2, openL_yes xD1, show (1 : Int).toNat = 1 from rfl, xA8.2]; simp
theorem xC1 : ∀ mm, mm < 4 → (foulM exR mm ↔ mm = 3) := by decide +kernel
theorem xC2 {g : List Int} (h : ClashOk exR g) : g = [0, 1] := by
  rw [ClashOk, if_neg (by rintro (e | e | e); exact e xB9.2.1; exact e xB9.2.2.1; exact xB9.2.2.2 e)] at h
  obtain ⟨⟨mm, hlt, hf, rfl⟩, _⟩ := h
  obtain rfl := (xC1 mm (by simpa [exR] using hlt)).1 hf
  decide +kernel
instance hasRo {h : Hp} {b : Nat} {rw : Bool} {o : Obj} [s : Has h b rw o] : Has (ro h) b false o := ⟨List.mem_map.2 ⟨_, s.mem, rfl⟩⟩
instance subRo {a b : Hp} [s : SubH a b] : SubH (ro a) (ro b) := ⟨s.sub.map _⟩
theorem f20_c (h : Hp) : FnC (Md.star Tryz.prog B) 20 #[] h fun v h' => ∃ nw, h' = ro h ++ nw ∧ v = .bool true := by
  refine fn_enter Tryz.func20 rfl rfl (l := uu309) rfl ?_
  intro cf cs K hK
  refine rs1 (by kernel_rfl) ?_; refine aq rfl ?_; refine rs3 (by kernel_rfl) ?_; refine k_calC rfl zq (by kernel_rfl) (Post := fun v nw => BkR B exA nw v) (fun H' hH => f88_c _ H') ?_; rintro v nA ⟨pm, nm, cm, pr, nr, cr, rfl, rfl, rfl, hcm, hcr, rdm, rdr⟩; refine k_hpA (k_put ?_); refine k_new rfl zq (fun q1 => k_hp (k_put ?_)); refine k_stA rfl zq rfl ?_; refine k_nil ?_; refine rs2 (by kernel_rfl) ?_; refine k_bs kdq rfl zq (by decide) (by decide) rfl (fun q32 => k_hp (k_put ?_)); refine aq rfl ?_; refine rs8 (by kernel_rfl) ?_; have rdl : RdS B [⟨true, q32, .cells [.int .i64 10, .int .i64 13, .int .i64 13, .int .i64 14].toArray 3 (0, 0)⟩] 1 (.slice (some ⟨q32, 0, none⟩) 4 4) 4 (ints lnA) := (OwnS.full (t := 3) (q := q32) (cs := ints lnA) rfl).rd (List.Sublist.refl _)
  refine k_ldA rfl zq ?_; refine mq rfl ?_; refine k_calC rfl zq (by kernel_rfl) (Post := fun v new => ∃ w, v = .tuple [w, .int .i64 (handedS exA lnA)].toArray ∧ RdI B new w (if handedS exA lnA ≠ 0 then [] else bends lnA)) (fun H' hH => f23_c _ H' (b := exA) (xs := lnA) (rdm.keeps (sq hH)) (by decide) (rdr.keeps (sq hH)) (by decide) (rdl.keeps (sq hH)) (by decide)) ?_; rintro v n23 ⟨w23, rfl, hw23⟩; refine k_hpA (k_put ?_); rw [if_neg (fun e => e xA1), xA2] at hw23
  rw [xA1]; obtain ⟨p23, c23, rfl, r23⟩ := hw23
  refine mq rfl ?_; refine k_ext0 rfl zq ?_; refine k_ext1 rfl zq ?_; refine k_as rfl zq ?_; refine aq rfl ?_; refine rs8 (by kernel_rfl) ?_; refine k_ldA rfl zq ?_; refine mq rfl ?_; refine k_calC rfl zq (by kernel_rfl) (Post := fun v new => ∃ w, v = .tuple [w, .int .i64 (handedS exA lnA)].toArray ∧ RdI B new w (if handedS exA lnA ≠ 0 then [] else diffs (bends lnA))) (fun H' hH => f25_c _ H' (b := exA) (xs := lnA) (rdm.keeps (sq hH)) (by decide) (rdr.keeps (sq hH)) (by decide) (rdl.keeps (sq hH)) (by decide)) ?_; rintro v n25 ⟨w25, rfl, hw25⟩; refine k_hpA (k_put ?_); rw [if_neg (fun e => e xA1), xA3] at hw25
  rw [xA1]; obtain ⟨p25, c25, rfl, r25⟩ := hw25
  refine mq rfl ?_; refine k_ext0 rfl zq ?_; refine k_ext1 rfl zq ?_; refine k_as rfl zq ?_; refine aq rfl ?_; refine rs8 (by kernel_rfl) ?_; refine k_ldA rfl zq ?_; refine mq rfl ?_; refine k_calP (Post := fun v => v = .tuple [.int .i64 1, .int .i64 0].toArray) rfl zq (by kernel_rfl) (fun H' hH => by have := f27_c (Md.star Tryz.prog B) H' (b := exA) (xs := lnA) (rdm.keeps (sq hH)) (by decide) (rdr.keeps (sq hH)) (by decide) (rdl.keeps (sq hH)) (by decide); rw [if_neg (fun e => e xA1), xA4, xA1] at this; exact this) ?_; rintro v rfl; refine k_put ?_; refine mq rfl ?_; refine k_ext0 rfl zq ?_; refine k_ext1 rfl zq ?_; refine k_as rfl zq ?_; refine aq rfl ?_; refine rs8 (by kernel_rfl) ?_; refine k_ldA rfl zq ?_; refine mq rfl ?_; refine k_calP (Post := fun v => ∃ w, v = .tuple [w, .int .i64 (handedS exA lnA)].toArray ∧ IsB (handedS exA lnA = 0 ∧ fair exA.bend exA.twist exA.turns lnA) w) rfl zq (by kernel_rfl) (fun H' hH => f29_c _ H' (b := exA) (xs := lnA) (rdm.keeps (sq hH)) (by decide) (rdr.keeps (sq hH)) (by decide) (rdl.keeps (sq hH)) (by decide)) ?_; rintro v ⟨w29, rfl, hw29⟩; obtain rfl : w29 = .bool false := by
    rcases hw29 with ⟨e, _⟩ | ⟨_, e⟩
    · exact absurd e.2 xA5
    · exact e
  rw [xA1]; refine k_put ?_; refine mq rfl ?_; refine k_ext0 rfl zq ?_; refine k_ext1 rfl zq ?_; refine k_as rfl zq ?_; refine aq rfl ?_; refine rs8 (by kernel_rfl) ?_; refine k_ldA rfl zq ?_; refine k_bs kdq rfl zq (by decide) (by decide) rfl (fun q59 => k_hp (k_put ?_)); have rdl2 : RdS B [⟨true, q59, .cells [.int .i64 10, .int .i64 12, .int .i64 14, .int .i64 13].toArray 3 (0, 0)⟩] 1 (.slice (some ⟨q59, 0, none⟩) 4 4) 4 (ints lnB) := (OwnS.full (t := 3) (q := q59) (cs := ints lnB) rfl).rd (List.Sublist.refl _)
  refine k_calP (Post := fun v => ∃ w, v = .tuple [w, .int .i64 (handedS exA lnB)].toArray ∧ IsB (handedS exA lnB = 0 ∧ boat exA lnB) w) rfl zq (by kernel_rfl) (fun H' hH => f32_c _ H' (b := exA) (xs := lnB) (rdm.keeps (sq hH)) (by decide) (rdr.keeps (sq hH)) (by decide) (rdl2.keeps (sq hH)) (by decide)) ?_; rintro v ⟨w32, rfl, hw32⟩; obtain rfl : w32 = .bool true := by
    rcases hw32 with ⟨_, e⟩ | ⟨e, _⟩
    · exact e
    · exact absurd xA6 e
  rw [xA6.1]; refine k_put ?_; refine mq rfl ?_; refine k_ext0 rfl zq ?_; refine k_ext1 rfl zq ?_; refine k_as rfl zq ?_; refine aq rfl ?_; refine rs7 (by kernel_rfl) ?_; refine k_ldA rfl zq ?_; refine k_calP (Post := fun v => v = .tuple [.int .i64 7, .int .i64 0].toArray) rfl zq (by kernel_rfl) (fun H' hH => by have := f34_c (Md.star Tryz.prog B) H' (b := exA) (rdm.keeps (sq hH)) (by decide) (rdr.keeps (sq hH)) (by decide); rw [if_neg (fun e => e xA7.1), xA7.1, xA7.2] at this; exact this) ?_; rintro v rfl; refine k_put ?_; refine mq rfl ?_; refine k_ext0 rfl zq ?_; refine k_ext1 rfl zq ?_; refine k_as rfl zq ?_; refine aq rfl ?_; refine rs7 (by kernel_rfl) ?_; refine k_ldA rfl zq ?_; refine k_calC rfl zq (by kernel_rfl) (Post := fun v new => ∃ w ys, v = .tuple [w, .int .i64 (openS exA (if 0 ≤ (1 : Int) ∧ (1 : Int) ≤ ((exA.marks.length : Nat) : Int) - 1 then 0 else 6))].toArray ∧ OwnS 3 1 w ys.length (ints ys) new ∧ Asc ys ∧ ∀ z, z ∈ ys ↔ z ∈ heightsAt (openL exA (if 0 ≤ (1 : Int) ∧ (1 : Int) ≤ ((exA.marks.length : Nat) : Int) - 1 then 0 else 6)) (1 : Int).toNat) (fun H' hH => f36_c _ H' (b := exA) (N := 12) (f152_s _) (by decide) (rdm.keeps (sq hH)) (by decide) (rdr.keeps (sq hH)) (by decide) (fun _ => by rw [xA7.2]; decide) 1) ?_; rintro v n36 ⟨w36, ys36, rfl, o36, ha36, hm36⟩; refine k_hpA (k_put ?_); obtain rfl := xD3 ha36 hm36
  rw [xD1]; obtain ⟨p36, c36, rfl, _, r36⟩ := own_rdA (B := B) o36
  refine mq rfl ?_; refine k_ext0 rfl zq ?_; refine k_ext1 rfl zq ?_; refine k_as rfl zq ?_; refine aq rfl ?_; refine rs7 (by kernel_rfl) ?_; refine k_ldA rfl zq ?_; refine k_calP (Post := fun v => v = .tuple [.int .i64 2, .int .i64 0].toArray) rfl zq (by kernel_rfl) (fun H' hH => by have := f38_c (Md.star Tryz.prog B) H' (b := exA) (rdm.keeps (sq hH)) (by decide) (rdr.keeps (sq hH)) (by decide) 2 (by unfold In64; omega); rw [if_neg (fun e => e xD2), xD2, show ((2 : Int) - 1).toNat = 1 from rfl, xA9] at this; exact this) ?_; rintro v rfl; refine k_put ?_; refine mq rfl ?_; refine k_ext0 rfl zq ?_; refine k_ext1 rfl zq ?_; refine k_as rfl zq ?_; refine aq rfl ?_; refine run_seq ?_; refine run_seq ?_; refine run_region [(0, .free), (1, .free), (2, .free), (3, .free), (4, .free), (5, .free), (6, .free), (7, .free), (8, .free), (9, .free), (10, .free), (11, .free), (12, .free), (13, .free), (14, .free), (15, .free), (16, .free), (17, .free), (18, .free), (19, .free), (20, .free), (21, .free), (22, .free), (23, .free), (24, .free), (25, .free), (26, .free), (27, .free), (28, .free), (29, .free), (30, .free), (31, .free), (32, .free), (33, .free), (34, .free), (35, .free), (36, .free), (37, .free), (38, .free), (39, .free), (40, .free), (41, .free), (42, .free), (43, .free), (44, .free), (45, .free), (46, .free), (47, .free), (48, .free), (49, .free), (50, .free), (51, .free), (52, .free), (53, .free), (54, .free), (55, .free), (56, .free), (57, .free), (58, .free), (59, .free), (60, .free), (61, .free), (62, .free), (63, .free), (64, .free), (65, .free), (66, .free)] (by kernel_rfl) (by kernel_rfl) ?_; refine mq rfl ?_; refine k_neqF rfl zq (by decide) ?_; refine mq rfl ?_; refine k_mv rfl rfl ?_; refine k_neqF rfl rfl (by decide) ?_; refine k_pickF rfl zq ?_; refine mq rfl ?_; refine k_mv rfl rfl ?_; refine k_neqF rfl rfl (by decide) ?_; refine k_pickF rfl zq ?_
  refine mq rfl ?_; refine k_mv rfl rfl ?_; refine k_neqF rfl rfl (by decide) ?_; refine k_pickF rfl zq ?_; refine mq rfl ?_; refine k_mv rfl rfl ?_; refine k_neqF rfl rfl (by decide) ?_; refine k_pickF rfl zq ?_; refine mq rfl ?_; refine k_mv rfl rfl ?_; refine k_neqF rfl rfl (by decide) ?_; refine k_pickF rfl zq ?_; refine mq rfl ?_; refine k_mv rfl rfl ?_; refine k_neqF rfl rfl (by decide) ?_; refine k_pickF rfl zq ?_; refine mq rfl ?_; refine k_mv rfl rfl ?_; refine k_neqF rfl rfl (by decide) ?_; refine k_pickF rfl zq ?_; refine mq rfl ?_; refine k_mv rfl rfl ?_; refine k_neqF rfl rfl (by decide) ?_; refine k_pickF rfl zq ?_; refine mq rfl ?_; refine k_mv rfl rfl ?_; refine k_pickF rfl zq ?_; refine mq rfl ?_; refine k_mv rfl rfl ?_; refine k_notT rfl rfl ?_; refine k_pickF rfl zq ?_; refine mq rfl ?_; refine k_mv rfl rfl ?_; refine k_neqF rfl rfl (by decide) ?_; refine k_pickF rfl zq ?_; refine mq rfl ?_; refine k_mv rfl rfl ?_; refine k_neqF rfl rfl (by decide) ?_; refine k_pickF rfl zq ?_; refine mq rfl ?_; refine k_mv rfl rfl ?_; refine k_bs kdq rfl rfl (by decide) (by decide) rfl (fun q129 => k_hp (k_put ?_)); have rd129 : RdS B [⟨true, q129, .cells [.int .i64 (-3), .int .i64 1].toArray 3 (0, 0)⟩] 1 (.slice (some ⟨q129, 0, none⟩) 2 2) 2 (ints [-3, 1]) := (OwnS.full (t := 3) (q := q129) (cs := ints [-3, 1]) rfl).rd (List.Sublist.refl _)
  refine k_calP (Post := fun v => IsB _ v) rfl rfl (by kernel_rfl) (fun H' hH => f31_c _ H' (r23.keeps (sq hH)) (by decide) (rd129.keeps (sq hH))) ?_; rintro v (⟨hc, rfl⟩ | ⟨hc, rfl⟩)
  · refine k_put ?_; refine k_notT rfl rfl ?_; refine k_pickF rfl zq ?_; refine mq rfl ?_; refine k_mv rfl rfl ?_; refine k_bs kdq rfl rfl (by decide) (by decide) rfl (fun q135 => k_hp (k_put ?_)); have rd135 : RdS B [⟨true, q135, .cells [.int .i64 4].toArray 3 (0, 0)⟩] 1 (.slice (some ⟨q135, 0, none⟩) 1 1) 1 (ints [4]) := (OwnS.full (t := 3) (q := q135) (cs := ints [4]) rfl).rd (List.Sublist.refl _)
    refine k_calP (Post := fun v => IsB _ v) rfl rfl (by kernel_rfl) (fun H' hH => f31_c _ H' (r25.keeps (sq hH)) (by decide) (rd135.keeps (sq hH))) ?_; rintro v (⟨hc, rfl⟩ | ⟨hc, rfl⟩)
    · refine k_put ?_; refine k_notT rfl rfl ?_; refine k_pickF rfl zq ?_; refine mq rfl ?_; refine k_mv rfl rfl ?_; refine k_bs kdq rfl rfl (by decide) (by decide) rfl (fun q141 => k_hp (k_put ?_)); have rd141 : RdS B [⟨true, q141, .cells [.int .i64 12, .int .i64 13].toArray 3 (0, 0)⟩] 1 (.slice (some ⟨q141, 0, none⟩) 2 2) 2 (ints [12, 13]) := (OwnS.full (t := 3) (q := q141) (cs := ints [12, 13]) rfl).rd (List.Sublist.refl _)
      refine k_calP (Post := fun v => IsB _ v) rfl rfl (by kernel_rfl) (fun H' hH => f31_c _ H' (r36.keeps (sq hH)) (by decide) (rd141.keeps (sq hH))) ?_; rintro v (⟨hc, rfl⟩ | ⟨hc, rfl⟩)
      · refine k_put ?_; refine k_notT rfl rfl ?_; refine k_pickF rfl zq ?_; refine k_nil ?_; refine run_no ?_; refine run_skip ?_; refine rs9 (by kernel_rfl) ?_; refine k_ldA rfl zq ?_; refine k_calC rfl zq (by kernel_rfl) (Post := fun v new => ∃ w, v = .tuple [w, .int .i64 (straightN exA), .int .i64 (openS exA 0)].toArray ∧ RdI B new w (straightL exA)) (fun H' hH => f40_c _ H' (b := exA) (rdm.keeps (sq hH)) (by decide) (rdr.keeps (sq hH)) (by decide)) ?_; rintro v n40 ⟨w40, rfl, hw40⟩; refine k_hpA (k_put ?_); rw [xB1.1] at hw40
        rw [xB1.2, xA8.1]; obtain ⟨p40, c40, rfl, r40⟩ := hw40
        refine mq rfl ?_; refine k_ext0 rfl zq ?_; refine k_ext1 rfl zq ?_; refine k_ext2 rfl zq ?_; refine k_as rfl zq ?_; refine k_as rfl zq ?_; refine aq rfl ?_; refine rs10 (by kernel_rfl) ?_; refine k_ldA rfl zq ?_; refine mq rfl ?_; refine k_calC rfl zq (by kernel_rfl) (Post := fun v new => ∃ w, v = .tuple [w, .int .i64 (nearN exA lnA), .int .i64 (lineO exA lnA)].toArray ∧ RdI B new w (nearL exA lnA)) (fun H' hH => f42_c _ H' (b := exA) (xs := lnA) (rdm.keeps (sq hH)) (by decide) (rdr.keeps (sq hH)) (by decide) (rdl.keeps (sq hH)) (by decide)) ?_; rintro v n42 ⟨w42, rfl, hw42⟩; refine k_hpA (k_put ?_); rw [xB2.2.1] at hw42
        rw [xB2.2.2, xB2.1]; obtain ⟨p42, c42, rfl, r42⟩ := hw42
        refine mq rfl ?_; refine k_ext0 rfl zq ?_; refine k_ext1 rfl zq ?_; refine k_ext2 rfl zq ?_; refine k_as rfl zq ?_; refine k_as rfl zq ?_; refine aq rfl ?_; refine rs8 (by kernel_rfl) ?_; refine k_ldA rfl zq ?_; refine mq rfl ?_; refine k_calC rfl zq (by kernel_rfl) (Post := fun v new => ∃ w, v = .tuple [w, .int .i64 (lineO exA lnA)].toArray ∧ RdI B new w (pulledL exA lnA)) (fun H' hH => f44_c _ H' (b := exA) (xs := lnA) (rdm.keeps (sq hH)) (by decide) (rdr.keeps (sq hH)) (by decide) (rdl.keeps (sq hH)) (by decide)) ?_; rintro v n44 ⟨w44, rfl, hw44⟩; refine k_hpA (k_put ?_); rw [xB3] at hw44
        rw [xB2.1]; obtain ⟨p44, c44, rfl, r44⟩ := hw44
        refine mq rfl ?_; refine k_ext0 rfl zq ?_; refine k_ext1 rfl zq ?_; refine k_as rfl zq ?_; refine aq rfl ?_; refine rs8 (by kernel_rfl) ?_; refine k_ldA rfl zq ?_; refine k_bs kdq rfl zq (by decide) (by decide) rfl (fun q166 => k_hp (k_put ?_)); have rdl3 : RdS B [⟨true, q166, .cells [.int .i64 10, .int .i64 11, .int .i64 13, .int .i64 15].toArray 3 (0, 0)⟩] 1 (.slice (some ⟨q166, 0, none⟩) 4 4) 4 (ints lnC) := (OwnS.full (t := 3) (q := q166) (cs := ints lnC) rfl).rd (List.Sublist.refl _)
        refine k_calC rfl zq (by kernel_rfl) (Post := fun v new => ∃ w, v = .tuple [w, .int .i64 (lineO exA lnC)].toArray ∧ RdI B new w (mustL exA lnC)) (fun H' hH => f46_c _ H' (b := exA) (xs := lnC) (rdm.keeps (sq hH)) (by decide) (rdr.keeps (sq hH)) (by decide) (rdl3.keeps (sq hH)) (by decide)) ?_; rintro v n46 ⟨w46, rfl, hw46⟩; refine k_hpA (k_put ?_); rw [xB4.2] at hw46
        rw [xB4.1]; obtain ⟨p46, c46, rfl, r46⟩ := hw46
        refine mq rfl ?_; refine k_ext0 rfl zq ?_; refine k_ext1 rfl zq ?_; refine k_as rfl zq ?_; refine aq rfl ?_; refine rs9 (by kernel_rfl) ?_; refine k_ldA rfl zq ?_; refine k_calP (Post := fun v => v = .tuple [.int .i64 1, .int .i64 4, .int .i64 0].toArray) rfl zq (by kernel_rfl) (fun H' hH => by have := f71_c (Md.star Tryz.prog B) H' (b := exA) (rdm.keeps (sq hH)) (by decide) (rdr.keeps (sq hH)) (by decide); rw [xB5.1, xB5.2, xA8.1] at this; exact this) ?_; rintro v rfl; refine k_put ?_; refine mq rfl ?_; refine k_ext0 rfl zq ?_; refine k_ext1 rfl zq ?_; refine k_ext2 rfl zq ?_; refine k_as rfl zq ?_; refine k_as rfl zq ?_; refine aq rfl ?_; refine rs9 (by kernel_rfl) ?_; refine k_ldA rfl zq ?_; refine k_bld rfl zq ?_; refine k_calC rfl zq (by kernel_rfl) (Post := fun v new => ∃ w, v = .tuple [w, .int .i64 (noteS exA ruA)].toArray ∧ BkR B (noteB exA ruA) new w) (fun H' hH => f81_c _ H' (b := exA) (rdm.keeps (sq hH)) (by decide) (rdr.keeps (sq hH)) (by decide) ruA) ?_; rintro v n81 ⟨w81, rfl, pm8, nm8, cm8, pr8, nr8, cr8, rfl, hnm8, hnr8, hcm8, hcr8, rdm8, rdr8⟩; refine k_hpA (k_put ?_); rw [xB6.1]; have hnm8' : nm8 ≤ 1000 := by rw [hnm8]; decide +kernel
        have hnr8' : nr8 ≤ 1000 := by rw [hnr8]; decide +kernel
        refine mq rfl ?_; refine k_ext0 rfl zq ?_; refine k_ext1 rfl zq ?_; refine k_new rfl zq (fun q27 => k_hp (k_put ?_)); refine k_stA rfl zq rfl ?_; refine aq rfl ?_; refine rs7 (by kernel_rfl) ?_; refine k_ldA rfl zq ?_; refine k_calP (Post := fun v => v = .tuple [.int .i64 2, .int .i64 0].toArray) rfl zq (by kernel_rfl) (fun H' hH => by have := f34_c (Md.star Tryz.prog B) H' (b := noteB exA ruA) (rdm8.keeps (sq hH)) hnm8' (rdr8.keeps (sq hH)) hnr8'; rw [if_neg (fun e => e xB6.2.1), xB6.2.1, xB6.2.2] at this; exact this) ?_; rintro v rfl; refine k_put ?_; refine mq rfl ?_; refine k_ext0 rfl zq ?_; refine k_ext1 rfl zq ?_; refine k_as rfl zq ?_; refine aq rfl ?_; refine run_seq ?_; refine run_seq ?_; refine run_region [(0, .free), (1, .free), (2, .free), (3, .free), (4, .free), (5, .free), (6, .free), (7, .free), (8, .free), (9, .free), (10, .free), (11, .free), (12, .free), (13, .free), (14, .free), (15, .free), (16, .free), (17, .free), (18, .free), (19, .free), (20, .free), (21, .free), (22, .free), (23, .free), (24, .free), (25, .free), (26, .free), (27, .free), (28, .free), (29, .free), (30, .free), (31, .free), (32, .free), (33, .free), (34, .free), (35, .free), (36, .free), (37, .free), (38, .free), (39, .free), (40, .free), (41, .free), (42, .free), (43, .free), (44, .free), (45, .free), (46, .free), (47, .free), (48, .free), (49, .free), (50, .free), (51, .free), (52, .free), (53, .free), (54, .free), (55, .free), (56, .free), (57, .free), (58, .free), (59, .free), (60, .free), (61, .free), (62, .free), (63, .free), (64, .free), (65, .free), (66, .free), (67, .free), (68, .free), (69, .free)] (by kernel_rfl) (by kernel_rfl) ?_; refine mq rfl ?_; refine k_neqF rfl zq (by decide) ?_; refine mq rfl ?_; refine k_mv rfl rfl ?_; refine k_neqF rfl rfl (by decide) ?_; refine k_pickF rfl zq ?_; refine mq rfl ?_; refine k_mv rfl rfl ?_; refine k_neqF rfl rfl (by decide) ?_
        refine k_pickF rfl zq ?_; refine mq rfl ?_; refine k_mv rfl rfl ?_; refine k_neqF rfl rfl (by decide) ?_; refine k_pickF rfl zq ?_; refine mq rfl ?_; refine k_mv rfl rfl ?_; refine k_neqF rfl rfl (by decide) ?_; refine k_pickF rfl zq ?_; refine mq rfl ?_; refine k_mv rfl rfl ?_; refine k_neqF rfl rfl (by decide) ?_; refine k_pickF rfl zq ?_; refine mq rfl ?_; refine k_mv rfl rfl ?_; refine k_neqF rfl rfl (by decide) ?_; refine k_pickF rfl zq ?_; refine mq rfl ?_; refine k_mv rfl rfl ?_; refine k_neqF rfl rfl (by decide) ?_; refine k_pickF rfl zq ?_; refine mq rfl ?_; refine k_mv rfl rfl ?_; refine k_neqF rfl rfl (by decide) ?_; refine k_pickF rfl zq ?_; refine mq rfl ?_; refine k_mv rfl rfl ?_; refine k_neqF rfl rfl (by decide) ?_; refine k_pickF rfl zq ?_; refine mq rfl ?_; refine k_mv rfl rfl ?_; refine k_neqF rfl rfl (by decide) ?_; refine k_pickF rfl zq ?_; refine mq rfl ?_; refine k_mv rfl rfl ?_; refine k_neqF rfl rfl (by decide) ?_; refine k_pickF rfl zq ?_; refine mq rfl ?_; refine k_mv rfl rfl ?_; refine k_bs kdq rfl rfl (by decide) (by decide) rfl (fun q235 => k_hp (k_put ?_)); have rd235 : RdS B [⟨true, q235, .cells [.int .i64 10, .int .i64 12, .int .i64 13, .int .i64 14].toArray 3 (0, 0)⟩] 1 (.slice (some ⟨q235, 0, none⟩) 4 4) 4 (ints [10, 12, 13, 14]) := (OwnS.full (t := 3) (q := q235) (cs := ints [10, 12, 13, 14]) rfl).rd (List.Sublist.refl _)
        refine k_calP (Post := fun v => IsB _ v) rfl rfl (by kernel_rfl) (fun H' hH => f31_c _ H' (r40.keeps (sq hH)) (by decide) (rd235.keeps (sq hH))) ?_; rintro v (⟨hc, rfl⟩ | ⟨hc, rfl⟩)
        · refine k_put ?_; refine k_notT rfl rfl ?_; refine k_pickF rfl zq ?_; refine mq rfl ?_; refine k_mv rfl rfl ?_; refine k_mv rfl rfl ?_; refine k_calP (Post := fun v => IsB _ v) rfl rfl (by kernel_rfl) (fun H' hH => f31_c _ H' (r42.keeps (sq hH)) (by decide) (r40.keeps (sq hH))) ?_; rintro v (⟨hc, rfl⟩ | ⟨hc, rfl⟩)
          · refine k_put ?_; refine k_notT rfl rfl ?_; refine k_pickF rfl zq ?_; refine mq rfl ?_; refine k_mv rfl rfl ?_; refine k_bs kdq rfl rfl (by decide) (by decide) rfl (fun q247 => k_hp (k_put ?_)); have rd247 : RdS B [⟨true, q247, .cells [.int .i64 1].toArray 3 (0, 0)⟩] 1 (.slice (some ⟨q247, 0, none⟩) 1 1) 1 (ints [1]) := (OwnS.full (t := 3) (q := q247) (cs := ints [1]) rfl).rd (List.Sublist.refl _)
            refine k_calP (Post := fun v => IsB _ v) rfl rfl (by kernel_rfl) (fun H' hH => f31_c _ H' (r44.keeps (sq hH)) (by decide) (rd247.keeps (sq hH))) ?_; rintro v (⟨hc, rfl⟩ | ⟨hc, rfl⟩)
            · refine k_put ?_; refine k_notT rfl rfl ?_; refine k_pickF rfl zq ?_; refine mq rfl ?_; refine k_mv rfl rfl ?_; refine k_bs kdq rfl rfl (by decide) (by decide) rfl (fun q253 => k_hp (k_put ?_)); have rd253 : RdS B [⟨true, q253, .cells [.int .i64 1, .int .i64 3].toArray 3 (0, 0)⟩] 1 (.slice (some ⟨q253, 0, none⟩) 2 2) 2 (ints [1, 3]) := (OwnS.full (t := 3) (q := q253) (cs := ints [1, 3]) rfl).rd (List.Sublist.refl _)
              refine k_calP (Post := fun v => IsB _ v) rfl rfl (by kernel_rfl) (fun H' hH => f31_c _ H' (r46.keeps (sq hH)) (by decide) (rd253.keeps (sq hH))) ?_; rintro v (⟨hc, rfl⟩ | ⟨hc, rfl⟩)
              · refine k_put ?_; refine k_notT rfl rfl ?_; refine k_pickF rfl zq ?_; refine k_nil ?_; refine run_no ?_; refine run_skip ?_; refine run_seq ?_; refine run_draw [(0, .read), (1, .keep), (2, .keep), (3, .pure), (4, .pure), (5, .pure), (6, .free), (7, .pure)] (by kernel_rfl) (by kernel_rfl) (List.Sublist.refl _) ?_; refine k_ldA rfl zq ?_; refine k_calC rfl zq (by kernel_rfl) (Post := fun v nw => BkR B exO nw v) (fun H' hH => f89_c _ H') ?_; rintro v nO ⟨pmo, nmo, cmo, pro, nro, cro, rfl, rfl, rfl, hcmo, hcro, rdmo, rdro⟩; refine k_hpA (k_put ?_); refine k_calC rfl zq (by kernel_rfl) (Post := fun v new => ∃ w, v = .tuple [w, .int .i64 (spliceS exA exO 2)].toArray ∧ BkR B (spliceB exA exO 2) new w) (fun H' hH => f74_c _ H' (b := exA) (b2 := exO) (rdm.keeps (sq hH)) (by decide) hcm (rdr.keeps (sq hH)) (by decide) (rdmo.keeps (sq hH)) (by decide) (rdro.keeps (sq hH)) (by decide) 2 (by unfold In64; omega)) ?_; rintro v n74 ⟨w74, rfl, pm7, nm7, cm7, pr7, nr7, cr7, rfl, hnm7, hnr7, hcm7, hcr7, rdm7, rdr7⟩; refine k_hpA (k_put ?_); rw [xB7.1]; have hnm7' : nm7 ≤ 1000 := by rw [hnm7]; decide +kernel
                have hnr7' : nr7 ≤ 1000 := by rw [hnr7]; decide +kernel
                refine mq rfl ?_; refine k_ext0 rfl zq ?_; refine k_ext1 rfl zq ?_; refine k_stA rfl zq rfl ?_; refine aq rfl ?_; refine rs7 (by kernel_rfl) ?_; refine k_ldA rfl zq ?_; refine k_calP (Post := fun v => v = .tuple [.int .i64 2, .int .i64 0].toArray) rfl zq (by kernel_rfl) (fun H' hH => by have := f34_c (Md.star Tryz.prog B) H' (b := spliceB exA exO 2) (rdm7.keeps (sq hH)) hnm7' (rdr7.keeps (sq hH)) hnr7'; rw [if_neg (fun e => e xB7.2.1), xB7.2.1, xB7.2.2] at this; exact this) ?_; rintro v rfl; refine k_put ?_; refine mq rfl ?_; refine k_ext0 rfl zq ?_; refine k_ext1 rfl zq ?_; refine k_as rfl zq ?_; refine aq rfl ?_; refine rs9 (by kernel_rfl) ?_; refine k_calP (Post := fun v => v = _) rfl zq (by kernel_rfl) (fun H' hH => f84_c _ H' _) ?_; rintro v rfl; refine k_put ?_; refine k_calP (Post := fun v => v = _) rfl zq (by kernel_rfl) (fun H' hH => f90_c _ H' _ _) ?_; rintro v rfl; refine k_put ?_; refine k_calP (Post := fun v => v = _) rfl zq (by kernel_rfl) (fun H' hH => f84_c _ H' _) ?_; rintro v rfl; refine k_put ?_; refine k_calP (Post := fun v => v = _) rfl zq (by kernel_rfl) (fun H' hH => f84_c _ H' _) ?_; rintro v rfl; refine k_put ?_; refine k_calP (Post := fun v => v = _) rfl zq (by kernel_rfl) (fun H' hH => f90_c _ H' _ _) ?_; rintro v rfl; refine k_put ?_; refine k_bs kdq rfl zq (by decide) (by decide) rfl (fun q273 => k_hp (k_put ?_)); have rd273 : RdS B [⟨true, q273, .cells [.int .i64 10, .int .i64 10, .int .i64 12, .int .i64 13, .int .i64 14, .int .i64 14, .int .i64 13, .int .i64 13, .int .i64 11, .int .i64 12].toArray 92 (0, 0)⟩] 2 (.slice (some ⟨q273, 0, none⟩) 5 5) 5 (encs exS.marks) := rdS_has (ys := encs exS.marks) (x := ⟨List.mem_cons_self⟩) rfl
                refine k_bld rfl zq ?_; refine k_new rfl zq (fun q29 => k_hp (k_put ?_)); refine k_stA rfl zq rfl ?_; refine k_nil ?_; refine rs6 (by kernel_rfl) ?_; refine k_bld rfl zq ?_; refine k_calP (Post := fun v => v = _) rfl zq (by kernel_rfl) (fun H' hH => f84_c _ H' _) ?_; rintro v rfl; refine k_put ?_; refine k_bld rfl zq ?_; refine k_bs kdq rfl zq (by decide) (by decide) rfl (fun q278 => k_hp (k_put ?_)); have rd278 : RdS B [⟨true, q278, .cells [.int .i64 1, .int .i64 3, .int .i64 0, .int .i64 0, .int .i64 0, .int .i64 1, .int .i64 2, .int .i64 2].toArray 94 (0, 0)⟩] 4 (.slice (some ⟨q278, 0, none⟩) 2 2) 2 (encs exR.rules) := rdS_has (ys := encs exR.rules) (x := ⟨List.mem_cons_self⟩) rfl
                first | refine k_fa0 rfl zq ?_ | refine k_fa rfl zq ?_
                refine k_st1 rfl zq ?_; refine k_nil ?_; refine rs7 (by kernel_rfl) ?_; refine k_ldA rfl zq ?_; refine k_cal rfl zq (by kernel_rfl) (f51_c _ (b := exR) (rdm.keeps SubH.sub) (by decide) (rd278.keeps SubH.sub) (by decide)) ?_; rintro v h' ⟨nC, rfl, wC, gC, rfl, ⟨pC, cC, rfl, rdC⟩, okC, _⟩; refine k_put ?_; obtain rfl := xC2 okC
                rw [xB9.1]; refine mq rfl ?_; refine k_ext0 rfl zq ?_; refine k_ext1 rfl zq ?_; refine k_as rfl zq ?_; refine aq rfl ?_; refine run_seq ?_; refine run_region [(0, .free), (1, .free), (2, .free), (3, .free), (4, .free), (5, .free), (6, .free), (7, .free), (8, .free), (9, .free), (10, .free), (11, .free), (12, .free), (13, .free), (14, .free), (15, .free), (16, .free), (17, .free), (18, .free), (19, .free), (20, .free), (21, .free), (22, .free), (23, .free), (24, .free)] (by kernel_rfl) (by kernel_rfl) ?_; refine mq rfl ?_; refine k_eqlT rfl zq (by decide) ?_; refine mq rfl ?_; refine k_mv rfl rfl ?_; refine k_eqlT rfl rfl (by decide) ?_; refine k_pickT rfl zq ?_; refine mq rfl ?_; refine k_mv rfl rfl ?_; refine k_eqlT rfl rfl (by decide) ?_; refine k_pickT rfl zq ?_; refine mq rfl ?_; refine k_mv rfl rfl ?_; refine k_eqlT rfl rfl (by decide) ?_; refine k_pickT rfl zq ?_; refine mq rfl ?_; refine k_ldA rfl rfl ?_; refine k_ldA rfl rfl ?_; refine k_calP (Post := fun v => IsB _ v) rfl rfl (by kernel_rfl) (fun H' hH => f75_c _ H' (b := spliceB exA exO 2) (b2 := exS) (rdm7.ro.keeps (sq hH)) hnm7' (rdr7.ro.keeps (sq hH)) hnr7' (rd273.ro.keeps (sq hH)) (by decide) (⟨none, 0, rfl, rfl, .inl ⟨rfl, rfl⟩⟩ : RdS B H' 4 (.slice none 0 0) 0 (encs exS.rules)) (by decide)) ?_; rintro v (⟨hc, rfl⟩ | ⟨hc, rfl⟩)
                · refine k_put ?_; refine k_pickT rfl zq ?_; refine mq rfl ?_; refine k_mv rfl rfl ?_; refine k_bs kdq rfl rfl (by decide) (by decide) rfl (fun q306 => k_hp (k_put ?_)); have rd306 : RdS B [⟨true, q306, .cells [.int .i64 0, .int .i64 1].toArray 3 (0, 0)⟩] 1 (.slice (some ⟨q306, 0, none⟩) 2 2) 2 (ints [0, 1]) := (OwnS.full (t := 3) (q := q306) (cs := ints [0, 1]) rfl).rd (List.Sublist.refl _)
                  refine k_calP (Post := fun v => IsB _ v) rfl rfl (by kernel_rfl) (fun H' hH => f31_c _ H' (rdC.keeps (sq hH)) (by decide) (rd306.keeps (sq hH))) ?_; rintro v (⟨hc, rfl⟩ | ⟨hc, rfl⟩)
                  · refine k_put ?_; refine k_pickT rfl zq ?_; refine aq rfl ?_; refine run_ret rfl ?_; refine run_res (ro h) rfl Tryz.func20 rfl weakSub ?_; refine hK _ _ ?_
                    exact ⟨[], by simp, rfl⟩
                  · refine k_put ?_; exact absurd rfl hc
                · refine k_put ?_; exact absurd xB8 hc
              · refine k_put ?_; exact absurd rfl hc
            · refine k_put ?_; exact absurd rfl hc
          · refine k_put ?_; exact absurd rfl hc
        · refine k_put ?_; exact absurd rfl hc
      · refine k_put ?_; exact absurd rfl hc
    · refine k_put ?_; exact absurd rfl hc
  · refine k_put ?_; exact absurd rfl hc
end Go.Proofs
namespace Go.Proofs
open Go.Lo
theorem bestBy_spec {R : List Int → List Int → Prop} {lt : List Int → List Int → Bool} (ht : ∀ a b c, lt a b = true → lt b c = true → lt a c = true) (hi : ∀ a, lt a a = false) (hc : ∀ a b c, lt a c = true → lt a b = true ∨ lt b c = true)
    {ll : List (List Int)} (hR : ll.Pairwise R) : ∀ k, 0 < k → k ≤ ll.length → (∃ j, j < k ∧ bestBy lt (ll.take k) = ll.getD j []) ∧ ∀ i, i < k → lt (ll.getD i []) (bestBy lt (ll.take k)) = false ∧ (lt (bestBy lt (ll.take k)) (ll.getD i []) = true ∨ ll.getD i [] = bestBy lt (ll.take k) ∨ R (bestBy lt (ll.take k)) (ll.getD i []))
  | 0, h, _ => absurd h (by omega)
  | 1, _, hk => by
    rw [bestBy_one]; exact ⟨⟨0, by omega, rfl⟩, fun i hi' => by rw [show i = 0 by omega]; exact ⟨hi _, .inr (.inl rfl)⟩⟩
  | k + 2, _, hk => by
    obtain ⟨⟨j, hj, ej⟩, h2⟩ := bestBy_spec ht hi hc hR (k + 1) (by omega) (by omega)
    rw [bestBy_succ lt ll (k + 1) (by omega) (by omega)]; by_cases e : lt (ll.getD (k + 1) []) (bestBy lt (ll.take (k + 1))) = true
    · rw [if_pos e]; refine ⟨⟨k + 1, by omega, rfl⟩, fun i hi' => ?_⟩
      by_cases ei : i = k + 1
      · subst ei; exact ⟨hi _, .inr (.inl rfl)⟩
      · obtain ⟨a1, _⟩ := h2 i (by omega)
        refine ⟨?_, ?_⟩
        · apply Bool.eq_false_iff.2
          intro e2
          rw [ht _ _ _ e2 e] at a1; cases a1
        · rcases hc _ (ll.getD i []) _ e with e2 | e2
          · exact .inl e2
          · rw [e2] at a1; cases a1
    · rw [if_neg e]; refine ⟨⟨j, by omega, ej⟩, fun i hi' => ?_⟩
      by_cases ei : i = k + 1
      · subst ei
        refine ⟨Bool.eq_false_iff.2 e, .inr (.inr ?_)⟩
        rw [ej, List.getD_eq_getElem?_getD, List.getD_eq_getElem?_getD, List.getElem?_eq_getElem (show j < ll.length by omega), List.getElem?_eq_getElem (show k + 1 < ll.length by omega)]; exact List.pairwise_iff_getElem.1 hR j (k + 1) (by omega) (by omega) (by omega)
      · exact h2 i (by omega)
theorem best_of {R : List Int → List Int → Prop} {lt : List Int → List Int → Bool} (ht : ∀ a b c, lt a b = true → lt b c = true → lt a c = true) (hi : ∀ a, lt a a = false) (hc : ∀ a b c, lt a c = true → lt a b = true ∨ lt b c = true)
    {ll : List (List Int)} (hR : ll.Pairwise R) (h0 : ll ≠ []) : bestBy lt ll ∈ ll ∧ ∀ x ∈ ll, lt x (bestBy lt ll) = false ∧ (lt (bestBy lt ll) x = true ∨ x = bestBy lt ll ∨ R (bestBy lt ll) x) := by
  have hl : 0 < ll.length := List.length_pos_iff.2 h0
  obtain ⟨_, h⟩ := bestBy_spec ht hi hc hR ll.length hl (Nat.le_refl _)
  rw [List.take_length] at h
  refine ⟨bestBy_mem lt ll hl, fun x hx => ?_⟩
  obtain ⟨i, hi', e⟩ := List.getElem_of_mem hx
  have := h i hi'
  rw [List.getD_eq_getElem?_getD, List.getElem?_eq_getElem hi'] at this
  simp only [Option.getD_some, e] at this
  exact this
theorem before_snoc : ∀ {a b : List Int} (x y : Int), a.length = b.length → before a b = true → before (a ++ [x]) (b ++ [y]) = true
  | [], [], _, _, _, h => by simp [before] at h
  | [], _ :: _, _, _, h, _ => by simp at h
  | _ :: _, [], _, _, h, _ => by simp at h
  | p :: r, q :: s, x, y, hl, h => by
    rw [List.cons_append, List.cons_append]; unfold before at h ⊢
    by_cases e : p = q
    · rw [if_pos e] at h ⊢; exact before_snoc x y (by simpa using hl) h
    · rw [if_neg e] at h ⊢; exact h
theorem before_last : ∀ (a : List Int) {x y : Int}, x < y → before (a ++ [x]) (a ++ [y]) = true
  | [], x, y, h => by
    rw [List.nil_append, List.nil_append, before, if_neg (by omega)]; exact decide_eq_true h
  | p :: r, x, y, h => by
    rw [List.cons_append, List.cons_append, before, if_pos rfl]; exact before_last r h
theorem spanL_asc (x : Sp) : (spanL x).Pairwise (· < ·) := by
  unfold spanL
  rw [List.pairwise_map]; exact List.pairwise_lt_range.imp fun h => by omega
theorem extL_sorted {all : List (List Int)} {x : Sp} {n : Nat} (hl : ∀ a ∈ all, a.length = n) (h : all.Pairwise fun a b => before a b = true) : (extL all x).Pairwise fun a b => before a b = true := by
  unfold extL
  rw [List.pairwise_flatMap]; refine ⟨fun a _ => ?_, ?_⟩
  · unfold ext1
    rw [List.pairwise_map]; exact (spanL_asc x).imp fun h => before_last a h
  · refine List.Pairwise.imp_of_mem ?_ h
    intro a b ha hb hab p hp q hq
    unfold ext1 at hp hq
    obtain ⟨u, _, rfl⟩ := List.mem_map.1 hp
    obtain ⟨v, _, rfl⟩ := List.mem_map.1 hq
    exact before_snoc _ _ ((hl a ha).trans (hl b hb).symm) hab
theorem linesOf_sorted (ms : List Sp) : ∀ k, k ≤ ms.length → (linesOf (ms.take k)).Pairwise fun a b => before a b = true
  | 0, _ => by
    rw [List.take_zero]; exact List.pairwise_singleton _ _
  | k + 1, h => by
    rw [linesOf_take ms k (by omega)]; exact extL_sorted (n := k) (fun a ha => ((mem_linesOf (by omega)).1 ha).1) (linesOf_sorted ms k (by omega))
theorem boats_sorted (b : Bk) : (boatsOf b).Pairwise fun a b => before a b = true := by
  have := linesOf_sorted b.marks b.marks.length (Nat.le_refl _)
  rw [List.take_length] at this
  exact this.filter _
theorem before_asym (xs ys : List Int) (h : before xs ys = true) : before ys xs = false := by
  apply Bool.eq_false_iff.2
  intro e
  have := before_trans _ _ _ h e
  rw [before_irrefl] at this; cases this
theorem before_or : ∀ xs ys : List Int, xs = ys ∨ before xs ys = true ∨ before ys xs = true
  | [], [] => .inl rfl
  | [], _ :: _ => .inr (.inl rfl)
  | _ :: _, [] => .inr (.inr rfl)
  | a :: r, c :: s => by
    unfold before
    by_cases e : a = c
    · rw [if_pos e, if_pos e.symm]; rcases before_or r s with h | h | h
      · exact .inl (by rw [e, h])
      · exact .inr (.inl h)
      · exact .inr (.inr h)
    · rw [if_neg e, if_neg (fun x => e x.symm)]; rcases Int.lt_or_gt_of_ne e with h | h
      · exact .inr (.inl (decide_eq_true h))
      · exact .inr (.inr (decide_eq_true h))
theorem straight_of {b : Bk} (h : boatsOf b ≠ []) : bestBy ltStrain (boatsOf b) ∈ boatsOf b ∧ ∀ x ∈ boatsOf b, strain (bestBy ltStrain (boatsOf b)) ≤ strain x ∧ (strain x = strain (bestBy ltStrain (boatsOf b)) → before x (bestBy ltStrain (boatsOf b)) = false) := by
  obtain ⟨h1, h2⟩ := best_of (lt := ltStrain) (fun a b c h1 h2 => by unfold ltStrain at *; simp only [decide_eq_true_eq] at *; omega) (fun a => by unfold ltStrain; simp) (fun a b c h => by unfold ltStrain at *; simp only [decide_eq_true_eq] at *; omega) (boats_sorted b) h
  refine ⟨h1, fun x hx => ?_⟩
  obtain ⟨a1, a2⟩ := h2 x hx
  have a1 : ¬ strain x < strain (bestBy ltStrain (boatsOf b)) := of_decide_eq_false a1
  refine ⟨by omega, fun e => ?_⟩
  rcases a2 with a2 | a2 | a2
  · have a2 := of_decide_eq_true a2; omega
  · rw [← a2]; exact before_irrefl _
  · exact before_asym _ _ a2
theorem near_of {b : Bk} (h : boatsOf b ≠ []) (xs : List Int) : bestBy (ltFar xs) (boatsOf b) ∈ boatsOf b ∧ ∀ x ∈ boatsOf b, sumL (gaps (bestBy (ltFar xs) (boatsOf b)) xs) ≤ sumL (gaps x xs) ∧ (sumL (gaps x xs) = sumL (gaps (bestBy (ltFar xs) (boatsOf b)) xs) →
    mostL (gaps (bestBy (ltFar xs) (boatsOf b)) xs) ≤ mostL (gaps x xs) ∧ (mostL (gaps x xs) = mostL (gaps (bestBy (ltFar xs) (boatsOf b)) xs) → before x (bestBy (ltFar xs) (boatsOf b)) = false)) := by
  obtain ⟨h1, h2⟩ := best_of (lt := ltFar xs) (fun a b c h1 h2 => by unfold ltFar at *; simp only [decide_eq_true_eq] at *; omega) (fun a => by unfold ltFar; simp) (fun a b c h => by unfold ltFar at *; simp only [decide_eq_true_eq] at *; omega) (boats_sorted b) h
  refine ⟨h1, fun x hx => ?_⟩
  obtain ⟨a1, a2⟩ := h2 x hx
  have a1 := of_decide_eq_false a1
  refine ⟨by omega, fun e => ⟨by omega, fun e2 => ?_⟩⟩
  rcases a2 with a2 | a2 | a2
  · have a2 := of_decide_eq_true a2; omega
  · rw [← a2]; exact before_irrefl _
  · exact before_asym _ _ a2
theorem fewer_or (xs ys : List Int) : xs = ys ∨ fewer xs ys ∨ fewer ys xs := by
  unfold fewer
  rcases before_or xs ys with h | h | h
  · exact .inl h
  · rcases Nat.lt_trichotomy xs.length ys.length with e | e | e
    · exact .inr (.inl (.inl e))
    · exact .inr (.inl (.inr ⟨e, h⟩))
    · exact .inr (.inr (.inl e))
  · rcases Nat.lt_trichotomy xs.length ys.length with e | e | e
    · exact .inr (.inl (.inl e))
    · exact .inr (.inr (.inr ⟨e.symm, h⟩))
    · exact .inr (.inr (.inl e))
theorem fewest_of {ll : List (List Int)} (h : ll ≠ []) : bestBy ltFewer ll ∈ ll ∧ ∀ x ∈ ll, ¬ fewer x (bestBy ltFewer ll) := by
  obtain ⟨h1, h2⟩ := best_of (R := fun _ _ => True) (lt := ltFewer) (fun a b c h1 h2 => by unfold ltFewer at *; exact decide_eq_true (fewer_trans (of_decide_eq_true h1) (of_decide_eq_true h2))) (fun a => by unfold ltFewer; exact decide_eq_false (fewer_irrefl a)) (fun a b c h => by
    unfold ltFewer at *
    have h := of_decide_eq_true h
    rcases fewer_or a b with e | e | e
    · subst e; exact .inr (decide_eq_true h)
    · exact .inl (decide_eq_true e)
    · exact .inr (decide_eq_true (fewer_trans e h))) (ll := ll) (List.pairwise_iff_getElem.2 fun _ _ _ _ _ => trivial) h
  exact ⟨h1, fun x hx => of_decide_eq_false (h2 x hx).1⟩
theorem gaps_facts {xs ys : List Int} (h : xs.length ≤ ys.length) : ∀ k, k ≤ xs.length → ((unlikeF xs ys k).length : Int) ≤ sumL ((gaps xs ys).take k) ∧ (sumL ((gaps xs ys).take k) = 0 → ∀ i, i < k → xs.getD i 0 = ys.getD i 0) ∧ ((∀ i, i < k → xs.getD i 0 = ys.getD i 0) → sumL ((gaps xs ys).take k) = 0)
  | 0, _ => ⟨by simp [unlikeF, firsts, sumL], fun _ i hi => by omega, fun _ => by simp [sumL]⟩
  | k + 1, hk => by
    obtain ⟨a1, a2, a3⟩ := gaps_facts h k (by omega)
    have hg : k < (gaps xs ys).length := by rw [gaps_length _ _ h]; omega
    rw [sumL_take _ _ hg, gaps_getD _ _ _ (by omega) (by omega)]; refine ⟨?_, fun e i hi => ?_, fun e => ?_⟩
    · by_cases e : xs.getD k 0 = ys.getD k 0
      · rw [unlikeF_no _ _ _ e]; omega
      · rw [unlikeF_yes _ _ _ e, List.length_append]; simp only [List.length_singleton]; omega
    · have h0 : 0 ≤ sumL ((gaps xs ys).take k) := by omega
      by_cases ei : i = k
      · subst ei; omega
      · exact a2 (by omega) i (by omega)
    · have := e k (by omega)
      rw [a3 fun i hi => e i (by omega)]; omega
theorem list_ext0 {xs ys : List Int} (h : xs.length = ys.length) (e : ∀ i, i < xs.length → xs.getD i 0 = ys.getD i 0) : xs = ys := by
  apply List.ext_getElem h
  intro i h1 h2
  have := e i h1
  rw [List.getD_eq_getElem?_getD, List.getD_eq_getElem?_getD, List.getElem?_eq_getElem h1, List.getElem?_eq_getElem h2] at this
  exact this
theorem gaps_zero {xs ys : List Int} (h : xs.length = ys.length) : sumL (gaps xs ys) = 0 ↔ xs = ys := by
  obtain ⟨_, a2, a3⟩ := gaps_facts (xs := xs) (ys := ys) (by omega) xs.length (Nat.le_refl _)
  rw [List.take_of_length_le (by rw [gaps_length _ _ (by omega)]; exact Nat.le_refl _)] at a2 a3
  exact ⟨fun e => list_ext0 h (a2 e), fun e => a3 (by subst e; intros; rfl)⟩
theorem gaps_unlike {xs ys : List Int} (h : xs.length ≤ ys.length) : ((unlike xs ys).length : Int) ≤ sumL (gaps xs ys) := by
  obtain ⟨a1, _⟩ := gaps_facts h xs.length (Nat.le_refl _)
  rw [List.take_of_length_le (by rw [gaps_length _ _ (by omega)]; exact Nat.le_refl _)] at a1
  exact a1
theorem mem_filter_firsts {p : Int → Bool} {k : Nat} {z : Int} : z ∈ (firsts k).filter p ↔ ∃ i : Nat, i < k ∧ z = (i : Int) ∧ p i = true := by
  rw [List.mem_filter]; unfold firsts
  rw [List.mem_map]; constructor
  · rintro ⟨⟨i, hi, rfl⟩, h⟩; exact ⟨i, List.mem_range.1 hi, rfl, h⟩
  · rintro ⟨i, hi, rfl, h⟩; exact ⟨⟨i, List.mem_range.2 hi, rfl⟩, h⟩
theorem mem_unlike {xs ys : List Int} {z : Int} : z ∈ unlike xs ys ↔ ∃ i : Nat, i < xs.length ∧ z = (i : Int) ∧ xs.getD i 0 ≠ ys.getD i 0 := by
  unfold unlike unlikeF
  rw [mem_filter_firsts]; simp
theorem mem_mustF {ll : List (List Int)} {xs : List Int} {k : Nat} {z : Int} : z ∈ mustF ll xs k ↔ ∃ i : Nat, i < k ∧ z = (i : Int) ∧ ∀ l ∈ ll, l.getD i 0 ≠ xs.getD i 0 := by
  unfold mustF
  rw [mem_filter_firsts]; simp
theorem must_le {ll : List (List Int)} {xs l : List Int} (hl : l ∈ ll) (h : l.length = xs.length) : (mustF ll xs xs.length).length ≤ (unlike l xs).length ∧ ∀ z ∈ mustF ll xs xs.length, z ∈ unlike l xs := by
  constructor
  · unfold mustF unlike unlikeF
    rw [h, ← List.countP_eq_length_filter, ← List.countP_eq_length_filter]; refine List.countP_mono_left fun z _ hz => ?_
    simp only [decide_eq_true_eq] at hz ⊢
    exact hz l hl
  · intro z hz
    obtain ⟨i, hi, e, h2⟩ := mem_mustF.1 hz
    exact mem_unlike.2 ⟨i, by omega, e, h2 l hl⟩
end Go.Proofs
