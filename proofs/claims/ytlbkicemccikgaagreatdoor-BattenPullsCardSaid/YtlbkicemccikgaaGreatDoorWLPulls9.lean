/- A part of the proof of a law: my own separation logic over the machine, and walks of the program. Condition of each theorem: as its statement says. -/
import Derived.Test.YtlbkicemccikgaaGreatDoorWLPulls8
import Derived.SevenTiedAt
import Derived.LaidOnce
import Derived.Test.YtlbkicemccikgaaGreatDoorCards
import Derived.Test.YtlbkicemccikgaaGreatDoorTie
set_option linter.all false
namespace Go.Proofs
open Go.Lo
open Go.Conc (G)
set_option maxRecDepth 100000
set_option synthInstance.maxSize 100000
set_option synthInstance.maxHeartbeats 1000000
set_option maxHeartbeats 4000000
variable {B : Array Obj}
variable [Laid B]
section
variable {P : Program} {B : Array Obj} {m : Md P B} {ops : Array Oper} {l l' : List Value} {S h h' H : Hp} {C : List Value → Hp → Prop} {i : Nat} {kd : Kd} {r : List (Nat × Kd)}
  {d : Option Tmp} {ty : TypeId} {pos : String} {af : Array Edge} {g : Option (Nat × Bool)}
theorem k_and8 {t u : TypeId} {x y : Operand} {a b : Int} (v : Int) (ho : ops[i]? = some ⟨d, .binOp .and t x y u, ty, pos, af, g⟩) (hw : Wt ops l g) [KHeap kd S h H] [ex : OpV l x (.int .u8 a)] [ey : OpV l y (.int .u8 b)] (hv : IntKind.wrap .u8 ((BitVec.ofInt 8 a &&& BitVec.ofInt 8 b).toNat : Int) = v) [PutV l d (.int .u8 v) l'] (q : RegK m S ops r l' h C) : RegK m S ops ((i, kd) :: r) l h C :=
  RegK.rd (v := .int .u8 v) ho hw (reads_int ex.eq ey.eq (by simp) (by rw [← hv]; rfl)) q
end
theorem shr8 (mm k : Nat) (hk : k ≤ 8) : (mm : Int).fdiv (2 ^ (min (k : Int).toNat IntKind.u8.bits)) = ((mm / 2 ^ k : Nat) : Int) := by
  rw [Int.fdiv_eq_ediv_of_nonneg _ (Int.le_of_lt (Int.pow_pos (by decide))), Int.toNat_natCast, show min k IntKind.u8.bits = k from Nat.min_eq_left hk]; rw [show ((2 : Int) ^ k) = ((2 ^ k : Nat) : Int) by push_cast; rfl]; exact (Int.natCast_ediv _ _).symm
theorem and8 : ∀ a : Nat, a < 256 → IntKind.wrap .u8 ((BitVec.ofInt 8 (a : Int) &&& BitVec.ofInt 8 1).toNat : Int) = ((a % 2 : Nat) : Int) := by decide
theorem asc_filter {xs : List Int} (h : Asc xs) (p : Int → Bool) : Asc (xs.filter p) := List.Pairwise.sublist List.filter_sublist h
theorem asc_firsts (k : Nat) : Asc (firsts k) := by
  unfold firsts
  refine List.pairwise_map.2 ?_
  exact List.Pairwise.imp (fun h => by omega) List.pairwise_lt_range
theorem asc_unlike (xs ys : List Int) : Asc (unlike xs ys) := asc_filter (asc_firsts _) _
theorem asc_mustF (ll : List (List Int)) (xs : List Int) (k : Nat) : Asc (mustF ll xs k) := asc_filter (asc_firsts _) _
theorem asc_keptI (mm k : Nat) : Asc (keptI mm k) := asc_filter (asc_firsts _) _
theorem asc_sub : ∀ {ys xs : List Int}, Asc xs → Asc ys → (∀ z ∈ xs, z ∈ ys) → xs.Sublist ys
  | [], xs, _, _, h => by
    have : xs = [] := List.eq_nil_iff_forall_not_mem.2 fun z hz => by have := h z hz; simp at this
    subst this; exact List.Sublist.refl _
  | y :: ys, xs, ax, ay, h => by
    have ay' := List.pairwise_cons.1 ay
    cases xs with
    | nil => exact List.nil_sublist _
    | cons x xs =>
      have ax' := List.pairwise_cons.1 ax
      rcases List.mem_cons.1 (h x (List.mem_cons_self ..)) with e | e
      · subst e
        refine (asc_sub (ys := ys) ax'.2 ay'.2 fun z hz => ?_).cons_cons x
        rcases List.mem_cons.1 (h z (List.mem_cons_of_mem _ hz)) with e | e
        · have := ax'.1 z hz; omega
        · exact e
      · refine (asc_sub (ys := ys) ax ay'.2 fun z hz => ?_).cons y
        rcases List.mem_cons.1 (h z hz) with e2 | e2
        · have h1 := ay'.1 x e
          rcases List.mem_cons.1 hz with e3 | e3
          · omega
          · have := ax'.1 z e3; omega
        · exact e2
theorem fewer_sub {xs ys zs : List Int} (h : xs.Sublist ys) (hf : fewer ys zs) : fewer xs zs := by
  by_cases e : xs.length = ys.length
  · rw [h.eq_of_length e]; exact hf
  · have h1 := h.length_le
    unfold fewer at hf ⊢
    left
    rcases hf with h2 | ⟨h2, _⟩ <;> omega
theorem free_facts {b : Bk} (h0 : bookS b = 0) {ln sm : List Int} (hl : ln.length = b.marks.length) (ha : ∀ x ∈ ln, 0 ≤ x ∧ x ≤ 959) (hs : holds1 b ln sm b.marks.length) :
    bookS (freeB b ln sm) = 0 ∧ ∀ l, l ∈ boatsOf (freeB b ln sm) ↔ l ∈ boatsOf b ∧ ∀ i, i < b.marks.length → (i : Int) ∉ sm → l.getD i 0 = ln.getD i 0 := by
  have hv := valid_of h0
  obtain ⟨m1, m2, m3⟩ := marks_zero h0
  have hml : (freeB b ln sm).marks.length = b.marks.length := freeM_length _ _ _ _
  have hmk : ∀ x ∈ (freeB b ln sm).marks, okM x := fun x hx => by
    obtain ⟨i, hi, rfl⟩ := mem_getDR.1 hx
    rw [hml] at hi
    show okM ((freeM b.marks ln sm b.marks.length).getD i default)
    rw [freeM_at _ _ _ hi]; split
    · have := ha _ (mem_getD.2 ⟨i, by omega, rfl⟩)
      unfold okM; simp only; omega
    · exact hv.marks _ (mem_getDR.2 ⟨i, hi, rfl⟩)
  have hmm := hv.many
  have h1 : bookS (freeB b ln sm) = 0 := by
    have e1 : marksS (freeB b ln sm).marks = 0 := by rw [marksS, if_neg (by omega), if_pos hmk]
    rw [bookS]; show (if ¬ (0 ≤ b.bend ∧ b.bend ≤ 99) ∨ ¬ (0 ≤ b.twist ∧ b.twist ≤ 99) ∨ ¬ (0 ≤ b.turns ∧ b.turns ≤ 5) then (1 : Int) else if marksS (freeB b ln sm).marks ≠ 0 then _ else rulesS (freeB b ln sm).marks.length b.rules) = 0
    rw [if_neg m3, if_neg (fun e => e e1), hml]; exact m2
  refine ⟨h1, fun l => ?_⟩
  have at' : ∀ i, i < b.marks.length → (freeB b ln sm).marks.getD i default = if (i : Int) ∉ sm then ⟨ln.getD i 0, ln.getD i 0⟩ else b.marks.getD i default := fun i hi => by
    show (freeM b.marks ln sm b.marks.length).getD i default = _
    rw [freeM_at _ _ _ hi]; simp [hi]
  constructor
  · intro h
    obtain ⟨_, c2, c3, _⟩ := boat_handed h1 h
    rw [hml] at c3
    have hb : boat b l := by
      refine ⟨fun i hi => ?_, c2.2.1, c2.2.2⟩
      have := c2.1 i hi
      rw [at' i (by omega)] at this
      split at this
      · rename_i hns
        have := hs i (by omega) hns
        simp only at *; omega
      · exact this
    refine ⟨(boats_iff h0).2 ⟨?_, hb⟩, fun i hi hns => ?_⟩
    · have hs' : ∀ x ∈ l, 0 ≤ x ∧ x ≤ 959 := fun x hx => by
        obtain ⟨i, hi, rfl⟩ := mem_getD.1 hx
        have h2 := hb.1 i hi
        have h3 := hv.marks _ (mem_getDR.2 ⟨i, by omega, rfl⟩)
        unfold okM at h3; omega
      exact (line_handed h0 c3 hs').2.1
    · have := c2.1 i (by omega)
      rw [at' i hi, if_pos hns] at this
      simp only at this; omega
  · rintro ⟨h, hst⟩; obtain ⟨c1, c2, c3, _⟩ := boat_handed h0 h
    refine (boats_iff h1).2 ⟨?_, fun i hi => ?_, c2.2.1, c2.2.2⟩
    · rw [handedS, if_neg (fun e => e h1), hml]; exact (handedS_zero c1).2
    · rw [at' i (by omega)]; split
      · rename_i hns
        have := hst i (by omega) hns
        simp only; omega
      · exact c2.1 i hi
theorem free_pulled {b : Bk} {l0 ln : List Int} (h0 : bookS b = 0) (hm : l0 ∈ boatsOf b) (hl : ln.length = b.marks.length) : holds1 b ln (unlike l0 ln) b.marks.length ∧ ∀ i, i < b.marks.length → (i : Int) ∉ unlike l0 ln → l0.getD i 0 = ln.getD i 0 := by
  obtain ⟨_, c2, c3, _⟩ := boat_handed h0 hm
  have h1 : ∀ i, i < b.marks.length → (i : Int) ∉ unlike l0 ln → l0.getD i 0 = ln.getD i 0 := fun i hi h => Classical.byContradiction fun e => h (mem_unlike.2 ⟨i, by omega, rfl, e⟩)
  exact ⟨fun i hi h => by have := c2.1 i (by omega); have := h1 i hi h; omega, h1⟩
theorem free_none {b : Bk} {ln sm pu : List Int} (h0 : bookS b = 0) (hl : ln.length = b.marks.length) (ha : ∀ x ∈ ln, 0 ≤ x ∧ x ≤ 959) (hpu : ∀ l ∈ boatsOf b, ¬ fewer (unlike l ln) pu) (hsm : Asc sm) (hf : fewer sm pu) (hs : holds1 b ln sm b.marks.length) : boatsOf (freeB b ln sm) = [] := by
  obtain ⟨_, h2⟩ := free_facts h0 hl ha hs
  refine List.eq_nil_iff_forall_not_mem.2 fun l hl' => ?_
  obtain ⟨h3, h4⟩ := (h2 l).1 hl'
  refine hpu l h3 (fewer_sub (asc_sub (asc_unlike _ _) hsm fun z hz => ?_) hf)
  obtain ⟨i, hi, rfl, e⟩ := mem_unlike.1 hz
  have c3 := (boat_handed h0 h3).2.2.1
  exact Classical.byContradiction fun hns => e (h4 i (by omega) hns)
theorem mem_but {n st : Nat} {i : Nat} (hi : i < n) : (i : Int) ∈ (firsts n).take st ++ (firsts n).drop (st + 1) ↔ i ≠ st := by
  have hget : ∀ j, j < n → (firsts n)[j]? = some (j : Int) := fun j hj => by simp [firsts, hj]
  rw [List.mem_append]; constructor
  · rintro h e; subst e
    rcases h with h | h
    · obtain ⟨j, hj⟩ := List.mem_iff_getElem?.1 h
      rw [List.getElem?_take] at hj
      split at hj
      · rw [hget j (by omega)] at hj; injection hj; omega
      · cases hj
    · obtain ⟨j, hj⟩ := List.mem_iff_getElem?.1 h
      rw [List.getElem?_drop] at hj
      by_cases hlt : i + 1 + j < n
      · rw [hget _ hlt] at hj; injection hj; omega
      · rw [List.getElem?_eq_none (by rw [firsts_length]; omega)] at hj; cases hj
  · intro h
    rcases Nat.lt_or_gt_of_ne h with h | h
    · exact .inl (List.mem_iff_getElem?.2 ⟨i, by rw [List.getElem?_take, if_pos h, hget i hi]⟩)
    · exact .inr (List.mem_iff_getElem?.2 ⟨i - (st + 1), by rw [List.getElem?_drop, show st + 1 + (i - (st + 1)) = i by omega, hget i hi]⟩)
theorem free_must {b : Bk} {ln : List Int} {st : Nat} (h0 : bookS b = 0) (hl : ln.length = b.marks.length) (ha : ∀ x ∈ ln, 0 ≤ x ∧ x ≤ 959) (hst : st < b.marks.length) :
    (st : Int) ∈ mustF (boatsOf b) ln ln.length ↔ ¬ (holds1 b ln ((firsts b.marks.length).take st ++ (firsts b.marks.length).drop (st + 1)) b.marks.length ∧ boatsOf (freeB b ln ((firsts b.marks.length).take st ++ (firsts b.marks.length).drop (st + 1))) ≠ []) := by
  generalize hsm : (firsts b.marks.length).take st ++ (firsts b.marks.length).drop (st + 1) = sm
  have hin : ∀ i, i < b.marks.length → ((i : Int) ∈ sm ↔ i ≠ st) := fun i hi => by rw [← hsm]; exact mem_but hi
  rw [mem_mustF]; constructor
  · rintro ⟨i, hi, e, h⟩ ⟨h1, h2⟩; obtain rfl : i = st := by omega
    obtain ⟨l, hl'⟩ := List.exists_mem_of_ne_nil _ h2
    obtain ⟨h3, h4⟩ := ((free_facts h0 hl ha h1).2 l).1 hl'
    exact h l h3 (h4 i (by omega) fun e => (hin i (by omega)).1 e rfl)
  · intro h
    refine ⟨st, by omega, rfl, fun l hl' e => h ?_⟩
    have only : ∀ i, i < b.marks.length → (i : Int) ∉ sm → i = st := fun i hi hns => Classical.byContradiction fun e => hns ((hin i hi).2 e)
    obtain ⟨_, c2, c3, _⟩ := boat_handed h0 hl'
    have hh : holds1 b ln sm b.marks.length := fun i hi hns => by
      obtain rfl := only i hi hns
      have := c2.1 i (by omega); omega
    refine ⟨hh, List.ne_nil_of_mem (((free_facts h0 hl ha hh).2 l).2 ⟨hl', fun i hi hns => ?_⟩)⟩
    obtain rfl := only i hi hns
    exact e
theorem f63_u (m : Md Tryz.prog B) (h : Hp) {b : Bk} {pm : Option Addr} {nm cm : Nat} {pr : Option Addr} {nr cr : Nat} (rdm : RdS B h 2 (.slice pm nm cm) nm (encs b.marks)) (h0 : bookS b = 0) (H' : Hp) (hH : h.Sublist H') {p : Option Addr} {n c : Nat} {ln : List Int} (rd : RdS B H' 1 (.slice p n c) n (ints ln)) (ha : ∀ x ∈ ln, 0 ≤ x ∧ x ≤ 959) (hnm : n = nm) {p3 : Option Addr} {n3 c3 : Nat} {sm : List Int} (rds : RdS B H' 1 (.slice p3 n3 c3) n3 (ints sm)) (hn3 : n3 ≤ 1000) :
    FnC m 63 #[bkV b pm nm cm pr nr cr, .slice p n c, .slice p3 n3 c3] H' fun v h' => ∃ new, h' = H' ++ new ∧ ∃ (b' : Bk) (pm' : Option Addr) (cm' : Nat) (t : Bool), v = .tuple [bkV b' pm' nm cm' pr nr cr, .bool t].toArray ∧ RdS B (h ++ new) 2 (.slice pm' nm cm') nm (encs b'.marks) ∧ b'.rules = b.rules ∧ bookS b' = 0 ∧ (t = true ↔ holds1 b ln sm b.marks.length) ∧ (t = true → b' = freeB b ln sm) := by
  have hml := rdm.elen (by decide)
  have hmm := (valid_of h0).many
  have hl := rd.ilen
  refine (f63_c m H' (rdm.keeps hH) (by omega) (by omega) rd hnm rds hn3).mono ?_
  rintro v h' ⟨new, rfl, w, t, rfl, h1, h2⟩; refine ⟨new, rfl, ?_⟩
  cases t with
  | true =>
    obtain ⟨a1, pm2, cm2, rfl, a2⟩ := h1 rfl
    rw [← hml] at a1
    exact ⟨_, pm2, cm2, true, rfl, a2.keeps (List.sublist_append_right _ _), rfl, (free_facts h0 (by omega) ha a1).1, ⟨fun _ => a1, fun _ => rfl⟩, fun _ => rfl⟩
  | false =>
    obtain ⟨a1, rfl⟩ := h2 rfl
    rw [← hml] at a1
    exact ⟨b, pm, cm, false, rfl, rdm.keeps (List.sublist_append_left _ _), rfl, h0, ⟨fun e => (by cases e), fun e => absurd e a1⟩, fun e => by cases e⟩
theorem f8_t (h : Hp) {b : Bk} {pm : Option Addr} {nm cm : Nat} {pr : Option Addr} {nr cr : Nat} (rdm : RdS B h 2 (.slice pm nm cm) nm (encs b.marks)) (rdr : RdS B h 4 (.slice pr nr cr) nr (encs b.rules)) {p : Option Addr} {n c : Nat} {zs : List Int} (rd : RdS B h 1 (.slice p n c) n (u16s zs)) (hz : ∀ z ∈ zs, 0 ≤ z ∧ z ≤ 65535) {x y : Nat} (hx : x ≤ 255) (hy : y ≤ 255) : (Md.star Tryz.prog B).R (AtEnd Tryz.prog B fun v _ => v = .bool true) (G (Frame.enter Tryz.prog 8 #[bkV b pm nm cm pr nr cr, .slice p n c, .int .u8 (x : Int), .int .u8 (y : Int)] .normal) []) h := by
  refine top_enter Tryz.func8 rfl rfl (l := (bkV b pm nm cm pr nr cr) :: (.slice p n c) :: (.int .u8 (x : Int)) :: (.int .u8 (y : Int)) :: uu161) rfl ?_
  refine rs2 (by kernel_rfl) ?_; refine k_box rfl zq (fun q3 => k_hp (k_put ?_)); refine aq rfl ?_; refine run_seq ?_; refine rs3 (by kernel_rfl) ?_; refine k_ldA rfl zq ?_; refine k_calP (Post := fun v => IsB _ v) rfl zq (by kernel_rfl) (fun H' hH => f48_c _ H' (rdm.keeps (sq hH)) (rdr.keeps (sq hH))) ?_; rintro v (⟨hc, rfl⟩ | ⟨hc, rfl⟩)
  · refine k_put ?_; refine k_notT rfl zq ?_; refine k_nil ?_; refine run_no ?_; refine run_skip ?_; refine run_seq ?_; obtain ⟨hm20, hr20, hb0⟩ : nm ≤ 20 ∧ nr ≤ 20 ∧ bookS b = 0 := by assumption
    have hm : nm ≤ 1000 := by omega
    have hr : nr ≤ 1000 := by omega
    have hml := rdm.elen (by decide)
    have hv := valid_of hb0
    have hbl := boats_le hv
    have hmany := hv.many
    have hrl := rdr.elen (by decide)
    refine rr4 (by kernel_rfl) ?_; refine k_ldA rfl zq ?_; refine mq rfl ?_; refine k_calC rfl zq (by kernel_rfl) (Post := fun v new => ∃ ln, OwnS 3 1 v ln.length (ints ln) new ∧ ln.length = b.marks.length ∧ ∀ x ∈ ln, 0 ≤ x ∧ x ≤ 959) (fun H' hH => f58_c _ H' (rdm.keeps (sq hH)) hm hb0 (rd.keeps (sq hH)) hz) ?_; rintro v n58 ⟨ln, o58, hll, hla⟩; obtain ⟨p58, c58, rfl, _, r58⟩ := own_rdA (B := B) o58
    refine k_hpA (k_put ?_); obtain ⟨hls0, hlh, hlO, hlS⟩ := line_handed hb0 hll hla
    refine aq rfl ?_; refine rs8 (by kernel_rfl) ?_; refine k_ldA rfl zq ?_; refine mq rfl ?_; refine k_calC rfl zq (by kernel_rfl) (Post := fun v new => ∃ w, v = .tuple [w, .int .i64 (lineO b ln)].toArray ∧ RdI B new w (pulledL b ln)) (fun H' hH => f44_c _ H' (b := b) (xs := ln) (rdm.keeps (sq hH)) hm (rdr.keeps (sq hH)) hr (r58.keeps (sq hH)) (by omega)) ?_; rintro v n44 ⟨w44, rfl, p44, c44, rfl, r44⟩; refine k_hpA (k_put ?_); refine mq rfl ?_; refine k_ext0 rfl zq ?_; refine k_ext1 rfl zq ?_; refine k_as rfl zq ?_; refine aq rfl ?_; refine rs8 (by kernel_rfl) ?_; refine k_ldA rfl zq ?_; refine mq rfl ?_; refine k_calC rfl zq (by kernel_rfl) (Post := fun v new => ∃ w, v = .tuple [w, .int .i64 (lineO b ln)].toArray ∧ RdI B new w (mustL b ln)) (fun H' hH => f46_c _ H' (b := b) (xs := ln) (rdm.keeps (sq hH)) hm (rdr.keeps (sq hH)) hr (r58.keeps (sq hH)) (by omega)) ?_; rintro v n46 ⟨w46, rfl, p46, c46, rfl, r46⟩; refine k_hpA (k_put ?_); refine mq rfl ?_; refine k_ext0 rfl zq ?_; refine k_ext1 rfl zq ?_; refine k_as rfl zq ?_; refine aq rfl ?_; refine run_seq ?_; refine rs3 (by kernel_rfl) ?_; refine mq rfl ?_; refine mq rfl ?_; refine k_neqF rfl zq rfl ?_; refine k_nil ?_; refine run_no ?_; refine run_skip ?_; refine run_seq ?_; refine run_seq ?_; rcases Classical.em (boatsOf b = []) with hbe | hbe
    · obtain ⟨eo, el, en, ep, em⟩ := near_none hb0 hbe hll hla
      rw [eo]; refine rr2 (by kernel_rfl) ?_; refine mq rfl ?_; refine k_neqT rfl zq (by decide) ?_; refine k_nil ?_; refine run_yes ?_; refine rs6 (by kernel_rfl) ?_; refine mq rfl ?_; refine k_eqlT rfl zq rfl ?_; refine mq rfl ?_; refine k_cal rfl rfl (by kernel_rfl) (f20_c _) ?_; rintro v h' ⟨nF, rfl, rfl⟩; refine k_put ?_; refine k_pickT rfl zq ?_; refine aq rfl ?_; refine run_ret rfl ?_; refine run_top rfl Tryz.func8 (by kernel_rfl) rfl ?_; rfl
    · obtain ⟨eo, hgm, en, hn0, ⟨l0, hl0, ep⟩, hpf, em, hpn, hnear⟩ := near_facts hb0 hbe hll hla
      rw [eo]; have hpu := ep ▸ unlike_length l0 ln
      have hl0l := (boat_handed hb0 hl0).2.2.1
      have hpa : Asc (pulledL b ln) := ep ▸ asc_unlike l0 ln
      have hpr : ∀ x ∈ pulledL b ln, 0 ≤ x ∧ x ≤ (ln.length : Int) - 1 := fun x hx => by
        rw [ep] at hx
        obtain ⟨i, hi, rfl, _⟩ := mem_unlike.1 hx
        omega
      have hma : Asc (mustL b ln) := em ▸ asc_mustF _ _ _
      have hmr : ∀ x ∈ mustL b ln, 0 ≤ x ∧ x ≤ (ln.length : Int) - 1 := fun x hx => by
        rw [em] at hx
        obtain ⟨i, hi, rfl, _⟩ := mem_mustF.1 hx
        omega
      have hmu7 : (mustL b ln).length ≤ 7 := by
        have := must_le hl0 (show l0.length = ln.length by omega)
        rw [em]; have := this.1; rw [ep] at hpu; omega
      obtain ⟨hfp1, hfp2⟩ := free_pulled hb0 hl0 hll
      rw [← ep] at hfp1 hfp2
      refine rr2 (by kernel_rfl) ?_; refine mq rfl ?_; refine k_neqF rfl zq rfl ?_; refine k_nil ?_; refine run_no ?_; refine run_skip ?_; refine run_seq ?_; refine rs12 (by kernel_rfl) ?_; refine mq rfl ?_; refine mq rfl ?_; refine k_len rfl zq ?_; refine k_calP (Post := fun v => v = .int .i64 0) rfl zq (by kernel_rfl) (fun H' hH => f62_c _ H' (r44.keeps (sq hH)) (by omega) (by omega) hpa hpr) ?_; rintro v rfl; refine k_put ?_; refine k_neqF rfl zq rfl ?_; refine mq rfl ?_; refine k_mv rfl rfl ?_; refine k_mv rfl rfl ?_; refine k_len rfl rfl ?_; refine k_calP (Post := fun v => v = .int .i64 0) rfl rfl (by kernel_rfl) (fun H' hH => f62_c _ H' (r46.keeps (sq hH)) (by omega) (by omega) hma hmr) ?_; rintro v rfl; refine k_put ?_; refine k_neqF rfl rfl rfl ?_; refine k_pickF rfl zq ?_; refine k_nil ?_; refine run_no ?_; refine run_skip ?_; refine rs10 (by kernel_rfl) ?_; refine k_ldA rfl zq ?_; refine mq rfl ?_; refine mq rfl ?_; refine k_calC rfl zq (by kernel_rfl) (Post := fun v new => ∃ (b' : Bk) (pm' : Option Addr) (cm' : Nat) (t : Bool), v = .tuple [bkV b' pm' nm cm' pr nr cr, .bool t].toArray ∧ RdS B (h ++ new) 2 (.slice pm' nm cm') nm (encs b'.marks) ∧ b'.rules = b.rules ∧ bookS b' = 0 ∧ (t = true ↔ holds1 b ln (pulledL b ln) b.marks.length) ∧ (t = true → b' = freeB b ln (pulledL b ln))) (fun H' hH => f63_u _ h rdm hb0 H' (sq hH) (r58.keeps (sq hH)) hla (by omega) (r44.keeps (sq hH)) (by omega)) ?_; rintro v n12 ⟨b12, pm12, cm12, t12, rfl, rm12, er12, eb12, ht12, hf12⟩; have rr12 := rdr
      rw [← er12] at rr12
      refine k_hpA (k_put ?_); obtain rfl := ht12.2 hfp1
      obtain rfl := hf12 rfl
      have hin12 := ((free_facts hb0 hll hla hfp1).2 l0).2 ⟨hl0, hfp2⟩
      refine mq rfl ?_; refine k_ext0 rfl zq ?_; refine k_ext1 rfl zq ?_; refine k_new rfl zq (fun q14 => k_hp (k_put ?_)); refine k_stA rfl zq rfl ?_; refine aq rfl ?_; refine rs7 (by kernel_rfl) ?_; refine k_ldA rfl zq ?_; refine k_calP (Post := fun v => v = .tuple [.int .i64 ((boatsOf (freeB b ln (pulledL b ln))).length : Int), .int .i64 0].toArray) rfl zq (by kernel_rfl) (fun H' hH => by have := f34_c (Md.star Tryz.prog B) H' (b := (freeB b ln (pulledL b ln))) (rm12.keeps (sq hH)) hm (rr12.keeps (sq hH)) hr; rwa [eb12, if_neg (fun e => e rfl)] at this) ?_; rintro v rfl; refine k_put ?_; refine mq rfl ?_; refine k_ext0 rfl zq ?_; refine k_ext1 rfl zq ?_; refine k_as rfl zq ?_; refine aq rfl ?_; refine run_seq ?_; refine rs10 (by kernel_rfl) ?_; refine mq rfl ?_; refine k_notT rfl zq ?_; refine mq rfl ?_; refine k_mv rfl rfl ?_; refine k_neqF rfl rfl rfl ?_; refine k_pickF rfl zq ?_; refine mq rfl ?_; refine k_mv rfl rfl ?_; refine k_eqlF rfl rfl (by have := List.length_pos_of_mem hin12; omega) ?_; refine k_pickF rfl zq ?_; refine k_nil ?_; refine run_no ?_; refine run_skip ?_; refine rs1 (by kernel_rfl) ?_; refine aq rfl ?_; refine run_seq ?_; refine rs1 (by kernel_rfl) ?_; refine aq rfl ?_; refine run_block ?_; refine run_loop (fun nn l h' => ∃ (k : Nat) (p18 : Option Addr) (c18 : Nat) (n18 : Hp), nn = ln.length - k ∧ (k ≤ ln.length) ∧ (OwnS 3 1 (.slice p18 (keptI x k).length c18) (keptI x k).length (ints (keptI x k)) n18) ∧ (∃ U : Nat → Value, l = [bkV b pm nm cm pr nr cr, .slice p n c, .int .u8 (x : Int), .int .u8 (y : Int), .pointer (some ⟨q3, 0, none⟩), U 5, U 6, U 7, U 8, .slice p58 ln.length c58, .slice p44 (pulledL b ln).length c44, U 11, .slice p46 (mustL b ln).length c46, U 13, .pointer (some ⟨q14, 0, none⟩), U 15, U 16, U 17, .slice p18 (keptI x k).length c18, .int .i64 (k : Int), U 20, U 21, U 22, U 23, U 24, U 25, U 26, U 27, U 28, U 29, U 30, U 31, U 32, U 33, U 34, U 35, U 36, U 37, U 38, U 39, U 40, U 41, U 42, U 43, U 44, U 45, U 46, U 47, U 48, U 49, U 50, U 51, U 52, U 53, U 54, U 55, U 56, U 57, U 58, U 59, U 60, U 61, U 62, U 63, U 64, U 65, U 66, U 67, U 68, U 69, U 70, U 71, U 72, U 73, U 74, U 75, U 76, U 77, U 78, U 79, U 80, U 81, U 82, U 83, U 84, U 85, U 86, U 87, U 88, U 89, U 90, U 91, U 92, U 93, U 94, U 95, U 96, U 97, U 98, U 99, U 100, U 101, U 102, U 103, U 104, U 105, U 106, U 107, U 108, U 109, U 110, U 111, U 112, U 113, U 114, U 115, U 116, U 117, U 118, U 119, U 120, U 121, U 122, U 123, U 124, U 125, U 126, U 127, U 128, U 129, U 130, U 131, U 132, U 133, U 134, U 135, U 136, U 137, U 138, U 139, U 140, U 141, U 142, U 143, U 144, U 145, U 146, U 147, U 148, U 149, U 150, U 151, U 152, U 153, U 154, U 155, U 156, U 157, U 158, U 159, U 160, U 161, U 162, U 163, U 164]) ∧ h ++ [⟨true, q3, .cells (bkL b pm nm cm pr nr cr).toArray 25 (0, 0)⟩] ++ n58 ++ n44 ++ n46 ++ n12 ++ [⟨true, q14, .cells (bkL (freeB b ln (pulledL b ln)) pm12 nm cm12 pr nr cr).toArray 25 (0, 0)⟩] ++ n18 = h') _ ⟨0, none, 0, [], rfl, by omega, OwnS.nil, exU rfl, (by simp [keptI, firsts])⟩ ?_
      rintro nn l h' ⟨k, p18, c18, n18, rfl, hk, ho, ⟨U, rfl⟩, rfl⟩ hnext; have hil := keptI_le x k
      refine run_seq ?_; refine rs4 (by kernel_rfl) ?_; refine mq rfl ?_; refine mq rfl ?_; refine k_len rfl zq ?_; refine k_lssS rfl zq (fun hc => ?_) (fun hc => ?_)
      · refine k_nil ?_; refine run_yes ?_; refine run_skip ?_; refine run_seq ?_; refine run_block ?_; refine rs5 (by kernel_rfl) ?_; refine mq rfl ?_; refine mq rfl ?_; refine k_shr ((x / 2 ^ k : Nat) : Int) rfl zq (by omega) (shr8 x k (by omega)) ?_; refine k_and8 ((x / 2 ^ k % 2 : Nat) : Int) rfl zq (and8 _ (Nat.lt_of_le_of_lt (Nat.div_le_self _ _) (by omega))) ?_; refine k_eqlS rfl zq (fun hc => ?_) (fun hc => ?_)
        · have hbit : bitN x k = 1 := by unfold bitN; omega
          refine k_nil ?_; refine run_yes ?_; refine rr5 (by kernel_rfl) ?_; refine mq rfl ?_; refine mq rfl ?_; refine k_bs kdq rfl zq (by decide) (by decide) rfl (fun q101 => k_hp (k_put ?_)); refine k_app1 (F := h ++ [⟨true, q3, .cells (bkL b pm nm cm pr nr cr).toArray 25 (0, 0)⟩] ++ n58 ++ n44 ++ n46 ++ n12 ++ [⟨true, q14, .cells (bkL (freeB b ln (pulledL b ln)) pm12 nm cm12 pr nr cr).toArray 25 (0, 0)⟩]) rfl zq rfl ho kdq (by omega) (by omega) (fun w9 n9 o9 => k_put ?_); replace o9 : OwnS 3 1 w9 (keptI x (k + 1)).length (ints (keptI x (k + 1))) n9 := by
            rw [keptI_yes hbit, ints_append, List.length_append]; exact o9
          obtain ⟨p9, c9, rfl, hc9, r9⟩ := own_rdA (B := B) o9
          refine aq rfl ?_; refine run_inBlock ?_; refine rr3 (by kernel_rfl) ?_; refine mq rfl ?_; refine k_add rfl zq (by unfold In64; omega) ?_; refine aq rfl ?_; exact (Md.star Tryz.prog B).weak weakSub (hnext _ _ _ (by omega) ⟨k + 1, _, _, n9, rfl, by omega, o9, exU rfl, rfl⟩)
        · have hbit : bitN x k ≠ 1 := by unfold bitN; omega
          refine k_nil ?_; refine run_no ?_; refine run_skip ?_; refine run_inBlock ?_; refine rr3 (by kernel_rfl) ?_; refine mq rfl ?_; refine k_add rfl zq (by unfold In64; omega) ?_; refine aq rfl ?_; rw [← keptI_no hbit]; rw [← keptI_no hbit] at ho
          exact (Md.star Tryz.prog B).weak weakSub (hnext _ _ _ (by omega) ⟨k + 1, _, _, n18, rfl, by omega, ho, exU rfl, rfl⟩)
      · refine k_nil ?_; refine run_no ?_; refine run_exit rfl ?_; refine run_seq ?_; refine run_seq ?_; obtain rfl : k = ln.length := by omega
        have r18 := ho.rd (List.Sublist.refl _) (B := B)
        have ho18 := keptI_le x ln.length
        generalize hoo : keptI x ln.length = oo at r18 ho18 ⊢
        have hoa : Asc oo := hoo ▸ asc_keptI _ _
        refine rr3 (by kernel_rfl) ?_; refine mq rfl ?_; refine mq rfl ?_; refine k_calP (Post := fun v => IsB _ v) rfl zq (by kernel_rfl) (fun H' hH => f61_c _ H' (r18.keeps (sq hH)) (by omega) (r44.keeps (sq hH))) ?_; rintro v (⟨hc, rfl⟩ | ⟨hc, rfl⟩)
        · refine k_put ?_; refine k_nil ?_; refine run_yes ?_; refine rs10 (by kernel_rfl) ?_; refine k_ldA rfl zq ?_; refine mq rfl ?_; refine mq rfl ?_; refine k_calC rfl zq (by kernel_rfl) (Post := fun v new => ∃ (b' : Bk) (pm' : Option Addr) (cm' : Nat) (t : Bool), v = .tuple [bkV b' pm' nm cm' pr nr cr, .bool t].toArray ∧ RdS B (h ++ new) 2 (.slice pm' nm cm') nm (encs b'.marks) ∧ b'.rules = b.rules ∧ bookS b' = 0 ∧ (t = true ↔ holds1 b ln (oo) b.marks.length) ∧ (t = true → b' = freeB b ln (oo))) (fun H' hH => f63_u _ h rdm hb0 H' (sq hH) (r58.keeps (sq hH)) hla (by omega) (r18.keeps (sq hH)) (by omega)) ?_; rintro v n23 ⟨b23, pm23, cm23, t23, rfl, rm23, er23, eb23, ht23, hf23⟩; have rr23 := rdr
          rw [← er23] at rr23
          refine k_hpA (k_put ?_); have hne : t23 = true → boatsOf b23 = [] := fun e => by
            rw [hf23 e]; exact free_none hb0 hll hla hpf hoa (by assumption) (ht23.1 e)
          refine mq rfl ?_; refine k_ext0 rfl zq ?_; refine k_ext1 rfl zq ?_; refine k_new rfl zq (fun q20 => k_hp (k_put ?_)); refine k_stA rfl zq rfl ?_; refine aq rfl ?_; refine rs7 (by kernel_rfl) ?_; refine k_ldA rfl zq ?_; refine k_calP (Post := fun v => v = .tuple [.int .i64 ((boatsOf b23).length : Int), .int .i64 0].toArray) rfl zq (by kernel_rfl) (fun H' hH => by have := f34_c (Md.star Tryz.prog B) H' (b := b23) (rm23.keeps (sq hH)) hm (rr23.keeps (sq hH)) hr; rwa [eb23, if_neg (fun e => e rfl)] at this) ?_; rintro v rfl; refine k_put ?_; refine mq rfl ?_; refine k_ext0 rfl zq ?_; refine k_ext1 rfl zq ?_; refine k_as rfl zq ?_; refine aq rfl ?_; refine run_seq ?_; rcases t23 with _ | _
          · refine rr9 (by kernel_rfl) ?_; refine mq rfl ?_; refine mq rfl ?_; refine k_off rfl rfl ?_; refine k_off rfl rfl ?_; refine k_off rfl rfl ?_; refine k_off rfl rfl ?_; refine k_off rfl rfl ?_; refine k_off rfl rfl ?_; refine k_pickF rfl zq ?_; refine k_nil ?_; refine run_no ?_; refine run_skip ?_; refine rs6 (by kernel_rfl) ?_; refine mq rfl ?_; refine k_conv rfl zq (by kernel_rfl) (n' := (y : Int)) (by unfold IntKind.wrap; simp [IntKind.bits, IntKind.signed]; omega) ?_; refine mq rfl ?_; refine k_len rfl zq ?_; refine k_rem (a := y) (b := ln.length) rfl zq (by omega) ?_; have hst := Nat.mod_lt y (show ln.length > 0 by omega)
            generalize y % ln.length = st at hst ⊢
            refine aq rfl ?_; refine run_seq ?_; refine run_draw (S := h ++ [⟨true, q3, .cells (bkL b pm nm cm pr nr cr).toArray 25 (0, 0)⟩] ++ n58 ++ n44 ++ n46) [(1, .pure), (2, .pure), (3, .pure), (5, .pure), (0, .read), (4, .keep), (6, .keep), (7, .keep), (8, .pure), (9, .pure), (10, .pure), (11, .keep), (12, .pure)] (by kernel_rfl) (by kernel_rfl) SubH.sub ?_; refine mq rfl ?_; refine mq rfl ?_; refine k_len rfl zq ?_; refine mq rfl ?_; refine k_ldA rfl zq ?_; refine k_calC rfl zq (by kernel_rfl) (Post := fun v new => OwnS 3 1 v ln.length (ints (firsts ln.length)) new) (fun H' hH => f65_c _ H' ln.length (by omega)) ?_; rintro v n65 o65; obtain ⟨p65, c65, rfl, hc65, r65⟩ := own_rdA (B := B) o65
            refine k_hpA (k_put ?_); refine k_calC rfl zq (by kernel_rfl) (Post := fun v new => OwnS 3 1 v (ln.length - 1) (ints ((firsts ln.length).take st ++ (firsts ln.length).drop (st + 1))) new) (fun H' hH => f64_c _ H' (r65.keeps (sq hH)) (by omega) hc65 st hst) ?_; rintro v n64 o64; obtain ⟨p64, c64, rfl, hc64, r64⟩ := own_rdA (B := B) o64
            refine k_hpA (k_put ?_); refine k_calC rfl zq (by kernel_rfl) (Post := fun v new => ∃ (b' : Bk) (pm' : Option Addr) (cm' : Nat) (t : Bool), v = .tuple [bkV b' pm' nm cm' pr nr cr, .bool t].toArray ∧ RdS B (h ++ new) 2 (.slice pm' nm cm') nm (encs b'.marks) ∧ b'.rules = b.rules ∧ bookS b' = 0 ∧ (t = true ↔ holds1 b ln ((firsts ln.length).take st ++ (firsts ln.length).drop (st + 1)) b.marks.length) ∧ (t = true → b' = freeB b ln ((firsts ln.length).take st ++ (firsts ln.length).drop (st + 1)))) (fun H' hH => f63_u _ h rdm hb0 H' (sq hH) (r58.keeps (sq hH)) hla (by omega) (r64.keeps (sq hH)) (by omega)) ?_; rintro v n28 ⟨b28, pm28, cm28, t28, rfl, rm28, er28, eb28, ht28, hf28⟩; have rr28 := rdr
            rw [← er28] at rr28
            refine k_hpA (k_put ?_); refine mq rfl ?_; refine k_ext0 rfl zq ?_; refine k_ext1 rfl zq ?_; refine k_stA rfl zq rfl ?_; refine aq rfl ?_; refine rs7 (by kernel_rfl) ?_; refine k_ldA rfl zq ?_; refine k_calP (Post := fun v => v = .tuple [.int .i64 ((boatsOf b28).length : Int), .int .i64 0].toArray) rfl zq (by kernel_rfl) (fun H' hH => by have := f34_c (Md.star Tryz.prog B) H' (b := b28) (rm28.keeps (sq hH)) hm (rr28.keeps (sq hH)) hr; rwa [eb28, if_neg (fun e => e rfl)] at this) ?_; rintro v rfl; refine k_put ?_; refine mq rfl ?_; refine k_ext0 rfl zq ?_; refine k_ext1 rfl zq ?_; refine k_as rfl zq ?_; refine aq rfl ?_; refine run_seq ?_; have hfm := free_must hb0 hll hla (show st < b.marks.length by omega)
            rw [← em, ← hll] at hfm
            rw [← hll] at ht28
            rcases t28 with _ | _
            · have hin : (st : Int) ∈ mustL b ln := hfm.2 fun e => by have := ht28.2 e.1; cases this
              refine rr18 (by kernel_rfl) ?_; refine mq rfl ?_; refine k_eqlT rfl zq rfl ?_; refine mq rfl ?_; refine k_mv rfl rfl ?_; refine k_mv rfl rfl ?_; refine k_calP (Post := fun v => IsB _ v) rfl rfl (by kernel_rfl) (fun H' hH => f52_c _ H' _ (r46.keeps (sq hH)) (by omega)) ?_; rintro v (⟨hc, rfl⟩ | ⟨hc, rfl⟩)
              · refine k_put ?_; refine k_mv rfl rfl ?_; refine k_notF rfl rfl ?_; refine k_mv rfl rfl ?_; refine k_off rfl rfl ?_; refine k_off rfl rfl ?_; refine k_pickT rfl rfl ?_; refine k_eqBT rfl rfl (by kernel_rfl) rfl ?_; refine k_pickT rfl zq ?_; refine mq rfl ?_; refine k_cal rfl rfl (by kernel_rfl) (f20_c _) ?_; rintro v h' ⟨nF, rfl, rfl⟩; refine k_put ?_; refine k_pickT rfl zq ?_; refine aq rfl ?_; refine run_ret rfl ?_; refine run_top rfl Tryz.func8 (by kernel_rfl) rfl ?_; rfl
              · refine k_put ?_; exact absurd hin hc
            · have hb28 := hf28 rfl
              have hh28 := ht28.1 rfl
              rw [← hb28] at hfm
              rcases Classical.em (boatsOf b28 = []) with hbe28 | hbe28
              · have hin : (st : Int) ∈ mustL b ln := hfm.2 fun e => e.2 hbe28
                rw [hbe28]; refine rr18 (by kernel_rfl) ?_; refine mq rfl ?_; refine k_eqlT rfl zq rfl ?_; refine mq rfl ?_; refine k_mv rfl rfl ?_; refine k_mv rfl rfl ?_; refine k_calP (Post := fun v => IsB _ v) rfl rfl (by kernel_rfl) (fun H' hH => f52_c _ H' _ (r46.keeps (sq hH)) (by omega)) ?_; rintro v (⟨hc, rfl⟩ | ⟨hc, rfl⟩)
                · refine k_put ?_; refine k_mv rfl rfl ?_; refine k_notT rfl rfl ?_; refine k_mv rfl rfl ?_; refine k_mv rfl rfl ?_; refine k_eqlT rfl rfl rfl ?_; refine k_pickF rfl rfl ?_; refine k_eqBT rfl rfl (by kernel_rfl) rfl ?_; refine k_pickT rfl zq ?_; refine mq rfl ?_; refine k_cal rfl rfl (by kernel_rfl) (f20_c _) ?_; rintro v h' ⟨nF, rfl, rfl⟩; refine k_put ?_; refine k_pickT rfl zq ?_; refine aq rfl ?_; refine run_ret rfl ?_; refine run_top rfl Tryz.func8 (by kernel_rfl) rfl ?_; rfl
                · refine k_put ?_; exact absurd hin hc
              · have hin : ¬ (st : Int) ∈ mustL b ln := fun e => hfm.1 e ⟨hh28, hbe28⟩
                have hp28 := List.length_pos_iff.2 hbe28
                refine rr18 (by kernel_rfl) ?_; refine mq rfl ?_; refine k_eqlT rfl zq rfl ?_; refine mq rfl ?_; refine k_mv rfl rfl ?_; refine k_mv rfl rfl ?_; refine k_calP (Post := fun v => IsB _ v) rfl rfl (by kernel_rfl) (fun H' hH => f52_c _ H' _ (r46.keeps (sq hH)) (by omega)) ?_; rintro v (⟨hc, rfl⟩ | ⟨hc, rfl⟩)
                · refine k_put ?_; exact absurd hc hin
                · refine k_put ?_; refine k_mv rfl rfl ?_; refine k_notT rfl rfl ?_; refine k_mv rfl rfl ?_; refine k_mv rfl rfl ?_; refine k_eqlF rfl rfl (by omega) ?_; refine k_pickF rfl rfl ?_; refine k_eqBT rfl rfl (by kernel_rfl) rfl ?_; refine k_pickT rfl zq ?_; refine mq rfl ?_; refine k_cal rfl rfl (by kernel_rfl) (f20_c _) ?_; rintro v h' ⟨nF, rfl, rfl⟩; refine k_put ?_; refine k_pickT rfl zq ?_; refine aq rfl ?_; refine run_ret rfl ?_; refine run_top rfl Tryz.func8 (by kernel_rfl) rfl ?_; rfl
          · rw [hne rfl]; refine rr9 (by kernel_rfl) ?_; refine mq rfl ?_; refine mq rfl ?_; refine k_mv rfl rfl ?_; refine k_neqF rfl rfl rfl ?_; refine k_mv rfl rfl ?_; refine k_mv rfl rfl ?_; refine k_gtrF rfl rfl (by decide) ?_; refine k_pickF rfl rfl ?_; refine k_pickT rfl zq ?_; refine k_nil ?_; refine run_no ?_; refine run_skip ?_; refine rs6 (by kernel_rfl) ?_; refine mq rfl ?_; refine k_conv rfl zq (by kernel_rfl) (n' := (y : Int)) (by unfold IntKind.wrap; simp [IntKind.bits, IntKind.signed]; omega) ?_; refine mq rfl ?_; refine k_len rfl zq ?_; refine k_rem (a := y) (b := ln.length) rfl zq (by omega) ?_; have hst := Nat.mod_lt y (show ln.length > 0 by omega)
            generalize y % ln.length = st at hst ⊢
            refine aq rfl ?_; refine run_seq ?_; refine run_draw (S := h ++ [⟨true, q3, .cells (bkL b pm nm cm pr nr cr).toArray 25 (0, 0)⟩] ++ n58 ++ n44 ++ n46) [(1, .pure), (2, .pure), (3, .pure), (5, .pure), (0, .read), (4, .keep), (6, .keep), (7, .keep), (8, .pure), (9, .pure), (10, .pure), (11, .keep), (12, .pure)] (by kernel_rfl) (by kernel_rfl) SubH.sub ?_; refine mq rfl ?_; refine mq rfl ?_; refine k_len rfl zq ?_; refine mq rfl ?_; refine k_ldA rfl zq ?_; refine k_calC rfl zq (by kernel_rfl) (Post := fun v new => OwnS 3 1 v ln.length (ints (firsts ln.length)) new) (fun H' hH => f65_c _ H' ln.length (by omega)) ?_; rintro v n65 o65; obtain ⟨p65, c65, rfl, hc65, r65⟩ := own_rdA (B := B) o65
            refine k_hpA (k_put ?_); refine k_calC rfl zq (by kernel_rfl) (Post := fun v new => OwnS 3 1 v (ln.length - 1) (ints ((firsts ln.length).take st ++ (firsts ln.length).drop (st + 1))) new) (fun H' hH => f64_c _ H' (r65.keeps (sq hH)) (by omega) hc65 st hst) ?_; rintro v n64 o64; obtain ⟨p64, c64, rfl, hc64, r64⟩ := own_rdA (B := B) o64
            refine k_hpA (k_put ?_); refine k_calC rfl zq (by kernel_rfl) (Post := fun v new => ∃ (b' : Bk) (pm' : Option Addr) (cm' : Nat) (t : Bool), v = .tuple [bkV b' pm' nm cm' pr nr cr, .bool t].toArray ∧ RdS B (h ++ new) 2 (.slice pm' nm cm') nm (encs b'.marks) ∧ b'.rules = b.rules ∧ bookS b' = 0 ∧ (t = true ↔ holds1 b ln ((firsts ln.length).take st ++ (firsts ln.length).drop (st + 1)) b.marks.length) ∧ (t = true → b' = freeB b ln ((firsts ln.length).take st ++ (firsts ln.length).drop (st + 1)))) (fun H' hH => f63_u _ h rdm hb0 H' (sq hH) (r58.keeps (sq hH)) hla (by omega) (r64.keeps (sq hH)) (by omega)) ?_; rintro v n28 ⟨b28, pm28, cm28, t28, rfl, rm28, er28, eb28, ht28, hf28⟩; have rr28 := rdr
            rw [← er28] at rr28
            refine k_hpA (k_put ?_); refine mq rfl ?_; refine k_ext0 rfl zq ?_; refine k_ext1 rfl zq ?_; refine k_stA rfl zq rfl ?_; refine aq rfl ?_; refine rs7 (by kernel_rfl) ?_; refine k_ldA rfl zq ?_; refine k_calP (Post := fun v => v = .tuple [.int .i64 ((boatsOf b28).length : Int), .int .i64 0].toArray) rfl zq (by kernel_rfl) (fun H' hH => by have := f34_c (Md.star Tryz.prog B) H' (b := b28) (rm28.keeps (sq hH)) hm (rr28.keeps (sq hH)) hr; rwa [eb28, if_neg (fun e => e rfl)] at this) ?_; rintro v rfl; refine k_put ?_; refine mq rfl ?_; refine k_ext0 rfl zq ?_; refine k_ext1 rfl zq ?_; refine k_as rfl zq ?_; refine aq rfl ?_; refine run_seq ?_; have hfm := free_must hb0 hll hla (show st < b.marks.length by omega)
            rw [← em, ← hll] at hfm
            rw [← hll] at ht28
            rcases t28 with _ | _
            · have hin : (st : Int) ∈ mustL b ln := hfm.2 fun e => by have := ht28.2 e.1; cases this
              refine rr18 (by kernel_rfl) ?_; refine mq rfl ?_; refine k_eqlT rfl zq rfl ?_; refine mq rfl ?_; refine k_mv rfl rfl ?_; refine k_mv rfl rfl ?_; refine k_calP (Post := fun v => IsB _ v) rfl rfl (by kernel_rfl) (fun H' hH => f52_c _ H' _ (r46.keeps (sq hH)) (by omega)) ?_; rintro v (⟨hc, rfl⟩ | ⟨hc, rfl⟩)
              · refine k_put ?_; refine k_mv rfl rfl ?_; refine k_notF rfl rfl ?_; refine k_mv rfl rfl ?_; refine k_off rfl rfl ?_; refine k_off rfl rfl ?_; refine k_pickT rfl rfl ?_; refine k_eqBT rfl rfl (by kernel_rfl) rfl ?_; refine k_pickT rfl zq ?_; refine mq rfl ?_; refine k_cal rfl rfl (by kernel_rfl) (f20_c _) ?_; rintro v h' ⟨nF, rfl, rfl⟩; refine k_put ?_; refine k_pickT rfl zq ?_; refine aq rfl ?_; refine run_ret rfl ?_; refine run_top rfl Tryz.func8 (by kernel_rfl) rfl ?_; rfl
              · refine k_put ?_; exact absurd hin hc
            · have hb28 := hf28 rfl
              have hh28 := ht28.1 rfl
              rw [← hb28] at hfm
              rcases Classical.em (boatsOf b28 = []) with hbe28 | hbe28
              · have hin : (st : Int) ∈ mustL b ln := hfm.2 fun e => e.2 hbe28
                rw [hbe28]; refine rr18 (by kernel_rfl) ?_; refine mq rfl ?_; refine k_eqlT rfl zq rfl ?_; refine mq rfl ?_; refine k_mv rfl rfl ?_; refine k_mv rfl rfl ?_; refine k_calP (Post := fun v => IsB _ v) rfl rfl (by kernel_rfl) (fun H' hH => f52_c _ H' _ (r46.keeps (sq hH)) (by omega)) ?_; rintro v (⟨hc, rfl⟩ | ⟨hc, rfl⟩)
                · refine k_put ?_; refine k_mv rfl rfl ?_; refine k_notT rfl rfl ?_; refine k_mv rfl rfl ?_; refine k_mv rfl rfl ?_; refine k_eqlT rfl rfl rfl ?_; refine k_pickF rfl rfl ?_; refine k_eqBT rfl rfl (by kernel_rfl) rfl ?_; refine k_pickT rfl zq ?_; refine mq rfl ?_; refine k_cal rfl rfl (by kernel_rfl) (f20_c _) ?_; rintro v h' ⟨nF, rfl, rfl⟩; refine k_put ?_; refine k_pickT rfl zq ?_; refine aq rfl ?_; refine run_ret rfl ?_; refine run_top rfl Tryz.func8 (by kernel_rfl) rfl ?_; rfl
                · refine k_put ?_; exact absurd hin hc
              · have hin : ¬ (st : Int) ∈ mustL b ln := fun e => hfm.1 e ⟨hh28, hbe28⟩
                have hp28 := List.length_pos_iff.2 hbe28
                refine rr18 (by kernel_rfl) ?_; refine mq rfl ?_; refine k_eqlT rfl zq rfl ?_; refine mq rfl ?_; refine k_mv rfl rfl ?_; refine k_mv rfl rfl ?_; refine k_calP (Post := fun v => IsB _ v) rfl rfl (by kernel_rfl) (fun H' hH => f52_c _ H' _ (r46.keeps (sq hH)) (by omega)) ?_; rintro v (⟨hc, rfl⟩ | ⟨hc, rfl⟩)
                · refine k_put ?_; exact absurd hc hin
                · refine k_put ?_; refine k_mv rfl rfl ?_; refine k_notT rfl rfl ?_; refine k_mv rfl rfl ?_; refine k_mv rfl rfl ?_; refine k_eqlF rfl rfl (by omega) ?_; refine k_pickF rfl rfl ?_; refine k_eqBT rfl rfl (by kernel_rfl) rfl ?_; refine k_pickT rfl zq ?_; refine mq rfl ?_; refine k_cal rfl rfl (by kernel_rfl) (f20_c _) ?_; rintro v h' ⟨nF, rfl, rfl⟩; refine k_put ?_; refine k_pickT rfl zq ?_; refine aq rfl ?_; refine run_ret rfl ?_; refine run_top rfl Tryz.func8 (by kernel_rfl) rfl ?_; rfl
        · refine k_put ?_; refine k_nil ?_; refine run_no ?_; refine run_skip ?_; refine rs6 (by kernel_rfl) ?_; refine mq rfl ?_; refine k_conv rfl zq (by kernel_rfl) (n' := (y : Int)) (by unfold IntKind.wrap; simp [IntKind.bits, IntKind.signed]; omega) ?_; refine mq rfl ?_; refine k_len rfl zq ?_; refine k_rem (a := y) (b := ln.length) rfl zq (by omega) ?_; have hst := Nat.mod_lt y (show ln.length > 0 by omega)
          generalize y % ln.length = st at hst ⊢
          refine aq rfl ?_; refine run_seq ?_; refine run_draw (S := h ++ [⟨true, q3, .cells (bkL b pm nm cm pr nr cr).toArray 25 (0, 0)⟩] ++ n58 ++ n44 ++ n46) [(1, .pure), (2, .pure), (3, .pure), (5, .pure), (0, .read), (4, .keep), (6, .keep), (7, .keep), (8, .pure), (9, .pure), (10, .pure), (11, .keep), (12, .pure)] (by kernel_rfl) (by kernel_rfl) SubH.sub ?_; refine mq rfl ?_; refine mq rfl ?_; refine k_len rfl zq ?_; refine mq rfl ?_; refine k_ldA rfl zq ?_; refine k_calC rfl zq (by kernel_rfl) (Post := fun v new => OwnS 3 1 v ln.length (ints (firsts ln.length)) new) (fun H' hH => f65_c _ H' ln.length (by omega)) ?_; rintro v n65 o65; obtain ⟨p65, c65, rfl, hc65, r65⟩ := own_rdA (B := B) o65
          refine k_hpA (k_put ?_); refine k_calC rfl zq (by kernel_rfl) (Post := fun v new => OwnS 3 1 v (ln.length - 1) (ints ((firsts ln.length).take st ++ (firsts ln.length).drop (st + 1))) new) (fun H' hH => f64_c _ H' (r65.keeps (sq hH)) (by omega) hc65 st hst) ?_; rintro v n64 o64; obtain ⟨p64, c64, rfl, hc64, r64⟩ := own_rdA (B := B) o64
          refine k_hpA (k_put ?_); refine k_calC rfl zq (by kernel_rfl) (Post := fun v new => ∃ (b' : Bk) (pm' : Option Addr) (cm' : Nat) (t : Bool), v = .tuple [bkV b' pm' nm cm' pr nr cr, .bool t].toArray ∧ RdS B (h ++ new) 2 (.slice pm' nm cm') nm (encs b'.marks) ∧ b'.rules = b.rules ∧ bookS b' = 0 ∧ (t = true ↔ holds1 b ln ((firsts ln.length).take st ++ (firsts ln.length).drop (st + 1)) b.marks.length) ∧ (t = true → b' = freeB b ln ((firsts ln.length).take st ++ (firsts ln.length).drop (st + 1)))) (fun H' hH => f63_u _ h rdm hb0 H' (sq hH) (r58.keeps (sq hH)) hla (by omega) (r64.keeps (sq hH)) (by omega)) ?_; rintro v n28 ⟨b28, pm28, cm28, t28, rfl, rm28, er28, eb28, ht28, hf28⟩; have rr28 := rdr
          rw [← er28] at rr28
          refine k_hpA (k_put ?_); refine mq rfl ?_; refine k_ext0 rfl zq ?_; refine k_ext1 rfl zq ?_; refine k_stA rfl zq rfl ?_; refine aq rfl ?_; refine rs7 (by kernel_rfl) ?_; refine k_ldA rfl zq ?_; refine k_calP (Post := fun v => v = .tuple [.int .i64 ((boatsOf b28).length : Int), .int .i64 0].toArray) rfl zq (by kernel_rfl) (fun H' hH => by have := f34_c (Md.star Tryz.prog B) H' (b := b28) (rm28.keeps (sq hH)) hm (rr28.keeps (sq hH)) hr; rwa [eb28, if_neg (fun e => e rfl)] at this) ?_; rintro v rfl; refine k_put ?_; refine mq rfl ?_; refine k_ext0 rfl zq ?_; refine k_ext1 rfl zq ?_; refine k_as rfl zq ?_; refine aq rfl ?_; refine run_seq ?_; have hfm := free_must hb0 hll hla (show st < b.marks.length by omega)
          rw [← em, ← hll] at hfm
          rw [← hll] at ht28
          rcases t28 with _ | _
          · have hin : (st : Int) ∈ mustL b ln := hfm.2 fun e => by have := ht28.2 e.1; cases this
            refine rr18 (by kernel_rfl) ?_; refine mq rfl ?_; refine k_eqlT rfl zq rfl ?_; refine mq rfl ?_; refine k_mv rfl rfl ?_; refine k_mv rfl rfl ?_; refine k_calP (Post := fun v => IsB _ v) rfl rfl (by kernel_rfl) (fun H' hH => f52_c _ H' _ (r46.keeps (sq hH)) (by omega)) ?_; rintro v (⟨hc, rfl⟩ | ⟨hc, rfl⟩)
            · refine k_put ?_; refine k_mv rfl rfl ?_; refine k_notF rfl rfl ?_; refine k_mv rfl rfl ?_; refine k_off rfl rfl ?_; refine k_off rfl rfl ?_; refine k_pickT rfl rfl ?_; refine k_eqBT rfl rfl (by kernel_rfl) rfl ?_; refine k_pickT rfl zq ?_; refine mq rfl ?_; refine k_cal rfl rfl (by kernel_rfl) (f20_c _) ?_; rintro v h' ⟨nF, rfl, rfl⟩; refine k_put ?_; refine k_pickT rfl zq ?_; refine aq rfl ?_; refine run_ret rfl ?_; refine run_top rfl Tryz.func8 (by kernel_rfl) rfl ?_; rfl
            · refine k_put ?_; exact absurd hin hc
          · have hb28 := hf28 rfl
            have hh28 := ht28.1 rfl
            rw [← hb28] at hfm
            rcases Classical.em (boatsOf b28 = []) with hbe28 | hbe28
            · have hin : (st : Int) ∈ mustL b ln := hfm.2 fun e => e.2 hbe28
              rw [hbe28]; refine rr18 (by kernel_rfl) ?_; refine mq rfl ?_; refine k_eqlT rfl zq rfl ?_; refine mq rfl ?_; refine k_mv rfl rfl ?_; refine k_mv rfl rfl ?_; refine k_calP (Post := fun v => IsB _ v) rfl rfl (by kernel_rfl) (fun H' hH => f52_c _ H' _ (r46.keeps (sq hH)) (by omega)) ?_; rintro v (⟨hc, rfl⟩ | ⟨hc, rfl⟩)
              · refine k_put ?_; refine k_mv rfl rfl ?_; refine k_notT rfl rfl ?_; refine k_mv rfl rfl ?_; refine k_mv rfl rfl ?_; refine k_eqlT rfl rfl rfl ?_; refine k_pickF rfl rfl ?_; refine k_eqBT rfl rfl (by kernel_rfl) rfl ?_; refine k_pickT rfl zq ?_; refine mq rfl ?_; refine k_cal rfl rfl (by kernel_rfl) (f20_c _) ?_; rintro v h' ⟨nF, rfl, rfl⟩; refine k_put ?_; refine k_pickT rfl zq ?_; refine aq rfl ?_; refine run_ret rfl ?_; refine run_top rfl Tryz.func8 (by kernel_rfl) rfl ?_; rfl
              · refine k_put ?_; exact absurd hin hc
            · have hin : ¬ (st : Int) ∈ mustL b ln := fun e => hfm.1 e ⟨hh28, hbe28⟩
              have hp28 := List.length_pos_iff.2 hbe28
              refine rr18 (by kernel_rfl) ?_; refine mq rfl ?_; refine k_eqlT rfl zq rfl ?_; refine mq rfl ?_; refine k_mv rfl rfl ?_; refine k_mv rfl rfl ?_; refine k_calP (Post := fun v => IsB _ v) rfl rfl (by kernel_rfl) (fun H' hH => f52_c _ H' _ (r46.keeps (sq hH)) (by omega)) ?_; rintro v (⟨hc, rfl⟩ | ⟨hc, rfl⟩)
              · refine k_put ?_; exact absurd hc hin
              · refine k_put ?_; refine k_mv rfl rfl ?_; refine k_notT rfl rfl ?_; refine k_mv rfl rfl ?_; refine k_mv rfl rfl ?_; refine k_eqlF rfl rfl (by omega) ?_; refine k_pickF rfl rfl ?_; refine k_eqBT rfl rfl (by kernel_rfl) rfl ?_; refine k_pickT rfl zq ?_; refine mq rfl ?_; refine k_cal rfl rfl (by kernel_rfl) (f20_c _) ?_; rintro v h' ⟨nF, rfl, rfl⟩; refine k_put ?_; refine k_pickT rfl zq ?_; refine aq rfl ?_; refine run_ret rfl ?_; refine run_top rfl Tryz.func8 (by kernel_rfl) rfl ?_; rfl
  · refine k_put ?_; refine k_notF rfl zq ?_; refine k_nil ?_; refine run_yes ?_; refine rs2 (by kernel_rfl) ?_; refine k_cal rfl zq (by kernel_rfl) (f20_c _) ?_; rintro v h' ⟨nF, rfl, rfl⟩; refine k_put ?_; refine aq rfl ?_; refine run_ret rfl ?_; refine run_top rfl Tryz.func8 (by kernel_rfl) rfl ?_; rfl
end Go.Proofs
namespace Go.Lo
set_option maxRecDepth 100000
section
variable {H : Type} {enc : TypeId × Value → H} {P : Program} {w : World} {base : Nat} {sp : Nat → Bool} {held : Bool}
theorem slice_open {kd : IntKind} {t e : TypeId} {k fuel : Nat} {cs : List Value} {x : DataW H × List MemPlace} (hu : P.underlying t = some (.slice e)) (hB : intsB P kd 3 e k = true) (h : DataW.trod enc P w base sp held fuel t cs = some x) (hs : ∀ a n c, cs = [.slice (some a) n c] → a.spot = none) :
    ∃ (p : Option Addr) (n c : Nat) (zs : List Int), cs = [.slice p n c] ∧ n ≤ c ∧ zs.length = n * k ∧ RdS w.heap [] k (.slice p n c) n (zs.map (Value.int kd)) ∧ ∀ z ∈ zs, (Lit.int kd z).wf = true := by
  rcases Deep.open_slice hu h with ⟨rfl, _⟩ | ⟨a, len, cap, m, n, D, Pl, rfl, hb, hl, hm, hmm, _, hx⟩
  · exact ⟨none, 0, 0, [], rfl, Nat.le_refl _, by simp, ⟨none, 0, rfl, by simp, .inl ⟨rfl, rfl⟩⟩, fun z hz => by simp at hz⟩
  · have hlm : len ≤ m := by rw [hmm]; split <;> omega
    have hc : P.cellsOf e = k := intsB_size hB
    obtain ⟨ab, ao, sx⟩ := a
    obtain rfl : sx = none := hs _ _ _ rfl
    obtain ⟨V, hV⟩ := Deep.choose_lt (α := Int) (n := len * k) (p := fun q z => w.cell? ⟨ab, ao + q, none⟩ = some (.int kd z) ∧ (Lit.int kd z).wf = true) (fun q hq => by
      have hk : 0 < k := by rcases Nat.eq_zero_or_pos k with e0 | e0; subst e0; simp at hq; exact e0
      have hi : q / k < len := Nat.div_lt_of_lt_mul (by rw [Nat.mul_comm]; exact hq)
      obtain ⟨cs', h1, h2⟩ := hx (q / k) (by omega)
      obtain ⟨_, hlen, hcell⟩ := World.cells?_some h1
      obtain ⟨_, hall⟩ := trod_cells 3 hB h2
      obtain ⟨z, hz, hw⟩ := hall (q % k) (Nat.mod_lt _ hk)
      refine ⟨z, ?_, hw⟩
      have := hcell (q % k) (by rw [hc]; exact Nat.mod_lt _ hk)
      rw [hz, Addr.add_none, Addr.add_none, hc] at this
      rw [← this]; have e := Nat.div_add_mod q k
      have e2 : q / k * k = k * (q / k) := Nat.mul_comm _ _
      congr 2; omega)
    refine ⟨some ⟨ab, ao, none⟩, len, cap, (List.range (len * k)).map V, rfl, hl, by simp, ⟨_, cap, rfl, by simp, .inr ⟨ab, ao, rfl, fun j hj => ?_⟩⟩, fun z hz => ?_⟩
    · have hj' : j < len * k := by simpa using hj
      have : (((List.range (len * k)).map V).map (Value.int kd)).getD j undef = .int kd (V j) := by
        rw [List.getD_eq_getElem?_getD, List.getElem?_map, List.getElem?_map, List.getElem?_range hj']; rfl
      rw [this]; exact rd_of_cell (hV j hj').1
    · obtain ⟨q, hq, rfl⟩ := List.mem_map.1 hz
      exact (hV q (List.mem_range.1 hq)).2
theorem spot_of {r : Reach} {b0 : Nat} {t e : TypeId} {v : Value} (hu : P.underlying t = some (.slice e)) (h : Cell.okWide P w r b0 t v) : ∀ a n c, [v] = [.slice (some a) n c] → a.spot = none := fun a n c e1 => by
  obtain rfl := List.head_eq_of_cons_eq e1
  unfold Cell.okWide at h
  rw [hu] at h
  simp only [Cell.ok, hu] at h
  exact h.2.2.2.1
end
def spsOf : List Int → List Sp
  | a :: b :: r => ⟨a, b⟩ :: spsOf r
  | _ => []
theorem spsOf_enc : ∀ (n : Nat) (zs : List Int), zs.length = n * 2 → encs (spsOf zs) = ints zs
  | 0, zs, h => by
    obtain rfl := List.length_eq_zero_iff.1 (by simpa using h)
    rfl
  | n + 1, a :: b :: r, h => by
    have := spsOf_enc n r (by simp only [List.length_cons] at h; omega)
    simp only [spsOf, encs, this]
    rfl
  | n + 1, [], h => by simp at h
  | n + 1, [a], h => by simp at h; omega
def rusOf : List Int → List Ru
  | a :: b :: c :: d :: r => ⟨a, b, c, d⟩ :: rusOf r
  | _ => []
theorem rusOf_enc : ∀ (n : Nat) (zs : List Int), zs.length = n * 4 → encs (rusOf zs) = ints zs
  | 0, zs, h => by
    obtain rfl := List.length_eq_zero_iff.1 (by simpa using h)
    rfl
  | n + 1, a :: b :: c :: d :: r, h => by
    have := rusOf_enc n r (by simp only [List.length_cons] at h; omega)
    simp only [rusOf, encs, this]
    rfl
  | n + 1, [], h => by simp at h
  | n + 1, [a], h => by simp at h; omega
  | n + 1, [a, b], h => by simp at h; omega
  | n + 1, [a, b, c], h => by simp at h; omega
end Go.Lo
namespace Go.Proofs
open Go.Lo
set_option maxRecDepth 100000
section
variable {H : Type} {enc : TypeId × Value → H} {w : World} {sp : Nat → Bool} {held : Bool}
theorem int_arg {r : Reach} {b0 : Nat} {t : TypeId} {kd : IntKind} {v : Value} {d : DataW H} {ps : List MemPlace} (ht : Tryz.prog.underlying t = some (.int kd)) (hv : Value.okWide Tryz.prog w r b0 t v) (h : DataW.Trod enc Tryz.prog w 0 sp held t v d ps) :
    ∃ n, v = .int kd n ∧ (Lit.int kd n).wf = true := by
  obtain ⟨n, e, _, _, hw⟩ := ChangeShapes.open_int ht hv h
  exact ⟨n, e, hw⟩
theorem nat_arg {n M : Int} {kd : IntKind} {v : Value} (e : v = .int kd n ∧ (Lit.int kd n).wf = true) (h : (Lit.int kd n).wf = true → 0 ≤ n ∧ n ≤ M) : ∃ z : Nat, v = .int kd (z : Int) ∧ (z : Int) ≤ M := by
  obtain ⟨h0, h1⟩ := h e.2
  exact ⟨n.toNat, by rw [e.1, Int.toNat_of_nonneg h0], by rw [Int.toNat_of_nonneg h0]; exact h1⟩
theorem u8_arg {r : Reach} {b0 : Nat} {v : Value} {d : DataW H} {ps : List MemPlace} (hv : Value.okWide Tryz.prog w r b0 5 v) (h : DataW.Trod enc Tryz.prog w 0 sp held 5 v d ps) : ∃ z : Nat, v = .int .u8 (z : Int) ∧ z ≤ 255 := by
  obtain ⟨n, e⟩ := int_arg (kd := .u8) (by kernel_rfl) hv h
  obtain ⟨z, e, hz⟩ := nat_arg (M := 255) e (fun hw => by simp [Lit.wf, IntKind.min, IntKind.max, IntKind.signed, IntKind.bits] at hw; omega)
  exact ⟨z, e, by omega⟩
theorem nums_arg {r : Reach} {b0 : Nat} {t e : TypeId} {kd : IntKind} {v : Value} {d : DataW H} {ps : List MemPlace} (hu : Tryz.prog.underlying t = some (.slice e)) (hB : intsB Tryz.prog kd 3 e 1 = true) (hv : Value.okWide Tryz.prog w r b0 t v) (h : DataW.Trod enc Tryz.prog w 0 sp held t v d ps) :
    ∃ (p : Option Addr) (n c : Nat) (xs : List Int), v = .slice p n c ∧ RdS w.heap [] 1 (.slice p n c) n (xs.map (Value.int kd)) ∧ ∀ x ∈ xs, (Lit.int kd x).wf = true := by
  have hv' : Cell.okWide Tryz.prog w r b0 t v := by
    unfold Value.okWide at hv
    rw [hu] at hv
    exact hv
  obtain ⟨fuel, h⟩ := h
  have hsl : v.cells.toList = [v] := by
    unfold Cell.okWide at hv'
    rw [hu] at hv'
    cases v <;> first | rfl | (simp [Cell.ok, hu] at hv')
  rw [hsl] at h
  obtain ⟨p, n, c, zs, e, _, _, rd, hw⟩ := slice_open hu hB h (spot_of hu hv')
  exact ⟨p, n, c, zs, List.head_eq_of_cons_eq e, rd, hw⟩
theorem picks_arg {r : Reach} {b0 : Nat} {v : Value} {d : DataW H} {ps : List MemPlace} (hv : Value.okWide Tryz.prog w r b0 48 v) (h : DataW.Trod enc Tryz.prog w 0 sp held 48 v d ps) :
    ∃ (p : Option Addr) (n c : Nat) (xs : List Int), v = .slice p n c ∧ RdS w.heap [] 1 (.slice p n c) n (xs.map (Value.int .u16)) ∧ ∀ x ∈ xs, 0 ≤ x ∧ x ≤ 65535 := by
  obtain ⟨p, n, c, xs, e, rd, hw⟩ := nums_arg (e := 55) (kd := .u16) (by kernel_rfl) (by kernel_rfl) hv h
  exact ⟨p, n, c, xs, e, rd, fun x hx => by have := hw x hx; simp [Lit.wf, IntKind.min, IntKind.max, IntKind.signed, IntKind.bits] at this; omega⟩
theorem trodAll_cons {P : Program} {base : Nat} {t : TypeId} {ts : List TypeId} {vs : List Value} {ds : List (DataW H)} {ps : List MemPlace} (h : DataW.TrodAll enc P w base sp held (t :: ts) vs ds ps) :
    ∃ v vr d dr p q, vs = v :: vr ∧ ds = d :: dr ∧ ps = p ++ q ∧ DataW.Trod enc P w base sp held t v d p ∧ DataW.TrodAll enc P w base sp held ts vr dr q := by
  cases vs with
  | nil => cases ds <;> exact absurd h id
  | cons v vr =>
    cases ds with
    | nil => exact absurd h id
    | cons d dr =>
      obtain ⟨p, q, h1, h2, e⟩ := h
      exact ⟨v, vr, d, dr, p, q, rfl, rfl, e, h1, h2⟩
theorem trodAll_end {P : Program} {base : Nat} {vs : List Value} {ds : List (DataW H)} {ps : List MemPlace} (h : DataW.TrodAll enc P w base sp held [] vs ds ps) : vs = [] ∧ ds = [] ∧ ps = [] := by
  cases vs with
  | nil =>
    cases ds with
    | nil => exact ⟨rfl, rfl, h⟩
    | cons d dr => exact absurd h id
  | cons v vr => cases ds <;> exact absurd h id
theorem trodAll_more {P : Program} {base : Nat} {t : TypeId} {ts : List TypeId} {v : Value} {vs : List Value} {d : DataW H} {ds : List (DataW H)} {p q : List MemPlace} (h : DataW.Trod enc P w base sp held t v d p) (k : DataW.TrodAll enc P w base sp held ts vs ds q) : DataW.TrodAll enc P w base sp held (t :: ts) (v :: vs) (d :: ds) (p ++ q) := ⟨p, q, h, k, rfl⟩
theorem book_arg {r : Reach} {b0 : Nat} {v : Value} {d : DataW H} {ps : List MemPlace} (hv : Value.okWide Tryz.prog w r b0 25 v) (h : DataW.Trod enc Tryz.prog w 0 sp held 25 v d ps) :
    ∃ b pm nm cm pr nr cr, v = bkV b pm nm cm pr nr cr ∧ nm ≤ cm ∧ nr ≤ cr ∧ RdS w.heap [] 2 (.slice pm nm cm) nm (encs b.marks) ∧ RdS w.heap [] 4 (.slice pr nr cr) nr (encs b.rules) ∧ (Lit.int .i64 b.bend).wf = true ∧ (Lit.int .i64 b.twist).wf = true ∧ (Lit.int .i64 b.turns).wf = true := by
  obtain ⟨fs, hu, hfs⟩ : ∃ fs, Tryz.prog.underlying 25 = some (.struct fs) ∧ fs.toList.map (fun f => (f.offset, f.type)) = [(0, 3), (1, 3), (2, 3), (3, 22), (4, 23)] := ⟨_, Tryz.underlying25, by kernel_rfl⟩
  have hct : Tryz.prog.cellTypes Tryz.prog.depth 25 = some [3, 3, 3, 22, 23] := by kernel_rfl
  have h3 : Tryz.prog.underlying 3 = some (.int .i64) := by kernel_rfl
  have h22 : Tryz.prog.underlying 22 = some (.slice 92) := by kernel_rfl
  have h23 : Tryz.prog.underlying 23 = some (.slice 94) := by kernel_rfl
  unfold Value.okWide at hv
  rw [hu] at hv
  obtain ⟨cs, rfl, hsz, ts, hts, _, hall⟩ := hv
  rw [hct] at hts
  obtain rfl := Option.some.inj hts
  obtain ⟨fuel, h⟩ := h
  obtain ⟨xs, m, _, _, hl, hxl, hx⟩ := DataW.trod_struct hu h
  have hl5 : cs.size = 5 := hsz.trans (by kernel_rfl)
  obtain ⟨cl⟩ := cs
  have hl5' : cl.length = 5 := hl5
  obtain ⟨c0, c1, c2, c3, c4, rfl⟩ : ∃ c0 c1 c2 c3 c4, cl = [c0, c1, c2, c3, c4] := by
    match cl, hl5' with
    | [c0, c1, c2, c3, c4], _ => exact ⟨_, _, _, _, _, rfl⟩
  obtain ⟨f0, f1, f2, f3, f4, rfl⟩ : ∃ f0 f1 f2 f3 f4, fs = #[f0, f1, f2, f3, f4] := by
    obtain ⟨fl⟩ := fs
    have hlen : fl.length = 5 := by simpa using congrArg List.length hfs
    match fl, hlen with
    | [f0, f1, f2, f3, f4], _ => exact ⟨_, _, _, _, _, rfl⟩
  simp only [List.map_cons, List.map_nil, List.cons.injEq, Prod.mk.injEq, and_true] at hfs
  obtain ⟨⟨o0, t0⟩, ⟨o1, t1⟩, ⟨o2, t2⟩, ⟨o3, t3⟩, o4, t4⟩ := hfs
  have s3 : Tryz.prog.cellsOf 3 = 1 := by kernel_rfl
  have s22 : Tryz.prog.cellsOf 22 = 1 := by kernel_rfl
  have s23 : Tryz.prog.cellsOf 23 = 1 := by kernel_rfl
  have go : ∀ i, i < 5 → ∃ y, xs[i]? = some y := fun i hi => ⟨_, List.getElem?_eq_getElem (by rw [hxl]; exact hi)⟩
  obtain ⟨y0, e0⟩ := go 0 (by omega); obtain ⟨y1, e1⟩ := go 1 (by omega); obtain ⟨y2, e2⟩ := go 2 (by omega); obtain ⟨y3, e3⟩ := go 3 (by omega); obtain ⟨y4, e4⟩ := go 4 (by omega)
  have g0 := (hx 0 f0 rfl).trans e0
  have g1 := (hx 1 f1 rfl).trans e1
  have g2 := (hx 2 f2 rfl).trans e2
  have g3 := (hx 3 f3 rfl).trans e3
  have g4 := (hx 4 f4 rfl).trans e4
  rw [t0, o0, s3] at g0
  rw [t1, o1, s3] at g1
  rw [t2, o2, s3] at g2
  rw [t3, o3, s22] at g3
  rw [t4, o4, s23] at g4
  obtain ⟨n0, q0, _, w0⟩ := DataW.trod_int h3 g0
  obtain ⟨n1, q1, _, w1⟩ := DataW.trod_int h3 g1
  obtain ⟨n2, q2, _, w2⟩ := DataW.trod_int h3 g2
  obtain rfl := List.head_eq_of_cons_eq (show [c0] = [Value.int .i64 n0] from q0)
  obtain rfl := List.head_eq_of_cons_eq (show [c1] = [Value.int .i64 n1] from q1)
  obtain rfl := List.head_eq_of_cons_eq (show [c2] = [Value.int .i64 n2] from q2)
  obtain ⟨u3, hu3, k3⟩ := hall 3 c3 rfl
  obtain ⟨u4, hu4, k4⟩ := hall 4 c4 rfl
  obtain rfl : 22 = u3 := Option.some.inj hu3
  obtain rfl : 23 = u4 := Option.some.inj hu4
  obtain ⟨pm, nm, cm, zm, em, hcm, hzm, rdm, _⟩ := slice_open (cs := [c3]) h22 (by kernel_rfl : intsB Tryz.prog .i64 3 92 2 = true) g3 (spot_of h22 k3)
  obtain ⟨pr, nr, cr, zr, er, hcr, hzr, rdr, _⟩ := slice_open (cs := [c4]) h23 (by kernel_rfl : intsB Tryz.prog .i64 3 94 4 = true) g4 (spot_of h23 k4)
  obtain rfl := List.head_eq_of_cons_eq em
  obtain rfl := List.head_eq_of_cons_eq er
  exact ⟨⟨n0, n1, n2, spsOf zm, rusOf zr⟩, pm, nm, cm, pr, nr, cr, rfl, hcm, hcr, by rw [spsOf_enc _ _ hzm]; exact rdm, by rw [rusOf_enc _ _ hzr]; exact rdr, w0, w1, w2⟩
end
end Go.Proofs
namespace Go.Proofs.YtlbkicemccikgaaGreatDoor
open Go Go.Lo Go.ChangeShapes Go.WideShapes Go.ChangeAt Go.RowKit Go.Conc
set_option maxRecDepth 100000
theorem tied_goes_at (Lk : Looks) {p : Pinned} {s : OpenSpec} {k : StoodClaim8} {ks : List StandKind} (kinds : List LaidKind) (tests : Bool) (h : Claim7.holdsNew p (.plain s) { stood := k, kinds := ks }) (hw : k.row.wfByText s = true) :
    Claim7.holdsNew p (.plain s) { stood := k, kinds := ks, goes := true, laidByText := true, laidKinds := kinds, laidTests := tests, laidLooks := Lk } := by
  obtain ⟨_, rest⟩ := h
  exact ⟨hw, rest⟩
theorem card_of (Lk : Looks) {p : Pinned} {s : OpenSpec} {c : OpenClaim} (kinds : List LaidKind) (tests : Bool) (har : Bool × String) (lk : Bool)
    (hc : c.holds p s) (hw : c.wfByText s = true) (htie : c.laidByTextAt Lk p kinds tests)
    (hst : c.start = .entering) (hnb : c.noBlocks = false ∧ c.again = false) (hm : p.checked.prog.mainIs = some (har.1, har.2.toList)) (hn : (!har.1 && har.2.isEmpty && !lk) = false)
    (hl : ∀ f fn, p.checked.prog.funcNamed c.func = some f → p.checked.prog.funcs[f]? = some fn → lk = p.checked.prog.looks [] ∧ ∀ (j : Nat) t, fn.params[j]? = some t → p.checked.prog.wantsStandIn t = false)
    (hg : true = c.goesBy p.checked.prog) :
    Claim7.holds p (.plain s) { stood := { row := c, standIns := [], harness := har, looks := lk }, kinds := [], alts := [], goes := true, laidByText := true, laidKinds := kinds, laidTests := tests, laidLooks := Lk } := by
  have h6 : ∀ r : OpenClaim, Claim7.isSixth { stood := { row := r, standIns := [], harness := har, looks := lk }, kinds := [] } = false := fun r => by simpa [Claim7.isSixth] using hn
  exact ⟨tied_goes_at Lk kinds tests (Claim7.new_of_sixth hc har lk hst hnb hm (h6 c) hl) hw, (fun D hD => by cases hD), htie, (fun h => by cases h), hg⟩
theorem own : ownKnob Tryz.prog.godebug = none := by kernel_rfl
theorem laidOut : laidOutB Tryz.prog = true := by kernel_rfl
theorem laidOutP : laidOutB Tryz.pinned.checked.prog = true := laidOut
def laidL : List (String × DataW Unit) := [("ribband/batten.checks", Rows.laid_ribband_batten_checks)]
theorem door_met (os : Os) (args : Array Value) : laidMetH Tryz.prog laidL ((World.doorLaid Tryz.prog 14 os).forCall (fun _ _ => 0) ⟨#[], args, []⟩).memory :=
  laidMetH_of_parts3 (fuel := 8) (laidMet_nil _ _) (by kernel_rfl) (by kernel_rfl)
theorem laid_of {W : World} (h : laidMetH Tryz.prog laidL W) : Laid W.heap := by
  obtain ⟨g, t, cs, fuel, p, hg, ht, hv, hd⟩ := h.funcs (n := "ribband/batten.checks") (List.mem_cons_self ..)
  obtain rfl := Option.some.inj ((show Tryz.prog.globalNamed "ribband/batten.checks" = some 0 by kernel_rfl).symm.trans hg)
  obtain rfl := Option.some.inj ((show (Tryz.prog.globals[0]?).map (·.type) = some 107 by kernel_rfl).symm.trans ht)
  have hu : Tryz.prog.underlying 107 = some (.array 3 106) := by kernel_rfl
  have hc1 : Tryz.prog.cellsOf 106 = 1 := by kernel_rfl
  obtain ⟨ps, rs, va, h106⟩ : ∃ ps rs va, Tryz.prog.underlying 106 = some (.func ps rs va) := ⟨_, _, _, Tryz.underlying106⟩
  obtain ⟨xs, m, _, ex, hl, hxl, hx⟩ := DataW.trod_array hu hd
  have hl3 : cs.toList.length = 3 := hl.trans (by kernel_rfl)
  obtain ⟨cl⟩ := cs
  obtain ⟨c0, c1, c2, rfl⟩ : ∃ c0 c1 c2, cl = [c0, c1, c2] := by
    match cl, hl3 with
    | [c0, c1, c2], _ => exact ⟨_, _, _, rfl⟩
  obtain ⟨y0, y1, y2, rfl⟩ : ∃ y0 y1 y2, xs = [y0, y1, y2] := by
    match xs, hxl with
    | [y0, y1, y2], _ => exact ⟨_, _, _, rfl⟩
  have e2 : ∃ a b c : List UInt8, (Rows.laid_ribband_batten_checks : DataW Unit) = .iface "func table" (.agg [.iface "func" (.lit (.string a)), .iface "func" (.lit (.string b)), .iface "func" (.lit (.string c))]) ∧
      ((List.range Tryz.prog.funcs.size).filter fun f => (Tryz.prog.funcs[f]?).any (·.name.toUTF8.data.toList == a)) = [199] ∧ ((List.range Tryz.prog.funcs.size).filter fun f => (Tryz.prog.funcs[f]?).any (·.name.toUTF8.data.toList == b)) = [200] ∧
      ((List.range Tryz.prog.funcs.size).filter fun f => (Tryz.prog.funcs[f]?).any (·.name.toUTF8.data.toList == c)) = [201] ∧ a ≠ [] ∧ b ≠ [] ∧ c ≠ [] ∧
      [y0.1, y1.1, y2.1] = [.held a, .held b, .held c] := by
    refine ⟨_, _, _, rfl, by kernel_rfl, by kernel_rfl, by kernel_rfl, by simp, by simp, by simp, ?_⟩
    have := congrArg Prod.fst ex
    simp only [DataW.funcsOut] at this
    injection this with this
    exact this.symm
  obtain ⟨a, b, c, _, fa, fb, fc, na, nb, nc, e3⟩ := e2
  simp only [List.cons.injEq, and_true] at e3
  obtain ⟨z0, z1, z2⟩ := e3
  have g0 := hx 0 (by omega)
  have g1 := hx 1 (by omega)
  have g2 := hx 2 (by omega)
  rw [hc1] at g0 g1 g2
  have key : ∀ (v : Value) (y : DataW (List UInt8) × List MemPlace) (l : List UInt8) (f0 : FuncId), DataW.trod (funcToken Tryz.prog) Tryz.prog W 0 (fun _ => true) true m 106 [v] = some y → y.1 = .held l → l ≠ [] → ((List.range Tryz.prog.funcs.size).filter fun f => (Tryz.prog.funcs[f]?).any (·.name.toUTF8.data.toList == l)) = [f0] → v = .func (.func f0) #[] #[] := by
    intro v y l f0 h1 h2 h3 h4
    obtain ⟨y1, y2⟩ := y
    obtain rfl : y1 = .held l := h2
    cases l with
    | nil => exact absurd rfl h3
    | cons b0 r0 => exact func_of_trod h106 h4 h1
  obtain rfl := key c0 y0 a 199 g0 z0 na fa
  obtain rfl := key c1 y1 b 200 g1 z1 nb fb
  obtain rfl := key c2 y2 c 201 g2 z2 nc fc
  unfold World.var? at hv
  rw [hg] at hv
  simp only [Option.bind_some] at hv
  split at hv
  · rename_i cs t f hb
    obtain rfl := Option.some.inj hv
    exact ⟨t, f, hb⟩
  · cases hv
end Go.Proofs.YtlbkicemccikgaaGreatDoor
