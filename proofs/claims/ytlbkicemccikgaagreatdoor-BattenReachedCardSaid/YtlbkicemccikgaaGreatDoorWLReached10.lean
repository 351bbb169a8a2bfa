/- A part of the proof of a law: my own separation logic over the machine, and walks of the program. Condition of each theorem: as its statement says. -/
import Derived.Test.YtlbkicemccikgaaGreatDoorWLReached9
import Derived.SevenTiedAt
import Derived.LaidOnce
import Derived.Test.YtlbkicemccikgaaGreatDoorCards
import Derived.Test.YtlbkicemccikgaaGreatDoorTie
set_option linter.all false
namespace Go.Proofs
open Go.Lo
open Go.Conc (G)
set_option maxRecDepth 100000
set_option synthInstance.maxSize 100000
set_option synthInstance.maxHeartbeats 1000000
set_option maxHeartbeats 4000000
variable {B : Array Obj}
variable [Laid B]
section
variable {P : Program} {B : Array Obj} {m : Md P B} {ops : Array Oper} {l l' : List Value} {S h h' H : Hp} {C : List Value → Hp → Prop} {i : Nat} {kd : Kd} {r : List (Nat × Kd)}
  {d : Option Tmp} {ty : TypeId} {pos : String} {af : Array Edge} {g : Option (Nat × Bool)}
theorem k_rem16 {t u : TypeId} {x y : Operand} {a b : Nat} (ho : ops[i]? = some ⟨d, .binOp .rem t x y u, ty, pos, af, g⟩) (hw : Wt ops l g) [KHeap kd S h H] [ex : OpV l x (.int .u16 (a : Int))] [ey : OpV l y (.int .u16 (b : Int))] (hb : 0 < b) [PutV l d (.int .u16 ((a % b : Nat) : Int)) l'] (q : RegK m S ops r l' h C) : RegK m S ops ((i, kd) :: r) l h C :=
  RegK.rd (v := .int .u16 ((a % b : Nat) : Int)) ho hw (reads_int ex.eq ey.eq (by simp) (by
    have : (b : Int) ≠ 0 := by omega
    simp only [binOp, Op.intDiv, if_neg this, Int.ofNat_tmod]
    rfl)) q
end
theorem setX_facts {b : Bk} (h0 : bookS b = 0) {st : Nat} (hst : st < b.marks.length) {x : Sp} (hx : (b.marks.getD st default).lo ≤ x.lo ∧ x.lo ≤ x.hi ∧ x.hi ≤ (b.marks.getD st default).hi) :
    bookS (setB b st x) = 0 ∧ ∀ l, l ∈ boatsOf (setB b st x) ↔ l ∈ boatsOf b ∧ x.lo ≤ l.getD st 0 ∧ l.getD st 0 ≤ x.hi := by
  have hv := valid_of h0
  obtain ⟨m1, m2, m3⟩ := marks_zero h0
  have hml : (setB b st x).marks.length = b.marks.length := List.length_set
  have at' : ∀ i, (setB b st x).marks.getD i default = if i = st then x else b.marks.getD i default := fun i => by
    show (b.marks.set st x).getD i default = _
    by_cases e : i = st
    · subst e; rw [if_pos rfl, List.getD_eq_getElem?_getD, List.getElem?_set_self hst]; rfl
    · rw [if_neg e, List.getD_eq_getElem?_getD, List.getElem?_set_ne (fun y => e y.symm), ← List.getD_eq_getElem?_getD]
  have hmk : ∀ y ∈ (setB b st x).marks, okM y := fun y hy => by
    obtain ⟨i, hi, rfl⟩ := mem_getDR.1 hy
    rw [at']; split
    · have := hv.marks _ (mem_getDR.2 ⟨st, hst, rfl⟩)
      unfold okM at this ⊢; omega
    · exact hv.marks _ (mem_getDR.2 ⟨i, by omega, rfl⟩)
  have hmm := hv.many
  have h1 : bookS (setB b st x) = 0 := by
    have e1 : marksS (setB b st x).marks = 0 := by rw [marksS, if_neg (by omega), if_pos hmk]
    rw [bookS]; show (if ¬ (0 ≤ b.bend ∧ b.bend ≤ 99) ∨ ¬ (0 ≤ b.twist ∧ b.twist ≤ 99) ∨ ¬ (0 ≤ b.turns ∧ b.turns ≤ 5) then (1 : Int) else if marksS (setB b st x).marks ≠ 0 then _ else rulesS (setB b st x).marks.length b.rules) = 0
    rw [if_neg m3, if_neg (fun e => e e1), hml]; exact m2
  refine ⟨h1, fun l => ⟨fun h => ?_, fun ⟨h, ha, hb⟩ => ?_⟩⟩
  · obtain ⟨c1, c2, c3, _⟩ := boat_handed h1 h
    rw [hml] at c3
    have hs := c2.1 st (by omega)
    rw [at', if_pos rfl] at hs
    have hbt : boat b l := by
      refine ⟨fun i hi => ?_, c2.2.1, c2.2.2⟩
      have := c2.1 i hi
      rw [at'] at this
      split at this
      · rename_i e; subst e; omega
      · exact this
    refine ⟨(boats_iff h0).2 ⟨?_, hbt⟩, hs⟩
    rw [handedS, if_neg (fun e => e h0)]; have := (handedS_zero c1).2
    rwa [hml] at this
  · obtain ⟨c1, c2, c3, _⟩ := boat_handed h0 h
    refine (boats_iff h1).2 ⟨?_, fun i hi => ?_, c2.2.1, c2.2.2⟩
    · rw [handedS, if_neg (fun e => e h1), hml]; exact (handedS_zero c1).2
    · rw [at']; split
      · rename_i e; subst e; exact ⟨ha, hb⟩
      · exact c2.1 i hi
theorem meas_known {b : Bk} (h0 : bookS b = 0) {st : Nat} (hst : st < b.marks.length) {t : Int} (ht : 0 ≤ t ∧ t ≤ 959) :
    (t ∈ heightsAt (boatsOf b) st ∧ measS b st ⟨t, t⟩ = 0 ∧ measB b st ⟨t, t⟩ = setB b st ⟨t, t⟩) ∨ (¬ t ∈ heightsAt (boatsOf b) st ∧ measS b st ⟨t, t⟩ = 9 ∧ measB b st ⟨t, t⟩ = noBk) := by
  have e0 : measS0 b st ⟨t, t⟩ = if ¬ (max (b.marks.getD st default).lo t ≤ min (b.marks.getD st default).hi t) then 9 else 0 := by
    rw [measS0, if_neg (fun e => e h0), if_neg (fun e => e (by omega)), if_neg (fun e => e (by simp only; omega)), Int.toNat_natCast]
  have hin : ∀ l ∈ boatsOf b, (b.marks.getD st default).lo ≤ l.getD st 0 ∧ l.getD st 0 ≤ (b.marks.getD st default).hi := fun l hl => by
    obtain ⟨_, c2, c3, _⟩ := boat_handed h0 hl
    exact c2.1 st (by omega)
  by_cases hm : (b.marks.getD st default).lo ≤ t ∧ t ≤ (b.marks.getD st default).hi
  · rw [if_neg (fun e => e (by omega))] at e0
    have eB : measB0 b st ⟨t, t⟩ = setB b st ⟨t, t⟩ := by
      rw [measB0, Int.toNat_natCast, meetSp]; simp only
      rw [show max (b.marks.getD st default).lo t = t by omega, show min (b.marks.getD st default).hi t = t by omega]
    obtain ⟨f1, f2⟩ := setX_facts h0 hst (x := ⟨t, t⟩) ⟨hm.1, Int.le_refl _, hm.2⟩
    rw [measS, measB, if_neg (fun e => e e0), if_neg (fun e => e e0), eB, agreeS, agreeB]; by_cases hb : boatsOf (setB b st ⟨t, t⟩) = []
    · right
      rw [(no_boats f1 hb).1, if_neg (by decide)]; refine ⟨fun h => ?_, rfl, rfl⟩
      obtain ⟨l, hl, e⟩ := List.mem_map.1 h
      have := (f2 l).2 ⟨hl, by simp only; omega, by simp only; omega⟩
      rw [hb] at this; simp at this
    · left
      rw [openS_boats f1 hb, if_pos rfl]; obtain ⟨l, hl⟩ := List.exists_mem_of_ne_nil _ hb
      obtain ⟨a1, a2, a3⟩ := (f2 l).1 hl
      exact ⟨List.mem_map.2 ⟨l, a1, by simp only at a2 a3; omega⟩, rfl, rfl⟩
  · rw [if_pos (by omega)] at e0
    right
    have n9 : measS0 b st ⟨t, t⟩ ≠ 0 := by rw [e0]; decide
    rw [measS, measB, if_pos n9, if_pos n9]; refine ⟨fun h => hm ?_, e0, rfl⟩
    obtain ⟨l, hl, e⟩ := List.mem_map.1 h
    have := hin l hl
    omega
theorem sumL_cons (x : Int) (l : List Int) : sumL (x :: l) = x + sumL l := by
  have gen : ∀ (l : List Int) (a : Int), l.foldl (· + ·) a = a + l.foldl (· + ·) 0 := by
    intro l
    induction l with
    | nil => intro a; simp
    | cons y l ih => intro a; rw [List.foldl_cons, List.foldl_cons, ih, ih (0 + y)]; omega
  unfold sumL
  rw [List.foldl_cons, gen]; omega
theorem sumL_zero {α : Type} (ys : List α) : sumL (ys.map fun _ => (0 : Int)) = 0 := by
  induction ys with
  | nil => rfl
  | cons y l ih => rw [List.map_cons, sumL_cons, ih]; rfl
theorem sumL_add {α : Type} (f g : α → Int) (ys : List α) : sumL (ys.map fun y => f y + g y) = sumL (ys.map f) + sumL (ys.map g) := by
  induction ys with
  | nil => rfl
  | cons y l ih => rw [List.map_cons, List.map_cons, List.map_cons, sumL_cons, sumL_cons, sumL_cons, ih]; omega
theorem sumL_one {ys : List Int} (h : ys.Nodup) {x : Int} (hx : x ∈ ys) : sumL (ys.map fun y => if x = y then (1 : Int) else 0) = 1 := by
  induction ys with
  | nil => simp at hx
  | cons y l ih =>
    obtain ⟨h1, h2⟩ := List.nodup_cons.1 h
    rw [List.map_cons, sumL_cons]; by_cases e : x = y
    · subst e
      rw [if_pos rfl]; have : (l.map fun y => if x = y then (1 : Int) else 0) = l.map fun _ => (0 : Int) := List.map_congr_left fun z hz => if_neg fun e => h1 (by rw [e]; exact hz)
      rw [this, sumL_zero]; rfl
    · rw [if_neg e, ih h2 (by
        rcases List.mem_cons.1 hx with h | h
        · exact absurd h e
        · exact h)]; rfl
theorem cntsF_sum {ys : List Int} (hn : ys.Nodup) (st : Nat) : ∀ ll : List (List Int), (∀ l ∈ ll, l.getD st 0 ∈ ys) → sumL (cntsF ll st ys) = ll.length
  | [], _ => by
    unfold cntsF countAt
    simp only [List.filter_nil, List.length_nil]
    exact sumL_zero ys
  | l :: ll, h => by
    have ih := cntsF_sum hn st ll fun z hz => h z (List.mem_cons_of_mem _ hz)
    have e : cntsF (l :: ll) st ys = ys.map fun y => (if l.getD st 0 = y then (1 : Int) else 0) + (countAt ll st y : Int) := by
      unfold cntsF countAt
      refine List.map_congr_left fun y _ => ?_
      rw [List.filter_cons]; by_cases e : l.getD st 0 = y
      · rw [if_pos (decide_eq_true e), if_pos e, List.length_cons]; omega
      · rw [if_neg (by rw [decide_eq_true_iff]; exact e), if_neg e]; omega
    rw [e, sumL_add, sumL_one hn (h l List.mem_cons_self)]; have ih' : sumL (ys.map fun y => (countAt ll st y : Int)) = ll.length := ih
    rw [ih', List.length_cons]; omega
theorem sumL_snoc (xs : List Int) (y : Int) : sumL (xs ++ [y]) = sumL xs + y := by unfold sumL; rw [List.foldl_append]; rfl
theorem cntsF_succ {ll : List (List Int)} {st : Nat} {ys : List Int} {k : Nat} (h : k < ys.length) : sumL (cntsF ll st (ys.take (k + 1))) = sumL (cntsF ll st (ys.take k)) + (countAt ll st (ys.getD k 0) : Int) := by
  rw [take_succD h, cntsF, List.map_append, ← cntsF]; exact sumL_snoc _ _
theorem cntsF_le {ll : List (List Int)} {st : Nat} {ys : List Int} : ∀ k, 0 ≤ sumL (cntsF ll st (ys.take k)) ∧ sumL (cntsF ll st (ys.take k)) ≤ k * ll.length
  | 0 => ⟨Int.le_refl _, by simp [cntsF, sumL]⟩
  | k + 1 => by
    have ih := cntsF_le (ll := ll) (st := st) (ys := ys) k
    by_cases h : k < ys.length
    · rw [cntsF_succ h]; have := countAt_le ll st (ys.getD k 0)
      have e : ((k + 1 : Nat) : Int) * ll.length = k * ll.length + ll.length := by rw [Int.natCast_add, Int.add_mul]; omega
      rw [e]; omega
    · rw [List.take_of_length_le (by omega)] at ih ⊢
      have e : ((k + 1 : Nat) : Int) * ll.length = k * ll.length + ll.length := by rw [Int.natCast_add, Int.add_mul]; omega
      rw [e]; omega
theorem f17_t (h : Hp) {b : Bk} {pm : Option Addr} {nm cm : Nat} {pr : Option Addr} {nr cr : Nat} (rdm : RdS B h 2 (.slice pm nm cm) nm (encs b.marks)) (rdr : RdS B h 4 (.slice pr nr cr) nr (encs b.rules)) {x z : Nat} (hx : x ≤ 255) (hz : z ≤ 65535) : (Md.star Tryz.prog B).R (AtEnd Tryz.prog B fun v _ => v = .bool true) (G (Frame.enter Tryz.prog 17 #[bkV b pm nm cm pr nr cr, .int .u8 (x : Int), .int .u16 (z : Int)] .normal) []) h := by
  refine top_enter Tryz.func17 rfl rfl (l := (bkV b pm nm cm pr nr cr) :: (.int .u8 (x : Int)) :: (.int .u16 (z : Int)) :: uu190) rfl ?_
  refine rs2 (by kernel_rfl) ?_; refine k_box rfl zq (fun q3 => k_hp (k_put ?_)); refine aq rfl ?_; refine run_seq ?_; refine rs3 (by kernel_rfl) ?_; refine k_ldA rfl zq ?_; refine k_calP (Post := fun v => IsB _ v) rfl zq (by kernel_rfl) (fun H' hH => f48_c _ H' (rdm.keeps (sq hH)) (rdr.keeps (sq hH))) ?_; rintro v (⟨hc, rfl⟩ | ⟨hc, rfl⟩)
  · refine k_put ?_; refine k_notT rfl zq ?_; refine k_nil ?_; refine run_no ?_; refine run_skip ?_; refine run_seq ?_; obtain ⟨hm20, hr20, hb0⟩ : nm ≤ 20 ∧ nr ≤ 20 ∧ bookS b = 0 := by assumption
    have hm : nm ≤ 1000 := by omega
    have hr : nr ≤ 1000 := by omega
    have hml := rdm.elen (by decide)
    have hv := valid_of hb0
    have hbl := boats_le hv
    have hmany := hv.many
    have hrl := rdr.elen (by decide)
    refine rr7 (by kernel_rfl) ?_; refine mq rfl ?_; refine k_conv rfl zq (by kernel_rfl) (n' := (x : Int)) (by unfold IntKind.wrap; simp [IntKind.bits, IntKind.signed]; omega) ?_; first | refine k_fa0 rfl zq ?_ | refine k_fa rfl zq ?_
    refine k_ldh rfl zq ?_; refine k_len rfl zq ?_; refine k_rem (a := x) (b := nm) rfl zq (by omega) ?_; have hst := Nat.mod_lt x (show nm > 0 by omega)
    generalize x % nm = st at hst ⊢
    refine aq rfl ?_; refine rs8 (by kernel_rfl) ?_; refine k_ldA rfl zq ?_; refine mq rfl ?_; refine k_calC rfl zq (by kernel_rfl) (Post := fun v new => ∃ w ys, v = .tuple [w, .int .i64 (openS b 0)].toArray ∧ OwnS 3 1 w ys.length (ints ys) new ∧ Asc ys ∧ (∀ z, z ∈ ys ↔ z ∈ heightsAt (boatsOf b) st) ∧ ys.length ≤ 3) (fun H' hH => f36_b _ H' (b := b) (rdm.keeps (sq hH)) hm (rdr.keeps (sq hH)) hr hb0 (by omega)) ?_; rintro v n36 ⟨w36, y36, rfl, o36, ha36, hm36, hl36⟩; obtain ⟨p36, c36, rfl, _, r36⟩ := own_rdA (B := B) o36
    refine k_hpA (k_put ?_); have hy9 : ∀ y ∈ y36, 0 ≤ y ∧ y ≤ 959 := fun y hy => by
      obtain ⟨l, hl, e⟩ := List.mem_map.1 ((hm36 y).1 hy)
      obtain ⟨c1, _, c3, _⟩ := boat_handed hb0 hl
      have := (lineS_zero (handedS_zero c1).2).2 _ (mem_getD.2 ⟨st, by omega, rfl⟩)
      omega
    refine mq rfl ?_; refine k_ext0 rfl zq ?_; refine k_ext1 rfl zq ?_; refine k_as rfl zq ?_; refine aq rfl ?_; refine rs7 (by kernel_rfl) ?_; refine k_ldA rfl zq ?_; refine k_calP (Post := fun v => v = .tuple [.int .i64 ((boatsOf b).length : Int), .int .i64 0].toArray) rfl zq (by kernel_rfl) (fun H' hH => f34_b _ H' (b := b) (rdm.keeps (sq hH)) hm (rdr.keeps (sq hH)) hr hb0) ?_; rintro v rfl; refine k_put ?_; refine mq rfl ?_; refine k_ext0 rfl zq ?_; refine k_ext1 rfl zq ?_; refine k_as rfl zq ?_; refine aq rfl ?_; refine run_seqJ (fun l' h' => (∃ U : Nat → Value, l' = [U 0, U 1, .int .u16 (z : Int), .pointer (some ⟨q3, 0, none⟩), U 4, U 5, U 6, .int .i64 (st : Int), .slice p36 y36.length c36, U 9, .int .i64 ((boatsOf b).length : Int), U 11, U 12, U 13, U 14, U 15, U 16, U 17, U 18, U 19, U 20, U 21, U 22, U 23, U 24, U 25, U 26, U 27, U 28, U 29, U 30, U 31, U 32, U 33, U 34, U 35, U 36, U 37, U 38, U 39, U 40, U 41, U 42, U 43, U 44, U 45, U 46, U 47, U 48, U 49, U 50, U 51, U 52, U 53, U 54, U 55, U 56, U 57, U 58, U 59, U 60, U 61, U 62, U 63, U 64, U 65, U 66, U 67, U 68, U 69, U 70, U 71, U 72, U 73, U 74, U 75, U 76, U 77, U 78, U 79, U 80, U 81, U 82, U 83, U 84, U 85, U 86, U 87, U 88, U 89, U 90, U 91, U 92, U 93, U 94, U 95, U 96, U 97, U 98, U 99, U 100, U 101, U 102, U 103, U 104, U 105, U 106, U 107, U 108, U 109, U 110, U 111, U 112, U 113, U 114, U 115, U 116, U 117, U 118, U 119, U 120, U 121, U 122, U 123, U 124, U 125, U 126, U 127, U 128, U 129, U 130, U 131, U 132, U 133, U 134, U 135, U 136, U 137, U 138, U 139, U 140, U 141, U 142, U 143, U 144, U 145, U 146, U 147, U 148, U 149, U 150, U 151, U 152, U 153, U 154, U 155, U 156, U 157, U 158, U 159, U 160, U 161, U 162, U 163, U 164, U 165, U 166, U 167, U 168, U 169, U 170, U 171, U 172, U 173, U 174, U 175, U 176, U 177, U 178, U 179, U 180, U 181, U 182, U 183, U 184, U 185, U 186, U 187, U 188, U 189, U 190, U 191, U 192]) ∧ h ++ [⟨true, q3, .cells (bkL b pm nm cm pr nr cr).toArray 25 (0, 0)⟩] ++ n36 = h') ?_ ?_
    · refine run_seq ?_; rcases Classical.em (boatsOf b = []) with hbn | hbn
      · rw [(no_boats hb0 hbn).1]; refine run_region [(0, .free), (1, .free), (2, .free), (3, .free), (4, .free), (5, .free), (6, .free), (7, .free), (8, .free), (9, .free), (10, .free), (11, .free), (12, .free), (13, .free), (14, .free), (15, .free), (16, .free), (17, .free), (18, .free), (19, .free), (20, .free), (21, .free)] (by kernel_rfl) (by kernel_rfl) ?_; refine mq rfl ?_; refine k_neqF rfl zq rfl ?_; refine mq rfl ?_; refine k_mv rfl rfl ?_; refine k_eqlT rfl rfl (by rw [hbn]; rfl) ?_; refine k_mv rfl rfl ?_; refine k_eqlT rfl rfl rfl ?_; refine k_neqBF rfl rfl (by kernel_rfl) rfl ?_; refine k_pickF rfl zq ?_; refine mq rfl ?_; refine k_mv rfl rfl ?_; refine k_neqT rfl rfl (by decide) ?_; refine k_mv rfl rfl ?_; refine k_mv rfl rfl ?_; refine k_neqF rfl rfl rfl ?_; refine k_pickT rfl rfl ?_; refine k_pickF rfl zq ?_; refine mq rfl ?_; refine k_mv rfl rfl ?_; refine k_len rfl rfl ?_; refine k_gtrF rfl rfl (by omega) ?_; refine k_pickF rfl zq ?_; refine k_nil ?_; refine run_no ?_; refine run_skip ?_; refine Md.stop _ (.inl ⟨_, rfl, ?_⟩)
        exact ⟨exU rfl, rfl⟩
      · rw [openS_boats hb0 hbn]; have hbp := List.length_pos_iff.2 hbn
        refine run_region [(0, .free), (1, .free), (2, .free), (3, .free), (4, .free), (5, .free), (6, .free), (7, .free), (8, .free), (9, .free), (10, .free), (11, .free), (12, .free), (13, .free), (14, .free), (15, .free), (16, .free), (17, .free), (18, .free), (19, .free), (20, .free), (21, .free)] (by kernel_rfl) (by kernel_rfl) ?_; refine mq rfl ?_; refine k_neqF rfl zq rfl ?_; refine mq rfl ?_; refine k_mv rfl rfl ?_; refine k_eqlF rfl rfl (by omega) ?_; refine k_mv rfl rfl ?_; refine k_eqlF rfl rfl (by decide) ?_; refine k_neqBF rfl rfl (by kernel_rfl) rfl ?_; refine k_pickF rfl zq ?_; refine mq rfl ?_; refine k_mv rfl rfl ?_; refine k_neqF rfl rfl rfl ?_; refine k_mv rfl rfl ?_; refine k_off rfl rfl ?_; refine k_off rfl rfl ?_; refine k_pickF rfl rfl ?_; refine k_pickF rfl zq ?_; refine mq rfl ?_; refine k_mv rfl rfl ?_; refine k_len rfl rfl ?_; refine k_gtrF rfl rfl (by omega) ?_; refine k_pickF rfl zq ?_; refine k_nil ?_; refine run_no ?_; refine run_skip ?_; refine Md.stop _ (.inl ⟨_, rfl, ?_⟩)
        exact ⟨exU rfl, rfl⟩
    · rintro l' h' ⟨⟨U, rfl⟩, rfl⟩; refine rs4 (by kernel_rfl) ?_; refine mq rfl ?_; refine k_conv rfl zq (by kernel_rfl) (n' := (z : Int)) (by unfold IntKind.wrap; simp [IntKind.bits, IntKind.signed]; omega) ?_; refine k_rem (a := z) (b := 960) rfl zq (by omega) ?_; have hz9 := Nat.mod_lt z (show 960 > 0 by omega)
      refine aq rfl ?_; refine run_seqJ (fun l' h' => ∃ t : Nat, t ≤ 959 ∧ (∃ U : Nat → Value, l' = [U 0, U 1, U 2, .pointer (some ⟨q3, 0, none⟩), U 4, U 5, U 6, .int .i64 (st : Int), .slice p36 y36.length c36, U 9, .int .i64 ((boatsOf b).length : Int), U 11, .int .i64 (t : Int), U 13, U 14, U 15, U 16, U 17, U 18, U 19, U 20, U 21, U 22, U 23, U 24, U 25, U 26, U 27, U 28, U 29, U 30, U 31, U 32, U 33, U 34, U 35, U 36, U 37, U 38, U 39, U 40, U 41, U 42, U 43, U 44, U 45, U 46, U 47, U 48, U 49, U 50, U 51, U 52, U 53, U 54, U 55, U 56, U 57, U 58, U 59, U 60, U 61, U 62, U 63, U 64, U 65, U 66, U 67, U 68, U 69, U 70, U 71, U 72, U 73, U 74, U 75, U 76, U 77, U 78, U 79, U 80, U 81, U 82, U 83, U 84, U 85, U 86, U 87, U 88, U 89, U 90, U 91, U 92, U 93, U 94, U 95, U 96, U 97, U 98, U 99, U 100, U 101, U 102, U 103, U 104, U 105, U 106, U 107, U 108, U 109, U 110, U 111, U 112, U 113, U 114, U 115, U 116, U 117, U 118, U 119, U 120, U 121, U 122, U 123, U 124, U 125, U 126, U 127, U 128, U 129, U 130, U 131, U 132, U 133, U 134, U 135, U 136, U 137, U 138, U 139, U 140, U 141, U 142, U 143, U 144, U 145, U 146, U 147, U 148, U 149, U 150, U 151, U 152, U 153, U 154, U 155, U 156, U 157, U 158, U 159, U 160, U 161, U 162, U 163, U 164, U 165, U 166, U 167, U 168, U 169, U 170, U 171, U 172, U 173, U 174, U 175, U 176, U 177, U 178, U 179, U 180, U 181, U 182, U 183, U 184, U 185, U 186, U 187, U 188, U 189, U 190, U 191, U 192]) ∧ h ++ [⟨true, q3, .cells (bkL b pm nm cm pr nr cr).toArray 25 (0, 0)⟩] ++ n36 = h') ?_ ?_
      · refine rs8 (by kernel_rfl) ?_; refine mq rfl ?_; refine k_len rfl zq ?_; refine k_gtrS rfl zq (fun hc => ?_) (fun hc => ?_)
        · refine mq rfl ?_; refine k_mv rfl rfl ?_; refine k_rem16 (a := z) (b := 3) rfl rfl (by omega) ?_; refine k_gtrS rfl rfl (fun hc => ?_) (fun hc => ?_)
          · refine k_pickT rfl zq ?_; refine k_nil ?_; refine run_yes ?_; refine rr9 (by kernel_rfl) ?_; refine mq rfl ?_; refine mq rfl ?_; refine k_conv rfl zq (by kernel_rfl) (n' := (z : Int)) (by unfold IntKind.wrap; simp [IntKind.bits, IntKind.signed]; omega) ?_; refine mq rfl ?_; refine k_len rfl zq ?_; refine k_rem (a := z) (b := y36.length) rfl zq (by omega) ?_; have hzy := Nat.mod_lt z (show y36.length > 0 by omega)
            generalize z % y36.length = iy at hzy ⊢
            obtain ⟨yb, yo, rfl⟩ := r36.ptr (by omega)
            refine k_ixs rfl zq (by first | rfl | assumption) (by omega) (by omega) ?_; refine k_ld rfl zq (r36.iat iy rfl (by omega)) ?_; have hyi := hy9 _ (mem_getD.2 ⟨iy, by omega, rfl⟩)
            obtain ⟨ty, hty⟩ : ∃ ty : Nat, y36.getD iy 0 = (ty : Int) := Int.eq_ofNat_of_zero_le hyi.1
            rw [hty] at hyi ⊢
            refine aq rfl ?_; refine Md.stop _ (.inl ⟨_, rfl, ?_⟩)
            first | exact ⟨z % 960, by omega, exU rfl, rfl⟩ | exact ⟨ty, by omega, exU rfl, rfl⟩
          · refine k_pickT rfl zq ?_; refine k_nil ?_; refine run_no ?_; refine run_skip ?_; refine Md.stop _ (.inl ⟨_, rfl, ?_⟩)
            first | exact ⟨z % 960, by omega, exU rfl, rfl⟩ | exact ⟨ty, by omega, exU rfl, rfl⟩
        · refine mq rfl ?_; refine k_off rfl rfl ?_; refine k_off rfl rfl ?_; refine k_off rfl rfl ?_; refine k_pickF rfl zq ?_; refine k_nil ?_; refine run_no ?_; refine run_skip ?_; refine Md.stop _ (.inl ⟨_, rfl, ?_⟩)
          first | exact ⟨z % 960, by omega, exU rfl, rfl⟩ | exact ⟨ty, by omega, exU rfl, rfl⟩
      · rintro l' h' ⟨t, ht9, ⟨U, rfl⟩, rfl⟩; refine run_seq ?_; refine run_draw [(1, .pure), (2, .pure), (0, .read), (3, .call), (4, .call), (5, .pure), (6, .pure), (7, .pure), (8, .alloc), (9, .free), (10, .pure)] (by kernel_rfl) (by kernel_rfl) (List.Sublist.refl _) ?_; refine mq rfl ?_; refine mq rfl ?_; refine k_ldA rfl zq ?_; refine k_calP (Post := fun v => v = _) rfl zq (by kernel_rfl) (fun H' hH => f84_c _ H' _) ?_; rintro v rfl; refine k_put ?_; refine k_calC rfl zq (by kernel_rfl) (Post := fun v new => ∃ w, v = .tuple [w, .int .i64 (measS b (st : Int) ⟨(t : Int), (t : Int)⟩)].toArray ∧ BkR B (measB b (st : Int) ⟨(t : Int), (t : Int)⟩) new w) (fun H' hH => f79_c _ H' (b := b) (rdm.keeps (sq hH)) hm (rdr.keeps (sq hH)) hr (st : Int) ⟨(t : Int), (t : Int)⟩) ?_; rintro v n11 ⟨w11, rfl, pm11, nm11, cm11, pr11, nr11, cr11, rfl, en11, er11, _, _, rm11, rr11⟩; refine k_hpA (k_put ?_); refine mq rfl ?_; refine k_ext0 rfl zq ?_; refine k_ext1 rfl zq ?_; refine k_new rfl zq (fun q13 => k_hp (k_put ?_)); refine k_stA rfl zq rfl ?_; refine aq rfl ?_; refine run_seq ?_; refine run_seq ?_; rcases meas_known hb0 (show st < b.marks.length by omega) (t := (t : Int)) (by omega) with ⟨hin, eS, eB⟩ | ⟨hin, eS, eB⟩
        · rw [eS, eB]; rw [eB] at en11 er11 rm11 rr11
          have hlen : (setB b st ⟨(t : Int), (t : Int)⟩).marks.length = b.marks.length := List.length_set
          obtain rfl : nm = nm11 := by omega
          have hrr : (setB b st ⟨(t : Int), (t : Int)⟩).rules.length = b.rules.length := rfl
          obtain rfl : nr = nr11 := by omega
          obtain ⟨l0, hl0, el0⟩ := List.mem_map.1 hin
          obtain ⟨sf1, sf2⟩ := setB_facts hb0 hl0 (show st < b.marks.length by omega)
          rw [el0] at sf1 sf2
          have sfn : boatsOf (setB b st ⟨(t : Int), (t : Int)⟩) ≠ [] := List.ne_nil_of_mem ((sf2 l0).2 ⟨hl0, el0⟩)
          have sfh : ∀ y, y ∈ heightsAt (boatsOf (setB b st ⟨(t : Int), (t : Int)⟩)) st ↔ y = t := fun y => by
            constructor
            · intro h
              obtain ⟨l, hl, e⟩ := List.mem_map.1 h
              rw [← e]; exact ((sf2 l).1 hl).2
            · rintro rfl; exact List.mem_map.2 ⟨l0, (sf2 l0).2 ⟨hl0, el0⟩, el0⟩
          refine run_region [(0, .free), (1, .free), (2, .free), (3, .free), (4, .free), (5, .free), (6, .free), (7, .free), (8, .free), (9, .free), (10, .free), (11, .free), (12, .free), (13, .free), (14, .free), (15, .free), (16, .free), (17, .free), (18, .free), (19, .free), (20, .free), (21, .free), (22, .free), (23, .free)] (by kernel_rfl) (by kernel_rfl) ?_; refine mq rfl ?_; refine k_eqlT rfl zq rfl ?_; refine mq rfl ?_; refine mq rfl ?_; refine k_calP (Post := fun v => IsB _ v) rfl zq (by kernel_rfl) (fun H' hH => f52_c _ H' _ (r36.keeps (sq hH)) (by omega)) ?_; rintro v (⟨hc, rfl⟩ | ⟨hc, rfl⟩)
          · refine k_put ?_; refine k_neqBF rfl zq (by kernel_rfl) rfl ?_; refine mq rfl ?_; refine k_mv rfl rfl ?_; refine k_neqF rfl rfl rfl ?_; refine k_mv rfl rfl ?_; refine k_off rfl rfl ?_; refine k_off rfl rfl ?_; refine k_off rfl rfl ?_; refine k_off rfl rfl ?_; refine k_off rfl rfl ?_; refine k_off rfl rfl ?_; refine k_off rfl rfl ?_; refine k_off rfl rfl ?_; refine k_off rfl rfl ?_; refine k_off rfl rfl ?_; refine k_off rfl rfl ?_; refine k_off rfl rfl ?_; refine k_pickF rfl rfl ?_; refine k_pickF rfl zq ?_; refine k_nil ?_; refine run_no ?_; refine run_skip ?_; refine run_seqJ (fun l' h' => ∃ G : Hp, (∃ U : Nat → Value, l' = [U 0, U 1, U 2, .pointer (some ⟨q3, 0, none⟩), U 4, U 5, U 6, .int .i64 (st : Int), .slice p36 y36.length c36, U 9, .int .i64 ((boatsOf b).length : Int), U 11, U 12, U 13, U 14, U 15, U 16, U 17, U 18, U 19, U 20, U 21, U 22, U 23, U 24, U 25, U 26, U 27, U 28, U 29, U 30, U 31, U 32, U 33, U 34, U 35, U 36, U 37, U 38, U 39, U 40, U 41, U 42, U 43, U 44, U 45, U 46, U 47, U 48, U 49, U 50, U 51, U 52, U 53, U 54, U 55, U 56, U 57, U 58, U 59, U 60, U 61, U 62, U 63, U 64, U 65, U 66, U 67, U 68, U 69, U 70, U 71, U 72, U 73, U 74, U 75, U 76, U 77, U 78, U 79, U 80, U 81, U 82, U 83, U 84, U 85, U 86, U 87, U 88, U 89, U 90, U 91, U 92, U 93, U 94, U 95, U 96, U 97, U 98, U 99, U 100, U 101, U 102, U 103, U 104, U 105, U 106, U 107, U 108, U 109, U 110, U 111, U 112, U 113, U 114, U 115, U 116, U 117, U 118, U 119, U 120, U 121, U 122, U 123, U 124, U 125, U 126, U 127, U 128, U 129, U 130, U 131, U 132, U 133, U 134, U 135, U 136, U 137, U 138, U 139, U 140, U 141, U 142, U 143, U 144, U 145, U 146, U 147, U 148, U 149, U 150, U 151, U 152, U 153, U 154, U 155, U 156, U 157, U 158, U 159, U 160, U 161, U 162, U 163, U 164, U 165, U 166, U 167, U 168, U 169, U 170, U 171, U 172, U 173, U 174, U 175, U 176, U 177, U 178, U 179, U 180, U 181, U 182, U 183, U 184, U 185, U 186, U 187, U 188, U 189, U 190, U 191, U 192]) ∧ h ++ [⟨true, q3, .cells (bkL b pm nm cm pr nr cr).toArray 25 (0, 0)⟩] ++ n36 ++ G = h') ?_ ?_
            · refine rs2 (by kernel_rfl) ?_; refine mq rfl ?_; refine k_eqlT rfl zq rfl ?_; refine k_nil ?_; refine run_yes ?_; refine rs8 (by kernel_rfl) ?_; refine k_ldA rfl zq ?_; refine mq rfl ?_; refine k_calC rfl zq (by kernel_rfl) (Post := fun v new => ∃ w, v = .tuple [w, .int .i64 0].toArray ∧ OwnS 3 1 w 1 (ints [(t : Int)]) new) (fun H' hH => (f36_b _ H' (b := setB b st ⟨(t : Int), (t : Int)⟩) (rm11.keeps (sq hH)) hm (rr11.keeps (sq hH)) hr sf1 (by omega)).mono fun v h' hh => by
                obtain ⟨new, e1, w, ys, e2, e3, e4, e5, _⟩ := hh
                obtain rfl : ys = [(t : Int)] := asc_ext _ _ e4 (by simp [Asc]) fun y => by rw [e5, sfh]; simp
                rw [openS_boats sf1 sfn] at e2
                exact ⟨new, e1, w, e2, e3⟩) ?_
              rintro v n15 ⟨w15, rfl, o15⟩; obtain ⟨p15, c15, rfl, _, r15⟩ := own_rdA (B := B) o15
              refine k_hpA (k_put ?_); refine mq rfl ?_; refine k_ext0 rfl zq ?_; refine k_ext1 rfl zq ?_; refine k_as rfl zq ?_; refine aq rfl ?_; refine run_seq ?_; refine run_draw [(0, .pure), (1, .pure), (2, .pure), (5, .pure), (6, .pure), (3, .read), (4, .read), (7, .keep), (8, .keep), (9, .keep), (10, .pure), (11, .pure), (12, .pure), (13, .pure), (14, .pure), (15, .keep), (16, .keep), (17, .pure), (18, .pure)] (by kernel_rfl) (by kernel_rfl) (List.Sublist.refl _) ?_; refine mq rfl ?_; refine k_neqF rfl zq rfl ?_; refine mq rfl ?_; refine k_mv rfl rfl ?_; refine k_mv rfl rfl ?_; refine k_ldA rfl rfl ?_; refine k_ldA rfl rfl ?_; refine k_calP (Post := fun v => v = _) rfl rfl (by kernel_rfl) (fun H' hH => f84_c _ H' _) ?_; rintro v rfl; refine k_put ?_; refine k_calC rfl rfl (by kernel_rfl) (Post := fun v new => ∃ pm2 cm2, v = bkV (setB b st ⟨(t : Int), (t : Int)⟩) pm2 nm cm2 pr nr cr ∧ nm ≤ cm2 ∧ RdS B new 2 (.slice pm2 nm cm2) nm (encs (setB b st ⟨(t : Int), (t : Int)⟩).marks)) (fun H' hH => f85_c _ H' (rdm.keeps (sq hH)) hm (by omega) ⟨(t : Int), (t : Int)⟩) ?_; rintro v n85a ⟨pm2, cm2, rfl, hcm2, rm85⟩; refine k_hpA (k_put ?_); refine k_calP (Post := fun v => IsB _ v) rfl rfl (by kernel_rfl) (fun H' hH => f75_c _ H' (b := setB b st ⟨(t : Int), (t : Int)⟩) (b2 := setB b st ⟨(t : Int), (t : Int)⟩) (rm11.keeps (sq hH)) hm (rr11.keeps (sq hH)) hr (rm85.keeps (sq hH)) hm (rdr.keeps (sq hH)) hr) ?_; rintro v (⟨hc, rfl⟩ | ⟨hc, rfl⟩)
              · refine k_put ?_; refine k_notT rfl rfl ?_; refine k_pickF rfl zq ?_; refine mq rfl ?_; refine k_mv rfl rfl ?_; refine k_mv rfl rfl ?_; refine k_bs kdq rfl rfl (by decide) (by decide) rfl (fun q139 => k_hp (k_put ?_)); have rd139 : RdS B [⟨true, q139, .cells [.int .i64 (t : Int)].toArray 3 (0, 0)⟩] 1 (.slice (some ⟨q139, 0, none⟩) 1 1) 1 (ints [(t : Int)]) := (OwnS.full (t := 3) (q := q139) (cs := ints [(t : Int)]) rfl).rd (List.Sublist.refl _)
                refine k_calP (Post := fun v => IsB _ v) rfl rfl (by kernel_rfl) (fun H' hH => f31_c _ H' (r15.keeps (sq hH)) (by omega) (rd139.keeps (sq hH))) ?_; rintro v (⟨hc, rfl⟩ | ⟨hc, rfl⟩)
                · refine k_put ?_; refine k_notT rfl rfl ?_; refine k_pickF rfl zq ?_; refine k_nil ?_; refine run_no ?_; refine run_skip ?_; refine Md.stop _ (.inl ⟨_, rfl, ?_⟩)
                  exact ⟨_, exU rfl, by simp only [List.append_assoc] <;> rfl⟩
                · refine k_put ?_; exact absurd rfl hc
              · refine k_put ?_; exact absurd ⟨rfl, rfl, rfl, rfl, rfl⟩ hc
            · rintro l' h' ⟨G, ⟨U, rfl⟩, rfl⟩; refine rs1 (by kernel_rfl) ?_; refine aq rfl ?_; refine run_seq ?_; refine rs1 (by kernel_rfl) ?_; refine aq rfl ?_; refine run_block ?_; refine run_loop (fun nn l h' => ∃ (k : Nat), nn = y36.length - k ∧ (k ≤ y36.length) ∧ (∃ U : Nat → Value, l = [U 0, U 1, U 2, .pointer (some ⟨q3, 0, none⟩), U 4, U 5, U 6, .int .i64 (st : Int), .slice p36 y36.length c36, U 9, .int .i64 ((boatsOf b).length : Int), U 11, U 12, U 13, U 14, U 15, .int .i64 (sumL (cntsF (boatsOf b) st (y36.take k))), .int .i64 (k : Int), U 18, U 19, U 20, U 21, U 22, U 23, U 24, U 25, U 26, U 27, U 28, U 29, U 30, U 31, U 32, U 33, U 34, U 35, U 36, U 37, U 38, U 39, U 40, U 41, U 42, U 43, U 44, U 45, U 46, U 47, U 48, U 49, U 50, U 51, U 52, U 53, U 54, U 55, U 56, U 57, U 58, U 59, U 60, U 61, U 62, U 63, U 64, U 65, U 66, U 67, U 68, U 69, U 70, U 71, U 72, U 73, U 74, U 75, U 76, U 77, U 78, U 79, U 80, U 81, U 82, U 83, U 84, U 85, U 86, U 87, U 88, U 89, U 90, U 91, U 92, U 93, U 94, U 95, U 96, U 97, U 98, U 99, U 100, U 101, U 102, U 103, U 104, U 105, U 106, U 107, U 108, U 109, U 110, U 111, U 112, U 113, U 114, U 115, U 116, U 117, U 118, U 119, U 120, U 121, U 122, U 123, U 124, U 125, U 126, U 127, U 128, U 129, U 130, U 131, U 132, U 133, U 134, U 135, U 136, U 137, U 138, U 139, U 140, U 141, U 142, U 143, U 144, U 145, U 146, U 147, U 148, U 149, U 150, U 151, U 152, U 153, U 154, U 155, U 156, U 157, U 158, U 159, U 160, U 161, U 162, U 163, U 164, U 165, U 166, U 167, U 168, U 169, U 170, U 171, U 172, U 173, U 174, U 175, U 176, U 177, U 178, U 179, U 180, U 181, U 182, U 183, U 184, U 185, U 186, U 187, U 188, U 189, U 190, U 191, U 192]) ∧ h ++ [⟨true, q3, .cells (bkL b pm nm cm pr nr cr).toArray 25 (0, 0)⟩] ++ n36 ++ G = h') _ ⟨0, rfl, by omega, exU rfl, rfl⟩ ?_; rintro nn l h' ⟨k, rfl, hk, ⟨U, rfl⟩, rfl⟩ hnext; refine run_seq ?_; refine rs4 (by kernel_rfl) ?_
              refine mq rfl ?_; refine mq rfl ?_; refine k_len rfl zq ?_; refine k_lssS rfl zq (fun hc => ?_) (fun hc => ?_)
              · refine k_nil ?_; refine run_yes ?_; refine run_skip ?_; refine run_seq ?_; refine run_block ?_; refine run_seq ?_; have hyk : y36.getD k 0 ∈ y36 := mem_getD.2 ⟨k, by omega, rfl⟩
                have hy9k := hy9 _ hyk
                obtain ⟨hin, eS, eB⟩ := (meas_known hb0 (show st < b.marks.length by omega) hy9k).resolve_right (fun e => e.1 ((hm36 _).1 hyk))
                obtain ⟨l0, hl0, el0⟩ := List.mem_map.1 hin
                obtain ⟨sf1, _⟩ := setB_facts hb0 hl0 (show st < b.marks.length by omega)
                have sf2 := setB_count hb0 hl0 (show st < b.marks.length by omega)
                rw [el0] at sf1 sf2
                have hsum := cntsF_succ (ll := boatsOf b) (st := st) (ys := y36) (k := k) (by omega)
                have hcl := cntsF_le (ll := boatsOf b) (st := st) (ys := y36) (k + 1)
                have hk3 : k + 1 ≤ 3 := by omega
                have hmul : ((k + 1 : Nat) : Int) * (boatsOf b).length ≤ 3 * 2187 := Int.mul_le_mul (by omega) (by omega) (by omega) (by omega)
                have hc0 := cntsF_le (ll := boatsOf b) (st := st) (ys := y36) k
                refine run_draw [(1, .pure), (2, .pure), (3, .pure), (4, .pure), (0, .read), (5, .read), (6, .call), (7, .call), (8, .pure), (9, .pure), (10, .pure), (11, .alloc), (12, .free), (13, .pure)] (by kernel_rfl) (by kernel_rfl) (List.Sublist.refl _) ?_; refine mq rfl ?_; refine mq rfl ?_; refine mq rfl ?_; obtain ⟨r36_b, r36_o, rfl⟩ := r36.ptr (by omega)
                refine k_ixs rfl zq (by first | rfl | assumption) (by omega) (by omega) ?_; refine k_ldA rfl zq ?_; refine k_ld rfl zq (r36.iat k (by omega) (by omega)) ?_; refine k_calP (Post := fun v => v = _) rfl zq (by kernel_rfl) (fun H' hH => f84_c _ H' _) ?_; rintro v rfl; refine k_put ?_; refine k_calC rfl zq (by kernel_rfl) (Post := fun v new => ∃ w, v = .tuple [w, .int .i64 (measS b (st : Int) ⟨y36.getD k 0, y36.getD k 0⟩)].toArray ∧ BkR B (measB b (st : Int) ⟨y36.getD k 0, y36.getD k 0⟩) new w) (fun H' hH => f79_c _ H' (b := b) (rdm.keeps (sq hH)) hm (rdr.keeps (sq hH)) hr (st : Int) ⟨y36.getD k 0, y36.getD k 0⟩) ?_; rintro v n22 ⟨w22, rfl, pm22, nm22, cm22, pr22, nr22, cr22, rfl, en22, er22, _, _, rm22, rr22⟩; refine k_hpA (k_put ?_); rw [eS, eB]; rw [eB] at en22 er22 rm22 rr22
                have hlen : (setB b st ⟨y36.getD k 0, y36.getD k 0⟩).marks.length = b.marks.length := List.length_set
                obtain rfl : nm = nm22 := by omega
                have hrr : (setB b st ⟨y36.getD k 0, y36.getD k 0⟩).rules.length = b.rules.length := rfl
                obtain rfl : nr = nr22 := by omega
                refine mq rfl ?_; refine k_ext0 rfl zq ?_; refine k_ext1 rfl zq ?_; refine k_new rfl zq (fun q18 => k_hp (k_put ?_)); refine k_stA rfl zq rfl ?_; refine aq rfl ?_; refine rs7 (by kernel_rfl) ?_; refine k_ldA rfl zq ?_; refine k_calP (Post := fun v => v = .tuple [.int .i64 (countAt (boatsOf b) st (y36.getD k 0) : Int), .int .i64 0].toArray) rfl zq (by kernel_rfl) (fun H' hH => by have := f34_b (Md.star Tryz.prog B) H' (b := setB b st ⟨y36.getD k 0, y36.getD k 0⟩) (rm22.keeps (sq hH)) hm (rr22.keeps (sq hH)) hr sf1; rwa [sf2] at this) ?_; rintro v rfl; refine k_put ?_; refine mq rfl ?_; refine k_ext0 rfl zq ?_; refine k_ext1 rfl zq ?_; refine k_as rfl zq ?_; refine aq rfl ?_; refine run_seq ?_; refine run_seq ?_; refine run_draw [(0, .pure), (1, .pure), (2, .pure), (3, .pure), (4, .pure), (5, .pure), (6, .pure), (9, .pure), (10, .pure), (11, .pure), (12, .pure), (7, .read), (8, .read), (13, .read), (14, .keep), (15, .keep), (16, .keep), (17, .pure), (18, .pure)] (by kernel_rfl) (by kernel_rfl) (List.Sublist.refl _) ?_; refine mq rfl ?_; refine k_neqF rfl zq rfl ?_; refine mq rfl ?_; refine k_mv rfl rfl ?_; refine k_neqF rfl rfl rfl ?_; refine k_pickF rfl zq ?_; refine mq rfl ?_; refine k_mv rfl rfl ?_; refine k_mv rfl rfl ?_; refine k_mv rfl rfl ?_; refine k_ixs rfl rfl (by first | rfl | assumption) (by omega) (by omega) ?_; refine k_ldA rfl rfl ?_; refine k_ldA rfl rfl ?_; refine k_ld rfl rfl (r36.iat k (by omega) (by omega)) ?_; refine k_calP (Post := fun v => v = _) rfl rfl (by kernel_rfl) (fun H' hH => f84_c _ H' _) ?_; rintro v rfl; refine k_put ?_; refine k_calC rfl rfl (by kernel_rfl) (Post := fun v new => ∃ pm2 cm2, v = bkV (setB b st ⟨y36.getD k 0, y36.getD k 0⟩) pm2 nm cm2 pr nr cr ∧ nm ≤ cm2 ∧ RdS B new 2 (.slice pm2 nm cm2) nm (encs (setB b st ⟨y36.getD k 0, y36.getD k 0⟩).marks)) (fun H' hH => f85_c _ H' (rdm.keeps (sq hH)) hm (by omega) ⟨y36.getD k 0, y36.getD k 0⟩) ?_
                rintro v n85b ⟨pm2, cm2, rfl, hcm2, rm85⟩; refine k_hpA (k_put ?_); refine k_calP (Post := fun v => IsB _ v) rfl rfl (by kernel_rfl) (fun H' hH => f75_c _ H' (b := setB b st ⟨y36.getD k 0, y36.getD k 0⟩) (b2 := setB b st ⟨y36.getD k 0, y36.getD k 0⟩) (rm22.keeps (sq hH)) hm (rr22.keeps (sq hH)) hr (rm85.keeps (sq hH)) hm (rdr.keeps (sq hH)) hr) ?_; rintro v (⟨hc, rfl⟩ | ⟨hc, rfl⟩)
                · refine k_put ?_; refine k_notT rfl rfl ?_; refine k_pickF rfl zq ?_; refine k_nil ?_; refine run_no ?_; refine run_skip ?_; rw [hsum] at hcl
                  refine rr4 (by kernel_rfl) ?_; refine mq rfl ?_; refine mq rfl ?_; refine k_add rfl zq (by unfold In64; omega) ?_; refine aq rfl ?_; refine run_inBlock ?_; rw [← hsum]; refine rr3 (by kernel_rfl) ?_; refine mq rfl ?_; refine k_add rfl zq (by unfold In64; omega) ?_; refine aq rfl ?_; exact (Md.star Tryz.prog B).weak weakSub (hnext _ _ _ (by omega) ⟨k + 1, rfl, by omega, exU rfl, rfl⟩)
                · refine k_put ?_; exact absurd ⟨rfl, rfl, rfl, rfl, rfl⟩ hc
              · refine k_nil ?_; refine run_no ?_; refine run_exit rfl ?_; refine run_seq ?_; obtain rfl : k = y36.length := by omega
                rw [List.take_length, cntsF_sum (asc_nodup ha36) st (boatsOf b) (fun l hl => (hm36 _).2 (List.mem_map.2 ⟨l, hl, rfl⟩))]; refine rr7 (by kernel_rfl) ?_; refine mq rfl ?_; refine mq rfl ?_; refine k_eqlT rfl zq rfl ?_; refine mq rfl ?_; refine k_cal rfl rfl (by kernel_rfl) (f20_c _) ?_; rintro v h' ⟨nF, rfl, rfl⟩; refine k_put ?_; refine k_pickT rfl zq ?_; refine aq rfl ?_; refine run_ret rfl ?_; refine run_top rfl Tryz.func17 (by kernel_rfl) rfl ?_; rfl
          · refine k_put ?_; exact absurd ((hm36 _).2 hin) hc
        · rw [eS, eB]; rw [eB] at en11 er11 rm11 rr11
          have en0 : noBk.marks.length = 0 := rfl
          have er0 : noBk.rules.length = 0 := rfl
          refine run_region [(0, .free), (1, .free), (2, .free), (3, .free), (4, .free), (5, .free), (6, .free), (7, .free), (8, .free), (9, .free), (10, .free), (11, .free), (12, .free), (13, .free), (14, .free), (15, .free), (16, .free), (17, .free), (18, .free), (19, .free), (20, .free), (21, .free), (22, .free), (23, .free)] (by kernel_rfl) (by kernel_rfl) ?_; refine mq rfl ?_; refine k_eqlF rfl zq (by decide) ?_; refine mq rfl ?_; refine mq rfl ?_; refine k_calP (Post := fun v => IsB _ v) rfl zq (by kernel_rfl) (fun H' hH => f52_c _ H' _ (r36.keeps (sq hH)) (by omega)) ?_; rintro v (⟨hc, rfl⟩ | ⟨hc, rfl⟩)
          · refine k_put ?_; exact absurd ((hm36 _).1 hc) hin
          · refine k_put ?_; refine k_neqBF rfl zq (by kernel_rfl) rfl ?_; refine mq rfl ?_; refine k_mv rfl rfl ?_; refine k_neqT rfl rfl (by decide) ?_; refine k_mv rfl rfl ?_; refine k_mv rfl rfl ?_; refine k_neqF rfl rfl rfl ?_; refine k_mv rfl rfl ?_; refine k_off rfl rfl ?_; refine k_off rfl rfl ?_; refine k_pickF rfl rfl ?_; refine k_mv rfl rfl ?_; refine k_ldA rfl rfl ?_; refine k_bld rfl rfl ?_; refine k_calP (Post := fun v => IsB _ v) rfl rfl (by kernel_rfl) (fun H' hH => f75_c _ H' (b := noBk) (b2 := noBk) (rm11.keeps (sq hH)) (by omega) (rr11.keeps (sq hH)) (by omega) (⟨none, 0, rfl, rfl, .inl ⟨rfl, rfl⟩⟩ : RdS B H' 2 (.slice none 0 0) 0 (encs noBk.marks)) (by decide) (⟨none, 0, rfl, rfl, .inl ⟨rfl, rfl⟩⟩ : RdS B H' 4 (.slice none 0 0) 0 (encs noBk.rules)) (by decide)) ?_; rintro v (⟨hc, rfl⟩ | ⟨hc, rfl⟩)
            · refine k_put ?_; refine k_notT rfl rfl ?_; refine k_pickF rfl rfl ?_; refine k_pickT rfl rfl ?_; refine k_pickF rfl zq ?_; refine k_nil ?_; refine run_no ?_; refine run_skip ?_; refine run_seqJ (fun l' h' => ∃ G : Hp, (∃ U : Nat → Value, l' = [U 0, U 1, U 2, .pointer (some ⟨q3, 0, none⟩), U 4, U 5, U 6, .int .i64 (st : Int), .slice p36 y36.length c36, U 9, .int .i64 ((boatsOf b).length : Int), U 11, U 12, U 13, U 14, U 15, U 16, U 17, U 18, U 19, U 20, U 21, U 22, U 23, U 24, U 25, U 26, U 27, U 28, U 29, U 30, U 31, U 32, U 33, U 34, U 35, U 36, U 37, U 38, U 39, U 40, U 41, U 42, U 43, U 44, U 45, U 46, U 47, U 48, U 49, U 50, U 51, U 52, U 53, U 54, U 55, U 56, U 57, U 58, U 59, U 60, U 61, U 62, U 63, U 64, U 65, U 66, U 67, U 68, U 69, U 70, U 71, U 72, U 73, U 74, U 75, U 76, U 77, U 78, U 79, U 80, U 81, U 82, U 83, U 84, U 85, U 86, U 87, U 88, U 89, U 90, U 91, U 92, U 93, U 94, U 95, U 96, U 97, U 98, U 99, U 100, U 101, U 102, U 103, U 104, U 105, U 106, U 107, U 108, U 109, U 110, U 111, U 112, U 113, U 114, U 115, U 116, U 117, U 118, U 119, U 120, U 121, U 122, U 123, U 124, U 125, U 126, U 127, U 128, U 129, U 130, U 131, U 132, U 133, U 134, U 135, U 136, U 137, U 138, U 139, U 140, U 141, U 142, U 143, U 144, U 145, U 146, U 147, U 148, U 149, U 150, U 151, U 152, U 153, U 154, U 155, U 156, U 157, U 158, U 159, U 160, U 161, U 162, U 163, U 164, U 165, U 166, U 167, U 168, U 169, U 170, U 171, U 172, U 173, U 174, U 175, U 176, U 177, U 178, U 179, U 180, U 181, U 182, U 183, U 184, U 185, U 186, U 187, U 188, U 189, U 190, U 191, U 192]) ∧ h ++ [⟨true, q3, .cells (bkL b pm nm cm pr nr cr).toArray 25 (0, 0)⟩] ++ n36 ++ G = h') ?_ ?_
              · refine rs2 (by kernel_rfl) ?_; refine mq rfl ?_; refine k_eqlF rfl zq (by decide) ?_; refine k_nil ?_; refine run_no ?_; refine run_skip ?_; refine Md.stop _ (.inl ⟨_, rfl, ?_⟩)
                exact ⟨_, exU rfl, by simp only [List.append_assoc] <;> rfl⟩
              · rintro l' h' ⟨G, ⟨U, rfl⟩, rfl⟩; refine rs1 (by kernel_rfl) ?_; refine aq rfl ?_; refine run_seq ?_; refine rs1 (by kernel_rfl) ?_; refine aq rfl ?_; refine run_block ?_; refine run_loop (fun nn l h' => ∃ (k : Nat), nn = y36.length - k ∧ (k ≤ y36.length) ∧ (∃ U : Nat → Value, l = [U 0, U 1, U 2, .pointer (some ⟨q3, 0, none⟩), U 4, U 5, U 6, .int .i64 (st : Int), .slice p36 y36.length c36, U 9, .int .i64 ((boatsOf b).length : Int), U 11, U 12, U 13, U 14, U 15, .int .i64 (sumL (cntsF (boatsOf b) st (y36.take k))), .int .i64 (k : Int), U 18, U 19, U 20, U 21, U 22, U 23, U 24, U 25, U 26, U 27, U 28, U 29, U 30, U 31, U 32, U 33, U 34, U 35, U 36, U 37, U 38, U 39, U 40, U 41, U 42, U 43, U 44, U 45, U 46, U 47, U 48, U 49, U 50, U 51, U 52, U 53, U 54, U 55, U 56, U 57, U 58, U 59, U 60, U 61, U 62, U 63, U 64, U 65, U 66, U 67, U 68, U 69, U 70, U 71, U 72, U 73, U 74, U 75, U 76, U 77, U 78, U 79, U 80, U 81, U 82, U 83, U 84, U 85, U 86, U 87, U 88, U 89, U 90, U 91, U 92, U 93, U 94, U 95, U 96, U 97, U 98, U 99, U 100, U 101, U 102, U 103, U 104, U 105, U 106, U 107, U 108, U 109, U 110, U 111, U 112, U 113, U 114, U 115, U 116, U 117, U 118, U 119, U 120, U 121, U 122, U 123, U 124, U 125, U 126, U 127, U 128, U 129, U 130, U 131, U 132, U 133, U 134, U 135, U 136, U 137, U 138, U 139, U 140, U 141, U 142, U 143, U 144, U 145, U 146, U 147, U 148, U 149, U 150, U 151, U 152, U 153, U 154, U 155, U 156, U 157, U 158, U 159, U 160, U 161, U 162, U 163, U 164, U 165, U 166, U 167, U 168, U 169, U 170, U 171, U 172, U 173, U 174, U 175, U 176, U 177, U 178, U 179, U 180, U 181, U 182, U 183, U 184, U 185, U 186, U 187, U 188, U 189, U 190, U 191, U 192]) ∧ h ++ [⟨true, q3, .cells (bkL b pm nm cm pr nr cr).toArray 25 (0, 0)⟩] ++ n36 ++ G = h') _ ⟨0, rfl, by omega, exU rfl, rfl⟩ ?_; rintro nn l h' ⟨k, rfl, hk, ⟨U, rfl⟩, rfl⟩ hnext; refine run_seq ?_; refine rs4 (by kernel_rfl) ?_
                refine mq rfl ?_; refine mq rfl ?_; refine k_len rfl zq ?_; refine k_lssS rfl zq (fun hc => ?_) (fun hc => ?_)
                · refine k_nil ?_; refine run_yes ?_; refine run_skip ?_; refine run_seq ?_; refine run_block ?_; refine run_seq ?_; have hyk : y36.getD k 0 ∈ y36 := mem_getD.2 ⟨k, by omega, rfl⟩
                  have hy9k := hy9 _ hyk
                  obtain ⟨hin, eS, eB⟩ := (meas_known hb0 (show st < b.marks.length by omega) hy9k).resolve_right (fun e => e.1 ((hm36 _).1 hyk))
                  obtain ⟨l0, hl0, el0⟩ := List.mem_map.1 hin
                  obtain ⟨sf1, _⟩ := setB_facts hb0 hl0 (show st < b.marks.length by omega)
                  have sf2 := setB_count hb0 hl0 (show st < b.marks.length by omega)
                  rw [el0] at sf1 sf2
                  have hsum := cntsF_succ (ll := boatsOf b) (st := st) (ys := y36) (k := k) (by omega)
                  have hcl := cntsF_le (ll := boatsOf b) (st := st) (ys := y36) (k + 1)
                  have hk3 : k + 1 ≤ 3 := by omega
                  have hmul : ((k + 1 : Nat) : Int) * (boatsOf b).length ≤ 3 * 2187 := Int.mul_le_mul (by omega) (by omega) (by omega) (by omega)
                  have hc0 := cntsF_le (ll := boatsOf b) (st := st) (ys := y36) k
                  refine run_draw [(1, .pure), (2, .pure), (3, .pure), (4, .pure), (0, .read), (5, .read), (6, .call), (7, .call), (8, .pure), (9, .pure), (10, .pure), (11, .alloc), (12, .free), (13, .pure)] (by kernel_rfl) (by kernel_rfl) (List.Sublist.refl _) ?_; refine mq rfl ?_; refine mq rfl ?_; refine mq rfl ?_; obtain ⟨r36_b, r36_o, rfl⟩ := r36.ptr (by omega)
                  refine k_ixs rfl zq (by first | rfl | assumption) (by omega) (by omega) ?_; refine k_ldA rfl zq ?_; refine k_ld rfl zq (r36.iat k (by omega) (by omega)) ?_; refine k_calP (Post := fun v => v = _) rfl zq (by kernel_rfl) (fun H' hH => f84_c _ H' _) ?_; rintro v rfl; refine k_put ?_; refine k_calC rfl zq (by kernel_rfl) (Post := fun v new => ∃ w, v = .tuple [w, .int .i64 (measS b (st : Int) ⟨y36.getD k 0, y36.getD k 0⟩)].toArray ∧ BkR B (measB b (st : Int) ⟨y36.getD k 0, y36.getD k 0⟩) new w) (fun H' hH => f79_c _ H' (b := b) (rdm.keeps (sq hH)) hm (rdr.keeps (sq hH)) hr (st : Int) ⟨y36.getD k 0, y36.getD k 0⟩) ?_; rintro v n22 ⟨w22, rfl, pm22, nm22, cm22, pr22, nr22, cr22, rfl, en22, er22, _, _, rm22, rr22⟩; refine k_hpA (k_put ?_); rw [eS, eB]; rw [eB] at en22 er22 rm22 rr22
                  have hlen : (setB b st ⟨y36.getD k 0, y36.getD k 0⟩).marks.length = b.marks.length := List.length_set
                  obtain rfl : nm = nm22 := by omega
                  have hrr : (setB b st ⟨y36.getD k 0, y36.getD k 0⟩).rules.length = b.rules.length := rfl
                  obtain rfl : nr = nr22 := by omega
                  refine mq rfl ?_; refine k_ext0 rfl zq ?_; refine k_ext1 rfl zq ?_; refine k_new rfl zq (fun q18 => k_hp (k_put ?_)); refine k_stA rfl zq rfl ?_; refine aq rfl ?_; refine rs7 (by kernel_rfl) ?_; refine k_ldA rfl zq ?_; refine k_calP (Post := fun v => v = .tuple [.int .i64 (countAt (boatsOf b) st (y36.getD k 0) : Int), .int .i64 0].toArray) rfl zq (by kernel_rfl) (fun H' hH => by have := f34_b (Md.star Tryz.prog B) H' (b := setB b st ⟨y36.getD k 0, y36.getD k 0⟩) (rm22.keeps (sq hH)) hm (rr22.keeps (sq hH)) hr sf1; rwa [sf2] at this) ?_; rintro v rfl; refine k_put ?_; refine mq rfl ?_; refine k_ext0 rfl zq ?_; refine k_ext1 rfl zq ?_; refine k_as rfl zq ?_; refine aq rfl ?_; refine run_seq ?_; refine run_seq ?_; refine run_draw [(0, .pure), (1, .pure), (2, .pure), (3, .pure), (4, .pure), (5, .pure), (6, .pure), (9, .pure), (10, .pure), (11, .pure), (12, .pure), (7, .read), (8, .read), (13, .read), (14, .keep), (15, .keep), (16, .keep), (17, .pure), (18, .pure)] (by kernel_rfl) (by kernel_rfl) (List.Sublist.refl _) ?_; refine mq rfl ?_; refine k_neqF rfl zq rfl ?_; refine mq rfl ?_; refine k_mv rfl rfl ?_; refine k_neqF rfl rfl rfl ?_; refine k_pickF rfl zq ?_; refine mq rfl ?_; refine k_mv rfl rfl ?_; refine k_mv rfl rfl ?_; refine k_mv rfl rfl ?_; refine k_ixs rfl rfl (by first | rfl | assumption) (by omega) (by omega) ?_; refine k_ldA rfl rfl ?_; refine k_ldA rfl rfl ?_; refine k_ld rfl rfl (r36.iat k (by omega) (by omega)) ?_; refine k_calP (Post := fun v => v = _) rfl rfl (by kernel_rfl) (fun H' hH => f84_c _ H' _) ?_; rintro v rfl; refine k_put ?_; refine k_calC rfl rfl (by kernel_rfl) (Post := fun v new => ∃ pm2 cm2, v = bkV (setB b st ⟨y36.getD k 0, y36.getD k 0⟩) pm2 nm cm2 pr nr cr ∧ nm ≤ cm2 ∧ RdS B new 2 (.slice pm2 nm cm2) nm (encs (setB b st ⟨y36.getD k 0, y36.getD k 0⟩).marks)) (fun H' hH => f85_c _ H' (rdm.keeps (sq hH)) hm (by omega) ⟨y36.getD k 0, y36.getD k 0⟩) ?_
                  rintro v n85b ⟨pm2, cm2, rfl, hcm2, rm85⟩; refine k_hpA (k_put ?_); refine k_calP (Post := fun v => IsB _ v) rfl rfl (by kernel_rfl) (fun H' hH => f75_c _ H' (b := setB b st ⟨y36.getD k 0, y36.getD k 0⟩) (b2 := setB b st ⟨y36.getD k 0, y36.getD k 0⟩) (rm22.keeps (sq hH)) hm (rr22.keeps (sq hH)) hr (rm85.keeps (sq hH)) hm (rdr.keeps (sq hH)) hr) ?_; rintro v (⟨hc, rfl⟩ | ⟨hc, rfl⟩)
                  · refine k_put ?_; refine k_notT rfl rfl ?_; refine k_pickF rfl zq ?_; refine k_nil ?_; refine run_no ?_; refine run_skip ?_; rw [hsum] at hcl
                    refine rr4 (by kernel_rfl) ?_; refine mq rfl ?_; refine mq rfl ?_; refine k_add rfl zq (by unfold In64; omega) ?_; refine aq rfl ?_; refine run_inBlock ?_; rw [← hsum]; refine rr3 (by kernel_rfl) ?_; refine mq rfl ?_; refine k_add rfl zq (by unfold In64; omega) ?_; refine aq rfl ?_; exact (Md.star Tryz.prog B).weak weakSub (hnext _ _ _ (by omega) ⟨k + 1, rfl, by omega, exU rfl, rfl⟩)
                  · refine k_put ?_; exact absurd ⟨rfl, rfl, rfl, rfl, rfl⟩ hc
                · refine k_nil ?_; refine run_no ?_; refine run_exit rfl ?_; refine run_seq ?_; obtain rfl : k = y36.length := by omega
                  rw [List.take_length, cntsF_sum (asc_nodup ha36) st (boatsOf b) (fun l hl => (hm36 _).2 (List.mem_map.2 ⟨l, hl, rfl⟩))]; refine rr7 (by kernel_rfl) ?_; refine mq rfl ?_; refine mq rfl ?_; refine k_eqlT rfl zq rfl ?_; refine mq rfl ?_; refine k_cal rfl rfl (by kernel_rfl) (f20_c _) ?_; rintro v h' ⟨nF, rfl, rfl⟩; refine k_put ?_; refine k_pickT rfl zq ?_; refine aq rfl ?_; refine run_ret rfl ?_; refine run_top rfl Tryz.func17 (by kernel_rfl) rfl ?_; rfl
            · refine k_put ?_; exact absurd ⟨rfl, rfl, rfl, rfl, rfl⟩ hc
  · refine k_put ?_; refine k_notF rfl zq ?_; refine k_nil ?_; refine run_yes ?_; refine rs2 (by kernel_rfl) ?_; refine k_cal rfl zq (by kernel_rfl) (f20_c _) ?_; rintro v h' ⟨nF, rfl, rfl⟩; refine k_put ?_; refine aq rfl ?_; refine run_ret rfl ?_; refine run_top rfl Tryz.func17 (by kernel_rfl) rfl ?_; rfl
end Go.Proofs
namespace Go.Lo
set_option maxRecDepth 100000
section
variable {H : Type} {enc : TypeId × Value → H} {P : Program} {w : World} {base : Nat} {sp : Nat → Bool} {held : Bool}
theorem slice_open {kd : IntKind} {t e : TypeId} {k fuel : Nat} {cs : List Value} {x : DataW H × List MemPlace} (hu : P.underlying t = some (.slice e)) (hB : intsB P kd 3 e k = true) (h : DataW.trod enc P w base sp held fuel t cs = some x) (hs : ∀ a n c, cs = [.slice (some a) n c] → a.spot = none) :
    ∃ (p : Option Addr) (n c : Nat) (zs : List Int), cs = [.slice p n c] ∧ n ≤ c ∧ zs.length = n * k ∧ RdS w.heap [] k (.slice p n c) n (zs.map (Value.int kd)) ∧ ∀ z ∈ zs, (Lit.int kd z).wf = true := by
  rcases Deep.open_slice hu h with ⟨rfl, _⟩ | ⟨a, len, cap, m, n, D, Pl, rfl, hb, hl, hm, hmm, _, hx⟩
  · exact ⟨none, 0, 0, [], rfl, Nat.le_refl _, by simp, ⟨none, 0, rfl, by simp, .inl ⟨rfl, rfl⟩⟩, fun z hz => by simp at hz⟩
  · have hlm : len ≤ m := by rw [hmm]; split <;> omega
    have hc : P.cellsOf e = k := intsB_size hB
    obtain ⟨ab, ao, sx⟩ := a
    obtain rfl : sx = none := hs _ _ _ rfl
    obtain ⟨V, hV⟩ := Deep.choose_lt (α := Int) (n := len * k) (p := fun q z => w.cell? ⟨ab, ao + q, none⟩ = some (.int kd z) ∧ (Lit.int kd z).wf = true) (fun q hq => by
      have hk : 0 < k := by rcases Nat.eq_zero_or_pos k with e0 | e0; subst e0; simp at hq; exact e0
      have hi : q / k < len := Nat.div_lt_of_lt_mul (by rw [Nat.mul_comm]; exact hq)
      obtain ⟨cs', h1, h2⟩ := hx (q / k) (by omega)
      obtain ⟨_, hlen, hcell⟩ := World.cells?_some h1
      obtain ⟨_, hall⟩ := trod_cells 3 hB h2
      obtain ⟨z, hz, hw⟩ := hall (q % k) (Nat.mod_lt _ hk)
      refine ⟨z, ?_, hw⟩
      have := hcell (q % k) (by rw [hc]; exact Nat.mod_lt _ hk)
      rw [hz, Addr.add_none, Addr.add_none, hc] at this
      rw [← this]; have e := Nat.div_add_mod q k
      have e2 : q / k * k = k * (q / k) := Nat.mul_comm _ _
      congr 2; omega)
    refine ⟨some ⟨ab, ao, none⟩, len, cap, (List.range (len * k)).map V, rfl, hl, by simp, ⟨_, cap, rfl, by simp, .inr ⟨ab, ao, rfl, fun j hj => ?_⟩⟩, fun z hz => ?_⟩
    · have hj' : j < len * k := by simpa using hj
      have : (((List.range (len * k)).map V).map (Value.int kd)).getD j undef = .int kd (V j) := by
        rw [List.getD_eq_getElem?_getD, List.getElem?_map, List.getElem?_map, List.getElem?_range hj']; rfl
      rw [this]; exact rd_of_cell (hV j hj').1
    · obtain ⟨q, hq, rfl⟩ := List.mem_map.1 hz
      exact (hV q (List.mem_range.1 hq)).2
theorem spot_of {r : Reach} {b0 : Nat} {t e : TypeId} {v : Value} (hu : P.underlying t = some (.slice e)) (h : Cell.okWide P w r b0 t v) : ∀ a n c, [v] = [.slice (some a) n c] → a.spot = none := fun a n c e1 => by
  obtain rfl := List.head_eq_of_cons_eq e1
  unfold Cell.okWide at h
  rw [hu] at h
  simp only [Cell.ok, hu] at h
  exact h.2.2.2.1
end
def spsOf : List Int → List Sp
  | a :: b :: r => ⟨a, b⟩ :: spsOf r
  | _ => []
theorem spsOf_enc : ∀ (n : Nat) (zs : List Int), zs.length = n * 2 → encs (spsOf zs) = ints zs
  | 0, zs, h => by
    obtain rfl := List.length_eq_zero_iff.1 (by simpa using h)
    rfl
  | n + 1, a :: b :: r, h => by
    have := spsOf_enc n r (by simp only [List.length_cons] at h; omega)
    simp only [spsOf, encs, this]
    rfl
  | n + 1, [], h => by simp at h
  | n + 1, [a], h => by simp at h; omega
def rusOf : List Int → List Ru
  | a :: b :: c :: d :: r => ⟨a, b, c, d⟩ :: rusOf r
  | _ => []
theorem rusOf_enc : ∀ (n : Nat) (zs : List Int), zs.length = n * 4 → encs (rusOf zs) = ints zs
  | 0, zs, h => by
    obtain rfl := List.length_eq_zero_iff.1 (by simpa using h)
    rfl
  | n + 1, a :: b :: c :: d :: r, h => by
    have := rusOf_enc n r (by simp only [List.length_cons] at h; omega)
    simp only [rusOf, encs, this]
    rfl
  | n + 1, [], h => by simp at h
  | n + 1, [a], h => by simp at h; omega
  | n + 1, [a, b], h => by simp at h; omega
  | n + 1, [a, b, c], h => by simp at h; omega
end Go.Lo
namespace Go.Proofs
open Go.Lo
set_option maxRecDepth 100000
section
variable {H : Type} {enc : TypeId × Value → H} {w : World} {sp : Nat → Bool} {held : Bool}
theorem int_arg {r : Reach} {b0 : Nat} {t : TypeId} {kd : IntKind} {v : Value} {d : DataW H} {ps : List MemPlace} (ht : Tryz.prog.underlying t = some (.int kd)) (hv : Value.okWide Tryz.prog w r b0 t v) (h : DataW.Trod enc Tryz.prog w 0 sp held t v d ps) :
    ∃ n, v = .int kd n ∧ (Lit.int kd n).wf = true := by
  obtain ⟨n, e, _, _, hw⟩ := ChangeShapes.open_int ht hv h
  exact ⟨n, e, hw⟩
theorem nat_arg {n M : Int} {kd : IntKind} {v : Value} (e : v = .int kd n ∧ (Lit.int kd n).wf = true) (h : (Lit.int kd n).wf = true → 0 ≤ n ∧ n ≤ M) : ∃ z : Nat, v = .int kd (z : Int) ∧ (z : Int) ≤ M := by
  obtain ⟨h0, h1⟩ := h e.2
  exact ⟨n.toNat, by rw [e.1, Int.toNat_of_nonneg h0], by rw [Int.toNat_of_nonneg h0]; exact h1⟩
theorem u16_arg {r : Reach} {b0 : Nat} {v : Value} {d : DataW H} {ps : List MemPlace} (hv : Value.okWide Tryz.prog w r b0 55 v) (h : DataW.Trod enc Tryz.prog w 0 sp held 55 v d ps) : ∃ z : Nat, v = .int .u16 (z : Int) ∧ z ≤ 65535 := by
  obtain ⟨n, e⟩ := int_arg (kd := .u16) (by kernel_rfl) hv h
  obtain ⟨z, e, hz⟩ := nat_arg (M := 65535) e (fun hw => by simp [Lit.wf, IntKind.min, IntKind.max, IntKind.signed, IntKind.bits] at hw; omega)
  exact ⟨z, e, by omega⟩
theorem u8_arg {r : Reach} {b0 : Nat} {v : Value} {d : DataW H} {ps : List MemPlace} (hv : Value.okWide Tryz.prog w r b0 5 v) (h : DataW.Trod enc Tryz.prog w 0 sp held 5 v d ps) : ∃ z : Nat, v = .int .u8 (z : Int) ∧ z ≤ 255 := by
  obtain ⟨n, e⟩ := int_arg (kd := .u8) (by kernel_rfl) hv h
  obtain ⟨z, e, hz⟩ := nat_arg (M := 255) e (fun hw => by simp [Lit.wf, IntKind.min, IntKind.max, IntKind.signed, IntKind.bits] at hw; omega)
  exact ⟨z, e, by omega⟩
theorem trodAll_cons {P : Program} {base : Nat} {t : TypeId} {ts : List TypeId} {vs : List Value} {ds : List (DataW H)} {ps : List MemPlace} (h : DataW.TrodAll enc P w base sp held (t :: ts) vs ds ps) :
    ∃ v vr d dr p q, vs = v :: vr ∧ ds = d :: dr ∧ ps = p ++ q ∧ DataW.Trod enc P w base sp held t v d p ∧ DataW.TrodAll enc P w base sp held ts vr dr q := by
  cases vs with
  | nil => cases ds <;> exact absurd h id
  | cons v vr =>
    cases ds with
    | nil => exact absurd h id
    | cons d dr =>
      obtain ⟨p, q, h1, h2, e⟩ := h
      exact ⟨v, vr, d, dr, p, q, rfl, rfl, e, h1, h2⟩
theorem trodAll_end {P : Program} {base : Nat} {vs : List Value} {ds : List (DataW H)} {ps : List MemPlace} (h : DataW.TrodAll enc P w base sp held [] vs ds ps) : vs = [] ∧ ds = [] ∧ ps = [] := by
  cases vs with
  | nil =>
    cases ds with
    | nil => exact ⟨rfl, rfl, h⟩
    | cons d dr => exact absurd h id
  | cons v vr => cases ds <;> exact absurd h id
theorem trodAll_more {P : Program} {base : Nat} {t : TypeId} {ts : List TypeId} {v : Value} {vs : List Value} {d : DataW H} {ds : List (DataW H)} {p q : List MemPlace} (h : DataW.Trod enc P w base sp held t v d p) (k : DataW.TrodAll enc P w base sp held ts vs ds q) : DataW.TrodAll enc P w base sp held (t :: ts) (v :: vs) (d :: ds) (p ++ q) := ⟨p, q, h, k, rfl⟩
theorem book_arg {r : Reach} {b0 : Nat} {v : Value} {d : DataW H} {ps : List MemPlace} (hv : Value.okWide Tryz.prog w r b0 25 v) (h : DataW.Trod enc Tryz.prog w 0 sp held 25 v d ps) :
    ∃ b pm nm cm pr nr cr, v = bkV b pm nm cm pr nr cr ∧ nm ≤ cm ∧ nr ≤ cr ∧ RdS w.heap [] 2 (.slice pm nm cm) nm (encs b.marks) ∧ RdS w.heap [] 4 (.slice pr nr cr) nr (encs b.rules) ∧ (Lit.int .i64 b.bend).wf = true ∧ (Lit.int .i64 b.twist).wf = true ∧ (Lit.int .i64 b.turns).wf = true := by
  obtain ⟨fs, hu, hfs⟩ : ∃ fs, Tryz.prog.underlying 25 = some (.struct fs) ∧ fs.toList.map (fun f => (f.offset, f.type)) = [(0, 3), (1, 3), (2, 3), (3, 22), (4, 23)] := ⟨_, Tryz.underlying25, by kernel_rfl⟩
  have hct : Tryz.prog.cellTypes Tryz.prog.depth 25 = some [3, 3, 3, 22, 23] := by kernel_rfl
  have h3 : Tryz.prog.underlying 3 = some (.int .i64) := by kernel_rfl
  have h22 : Tryz.prog.underlying 22 = some (.slice 92) := by kernel_rfl
  have h23 : Tryz.prog.underlying 23 = some (.slice 94) := by kernel_rfl
  unfold Value.okWide at hv
  rw [hu] at hv
  obtain ⟨cs, rfl, hsz, ts, hts, _, hall⟩ := hv
  rw [hct] at hts
  obtain rfl := Option.some.inj hts
  obtain ⟨fuel, h⟩ := h
  obtain ⟨xs, m, _, _, hl, hxl, hx⟩ := DataW.trod_struct hu h
  have hl5 : cs.size = 5 := hsz.trans (by kernel_rfl)
  obtain ⟨cl⟩ := cs
  have hl5' : cl.length = 5 := hl5
  obtain ⟨c0, c1, c2, c3, c4, rfl⟩ : ∃ c0 c1 c2 c3 c4, cl = [c0, c1, c2, c3, c4] := by
    match cl, hl5' with
    | [c0, c1, c2, c3, c4], _ => exact ⟨_, _, _, _, _, rfl⟩
  obtain ⟨f0, f1, f2, f3, f4, rfl⟩ : ∃ f0 f1 f2 f3 f4, fs = #[f0, f1, f2, f3, f4] := by
    obtain ⟨fl⟩ := fs
    have hlen : fl.length = 5 := by simpa using congrArg List.length hfs
    match fl, hlen with
    | [f0, f1, f2, f3, f4], _ => exact ⟨_, _, _, _, _, rfl⟩
  simp only [List.map_cons, List.map_nil, List.cons.injEq, Prod.mk.injEq, and_true] at hfs
  obtain ⟨⟨o0, t0⟩, ⟨o1, t1⟩, ⟨o2, t2⟩, ⟨o3, t3⟩, o4, t4⟩ := hfs
  have s3 : Tryz.prog.cellsOf 3 = 1 := by kernel_rfl
  have s22 : Tryz.prog.cellsOf 22 = 1 := by kernel_rfl
  have s23 : Tryz.prog.cellsOf 23 = 1 := by kernel_rfl
  have go : ∀ i, i < 5 → ∃ y, xs[i]? = some y := fun i hi => ⟨_, List.getElem?_eq_getElem (by rw [hxl]; exact hi)⟩
  obtain ⟨y0, e0⟩ := go 0 (by omega); obtain ⟨y1, e1⟩ := go 1 (by omega); obtain ⟨y2, e2⟩ := go 2 (by omega); obtain ⟨y3, e3⟩ := go 3 (by omega); obtain ⟨y4, e4⟩ := go 4 (by omega)
  have g0 := (hx 0 f0 rfl).trans e0
  have g1 := (hx 1 f1 rfl).trans e1
  have g2 := (hx 2 f2 rfl).trans e2
  have g3 := (hx 3 f3 rfl).trans e3
  have g4 := (hx 4 f4 rfl).trans e4
  rw [t0, o0, s3] at g0
  rw [t1, o1, s3] at g1
  rw [t2, o2, s3] at g2
  rw [t3, o3, s22] at g3
  rw [t4, o4, s23] at g4
  obtain ⟨n0, q0, _, w0⟩ := DataW.trod_int h3 g0
  obtain ⟨n1, q1, _, w1⟩ := DataW.trod_int h3 g1
  obtain ⟨n2, q2, _, w2⟩ := DataW.trod_int h3 g2
  obtain rfl := List.head_eq_of_cons_eq (show [c0] = [Value.int .i64 n0] from q0)
  obtain rfl := List.head_eq_of_cons_eq (show [c1] = [Value.int .i64 n1] from q1)
  obtain rfl := List.head_eq_of_cons_eq (show [c2] = [Value.int .i64 n2] from q2)
  obtain ⟨u3, hu3, k3⟩ := hall 3 c3 rfl
  obtain ⟨u4, hu4, k4⟩ := hall 4 c4 rfl
  obtain rfl : 22 = u3 := Option.some.inj hu3
  obtain rfl : 23 = u4 := Option.some.inj hu4
  obtain ⟨pm, nm, cm, zm, em, hcm, hzm, rdm, _⟩ := slice_open (cs := [c3]) h22 (by kernel_rfl : intsB Tryz.prog .i64 3 92 2 = true) g3 (spot_of h22 k3)
  obtain ⟨pr, nr, cr, zr, er, hcr, hzr, rdr, _⟩ := slice_open (cs := [c4]) h23 (by kernel_rfl : intsB Tryz.prog .i64 3 94 4 = true) g4 (spot_of h23 k4)
  obtain rfl := List.head_eq_of_cons_eq em
  obtain rfl := List.head_eq_of_cons_eq er
  exact ⟨⟨n0, n1, n2, spsOf zm, rusOf zr⟩, pm, nm, cm, pr, nr, cr, rfl, hcm, hcr, by rw [spsOf_enc _ _ hzm]; exact rdm, by rw [rusOf_enc _ _ hzr]; exact rdr, w0, w1, w2⟩
end
end Go.Proofs
namespace Go.Proofs.YtlbkicemccikgaaGreatDoor
open Go Go.Lo Go.ChangeShapes Go.WideShapes Go.ChangeAt Go.RowKit Go.Conc
set_option maxRecDepth 100000
theorem tied_goes_at (Lk : Looks) {p : Pinned} {s : OpenSpec} {k : StoodClaim8} {ks : List StandKind} (kinds : List LaidKind) (tests : Bool) (h : Claim7.holdsNew p (.plain s) { stood := k, kinds := ks }) (hw : k.row.wfByText s = true) :
    Claim7.holdsNew p (.plain s) { stood := k, kinds := ks, goes := true, laidByText := true, laidKinds := kinds, laidTests := tests, laidLooks := Lk } := by
  obtain ⟨_, rest⟩ := h
  exact ⟨hw, rest⟩
theorem card_of (Lk : Looks) {p : Pinned} {s : OpenSpec} {c : OpenClaim} (kinds : List LaidKind) (tests : Bool) (har : Bool × String) (lk : Bool)
    (hc : c.holds p s) (hw : c.wfByText s = true) (htie : c.laidByTextAt Lk p kinds tests)
    (hst : c.start = .entering) (hnb : c.noBlocks = false ∧ c.again = false) (hm : p.checked.prog.mainIs = some (har.1, har.2.toList)) (hn : (!har.1 && har.2.isEmpty && !lk) = false)
    (hl : ∀ f fn, p.checked.prog.funcNamed c.func = some f → p.checked.prog.funcs[f]? = some fn → lk = p.checked.prog.looks [] ∧ ∀ (j : Nat) t, fn.params[j]? = some t → p.checked.prog.wantsStandIn t = false)
    (hg : true = c.goesBy p.checked.prog) :
    Claim7.holds p (.plain s) { stood := { row := c, standIns := [], harness := har, looks := lk }, kinds := [], alts := [], goes := true, laidByText := true, laidKinds := kinds, laidTests := tests, laidLooks := Lk } := by
  have h6 : ∀ r : OpenClaim, Claim7.isSixth { stood := { row := r, standIns := [], harness := har, looks := lk }, kinds := [] } = false := fun r => by simpa [Claim7.isSixth] using hn
  exact ⟨tied_goes_at Lk kinds tests (Claim7.new_of_sixth hc har lk hst hnb hm (h6 c) hl) hw, (fun D hD => by cases hD), htie, (fun h => by cases h), hg⟩
theorem own : ownKnob Tryz.prog.godebug = none := by kernel_rfl
theorem laidOut : laidOutB Tryz.prog = true := by kernel_rfl
theorem laidOutP : laidOutB Tryz.pinned.checked.prog = true := laidOut
def laidL : List (String × DataW Unit) := [("ribband/batten.checks", Rows.laid_ribband_batten_checks)]
theorem door_met (os : Os) (args : Array Value) : laidMetH Tryz.prog laidL ((World.doorLaid Tryz.prog 14 os).forCall (fun _ _ => 0) ⟨#[], args, []⟩).memory :=
  laidMetH_of_parts3 (fuel := 8) (laidMet_nil _ _) (by kernel_rfl) (by kernel_rfl)
theorem laid_of {W : World} (h : laidMetH Tryz.prog laidL W) : Laid W.heap := by
  obtain ⟨g, t, cs, fuel, p, hg, ht, hv, hd⟩ := h.funcs (n := "ribband/batten.checks") (List.mem_cons_self ..)
  obtain rfl := Option.some.inj ((show Tryz.prog.globalNamed "ribband/batten.checks" = some 0 by kernel_rfl).symm.trans hg)
  obtain rfl := Option.some.inj ((show (Tryz.prog.globals[0]?).map (·.type) = some 107 by kernel_rfl).symm.trans ht)
  have hu : Tryz.prog.underlying 107 = some (.array 3 106) := by kernel_rfl
  have hc1 : Tryz.prog.cellsOf 106 = 1 := by kernel_rfl
  obtain ⟨ps, rs, va, h106⟩ : ∃ ps rs va, Tryz.prog.underlying 106 = some (.func ps rs va) := ⟨_, _, _, Tryz.underlying106⟩
  obtain ⟨xs, m, _, ex, hl, hxl, hx⟩ := DataW.trod_array hu hd
  have hl3 : cs.toList.length = 3 := hl.trans (by kernel_rfl)
  obtain ⟨cl⟩ := cs
  obtain ⟨c0, c1, c2, rfl⟩ : ∃ c0 c1 c2, cl = [c0, c1, c2] := by
    match cl, hl3 with
    | [c0, c1, c2], _ => exact ⟨_, _, _, rfl⟩
  obtain ⟨y0, y1, y2, rfl⟩ : ∃ y0 y1 y2, xs = [y0, y1, y2] := by
    match xs, hxl with
    | [y0, y1, y2], _ => exact ⟨_, _, _, rfl⟩
  have e2 : ∃ a b c : List UInt8, (Rows.laid_ribband_batten_checks : DataW Unit) = .iface "func table" (.agg [.iface "func" (.lit (.string a)), .iface "func" (.lit (.string b)), .iface "func" (.lit (.string c))]) ∧
      ((List.range Tryz.prog.funcs.size).filter fun f => (Tryz.prog.funcs[f]?).any (·.name.toUTF8.data.toList == a)) = [199] ∧ ((List.range Tryz.prog.funcs.size).filter fun f => (Tryz.prog.funcs[f]?).any (·.name.toUTF8.data.toList == b)) = [200] ∧
      ((List.range Tryz.prog.funcs.size).filter fun f => (Tryz.prog.funcs[f]?).any (·.name.toUTF8.data.toList == c)) = [201] ∧ a ≠ [] ∧ b ≠ [] ∧ c ≠ [] ∧
      [y0.1, y1.1, y2.1] = [.held a, .held b, .held c] := by
    refine ⟨_, _, _, rfl, by kernel_rfl, by kernel_rfl, by kernel_rfl, by simp, by simp, by simp, ?_⟩
    have := congrArg Prod.fst ex
    simp only [DataW.funcsOut] at this
    injection this with this
    exact this.symm
  obtain ⟨a, b, c, _, fa, fb, fc, na, nb, nc, e3⟩ := e2
  simp only [List.cons.injEq, and_true] at e3
  obtain ⟨z0, z1, z2⟩ := e3
  have g0 := hx 0 (by omega)
  have g1 := hx 1 (by omega)
  have g2 := hx 2 (by omega)
  rw [hc1] at g0 g1 g2
  have key : ∀ (v : Value) (y : DataW (List UInt8) × List MemPlace) (l : List UInt8) (f0 : FuncId), DataW.trod (funcToken Tryz.prog) Tryz.prog W 0 (fun _ => true) true m 106 [v] = some y → y.1 = .held l → l ≠ [] → ((List.range Tryz.prog.funcs.size).filter fun f => (Tryz.prog.funcs[f]?).any (·.name.toUTF8.data.toList == l)) = [f0] → v = .func (.func f0) #[] #[] := by
    intro v y l f0 h1 h2 h3 h4
    obtain ⟨y1, y2⟩ := y
    obtain rfl : y1 = .held l := h2
    cases l with
    | nil => exact absurd rfl h3
    | cons b0 r0 => exact func_of_trod h106 h4 h1
  obtain rfl := key c0 y0 a 199 g0 z0 na fa
  obtain rfl := key c1 y1 b 200 g1 z1 nb fb
  obtain rfl := key c2 y2 c 201 g2 z2 nc fc
  unfold World.var? at hv
  rw [hg] at hv
  simp only [Option.bind_some] at hv
  split at hv
  · rename_i cs t f hb
    obtain rfl := Option.some.inj hv
    exact ⟨t, f, hb⟩
  · cases hv
end Go.Proofs.YtlbkicemccikgaaGreatDoor
