/- A part of the proof of a law: my own separation logic over the machine, and walks of the program. Condition of each theorem: as its statement says. -/
import Derived.Test.YtlbkicemccikgaaGreatDoorWLBoats3
set_option linter.all false
namespace Go.Proofs
open Go.Lo
open Go.Conc (G)
set_option maxRecDepth 100000
set_option synthInstance.maxSize 100000
set_option synthInstance.maxHeartbeats 1000000
set_option maxHeartbeats 4000000
variable {B : Array Obj}
def openS (b : Bk) (own : Int) : Int := if bookS b ≠ 0 then bookS b else if own ≠ 0 then own else if boatsOf b = [] then 9 else 0
def openL (b : Bk) (own : Int) : List (List Int) := if openS b own = 0 then boatsOf b else []
theorem openS_zero {b : Bk} {own : Int} (h : openS b own = 0) : bookS b = 0 ∧ own = 0 ∧ boatsOf b ≠ [] := by
  unfold openS at h
  split at h
  · omega
  · split at h
    · omega
    · split at h
      · omega
      · refine ⟨by omega, by omega, by assumption⟩
theorem boats_le {b : Bk} (hv : Valid b) : (boatsOf b).length ≤ 2187 := by
  have := boatsF_le b (linesOf b.marks) (linesOf b.marks).length
  rw [boatsF, List.take_length] at this
  have h2 := linesOf_le hv b.marks.length (Nat.le_refl _)
  rw [List.take_length] at h2
  unfold boatsOf
  omega
theorem boat_line {b : Bk} {l : List Int} (h : l ∈ boatsOf b) : l ∈ linesOf b.marks := (List.mem_filter.1 h).1
def RdLL (B : Array Obj) (h : Hp) (v : Value) (ll : List (List Int)) : Prop := ∃ p c vs, v = .slice p ll.length c ∧ RdS B h 1 (.slice p ll.length c) ll.length vs ∧ RdE B h vs ll
theorem RdLL.nil {B : Array Obj} {h : Hp} : RdLL B h (.slice none 0 0) [] := ⟨none, 0, [], rfl, ⟨none, 0, rfl, rfl, .inl ⟨rfl, rfl⟩⟩, RdE.nil⟩
theorem f113_c (m : Md Tryz.prog B) (h : Hp) (t : Bool) : FnC m 113 #[.bool t] h fun v h' => h' = h ∧ v = .int .i64 (if t then 0 else 6) := by
  refine fn_enter Tryz.func113 rfl rfl (l := [.bool t, undef, undef, undef, undef]) rfl ?_
  intro cf cs K hK
  refine rs1 (by kernel_rfl) ?_; refine aq rfl ?_; refine run_seq ?_; refine rs2 (by kernel_rfl) ?_; refine mq rfl ?_; refine k_not rfl zq ?_; refine k_nil ?_; refine run_split (fun hc => ?_) (fun hc => ?_)
  · first | replace hc := of_decide_eq_true hc | replace hc := of_decide_eq_false hc | skip
    refine rs1 (by kernel_rfl) ?_; refine aq rfl ?_; refine run_ret rfl ?_; refine run_res (h) rfl Tryz.func113 rfl weakSub ?_; refine hK _ _ ?_
    first | (cases t <;> first | exact ⟨rfl, rfl⟩ | cases hc)
  · first | replace hc := of_decide_eq_true hc | replace hc := of_decide_eq_false hc | skip
    refine run_skip ?_; refine rs1 (by kernel_rfl) ?_; refine aq rfl ?_; refine run_ret rfl ?_; refine run_res (h) rfl Tryz.func113 rfl weakSub ?_; refine hK _ _ ?_
    first | (cases t <;> first | exact ⟨rfl, rfl⟩ | cases hc)
theorem f119_c (m : Md Tryz.prog B) (h : Hp) (x y : Int) : FnC m 119 #[.int .i64 x, .int .i64 y] h fun v h' => h' = h ∧ v = .int .i64 (if x = 0 then 2 else if x = y then 1 else 0) := by
  refine fn_enter Tryz.func119 rfl rfl (l := (.int .i64 x) :: (.int .i64 y) :: uu8) rfl ?_
  intro cf cs K hK
  refine rs1 (by kernel_rfl) ?_; refine aq rfl ?_; refine run_seq ?_; refine rs2 (by kernel_rfl) ?_; refine mq rfl ?_; refine k_eqlS rfl zq (fun hc => ?_) (fun hc => ?_)
  · refine k_nil ?_; refine run_yes ?_; refine rs1 (by kernel_rfl) ?_; refine aq rfl ?_; refine run_ret rfl ?_; refine run_res (h) rfl Tryz.func119 rfl weakSub ?_; refine hK _ _ ?_
    refine ⟨rfl, ?_⟩
    first | (rw [if_pos (by assumption)]; done) | (rw [if_neg (by assumption), if_pos (by assumption)]; done) | (rw [if_neg (by assumption), if_neg (by assumption)]; done)
  · refine k_nil ?_; refine run_no ?_; refine run_skip ?_; refine run_seq ?_; refine rs3 (by kernel_rfl) ?_; refine mq rfl ?_; refine mq rfl ?_; refine k_eqlS rfl zq (fun hc => ?_) (fun hc => ?_)
    · refine k_nil ?_; refine run_yes ?_; refine rs1 (by kernel_rfl) ?_; refine aq rfl ?_; refine run_ret rfl ?_; refine run_res (h) rfl Tryz.func119 rfl weakSub ?_; refine hK _ _ ?_
      refine ⟨rfl, ?_⟩
      first | (rw [if_pos (by assumption)]; done) | (rw [if_neg (by assumption), if_pos (by assumption)]; done) | (rw [if_neg (by assumption), if_neg (by assumption)]; done)
    · refine k_nil ?_; refine run_no ?_; refine run_skip ?_; refine rs1 (by kernel_rfl) ?_; refine aq rfl ?_; refine run_ret rfl ?_; refine run_res (h) rfl Tryz.func119 rfl weakSub ?_; refine hK _ _ ?_
      refine ⟨rfl, ?_⟩
      first | (rw [if_pos (by assumption)]; done) | (rw [if_neg (by assumption), if_pos (by assumption)]; done) | (rw [if_neg (by assumption), if_neg (by assumption)]; done)
theorem f112_c (m : Md Tryz.prog B) (h : Hp) {b : Bk} {pm : Option Addr} {nm cm : Nat} {pr : Option Addr} {nr cr : Nat} (rdm : RdS B h 2 (.slice pm nm cm) nm (encs b.marks)) (hm : nm ≤ 1000) (rdr : RdS B h 4 (.slice pr nr cr) nr (encs b.rules)) (hr : nr ≤ 1000) (own : Int) : FnC m 112 #[bkV b pm nm cm pr nr cr, .int .i64 own] h fun v h' => ∃ new, h' = h ++ new ∧ ∃ w, v = .tuple [w, .int .i64 (openS b own)].toArray ∧ RdLL B new w (openL b own) := by
  have hml := rdm.elen (by decide)
  have hrl := rdr.elen (by decide)
  refine fn_enter Tryz.func112 rfl rfl (l := (bkV b pm nm cm pr nr cr) :: (.int .i64 own) :: uu20) rfl ?_
  intro cf cs K hK
  refine rs3 (by kernel_rfl) ?_; refine k_box rfl zq (fun q2 => k_hp (k_put ?_)); refine k_as rfl zq ?_; refine aq rfl ?_; refine run_seq ?_; refine rs3 (by kernel_rfl) ?_; refine k_ldA rfl zq ?_; refine k_calP (Post := fun v => v = _) rfl zq (by kernel_rfl) (fun H' hH => f22_c m H' (rdm.keeps (sq hH)) hm (rdr.keeps (sq hH)) hr) ?_; rintro v rfl; refine k_put ?_; refine aq rfl ?_; refine rs2 (by kernel_rfl) ?_; refine mq rfl ?_; refine k_neqS rfl zq (fun hc => ?_) (fun hc => ?_)
  · refine k_nil ?_; refine run_yes ?_; refine rs3 (by kernel_rfl) ?_; refine mq rfl ?_; refine k_as rfl zq ?_; refine aq rfl ?_; refine run_ret rfl ?_; refine run_res (h) rfl Tryz.func112 rfl weakSub ?_; refine hK _ _ ?_
    have e : openS b own = bookS b := by rw [openS, if_pos (by assumption)]
    exact ⟨[], by simp, _, by rw [e], by rw [openL, if_neg (by omega)]; exact RdLL.nil⟩
  · refine k_nil ?_; refine run_no ?_; refine run_skip ?_; refine run_seq ?_; refine rs2 (by kernel_rfl) ?_; refine mq rfl ?_; refine k_neqS rfl zq (fun hc => ?_) (fun hc => ?_)
    · refine k_nil ?_; refine run_yes ?_; refine rs3 (by kernel_rfl) ?_; refine mq rfl ?_; refine k_as rfl zq ?_; refine aq rfl ?_; refine run_ret rfl ?_; refine run_res (h) rfl Tryz.func112 rfl weakSub ?_; refine hK _ _ ?_
      have e : openS b own = own := by rw [openS, if_neg (by omega), if_pos (by assumption)]
      exact ⟨[], by simp, _, by rw [e], by rw [openL, if_neg (by omega)]; exact RdLL.nil⟩
    · refine k_nil ?_; refine run_no ?_; refine run_skip ?_; refine rs3 (by kernel_rfl) ?_; refine k_ldA rfl zq ?_; refine k_calC rfl zq (by kernel_rfl) (Post := fun v new => ∃ vs, RdS B new 1 v (boatsOf b).length vs ∧ RdE B new vs (boatsOf b)) (fun H' hH => f55_c m H' (rdm.keeps (sq hH)) hm (rdr.keeps (sq hH)) hr (valid_of (by omega))) ?_; rintro bv new ⟨vs, rdv, rde⟩; have hbl := boats_le (b := b) (valid_of (by omega))
      obtain ⟨bp, bc, rfl, _⟩ := id rdv
      refine k_hpA (k_put ?_); refine aq rfl ?_; refine run_seq ?_; refine rs3 (by kernel_rfl) ?_; refine mq rfl ?_; refine k_len rfl zq ?_; refine k_eqlS rfl zq (fun hc => ?_) (fun hc => ?_)
      · refine k_nil ?_; refine run_yes ?_; refine rs2 (by kernel_rfl) ?_; refine k_as rfl zq ?_; refine aq rfl ?_; refine run_ret rfl ?_; refine run_res (h) rfl Tryz.func112 rfl weakSub ?_; refine hK _ _ ?_
        have e : openS b own = 9 := by rw [openS, if_neg (by omega), if_neg (by omega), if_pos (List.length_eq_zero_iff.1 (by omega))]
        exact ⟨[], by simp, _, by rw [e], by rw [openL, if_neg (by omega)]; exact RdLL.nil⟩
      · refine k_nil ?_; refine run_no ?_; refine run_skip ?_; refine rs3 (by kernel_rfl) ?_; refine mq rfl ?_; refine k_as rfl zq ?_; refine aq rfl ?_; refine run_ret rfl ?_; refine run_res (h ++ new) rfl Tryz.func112 rfl weakSub ?_; refine hK _ _ ?_
        have e : openS b own = 0 := by rw [openS, if_neg (by omega), if_neg (by omega), if_neg (fun e => hc (by rw [e]; rfl))]
        exact ⟨new, rfl, _, by rw [e], by rw [openL, if_pos e]; exact ⟨_, _, vs, rfl, rdv, rde⟩⟩
theorem f35_c (m : Md Tryz.prog B) (h : Hp) {b : Bk} {pm : Option Addr} {nm cm : Nat} {pr : Option Addr} {nr cr : Nat} (rdm : RdS B h 2 (.slice pm nm cm) nm (encs b.marks)) (hm : nm ≤ 1000) (rdr : RdS B h 4 (.slice pr nr cr) nr (encs b.rules)) (hr : nr ≤ 1000) : FnC m 35 #[bkV b pm nm cm pr nr cr] h fun v h' => h' = h ∧ v = .tuple [.int .i64 (if bookS b ≠ 0 then 0 else ((boatsOf b).length : Int)), .int .i64 (bookS b)].toArray := by
  have hml := rdm.elen (by decide)
  have hrl := rdr.elen (by decide)
  refine fn_enter Tryz.func35 rfl rfl (l := (bkV b pm nm cm pr nr cr) :: uu12) rfl ?_
  intro cf cs K hK
  refine rs3 (by kernel_rfl) ?_; refine k_box rfl zq (fun q1 => k_hp (k_put ?_)); refine k_as rfl zq ?_; refine aq rfl ?_; refine run_seq ?_; refine rs3 (by kernel_rfl) ?_; refine k_ldA rfl zq ?_; refine k_calP (Post := fun v => v = _) rfl zq (by kernel_rfl) (fun H' hH => f22_c m H' (rdm.keeps (sq hH)) hm (rdr.keeps (sq hH)) hr) ?_; rintro v rfl; refine k_put ?_; refine aq rfl ?_; refine rs2 (by kernel_rfl) ?_; refine mq rfl ?_; refine k_neqS rfl zq (fun hc => ?_) (fun hc => ?_)
  · refine k_nil ?_; refine run_yes ?_; refine rs3 (by kernel_rfl) ?_; refine mq rfl ?_; refine k_as rfl zq ?_; refine aq rfl ?_; refine run_ret rfl ?_; refine run_res (h) rfl Tryz.func35 rfl weakSub ?_; refine hK _ _ ?_
    first
      | (rw [if_pos (by assumption)]; exact ⟨rfl, rfl⟩)
      | (rw [if_neg (by omega)]; refine ⟨rfl, ?_⟩; rw [show bookS b = 0 by omega])
  · refine k_nil ?_; refine run_no ?_; refine run_skip ?_; refine rs5 (by kernel_rfl) ?_; refine k_ldA rfl zq ?_; refine k_calC rfl zq (by kernel_rfl) (Post := fun v new => ∃ vs, RdS B new 1 v (boatsOf b).length vs ∧ RdE B new vs (boatsOf b)) (fun H' hH => f55_c m H' (rdm.keeps (sq hH)) hm (rdr.keeps (sq hH)) hr (valid_of (by omega))) ?_; rintro bv new ⟨vs, rdv, rde⟩; have hbl := boats_le (b := b) (valid_of (by omega))
    obtain ⟨bp, bc, rfl, _⟩ := id rdv
    refine k_hpA (k_put ?_); refine k_len rfl zq ?_; refine k_as rfl zq ?_; refine aq rfl ?_; refine run_ret rfl ?_; refine run_res (h) rfl Tryz.func35 rfl weakSub ?_; refine hK _ _ ?_
    first
      | (rw [if_pos (by assumption)]; exact ⟨rfl, rfl⟩)
      | (rw [if_neg (by omega)]; refine ⟨rfl, ?_⟩; rw [show bookS b = 0 by omega])
def Asc (ys : List Int) : Prop := ys.Pairwise (· < ·)
theorem take_lt {ys : List Int} {x : Int} {j : Nat} (hj : j ≤ ys.length) (h : ∀ i, i < j → ys.getD i 0 < x) : ∀ z ∈ ys.take j, z < x := fun z hz => by
  obtain ⟨i, h1, rfl⟩ := mem_getD.1 hz
  rw [List.length_take] at h1
  have := h i (by omega)
  rw [List.getD_eq_getElem?_getD] at this ⊢
  rw [List.getElem?_take, if_pos (by omega)]; exact this
theorem Asc.ins {ys : List Int} (ha : Asc ys) {x : Int} {j : Nat} (hj : j ≤ ys.length) (h : ∀ i, i < j → ys.getD i 0 < x) (hx : j < ys.length → x < ys.getD j 0) : Asc (ys.take j ++ x :: ys.drop j) := by
  unfold Asc at *
  have ha' := ha
  rw [← List.take_append_drop j ys, List.pairwise_append] at ha'
  obtain ⟨a1, a2, a3⟩ := ha'
  rw [List.pairwise_append, List.pairwise_cons]; have hd : ∀ z ∈ ys.drop j, x < z := by
    intro z hz
    have hlt : j < ys.length := by
      rcases Nat.lt_or_ge j ys.length with h1 | h1
      · exact h1
      · rw [List.drop_eq_nil_of_le h1] at hz; simp at hz
    rw [getD_drop ys j hlt] at hz a2
    rcases List.mem_cons.1 hz with rfl | hz
    · exact hx hlt
    · exact Int.lt_trans (hx hlt) ((List.pairwise_cons.1 a2).1 z hz)
  refine ⟨a1, ⟨hd, a2⟩, fun a ha b hb => ?_⟩
  rcases List.mem_cons.1 hb with rfl | hb
  · exact take_lt hj h a ha
  · exact a3 a ha b hb
theorem mem_ins {ys : List Int} {x z : Int} {j : Nat} : z ∈ ys.take j ++ x :: ys.drop j ↔ z ∈ ys ∨ z = x := by
  rw [List.mem_append, List.mem_cons]; have : z ∈ ys ↔ z ∈ ys.take j ∨ z ∈ ys.drop j := by rw [← List.mem_append, List.take_append_drop]
  rw [this]; constructor
  · rintro (h | h | h)
    · exact .inl (.inl h)
    · exact .inr h
    · exact .inl (.inr h)
  · rintro ((h | h) | h)
    · exact .inl h
    · exact .inr (.inr h)
    · exact .inr (.inl h)
theorem Asc.eq : ∀ {xs ys : List Int}, Asc xs → Asc ys → (∀ z, z ∈ xs ↔ z ∈ ys) → xs = ys
  | [], [], _, _, _ => rfl
  | [], b :: s, _, _, h => by have := (h b).2 (by simp); simp at this
  | a :: r, [], _, _, h => by have := (h a).1 (by simp); simp at this
  | a :: r, b :: s, h1, h2, h => by
    unfold Asc at h1 h2
    rw [List.pairwise_cons] at h1 h2
    have hab : a = b := by
      rcases List.mem_cons.1 ((h a).1 (by simp)) with e | e
      · exact e
      · rcases List.mem_cons.1 ((h b).2 (by simp)) with e' | e'
        · exact e'.symm
        · have := h1.1 b e'; have := h2.1 a e; omega
    subst hab
    have : r = s := Asc.eq h1.2 h2.2 fun z => by
      constructor
      · intro hz
        rcases List.mem_cons.1 ((h z).1 (List.mem_cons_of_mem _ hz)) with e | e
        · have := h1.1 z hz; omega
        · exact e
      · intro hz
        rcases List.mem_cons.1 ((h z).2 (List.mem_cons_of_mem _ hz)) with e | e
        · have := h2.1 z hz; omega
        · exact e
    rw [this]
theorem mem_take_succ {xs : List Int} {k : Nat} (h : k < xs.length) {z : Int} : z ∈ xs.take (k + 1) ↔ z ∈ xs.take k ∨ z = xs.getD k 0 := by
  rw [take_snoc' xs k h, List.mem_append, List.mem_singleton]
theorem OwnS.full {t k q n : Nat} {cs : List Value} (hl : cs.length = n * k) : OwnS t k (.slice (some ⟨q, 0, none⟩) n n) n cs [⟨true, q, .cells cs.toArray t (0, 0)⟩] := by
  have := OwnS.blk (t := t) (k := k) (b := q) (n := n) (cap := n) (cs := cs) (junk := []) hl (by simpa using hl) (Nat.le_refl _)
  simpa using this
theorem f115_c (m : Md Tryz.prog B) (h : Hp) {p : Option Addr} {n c : Nat} {xs : List Int} (rd : RdS B h 1 (.slice p n c) n (ints xs)) (hn : n ≤ 100000) : FnC m 115 #[.slice p n c] h fun v h' => ∃ new, h' = h ++ new ∧ ∃ ys, Asc ys ∧ (∀ z, z ∈ ys ↔ z ∈ xs) ∧ OwnS 3 1 v ys.length (ints ys) new := by
  have hl := rd.ilen
  refine fn_enter Tryz.func115 rfl rfl (l := (.slice p n c) :: uu57) rfl ?_
  intro cf cs K hK
  refine rs1 (by kernel_rfl) ?_; refine aq rfl ?_; refine rs1 (by kernel_rfl) ?_; refine aq rfl ?_; refine run_seq ?_; refine rs1 (by kernel_rfl) ?_; refine aq rfl ?_; refine run_block ?_; refine run_loop (fun nn l h' => ∃ (k : Nat) (new : Hp) (ys : List Int) (wp : Option Addr) (wc : Nat), nn = n - k ∧ (k ≤ n) ∧ (OwnS 3 1 (.slice wp ys.length wc) ys.length (ints ys) new) ∧ (Asc ys) ∧ (∀ z, z ∈ ys ↔ z ∈ xs.take k) ∧ (ys.length ≤ k) ∧ (∃ U : Nat → Value, l = [.slice p n c, U 1, U 2, .slice wp ys.length wc, .int .i64 (k : Int), U 5, U 6, U 7, U 8, U 9, U 10, U 11, U 12, U 13, U 14, U 15, U 16, U 17, U 18, U 19, U 20, U 21, U 22, U 23, U 24, U 25, U 26, U 27, U 28, U 29, U 30, U 31, U 32, U 33, U 34, U 35, U 36, U 37, U 38, U 39, U 40, U 41, U 42, U 43, U 44, U 45, U 46, U 47, U 48, U 49, U 50, U 51, U 52, U 53, U 54, U 55, U 56, U 57]) ∧ h ++ new = h') _ ⟨0, [], [], _, _, rfl, by omega, OwnS.nil, List.Pairwise.nil, by simp, by simp, exU rfl, (by simp)⟩ ?_; rintro nn l h' ⟨k, new, ys, wp, wc, rfl, hk, ho, ha, hm, hyl, ⟨U, rfl⟩, rfl⟩ hnext1; have hw : RdS B new 1 (.slice wp ys.length wc) ys.length (ints ys) := ho.rd'
  have hcap := ho.cap
  refine run_seq ?_; refine rs4 (by kernel_rfl) ?_; refine mq rfl ?_; refine mq rfl ?_; refine k_len rfl zq ?_; refine k_lssS rfl zq (fun hc => ?_) (fun hc => ?_)
  · refine k_nil ?_; refine run_yes ?_; refine run_skip ?_; refine run_seq ?_; refine run_block ?_; refine rs1 (by kernel_rfl) ?_; refine aq rfl ?_; refine run_seq ?_; refine run_block ?_; refine run_loop (fun nn l h' => ∃ (j : Nat), nn = ys.length - j ∧ (j ≤ ys.length) ∧ (∀ i, i < j → ys.getD i 0 < xs.getD k 0) ∧ (∃ U : Nat → Value, l = [.slice p n c, U 1, U 2, .slice wp ys.length wc, .int .i64 (k : Int), .int .i64 (j : Int), U 6, U 7, U 8, U 9, U 10, U 11, U 12, U 13, U 14, U 15, U 16, U 17, U 18, U 19, U 20, U 21, U 22, U 23, U 24, U 25, U 26, U 27, U 28, U 29, U 30, U 31, U 32, U 33, U 34, U 35, U 36, U 37, U 38, U 39, U 40, U 41, U 42, U 43, U 44, U 45, U 46, U 47, U 48, U 49, U 50, U 51, U 52, U 53, U 54, U 55, U 56, U 57]) ∧ h ++ new = h') _ ⟨0, rfl, by omega, by omega, exU rfl, rfl⟩ ?_; rintro nn l h' ⟨j, rfl, hj, hlt, ⟨U, rfl⟩, rfl⟩ hnext2; refine run_seq ?_; refine run_seq ?_; refine run_draw [(0, .pure), (1, .pure), (2, .pure), (3, .pure), (4, .pure), (5, .pure), (6, .pure), (7, .pure), (9, .pure), (10, .pure), (11, .pure), (8, .read), (12, .read), (13, .pure), (14, .pure)] (by kernel_rfl) (by kernel_rfl) (List.Sublist.refl _) ?_; refine mq rfl ?_; refine mq rfl ?_; refine k_len rfl zq ?_; refine k_lssS rfl zq (fun hc => ?_) (fun hc => ?_)
    · refine mq rfl ?_; refine k_mv rfl rfl ?_; refine k_mv rfl rfl ?_; obtain ⟨hw_b, hw_o, rfl⟩ := hw.ptr (by omega)
      refine k_ixs rfl rfl (by first | rfl | assumption) (by omega) (by omega) ?_; refine k_mv rfl rfl ?_; refine k_mv rfl rfl ?_; obtain ⟨rd_b, rd_o, rfl⟩ := rd.ptr (by omega)
      refine k_ixs rfl rfl (by first | rfl | assumption) (by omega) (by omega) ?_; refine k_ld rfl rfl (hw.iat j (by omega) (by omega)) ?_; refine k_ld rfl rfl (rd.iat k (by omega) (by omega)) ?_; refine k_lssS rfl rfl (fun hc => ?_) (fun hc => ?_)
      · refine k_pickT rfl zq ?_; refine k_nil ?_; refine run_yes ?_; refine run_skip ?_; refine run_block ?_; refine rr3 (by kernel_rfl) ?_; refine mq rfl ?_; refine k_add rfl zq (by unfold In64; omega) ?_; refine aq rfl ?_; refine run_inBlock ?_; exact m.weak weakSub (hnext2 _ _ _ (by omega) ⟨j + 1, rfl, by omega, fun i hi => by
          rcases Nat.lt_or_ge i j with h1 | h1
          · exact hlt i h1
          · obtain rfl : i = j := by omega
            first | assumption | (exfalso; omega), exU rfl, rfl⟩)
      · refine k_pickT rfl zq ?_; refine k_nil ?_; refine run_no ?_; refine run_exit rfl ?_; refine run_seq ?_; refine run_draw [(0, .pure), (1, .pure), (2, .pure), (3, .pure), (4, .pure), (5, .pure), (6, .pure), (7, .pure), (9, .pure), (10, .pure), (11, .pure), (8, .read), (12, .read), (13, .pure), (14, .pure)] (by kernel_rfl) (by kernel_rfl) (List.Sublist.refl _) ?_; refine mq rfl ?_; refine mq rfl ?_; refine k_len rfl zq ?_; refine k_eqlS rfl zq (fun hc => ?_) (fun hc => ?_)
        · refine mq rfl ?_; refine k_off rfl rfl ?_; refine k_off rfl rfl ?_; refine k_off rfl rfl ?_; refine k_off rfl rfl ?_; refine k_off rfl rfl ?_; refine k_off rfl rfl ?_; refine k_off rfl rfl ?_; refine k_off rfl rfl ?_; refine k_off rfl rfl ?_; refine k_pickT rfl zq ?_; refine k_nil ?_; refine run_yes ?_; refine run_draw [(0, .pure), (1, .pure), (2, .pure), (3, .pure), (4, .pure), (5, .pure), (8, .pure), (9, .pure), (10, .pure), (6, .read), (7, .keep), (11, .free), (12, .free), (13, .pure)] (by kernel_rfl) (by kernel_rfl) (List.Sublist.refl _) ?_; refine mq rfl ?_; refine mq rfl ?_; refine k_slTo (b := j) rfl zq hw.okp rfl (by omega) ?_; refine mq rfl ?_; refine mq rfl ?_; refine k_ixs rfl zq (by first | rfl | assumption) (by omega) (by omega) ?_; refine mq rfl ?_; refine mq rfl ?_; refine k_slFrom (a := j) rfl zq rfl (by omega) ?_; refine k_ld rfl zq (rd.iat k (by omega) (by omega)) ?_; refine k_bs kdq rfl zq (by decide) (by decide) rfl (fun q51 => k_hp (k_put ?_)); refine k_app (F := h ++ new) rfl zq weakSub (OwnS.full (n := 1) (cs := [.int .i64 (xs.getD k 0)]) rfl) (hw.cut (lo := j) (by omega) (by omega)).up (by rw [Nat.mul_one, ← ints_drop]; exact ints_one _) kdq (by omega) (by omega) (fun w6 n6 o6 => k_put ?_); obtain ⟨p6, c6, rfl, _⟩ := o6.len
          have r6 : RdS B n6 1 (.slice p6 _ c6) _ _ := (o6.rd')
          refine k_app (F := h ++ n6) rfl zq (Weak.mid h new n6) (ho.pre (m := j) (by omega)) r6.up (by rw [Nat.mul_one, ← ints_drop]; intro u hu; rcases List.mem_cons.1 hu with rfl | hu; rfl; exact ints_one _ u hu) kdq (by omega) (by omega) (fun w7 n7 o7 => k_put ?_); obtain ⟨p7, c7, rfl, _⟩ := o7.len
          have hys : (ints ys).take (j * 1) ++ ([Value.int .i64 (xs.getD k 0)] ++ (ints ys).drop (j * 1)) = ints (ys.take j ++ xs.getD k 0 :: ys.drop j) := by
            rw [Nat.mul_one, ints_append, ints_take]; simp
          have hyn : j + (1 + (ys.length - j)) = (ys.take j ++ xs.getD k 0 :: ys.drop j).length := by simp; omega
          rw [hys, hyn] at o7
          rw [hyn]; refine aq rfl ?_; refine run_inBlock ?_; refine rr3 (by kernel_rfl) ?_; refine mq rfl ?_; refine k_add rfl zq (by unfold In64; omega) ?_; refine aq rfl ?_; exact m.weak weakSub (hnext1 _ _ _ (by omega) ⟨k + 1, _, ys.take j ++ xs.getD k 0 :: ys.drop j, p7, c7, rfl, by omega, o7, by first | (exfalso; omega) | exact ha.ins (by omega) hlt (fun _ => by omega), fun z => by rw [mem_ins, mem_take_succ (by omega), hm], by rw [← hyn]; omega, exU rfl, rfl⟩)
        · refine mq rfl ?_; refine k_mv rfl rfl ?_; refine k_mv rfl rfl ?_; refine k_ixs rfl rfl (by first | rfl | assumption) (by omega) (by omega) ?_; refine k_mv rfl rfl ?_; refine k_mv rfl rfl ?_; refine k_ixs rfl rfl (by first | rfl | assumption) (by omega) (by omega) ?_; refine k_ld rfl rfl (hw.iat j (by omega) (by omega)) ?_; refine k_ld rfl rfl (rd.iat k (by omega) (by omega)) ?_; refine k_neqS rfl rfl (fun hc => ?_) (fun hc => ?_)
          · refine k_pickF rfl zq ?_; refine k_nil ?_; refine run_yes ?_; refine run_draw [(0, .pure), (1, .pure), (2, .pure), (3, .pure), (4, .pure), (5, .pure), (8, .pure), (9, .pure), (10, .pure), (6, .read), (7, .keep), (11, .free), (12, .free), (13, .pure)] (by kernel_rfl) (by kernel_rfl) (List.Sublist.refl _) ?_; refine mq rfl ?_; refine mq rfl ?_; refine k_slTo (b := j) rfl zq hw.okp rfl (by omega) ?_; refine mq rfl ?_; refine mq rfl ?_; refine k_ixs rfl zq (by first | rfl | assumption) (by omega) (by omega) ?_; refine mq rfl ?_; refine mq rfl ?_; refine k_slFrom (a := j) rfl zq rfl (by omega) ?_; refine k_ld rfl zq (rd.iat k (by omega) (by omega)) ?_; refine k_bs kdq rfl zq (by decide) (by decide) rfl (fun q51 => k_hp (k_put ?_)); refine k_app (F := h ++ new) rfl zq weakSub (OwnS.full (n := 1) (cs := [.int .i64 (xs.getD k 0)]) rfl) (hw.cut (lo := j) (by omega) (by omega)).up (by rw [Nat.mul_one, ← ints_drop]; exact ints_one _) kdq (by omega) (by omega) (fun w6 n6 o6 => k_put ?_); obtain ⟨p6, c6, rfl, _⟩ := o6.len
            have r6 : RdS B n6 1 (.slice p6 _ c6) _ _ := (o6.rd')
            refine k_app (F := h ++ n6) rfl zq (Weak.mid h new n6) (ho.pre (m := j) (by omega)) r6.up (by rw [Nat.mul_one, ← ints_drop]; intro u hu; rcases List.mem_cons.1 hu with rfl | hu; rfl; exact ints_one _ u hu) kdq (by omega) (by omega) (fun w7 n7 o7 => k_put ?_); obtain ⟨p7, c7, rfl, _⟩ := o7.len
            have hys : (ints ys).take (j * 1) ++ ([Value.int .i64 (xs.getD k 0)] ++ (ints ys).drop (j * 1)) = ints (ys.take j ++ xs.getD k 0 :: ys.drop j) := by
              rw [Nat.mul_one, ints_append, ints_take]; simp
            have hyn : j + (1 + (ys.length - j)) = (ys.take j ++ xs.getD k 0 :: ys.drop j).length := by simp; omega
            rw [hys, hyn] at o7
            rw [hyn]; refine aq rfl ?_; refine run_inBlock ?_; refine rr3 (by kernel_rfl) ?_; refine mq rfl ?_; refine k_add rfl zq (by unfold In64; omega) ?_; refine aq rfl ?_; exact m.weak weakSub (hnext1 _ _ _ (by omega) ⟨k + 1, _, ys.take j ++ xs.getD k 0 :: ys.drop j, p7, c7, rfl, by omega, o7, by first | (exfalso; omega) | exact ha.ins (by omega) hlt (fun hlt2 => by have := hlt2; omega), fun z => by rw [mem_ins, mem_take_succ (by omega), hm], by rw [← hyn]; omega, exU rfl, rfl⟩)
          · refine k_pickF rfl zq ?_; refine k_nil ?_; refine run_no ?_; refine run_skip ?_; refine run_inBlock ?_; refine rr3 (by kernel_rfl) ?_; refine mq rfl ?_; refine k_add rfl zq (by unfold In64; omega) ?_; refine aq rfl ?_; exact m.weak weakSub (hnext1 _ _ _ (by omega) ⟨k + 1, _, ys, _, _, rfl, by omega, ho, ha, fun z => by
              rw [mem_take_succ (by omega), ← hm]; refine ⟨.inl, ?_⟩
              rintro (h1 | rfl)
              · exact h1
              · first | (exfalso; omega) | exact mem_getD.2 ⟨j, by omega, by assumption⟩, by omega, exU rfl, rfl⟩)
    · refine mq rfl ?_; refine k_off rfl rfl ?_; refine k_off rfl rfl ?_; refine k_off rfl rfl ?_; refine k_off rfl rfl ?_; refine k_off rfl rfl ?_; refine k_off rfl rfl ?_; refine k_off rfl rfl ?_; refine k_off rfl rfl ?_; refine k_off rfl rfl ?_; refine k_pickF rfl zq ?_; refine k_nil ?_; refine run_no ?_; refine run_exit rfl ?_; refine run_seq ?_; refine run_draw [(0, .pure), (1, .pure), (2, .pure), (3, .pure), (4, .pure), (5, .pure), (6, .pure), (7, .pure), (9, .pure), (10, .pure), (11, .pure), (8, .read), (12, .read), (13, .pure), (14, .pure)] (by kernel_rfl) (by kernel_rfl) (List.Sublist.refl _) ?_; refine mq rfl ?_; refine mq rfl ?_; refine k_len rfl zq ?_; refine k_eqlS rfl zq (fun hc => ?_) (fun hc => ?_)
      · refine mq rfl ?_; refine k_off rfl rfl ?_; refine k_off rfl rfl ?_; refine k_off rfl rfl ?_; refine k_off rfl rfl ?_; refine k_off rfl rfl ?_; refine k_off rfl rfl ?_; refine k_off rfl rfl ?_; refine k_off rfl rfl ?_; refine k_off rfl rfl ?_; refine k_pickT rfl zq ?_; refine k_nil ?_; refine run_yes ?_; refine run_draw [(0, .pure), (1, .pure), (2, .pure), (3, .pure), (4, .pure), (5, .pure), (8, .pure), (9, .pure), (10, .pure), (6, .read), (7, .keep), (11, .free), (12, .free), (13, .pure)] (by kernel_rfl) (by kernel_rfl) (List.Sublist.refl _) ?_; refine mq rfl ?_; refine mq rfl ?_; refine k_slTo (b := j) rfl zq hw.okp rfl (by omega) ?_; refine mq rfl ?_; refine mq rfl ?_; obtain ⟨rd_b, rd_o, rfl⟩ := rd.ptr (by omega)
        refine k_ixs rfl zq (by first | rfl | assumption) (by omega) (by omega) ?_; refine mq rfl ?_; refine mq rfl ?_; refine k_slFrom (a := j) rfl zq rfl (by omega) ?_; refine k_ld rfl zq (rd.iat k (by omega) (by omega)) ?_; refine k_bs kdq rfl zq (by decide) (by decide) rfl (fun q51 => k_hp (k_put ?_)); refine k_app (F := h ++ new) rfl zq weakSub (OwnS.full (n := 1) (cs := [.int .i64 (xs.getD k 0)]) rfl) (hw.cut (lo := j) (by omega) (by omega)).up (by rw [Nat.mul_one, ← ints_drop]; exact ints_one _) kdq (by omega) (by omega) (fun w6 n6 o6 => k_put ?_); obtain ⟨p6, c6, rfl, _⟩ := o6.len
        have r6 : RdS B n6 1 (.slice p6 _ c6) _ _ := (o6.rd')
        refine k_app (F := h ++ n6) rfl zq (Weak.mid h new n6) (ho.pre (m := j) (by omega)) r6.up (by rw [Nat.mul_one, ← ints_drop]; intro u hu; rcases List.mem_cons.1 hu with rfl | hu; rfl; exact ints_one _ u hu) kdq (by omega) (by omega) (fun w7 n7 o7 => k_put ?_); obtain ⟨p7, c7, rfl, _⟩ := o7.len
        have hys : (ints ys).take (j * 1) ++ ([Value.int .i64 (xs.getD k 0)] ++ (ints ys).drop (j * 1)) = ints (ys.take j ++ xs.getD k 0 :: ys.drop j) := by
          rw [Nat.mul_one, ints_append, ints_take]; simp
        have hyn : j + (1 + (ys.length - j)) = (ys.take j ++ xs.getD k 0 :: ys.drop j).length := by simp; omega
        rw [hys, hyn] at o7
        rw [hyn]; refine aq rfl ?_; refine run_inBlock ?_; refine rr3 (by kernel_rfl) ?_; refine mq rfl ?_; refine k_add rfl zq (by unfold In64; omega) ?_; refine aq rfl ?_; exact m.weak weakSub (hnext1 _ _ _ (by omega) ⟨k + 1, _, ys.take j ++ xs.getD k 0 :: ys.drop j, p7, c7, rfl, by omega, o7, by first | (exfalso; omega) | exact ha.ins (by omega) hlt (fun _ => by omega), fun z => by rw [mem_ins, mem_take_succ (by omega), hm], by rw [← hyn]; omega, exU rfl, rfl⟩)
      · refine mq rfl ?_; refine k_mv rfl rfl ?_; refine k_mv rfl rfl ?_; obtain ⟨hw_b, hw_o, rfl⟩ := hw.ptr (by omega)
        refine k_ixs rfl rfl (by first | rfl | assumption) (by omega) (by omega) ?_; refine k_mv rfl rfl ?_; refine k_mv rfl rfl ?_; obtain ⟨rd_b, rd_o, rfl⟩ := rd.ptr (by omega)
        refine k_ixs rfl rfl (by first | rfl | assumption) (by omega) (by omega) ?_; refine k_ld rfl rfl (hw.iat j (by omega) (by omega)) ?_; refine k_ld rfl rfl (rd.iat k (by omega) (by omega)) ?_; refine k_neqS rfl rfl (fun hc => ?_) (fun hc => ?_)
        · refine k_pickF rfl zq ?_; refine k_nil ?_; refine run_yes ?_; refine run_draw [(0, .pure), (1, .pure), (2, .pure), (3, .pure), (4, .pure), (5, .pure), (8, .pure), (9, .pure), (10, .pure), (6, .read), (7, .keep), (11, .free), (12, .free), (13, .pure)] (by kernel_rfl) (by kernel_rfl) (List.Sublist.refl _) ?_; refine mq rfl ?_; refine mq rfl ?_; refine k_slTo (b := j) rfl zq hw.okp rfl (by omega) ?_; refine mq rfl ?_; refine mq rfl ?_; refine k_ixs rfl zq (by first | rfl | assumption) (by omega) (by omega) ?_; refine mq rfl ?_; refine mq rfl ?_; refine k_slFrom (a := j) rfl zq rfl (by omega) ?_; refine k_ld rfl zq (rd.iat k (by omega) (by omega)) ?_; refine k_bs kdq rfl zq (by decide) (by decide) rfl (fun q51 => k_hp (k_put ?_)); refine k_app (F := h ++ new) rfl zq weakSub (OwnS.full (n := 1) (cs := [.int .i64 (xs.getD k 0)]) rfl) (hw.cut (lo := j) (by omega) (by omega)).up (by rw [Nat.mul_one, ← ints_drop]; exact ints_one _) kdq (by omega) (by omega) (fun w6 n6 o6 => k_put ?_); obtain ⟨p6, c6, rfl, _⟩ := o6.len
          have r6 : RdS B n6 1 (.slice p6 _ c6) _ _ := (o6.rd')
          refine k_app (F := h ++ n6) rfl zq (Weak.mid h new n6) (ho.pre (m := j) (by omega)) r6.up (by rw [Nat.mul_one, ← ints_drop]; intro u hu; rcases List.mem_cons.1 hu with rfl | hu; rfl; exact ints_one _ u hu) kdq (by omega) (by omega) (fun w7 n7 o7 => k_put ?_); obtain ⟨p7, c7, rfl, _⟩ := o7.len
          have hys : (ints ys).take (j * 1) ++ ([Value.int .i64 (xs.getD k 0)] ++ (ints ys).drop (j * 1)) = ints (ys.take j ++ xs.getD k 0 :: ys.drop j) := by
            rw [Nat.mul_one, ints_append, ints_take]; simp
          have hyn : j + (1 + (ys.length - j)) = (ys.take j ++ xs.getD k 0 :: ys.drop j).length := by simp; omega
          rw [hys, hyn] at o7
          rw [hyn]; refine aq rfl ?_; refine run_inBlock ?_; refine rr3 (by kernel_rfl) ?_; refine mq rfl ?_; refine k_add rfl zq (by unfold In64; omega) ?_; refine aq rfl ?_; exact m.weak weakSub (hnext1 _ _ _ (by omega) ⟨k + 1, _, ys.take j ++ xs.getD k 0 :: ys.drop j, p7, c7, rfl, by omega, o7, by first | (exfalso; omega) | exact ha.ins (by omega) hlt (fun hlt2 => by have := hlt2; omega), fun z => by rw [mem_ins, mem_take_succ (by omega), hm], by rw [← hyn]; omega, exU rfl, rfl⟩)
        · refine k_pickF rfl zq ?_; refine k_nil ?_; refine run_no ?_; refine run_skip ?_; refine run_inBlock ?_; refine rr3 (by kernel_rfl) ?_; refine mq rfl ?_; refine k_add rfl zq (by unfold In64; omega) ?_; refine aq rfl ?_; exact m.weak weakSub (hnext1 _ _ _ (by omega) ⟨k + 1, _, ys, _, _, rfl, by omega, ho, ha, fun z => by
            rw [mem_take_succ (by omega), ← hm]; refine ⟨.inl, ?_⟩
            rintro (h1 | rfl)
            · exact h1
            · first | (exfalso; omega) | exact mem_getD.2 ⟨j, by omega, by assumption⟩, by omega, exU rfl, rfl⟩)
  · refine k_nil ?_; refine run_no ?_; refine run_exit rfl ?_; refine rs2 (by kernel_rfl) ?_; refine mq rfl ?_; refine aq rfl ?_; refine run_ret rfl ?_; refine run_res (h ++ new) rfl Tryz.func115 rfl weakSub ?_; refine hK _ _ ?_
    obtain rfl : k = n := by omega
    rw [List.take_of_length_le (by omega)] at hm
    exact ⟨_, rfl, ys, ha, hm, ho⟩
class ThereV (t : Bool) (z : outParam Int) : Prop where
  eq : (if t then 0 else 6) = z
instance : ThereV true 0 := ⟨rfl⟩
instance : ThereV false 6 := ⟨rfl⟩
theorem f113_v (m : Md Tryz.prog B) (h : Hp) {t : Bool} {z : Int} [e : ThereV t z] : FnC m 113 #[.bool t] h fun v h' => h' = h ∧ v = .int .i64 z := by
  have := f113_c m h t
  rw [e.eq] at this
  exact this
theorem openL_le {h : Hp} {vs : List Value} {b : Bk} {own : Int} (_ : RdE B h vs (openL b own)) : (openL b own).length ≤ 2187 := by
  unfold openL
  split
  · rename_i e
    exact boats_le (valid_of (openS_zero e).1)
  · simp
theorem openL_mem {h : Hp} {vs : List Value} {b : Bk} {own : Int} (_ : RdE B h vs (openL b own)) : ∀ l ∈ openL b own, Valid b ∧ own = 0 ∧ l ∈ boatsOf b := by
  intro l hl
  unfold openL at hl
  split at hl
  · rename_i e
    exact ⟨valid_of (openS_zero e).1, (openS_zero e).2.1, hl⟩
  · simp at hl
def heightsAt (ll : List (List Int)) (s : Nat) : List Int := ll.map fun l => l.getD s 0
theorem heightsAt_take (ll : List (List Int)) (s k : Nat) (h : k < ll.length) : heightsAt (ll.take (k + 1)) s = heightsAt (ll.take k) s ++ [(ll.getD k []).getD s 0] := by
  rw [take_snocL ll k h, heightsAt, List.map_append]; rfl
def hollowN (ll : List (List Int)) (s : Nat) : Nat := (ll.filter fun l => decide (0 < (bends l).getD s 0)).length
theorem hollowN_yes (ll : List (List Int)) (s k : Nat) (h : k < ll.length) (hp : 0 < (bends (ll.getD k [])).getD s 0) : hollowN (ll.take (k + 1)) s = hollowN (ll.take k) s + 1 := by
  rw [take_snocL ll k h, hollowN, List.filter_append, List.filter_cons, if_pos (decide_eq_true hp), List.length_append]; rfl
theorem hollowN_no (ll : List (List Int)) (s k : Nat) (h : k < ll.length) (hp : ¬ 0 < (bends (ll.getD k [])).getD s 0) : hollowN (ll.take (k + 1)) s = hollowN (ll.take k) s := by
  rw [take_snocL ll k h, hollowN, List.filter_append, List.filter_cons, if_neg (by simpa using hp), List.filter_nil, List.append_nil]; rfl
def told (x y : Int) : Int := if x = 0 then 2 else if x = y then 1 else 0
def bestBy (lt : List Int → List Int → Bool) (ll : List (List Int)) : List Int := (ll.drop 1).foldl (fun o x => if lt x o then x else o) (ll.getD 0 [])
theorem bestBy_one (lt : List Int → List Int → Bool) (ll : List (List Int)) : bestBy lt (ll.take 1) = ll.getD 0 [] := by
  cases ll <;> rfl
theorem bestBy_succ (lt : List Int → List Int → Bool) (ll : List (List Int)) (k : Nat) (h0 : 0 < k) (h : k < ll.length) : bestBy lt (ll.take (k + 1)) = if lt (ll.getD k []) (bestBy lt (ll.take k)) then ll.getD k [] else bestBy lt (ll.take k) := by
  have e : ∀ k, 0 < k → (ll.take k).getD 0 [] = ll.getD 0 [] := fun k hk => by
    rw [List.getD_eq_getElem?_getD, List.getD_eq_getElem?_getD, List.getElem?_take, if_pos hk]
  unfold bestBy
  rw [e (k + 1) (by omega), e k h0, take_snocL ll k h, List.drop_append_of_le_length (by rw [List.length_take]; omega), List.foldl_append]; rfl
theorem bestBy_mem (lt : List Int → List Int → Bool) (ll : List (List Int)) (h : 0 < ll.length) : bestBy lt ll ∈ ll := by
  have gen : ∀ (r : List (List Int)) (o : List Int), o ∈ ll → (∀ x ∈ r, x ∈ ll) → r.foldl (fun o x => if lt x o then x else o) o ∈ ll := by
    intro r
    induction r with
    | nil => exact fun o ho _ => ho
    | cons x r ih =>
      intro o ho hr
      refine ih _ ?_ fun y hy => hr y (List.mem_cons_of_mem _ hy)
      show (if lt x o then x else o) ∈ ll
      split
      · exact hr x List.mem_cons_self
      · exact ho
  exact gen _ _ (mem_getDR.2 ⟨0, h, rfl⟩) fun x hx => List.mem_of_mem_drop hx
def ltStrain (x o : List Int) : Bool := decide (strain x < strain o)
theorem f37_c (m : Md Tryz.prog B) (h : Hp) {b : Bk} {pm : Option Addr} {nm cm : Nat} {pr : Option Addr} {nr cr : Nat} (rdm : RdS B h 2 (.slice pm nm cm) nm (encs b.marks)) (hm : nm ≤ 1000) (rdr : RdS B h 4 (.slice pr nr cr) nr (encs b.rules)) (hr : nr ≤ 1000) (st : Int) : FnC m 37 #[bkV b pm nm cm pr nr cr, .int .i64 st] h fun v h' => ∃ new, h' = h ++ new ∧ ∃ w ys, v = .tuple [w, .int .i64 (openS b (if 0 ≤ st ∧ st ≤ nm - 1 then 0 else 6))].toArray ∧ OwnS 3 1 w ys.length (ints ys) new ∧ Asc ys ∧ ∀ z, z ∈ ys ↔ z ∈ heightsAt (openL b (if 0 ≤ st ∧ st ≤ nm - 1 then 0 else 6)) st.toNat := by
  have hml := rdm.elen (by decide)
  have hrl := rdr.elen (by decide)
  refine fn_enter Tryz.func37 rfl rfl (l := (bkV b pm nm cm pr nr cr) :: (.int .i64 st) :: uu36) rfl ?_
  intro cf cs K hK
  refine rs3 (by kernel_rfl) ?_; refine k_box rfl zq (fun q2 => k_hp (k_put ?_)); refine k_as rfl zq ?_; refine aq rfl ?_; refine run_seq ?_; refine run_draw [(2, .pure), (0, .read), (1, .read), (3, .keep), (4, .keep), (5, .keep), (6, .pure), (7, .pure), (8, .pure), (9, .pure), (10, .pure)] (by kernel_rfl) (by kernel_rfl) (List.Sublist.refl _) ?_; refine mq rfl ?_; refine k_ldA rfl zq ?_; refine k_ldA rfl zq ?_; refine k_calP (Post := fun v => IsB _ v) rfl zq (by kernel_rfl) (fun H' hH => f114_c m H' _ _ _ _ _ _ _ _ _ _ hm) ?_; rintro v (⟨hc, rfl⟩ | ⟨hc, rfl⟩)
  · refine k_put ?_; refine k_calP (Post := fun v => v = _) rfl zq (by kernel_rfl) (fun H' hH => f113_v m H') ?_; rintro v rfl; refine k_put ?_; refine k_calC rfl zq (by kernel_rfl) (fun H' hH => f112_c m H' (rdm.keeps (sq hH)) hm (rdr.keeps (sq hH)) hr _) ?_; rintro v nw ⟨w, rfl, bp, bc, vs, rfl, rdv, rde⟩; refine k_hpA (k_put ?_); have hle := openL_le rde
    have hmem := openL_mem rde
    generalize hll : openL b _ = ll at rdv rde hle hmem ⊢
    refine mq rfl ?_; refine k_ext0 rfl zq ?_; refine k_ext1 rfl zq ?_; refine k_as rfl zq ?_; refine aq rfl ?_; refine rs1 (by kernel_rfl) ?_; refine aq rfl ?_; refine run_seq ?_; refine rs1 (by kernel_rfl) ?_; refine aq rfl ?_; refine run_block ?_; refine run_loop (fun nn l h' => ∃ (os : Int) (k : Nat) (w8 : Value) (n8 : Hp), nn = ll.length - k ∧ (os = openS b (if 0 ≤ st ∧ st ≤ nm - 1 then 0 else 6)) ∧ (k ≤ ll.length) ∧ (OwnS 3 1 w8 k (ints (heightsAt (ll.take k) st.toNat)) n8) ∧ (∃ U : Nat → Value, l = [bkV b pm nm cm pr nr cr, .int .i64 st, U 2, U 3, U 4, U 5, .slice bp ll.length bc, .int .i64 os, w8, .int .i64 (k : Int), U 10, U 11, U 12, U 13, U 14, U 15, U 16, U 17, U 18, U 19, U 20, U 21, U 22, U 23, U 24, U 25, U 26, U 27, U 28, U 29, U 30, U 31, U 32, U 33, U 34, U 35, U 36, U 37]) ∧ h ++ [⟨true, q2, .cells (bkL b pm nm cm pr nr cr).toArray 25 (0, 0)⟩] ++ nw ++ n8 = h') _ ⟨_, 0, _, [], rfl, by first | rw [if_pos (by assumption)] | rw [if_neg (by assumption)], by omega, OwnS.nil, exU rfl, (by simp)⟩ ?_; rintro nn l h' ⟨os, k, w8, n8, rfl, hos, hk, ho, ⟨U, rfl⟩, rfl⟩ hnext; refine run_seq ?_; refine rs4 (by kernel_rfl) ?_; refine mq rfl ?_; refine mq rfl ?_; refine k_len rfl zq ?_; refine k_lssS rfl zq (fun hc => ?_) (fun hc => ?_)
    · refine k_nil ?_; refine run_yes ?_; refine run_skip ?_; refine run_seq ?_; refine run_block ?_; refine rr11 (by kernel_rfl) ?_; obtain ⟨ep, ec, ee, er⟩ := rde.2 k (by omega)
      obtain ⟨hv, h0, hb⟩ := hmem _ (mem_getDR.2 ⟨k, by omega, rfl⟩)
      replace hb : ll.getD k [] ∈ boatsOf b := hb
      have hln := (line_of (boat_line hb)).1
      obtain ⟨s, hs⟩ := Int.eq_ofNat_of_zero_le (show 0 ≤ st by omega)
      refine mq rfl ?_; refine mq rfl ?_; refine mq rfl ?_; obtain ⟨rdv_b, rdv_o, rfl⟩ := rdv.ptr (by omega)
      refine k_ixs rfl zq (by first | rfl | assumption) (by omega) (by omega) ?_; refine k_ld (v := .slice ep (ll.getD k []).length ec) rfl zq (by rw [← ee]; exact rdv.vat k (by omega) (by omega)) ?_; obtain ⟨eb, eo, rfl⟩ := er.ptr (by omega)
      refine mq rfl ?_; refine k_ixs rfl zq (by first | rfl | assumption) (by omega) (by omega) ?_; refine k_ld rfl zq (er.iat s (by omega) (by omega)) ?_; refine k_bs kdq rfl zq (by decide) (by decide) rfl (fun q33 => k_hp (k_put ?_)); refine k_app1 (F := h ++ [⟨true, q2, .cells (bkL b pm nm cm pr nr cr).toArray 25 (0, 0)⟩] ++ nw) rfl zq rfl ho kdq (by omega) (by omega) (fun w9 n9 o9 => k_put ?_); rw [show ints (heightsAt (ll.take k) st.toNat) ++ [Value.int .i64 ((ll.getD k []).getD s 0)] = ints (heightsAt (ll.take (k + 1)) st.toNat) by rw [heightsAt_take _ _ _ (by omega), show st.toNat = s by omega]; simp] at o9
      refine aq rfl ?_; refine run_inBlock ?_; refine rr3 (by kernel_rfl) ?_; refine mq rfl ?_; refine k_add rfl zq (by unfold In64; omega) ?_; refine aq rfl ?_; exact m.weak weakSub (hnext _ _ _ (by omega) ⟨_, k + 1, _, n9, rfl, hos, by omega, o9, exU rfl, rfl⟩)
    · refine k_nil ?_; refine run_no ?_; refine run_exit rfl ?_; refine rs5 (by kernel_rfl) ?_; obtain rfl : k = ll.length := by omega
      rw [List.take_of_length_le (by omega)] at ho
      obtain ⟨p8, c8, rfl, _⟩ := ho.len
      have r8 : RdS B n8 1 (.slice p8 _ c8) _ _ := ho.rd'
      refine mq rfl ?_; refine k_calC rfl zq (by kernel_rfl) (fun H' hH => f115_c m H' (r8.keeps (sq hH)) (by omega)) ?_; rintro v n15 ⟨ys, ha, hmm, o15⟩; refine k_hpA (k_put ?_); refine mq rfl ?_; refine k_as rfl zq ?_; refine aq rfl ?_; refine run_ret rfl ?_; refine run_res (h ++ n15) rfl Tryz.func37 rfl weakSub ?_; refine hK _ _ ?_
      subst hos
      first | rw [if_pos (by assumption)] | rw [if_neg (by assumption)]
      subst hll
      exact ⟨_, rfl, _, ys, rfl, o15, ha, hmm⟩
  · refine k_put ?_; refine k_calP (Post := fun v => v = _) rfl zq (by kernel_rfl) (fun H' hH => f113_v m H') ?_; rintro v rfl; refine k_put ?_; refine k_calC rfl zq (by kernel_rfl) (fun H' hH => f112_c m H' (rdm.keeps (sq hH)) hm (rdr.keeps (sq hH)) hr _) ?_; rintro v nw ⟨w, rfl, bp, bc, vs, rfl, rdv, rde⟩; refine k_hpA (k_put ?_); have hle := openL_le rde
    have hmem := openL_mem rde
    generalize hll : openL b _ = ll at rdv rde hle hmem ⊢
    refine mq rfl ?_; refine k_ext0 rfl zq ?_; refine k_ext1 rfl zq ?_; refine k_as rfl zq ?_; refine aq rfl ?_; refine rs1 (by kernel_rfl) ?_; refine aq rfl ?_; refine run_seq ?_; refine rs1 (by kernel_rfl) ?_; refine aq rfl ?_; refine run_block ?_; refine run_loop (fun nn l h' => ∃ (os : Int) (k : Nat) (w8 : Value) (n8 : Hp), nn = ll.length - k ∧ (os = openS b (if 0 ≤ st ∧ st ≤ nm - 1 then 0 else 6)) ∧ (k ≤ ll.length) ∧ (OwnS 3 1 w8 k (ints (heightsAt (ll.take k) st.toNat)) n8) ∧ (∃ U : Nat → Value, l = [bkV b pm nm cm pr nr cr, .int .i64 st, U 2, U 3, U 4, U 5, .slice bp ll.length bc, .int .i64 os, w8, .int .i64 (k : Int), U 10, U 11, U 12, U 13, U 14, U 15, U 16, U 17, U 18, U 19, U 20, U 21, U 22, U 23, U 24, U 25, U 26, U 27, U 28, U 29, U 30, U 31, U 32, U 33, U 34, U 35, U 36, U 37]) ∧ h ++ [⟨true, q2, .cells (bkL b pm nm cm pr nr cr).toArray 25 (0, 0)⟩] ++ nw ++ n8 = h') _ ⟨_, 0, _, [], rfl, by first | rw [if_pos (by assumption)] | rw [if_neg (by assumption)], by omega, OwnS.nil, exU rfl, (by simp)⟩ ?_; rintro nn l h' ⟨os, k, w8, n8, rfl, hos, hk, ho, ⟨U, rfl⟩, rfl⟩ hnext; refine run_seq ?_; refine rs4 (by kernel_rfl) ?_; refine mq rfl ?_; refine mq rfl ?_; refine k_len rfl zq ?_; refine k_lssS rfl zq (fun hc => ?_) (fun hc => ?_)
    · refine k_nil ?_; refine run_yes ?_; refine run_skip ?_; refine run_seq ?_; refine run_block ?_; refine rr11 (by kernel_rfl) ?_; obtain ⟨ep, ec, ee, er⟩ := rde.2 k (by omega)
      obtain ⟨hv, h0, hb⟩ := hmem _ (mem_getDR.2 ⟨k, by omega, rfl⟩)
      replace hb : ll.getD k [] ∈ boatsOf b := hb
      have hln := (line_of (boat_line hb)).1
      obtain ⟨s, hs⟩ := Int.eq_ofNat_of_zero_le (show 0 ≤ st by omega)
      refine mq rfl ?_; refine mq rfl ?_; refine mq rfl ?_; obtain ⟨rdv_b, rdv_o, rfl⟩ := rdv.ptr (by omega)
      refine k_ixs rfl zq (by first | rfl | assumption) (by omega) (by omega) ?_; refine k_ld (v := .slice ep (ll.getD k []).length ec) rfl zq (by rw [← ee]; exact rdv.vat k (by omega) (by omega)) ?_; obtain ⟨eb, eo, rfl⟩ := er.ptr (by omega)
      refine mq rfl ?_; refine k_ixs rfl zq (by first | rfl | assumption) (by omega) (by omega) ?_; refine k_ld rfl zq (er.iat s (by omega) (by omega)) ?_; refine k_bs kdq rfl zq (by decide) (by decide) rfl (fun q33 => k_hp (k_put ?_)); refine k_app1 (F := h ++ [⟨true, q2, .cells (bkL b pm nm cm pr nr cr).toArray 25 (0, 0)⟩] ++ nw) rfl zq rfl ho kdq (by omega) (by omega) (fun w9 n9 o9 => k_put ?_); rw [show ints (heightsAt (ll.take k) st.toNat) ++ [Value.int .i64 ((ll.getD k []).getD s 0)] = ints (heightsAt (ll.take (k + 1)) st.toNat) by rw [heightsAt_take _ _ _ (by omega), show st.toNat = s by omega]; simp] at o9
      refine aq rfl ?_; refine run_inBlock ?_; refine rr3 (by kernel_rfl) ?_; refine mq rfl ?_; refine k_add rfl zq (by unfold In64; omega) ?_; refine aq rfl ?_; exact m.weak weakSub (hnext _ _ _ (by omega) ⟨_, k + 1, _, n9, rfl, hos, by omega, o9, exU rfl, rfl⟩)
    · refine k_nil ?_; refine run_no ?_; refine run_exit rfl ?_; refine rs5 (by kernel_rfl) ?_; obtain rfl : k = ll.length := by omega
      rw [List.take_of_length_le (by omega)] at ho
      obtain ⟨p8, c8, rfl, _⟩ := ho.len
      have r8 : RdS B n8 1 (.slice p8 _ c8) _ _ := ho.rd'
      refine mq rfl ?_; refine k_calC rfl zq (by kernel_rfl) (fun H' hH => f115_c m H' (r8.keeps (sq hH)) (by omega)) ?_; rintro v n15 ⟨ys, ha, hmm, o15⟩; refine k_hpA (k_put ?_); refine mq rfl ?_; refine k_as rfl zq ?_; refine aq rfl ?_; refine run_ret rfl ?_; refine run_res (h ++ n15) rfl Tryz.func37 rfl weakSub ?_; refine hK _ _ ?_
      subst hos
      first | rw [if_pos (by assumption)] | rw [if_neg (by assumption)]
      subst hll
      exact ⟨_, rfl, _, ys, rfl, o15, ha, hmm⟩
theorem f39_c (m : Md Tryz.prog B) (h : Hp) {b : Bk} {pm : Option Addr} {nm cm : Nat} {pr : Option Addr} {nr cr : Nat} (rdm : RdS B h 2 (.slice pm nm cm) nm (encs b.marks)) (hm : nm ≤ 1000) (rdr : RdS B h 4 (.slice pr nr cr) nr (encs b.rules)) (hr : nr ≤ 1000) (st : Int) (hst : In64 st) : FnC m 39 #[bkV b pm nm cm pr nr cr, .int .i64 st] h fun v h' => h' = h ∧ v = .tuple [.int .i64 (if openS b (if 1 ≤ st ∧ st ≤ nm - 2 then 0 else 6) ≠ 0 then 0 else told (hollowN (boatsOf b) (st - 1).toNat) (boatsOf b).length), .int .i64 (openS b (if 1 ≤ st ∧ st ≤ nm - 2 then 0 else 6))].toArray := by
  have hml := rdm.elen (by decide)
  have hrl := rdr.elen (by decide)
  refine fn_enter Tryz.func39 rfl rfl (l := (bkV b pm nm cm pr nr cr) :: (.int .i64 st) :: uu45) rfl ?_
  intro cf cs K hK
  refine rs3 (by kernel_rfl) ?_; refine k_box rfl zq (fun q2 => k_hp (k_put ?_)); refine k_as rfl zq ?_; refine aq rfl ?_; refine run_seq ?_; refine run_draw [(1, .pure), (2, .pure), (0, .read), (3, .read), (4, .pure), (5, .pure), (6, .keep), (7, .keep), (8, .keep), (9, .pure), (10, .pure), (11, .pure), (12, .pure), (13, .pure)] (by kernel_rfl) (by kernel_rfl) (List.Sublist.refl _) ?_; refine mq rfl ?_; first | refine k_fa0 rfl zq ?_ | refine k_fa rfl zq ?_
  refine k_ldA rfl zq ?_; refine k_ldh rfl zq ?_; refine k_len rfl zq ?_; refine k_sub rfl zq (by unfold In64; omega) ?_; refine k_calP (Post := fun v => IsB _ v) rfl zq (by kernel_rfl) (fun H' hH => f72_c m H' _ _ _) ?_; rintro v (⟨hc, rfl⟩ | ⟨hc, rfl⟩)
  · refine k_put ?_; refine k_calP (Post := fun v => v = _) rfl zq (by kernel_rfl) (fun H' hH => f113_v m H') ?_; rintro v rfl; refine k_put ?_; refine k_calC rfl zq (by kernel_rfl) (fun H' hH => f112_c m H' (rdm.keeps (sq hH)) hm (rdr.keeps (sq hH)) hr _) ?_; rintro v nw ⟨w, rfl, bp, bc, vs, rfl, rdv, rde⟩; refine k_hpA (k_put ?_); have hze := @openS_zero b
    have hle := openL_le rde
    have hmem := openL_mem rde
    generalize hll : openL b _ = ll at rdv rde hle hmem ⊢
    refine mq rfl ?_; refine k_ext0 rfl zq ?_; refine k_ext1 rfl zq ?_; refine k_as rfl zq ?_; refine aq rfl ?_; refine run_seq ?_; refine rs2 (by kernel_rfl) ?_; refine mq rfl ?_; refine k_neqS rfl zq (fun hc => ?_) (fun hc => ?_)
    · refine k_nil ?_; refine run_yes ?_; refine rs3 (by kernel_rfl) ?_; refine mq rfl ?_; refine k_as rfl zq ?_; refine aq rfl ?_; refine run_ret rfl ?_; refine run_res (h) rfl Tryz.func39 rfl weakSub ?_; refine hK _ _ ?_
      have hif : ∀ x : Int, (if 1 ≤ st ∧ st ≤ nm - 2 then (0 : Int) else 6) = x → True := fun _ _ => trivial
      first | rw [if_pos (show 1 ≤ st ∧ st ≤ (nm : Int) - 2 by omega)] | rw [if_neg (show ¬ (1 ≤ st ∧ st ≤ (nm : Int) - 2) by omega)]
      first
        | (rw [if_pos (by assumption)]; exact ⟨rfl, rfl⟩)
        | exact absurd (openS_zero (b := b) (own := 6) (by assumption)).2.1 (by decide)
        | (obtain rfl : k = ll.length := by omega
           have e0 : openS b 0 = 0 := by assumption
           rw [List.take_length] at hcnt
           refine ⟨rfl, ?_⟩
           rw [e0, ← hlb, ← hcnt]; simp only [ne_eq, not_true_eq_false, if_false]
           rfl)
    · refine k_nil ?_; refine run_no ?_; refine run_skip ?_; refine rs1 (by kernel_rfl) ?_; have hlb : ll = boatsOf b := by subst hll; rw [openL, if_pos (by assumption)]
      refine aq rfl ?_; refine run_seq ?_; refine rs1 (by kernel_rfl) ?_; refine aq rfl ?_; refine run_block ?_; refine run_loop (fun nn l h' => ∃ (cnt : Nat) (k : Nat), nn = ll.length - k ∧ (cnt = hollowN (ll.take k) (st - 1).toNat) ∧ (k ≤ ll.length) ∧ (cnt ≤ k) ∧ (∃ U : Nat → Value, l = [bkV b pm nm cm pr nr cr, .int .i64 st, U 2, U 3, U 4, U 5, .slice bp ll.length bc, U 7, .int .i64 (cnt : Int), .int .i64 (k : Int), U 10, U 11, U 12, U 13, U 14, U 15, U 16, U 17, U 18, U 19, U 20, U 21, U 22, U 23, U 24, U 25, U 26, U 27, U 28, U 29, U 30, U 31, U 32, U 33, U 34, U 35, U 36, U 37, U 38, U 39, U 40, U 41, U 42, U 43, U 44, U 45, U 46]) ∧ h ++ [⟨true, q2, .cells (bkL b pm nm cm pr nr cr).toArray 25 (0, 0)⟩] ++ nw = h') _ ⟨0, 0, rfl, rfl, by omega, by omega, exU rfl, rfl⟩ ?_; rintro nn l h' ⟨cnt, k, rfl, hcnt, hk, hck, ⟨U, rfl⟩, rfl⟩ hnext; refine run_seq ?_; refine rs4 (by kernel_rfl) ?_; refine mq rfl ?_; refine mq rfl ?_; refine k_len rfl zq ?_; refine k_lssS rfl zq (fun hc => ?_) (fun hc => ?_)
      · refine k_nil ?_; refine run_yes ?_; refine run_skip ?_; refine run_seq ?_; refine run_block ?_; refine rs10 (by kernel_rfl) ?_; obtain ⟨ep, ec, ee, er⟩ := rde.2 k (by omega)
        obtain ⟨hv, h0, hb⟩ := hmem _ (mem_getDR.2 ⟨k, by omega, rfl⟩)
        replace hb : ll.getD k [] ∈ boatsOf b := hb
        have hln := (line_of (boat_line hb)).1
        refine mq rfl ?_; refine mq rfl ?_; obtain ⟨rdv_b, rdv_o, rfl⟩ := rdv.ptr (by omega)
        refine k_ixs rfl zq (by first | rfl | assumption) (by omega) (by omega) ?_; refine k_ld (v := .slice ep (ll.getD k []).length ec) rfl zq (by rw [← ee]; exact rdv.vat k (by omega) (by omega)) ?_; refine k_calC rfl zq (by kernel_rfl) (Post := fun v new => OwnS 3 1 v ((ll.getD k []).length - 2) (ints (bends (ll.getD k []))) new) (fun H' hH => f96_c m H' (er.keeps (sq hH)) (by have := hv.many; omega) ((line_small hv (boat_line hb)).le (by omega))) ?_; intro bev benew beo
        refine k_hpA (k_put ?_); obtain ⟨bep, bec, rfl, _⟩ := beo.len
        have ber : RdS B benew 1 (.slice bep _ bec) _ _ := beo.rd'
        obtain ⟨s, hs⟩ := Int.eq_ofNat_of_zero_le (show 0 ≤ st - 1 by omega)
        have hvm := hv.many
        refine mq rfl ?_; refine k_sub rfl zq (by unfold In64; omega) ?_; obtain ⟨eb, eo, rfl⟩ := ber.ptr (by omega)
        refine k_ixs rfl zq (by first | rfl | assumption) (by omega) (by omega) ?_; refine k_ld rfl zq (ber.iat s (by omega) (by omega)) ?_; refine k_gtrS rfl zq (fun hc => ?_) (fun hc => ?_)
        · refine k_nil ?_; refine run_yes ?_; refine rr3 (by kernel_rfl) ?_; refine mq rfl ?_; refine k_add rfl zq (by unfold In64; omega) ?_; refine aq rfl ?_; refine run_inBlock ?_; refine rr3 (by kernel_rfl) ?_; refine mq rfl ?_; refine k_add rfl zq (by unfold In64; omega) ?_; refine aq rfl ?_; exact m.weak weakSub (hnext _ _ _ (by omega) ⟨cnt + 1, k + 1, rfl, by rw [hollowN_yes _ _ _ (by omega) (by rw [show (st - 1).toNat = s by omega]; assumption), ← hcnt], by omega, by omega, exU rfl, rfl⟩)
        · refine k_nil ?_; refine run_no ?_; refine run_skip ?_; refine run_inBlock ?_; refine rr3 (by kernel_rfl) ?_; refine mq rfl ?_; refine k_add rfl zq (by unfold In64; omega) ?_; refine aq rfl ?_; exact m.weak weakSub (hnext _ _ _ (by omega) ⟨cnt, k + 1, rfl, by rw [hollowN_no _ _ _ (by omega) (by rw [show (st - 1).toNat = s by omega]; omega), ← hcnt], by omega, by omega, exU rfl, rfl⟩)
      · refine k_nil ?_; refine run_no ?_; refine run_exit rfl ?_; refine rs6 (by kernel_rfl) ?_; refine mq rfl ?_; refine mq rfl ?_; refine k_len rfl zq ?_; refine k_calP (Post := fun v => v = _) rfl zq (by kernel_rfl) (fun H' hH => f119_c m H' _ _) ?_; rintro v rfl; refine k_put ?_; refine k_as rfl zq ?_; refine aq rfl ?_; refine run_ret rfl ?_; refine run_res (h) rfl Tryz.func39 rfl weakSub ?_; refine hK _ _ ?_
        have hif : ∀ x : Int, (if 1 ≤ st ∧ st ≤ nm - 2 then (0 : Int) else 6) = x → True := fun _ _ => trivial
        first | rw [if_pos (show 1 ≤ st ∧ st ≤ (nm : Int) - 2 by omega)] | rw [if_neg (show ¬ (1 ≤ st ∧ st ≤ (nm : Int) - 2) by omega)]
        first
          | (rw [if_pos (by assumption)]; exact ⟨rfl, rfl⟩)
          | exact absurd (openS_zero (b := b) (own := 6) (by assumption)).2.1 (by decide)
          | (obtain rfl : k = ll.length := by omega
             have e0 : openS b 0 = 0 := by assumption
             rw [List.take_length] at hcnt
             refine ⟨rfl, ?_⟩
             rw [e0, ← hlb, ← hcnt]; simp only [ne_eq, not_true_eq_false, if_false]
             rfl)
  · refine k_put ?_; refine k_calP (Post := fun v => v = _) rfl zq (by kernel_rfl) (fun H' hH => f113_v m H') ?_; rintro v rfl; refine k_put ?_; refine k_calC rfl zq (by kernel_rfl) (fun H' hH => f112_c m H' (rdm.keeps (sq hH)) hm (rdr.keeps (sq hH)) hr _) ?_; rintro v nw ⟨w, rfl, bp, bc, vs, rfl, rdv, rde⟩; refine k_hpA (k_put ?_); have hze := @openS_zero b
    have hle := openL_le rde
    have hmem := openL_mem rde
    generalize hll : openL b _ = ll at rdv rde hle hmem ⊢
    refine mq rfl ?_; refine k_ext0 rfl zq ?_; refine k_ext1 rfl zq ?_; refine k_as rfl zq ?_; refine aq rfl ?_; refine run_seq ?_; refine rs2 (by kernel_rfl) ?_; refine mq rfl ?_; refine k_neqS rfl zq (fun hc => ?_) (fun hc => ?_)
    · refine k_nil ?_; refine run_yes ?_; refine rs3 (by kernel_rfl) ?_; refine mq rfl ?_; refine k_as rfl zq ?_; refine aq rfl ?_; refine run_ret rfl ?_; refine run_res (h) rfl Tryz.func39 rfl weakSub ?_; refine hK _ _ ?_
      have hif : ∀ x : Int, (if 1 ≤ st ∧ st ≤ nm - 2 then (0 : Int) else 6) = x → True := fun _ _ => trivial
      first | rw [if_pos (show 1 ≤ st ∧ st ≤ (nm : Int) - 2 by omega)] | rw [if_neg (show ¬ (1 ≤ st ∧ st ≤ (nm : Int) - 2) by omega)]
      first
        | (rw [if_pos (by assumption)]; exact ⟨rfl, rfl⟩)
        | exact absurd (openS_zero (b := b) (own := 6) (by assumption)).2.1 (by decide)
        | (obtain rfl : k = ll.length := by omega
           have e0 : openS b 0 = 0 := by assumption
           rw [List.take_length] at hcnt
           refine ⟨rfl, ?_⟩
           rw [e0, ← hlb, ← hcnt]; simp only [ne_eq, not_true_eq_false, if_false]
           rfl)
    · refine k_nil ?_; refine run_no ?_; refine run_skip ?_; refine rs1 (by kernel_rfl) ?_; have hlb : ll = boatsOf b := by subst hll; rw [openL, if_pos (by assumption)]
      refine aq rfl ?_; refine run_seq ?_; refine rs1 (by kernel_rfl) ?_; refine aq rfl ?_; refine run_block ?_; refine run_loop (fun nn l h' => ∃ (cnt : Nat) (k : Nat), nn = ll.length - k ∧ (cnt = hollowN (ll.take k) (st - 1).toNat) ∧ (k ≤ ll.length) ∧ (cnt ≤ k) ∧ (∃ U : Nat → Value, l = [bkV b pm nm cm pr nr cr, .int .i64 st, U 2, U 3, U 4, U 5, .slice bp ll.length bc, U 7, .int .i64 (cnt : Int), .int .i64 (k : Int), U 10, U 11, U 12, U 13, U 14, U 15, U 16, U 17, U 18, U 19, U 20, U 21, U 22, U 23, U 24, U 25, U 26, U 27, U 28, U 29, U 30, U 31, U 32, U 33, U 34, U 35, U 36, U 37, U 38, U 39, U 40, U 41, U 42, U 43, U 44, U 45, U 46]) ∧ h ++ [⟨true, q2, .cells (bkL b pm nm cm pr nr cr).toArray 25 (0, 0)⟩] ++ nw = h') _ ⟨0, 0, rfl, rfl, by omega, by omega, exU rfl, rfl⟩ ?_; rintro nn l h' ⟨cnt, k, rfl, hcnt, hk, hck, ⟨U, rfl⟩, rfl⟩ hnext; refine run_seq ?_; refine rs4 (by kernel_rfl) ?_; refine mq rfl ?_; refine mq rfl ?_; refine k_len rfl zq ?_; refine k_lssS rfl zq (fun hc => ?_) (fun hc => ?_)
      · refine k_nil ?_; refine run_yes ?_; refine run_skip ?_; refine run_seq ?_; refine run_block ?_; refine rs10 (by kernel_rfl) ?_; obtain ⟨ep, ec, ee, er⟩ := rde.2 k (by omega)
        obtain ⟨hv, h0, hb⟩ := hmem _ (mem_getDR.2 ⟨k, by omega, rfl⟩)
        replace hb : ll.getD k [] ∈ boatsOf b := hb
        have hln := (line_of (boat_line hb)).1
        refine mq rfl ?_; refine mq rfl ?_; obtain ⟨rdv_b, rdv_o, rfl⟩ := rdv.ptr (by omega)
        refine k_ixs rfl zq (by first | rfl | assumption) (by omega) (by omega) ?_; refine k_ld (v := .slice ep (ll.getD k []).length ec) rfl zq (by rw [← ee]; exact rdv.vat k (by omega) (by omega)) ?_; refine k_calC rfl zq (by kernel_rfl) (Post := fun v new => OwnS 3 1 v ((ll.getD k []).length - 2) (ints (bends (ll.getD k []))) new) (fun H' hH => f96_c m H' (er.keeps (sq hH)) (by have := hv.many; omega) ((line_small hv (boat_line hb)).le (by omega))) ?_; intro bev benew beo
        refine k_hpA (k_put ?_); obtain ⟨bep, bec, rfl, _⟩ := beo.len
        have ber : RdS B benew 1 (.slice bep _ bec) _ _ := beo.rd'
        obtain ⟨s, hs⟩ := Int.eq_ofNat_of_zero_le (show 0 ≤ st - 1 by omega)
        have hvm := hv.many
        refine mq rfl ?_; refine k_sub rfl zq (by unfold In64; omega) ?_; obtain ⟨eb, eo, rfl⟩ := ber.ptr (by omega)
        refine k_ixs rfl zq (by first | rfl | assumption) (by omega) (by omega) ?_; refine k_ld rfl zq (ber.iat s (by omega) (by omega)) ?_; refine k_gtrS rfl zq (fun hc => ?_) (fun hc => ?_)
        · refine k_nil ?_; refine run_yes ?_; refine rr3 (by kernel_rfl) ?_; refine mq rfl ?_; refine k_add rfl zq (by unfold In64; omega) ?_; refine aq rfl ?_; refine run_inBlock ?_; refine rr3 (by kernel_rfl) ?_; refine mq rfl ?_; refine k_add rfl zq (by unfold In64; omega) ?_; refine aq rfl ?_; exact m.weak weakSub (hnext _ _ _ (by omega) ⟨cnt + 1, k + 1, rfl, by rw [hollowN_yes _ _ _ (by omega) (by rw [show (st - 1).toNat = s by omega]; assumption), ← hcnt], by omega, by omega, exU rfl, rfl⟩)
        · refine k_nil ?_; refine run_no ?_; refine run_skip ?_; refine run_inBlock ?_; refine rr3 (by kernel_rfl) ?_; refine mq rfl ?_; refine k_add rfl zq (by unfold In64; omega) ?_; refine aq rfl ?_; exact m.weak weakSub (hnext _ _ _ (by omega) ⟨cnt, k + 1, rfl, by rw [hollowN_no _ _ _ (by omega) (by rw [show (st - 1).toNat = s by omega]; omega), ← hcnt], by omega, by omega, exU rfl, rfl⟩)
      · refine k_nil ?_; refine run_no ?_; refine run_exit rfl ?_; refine rs6 (by kernel_rfl) ?_; refine mq rfl ?_; refine mq rfl ?_; refine k_len rfl zq ?_; refine k_calP (Post := fun v => v = _) rfl zq (by kernel_rfl) (fun H' hH => f119_c m H' _ _) ?_; rintro v rfl; refine k_put ?_; refine k_as rfl zq ?_; refine aq rfl ?_; refine run_ret rfl ?_; refine run_res (h) rfl Tryz.func39 rfl weakSub ?_; refine hK _ _ ?_
        have hif : ∀ x : Int, (if 1 ≤ st ∧ st ≤ nm - 2 then (0 : Int) else 6) = x → True := fun _ _ => trivial
        first | rw [if_pos (show 1 ≤ st ∧ st ≤ (nm : Int) - 2 by omega)] | rw [if_neg (show ¬ (1 ≤ st ∧ st ≤ (nm : Int) - 2) by omega)]
        first
          | (rw [if_pos (by assumption)]; exact ⟨rfl, rfl⟩)
          | exact absurd (openS_zero (b := b) (own := 6) (by assumption)).2.1 (by decide)
          | (obtain rfl : k = ll.length := by omega
             have e0 : openS b 0 = 0 := by assumption
             rw [List.take_length] at hcnt
             refine ⟨rfl, ?_⟩
             rw [e0, ← hlb, ← hcnt]; simp only [ne_eq, not_true_eq_false, if_false]
             rfl)
def RdI (B : Array Obj) (h : Hp) (w : Value) (xs : List Int) : Prop := ∃ p c, w = .slice p xs.length c ∧ RdS B h 1 (.slice p xs.length c) xs.length (ints xs)
theorem RdI.nil {h : Hp} : RdI B h (.slice none 0 0) [] := ⟨none, 0, rfl, none, 0, rfl, rfl, .inl ⟨rfl, rfl⟩⟩
theorem OwnS.rdI {t : Nat} {w : Value} {n : Nat} {xs : List Int} {new : Hp} (o : OwnS t 1 w n (ints xs) new) : RdI B new w xs := by
  obtain ⟨p, c, rfl, hl⟩ := o.len
  obtain rfl : n = xs.length := by simpa using hl.symm
  exact ⟨p, c, rfl, o.rd'⟩
def straightL (b : Bk) : List Int := if openS b 0 ≠ 0 then [] else bestBy ltStrain (boatsOf b)
theorem lineS_zero {many : Nat} {xs : List Int} (h : lineS many xs = 0) : xs.length = many ∧ ∀ x ∈ xs, 0 ≤ x ∧ x ≤ 959 := by
  unfold lineS at h
  split at h
  · omega
  · split at h
    · exact ⟨by omega, by assumption⟩
    · omega
theorem lineS_small {many : Nat} {xs : List Int} (h : lineS many xs = 0) : Small 959 xs := fun j => by
  by_cases hj : j < xs.length
  · have := (lineS_zero h).2 _ (mem_getD.2 ⟨j, hj, rfl⟩)
    omega
  · rw [getD_out _ _ (by omega)]; omega
def ltFar (xs x o : List Int) : Bool := decide (sumL (gaps x xs) < sumL (gaps o xs) ∨ (sumL (gaps x xs) = sumL (gaps o xs) ∧ mostL (gaps x xs) < mostL (gaps o xs)))
def lineO (b : Bk) (xs : List Int) : Int := openS b (lineS b.marks.length xs)
def nearL (b : Bk) (xs : List Int) : List Int := if lineO b xs ≠ 0 then [] else bestBy (ltFar xs) (boatsOf b)
def nearN (b : Bk) (xs : List Int) : Int := if lineO b xs ≠ 0 then 0 else sumL (gaps (bestBy (ltFar xs) (boatsOf b)) xs)
def ltFewer (x o : List Int) : Bool := decide (fewer x o)
def pulledL (b : Bk) (xs : List Int) : List Int := if lineO b xs ≠ 0 then [] else bestBy ltFewer ((boatsOf b).map fun l => unlike l xs)
def straightN (b : Bk) : Int := if openS b 0 ≠ 0 then 0 else strain (bestBy ltStrain (boatsOf b))
theorem f41_c (m : Md Tryz.prog B) (h : Hp) {b : Bk} {pm : Option Addr} {nm cm : Nat} {pr : Option Addr} {nr cr : Nat} (rdm : RdS B h 2 (.slice pm nm cm) nm (encs b.marks)) (hm : nm ≤ 1000) (rdr : RdS B h 4 (.slice pr nr cr) nr (encs b.rules)) (hr : nr ≤ 1000) : FnC m 41 #[bkV b pm nm cm pr nr cr] h fun v h' => ∃ new, h' = h ++ new ∧ ∃ w, v = .tuple [w, .int .i64 (straightN b), .int .i64 (openS b 0)].toArray ∧ RdI B new w (straightL b) := by
  have hml := rdm.elen (by decide)
  have hrl := rdr.elen (by decide)
  refine fn_enter Tryz.func41 rfl rfl (l := (bkV b pm nm cm pr nr cr) :: uu40) rfl ?_
  intro cf cs K hK
  refine rs4 (by kernel_rfl) ?_; refine k_box rfl zq (fun q1 => k_hp (k_put ?_)); refine k_as rfl zq ?_; refine k_as rfl zq ?_; refine aq rfl ?_; refine rs7 (by kernel_rfl) ?_; refine k_ldA rfl zq ?_; refine k_calC rfl zq (by kernel_rfl) (fun H' hH => f112_c m H' (rdm.keeps (sq hH)) hm (rdr.keeps (sq hH)) hr _) ?_; rintro v nw ⟨w, rfl, bp, bc, vs, rfl, rdv, rde⟩; refine k_hpA (k_put ?_); have hle := openL_le rde
  have hmem := openL_mem rde
  generalize hll : openL b _ = ll at rdv rde hle hmem ⊢
  refine mq rfl ?_; refine k_ext0 rfl zq ?_; refine k_ext1 rfl zq ?_; refine k_as rfl zq ?_; refine aq rfl ?_; refine run_seq ?_; refine rs2 (by kernel_rfl) ?_; refine mq rfl ?_; refine k_neqS rfl zq (fun hc => ?_) (fun hc => ?_)
  · refine k_nil ?_; refine run_yes ?_; refine rs4 (by kernel_rfl) ?_; refine mq rfl ?_; refine k_as rfl zq ?_; refine k_as rfl zq ?_; refine aq rfl ?_; refine run_ret rfl ?_; refine run_res (h) rfl Tryz.func41 rfl weakSub ?_; refine hK _ _ ?_
    exact ⟨[], by simp, _, by rw [straightN, if_pos (by assumption)], by rw [straightL, if_pos (by assumption)]; exact RdI.nil⟩
  · refine k_nil ?_; refine run_no ?_; refine run_skip ?_; refine rs4 (by kernel_rfl) ?_; have hlb : ll = boatsOf b := by subst hll; rw [openL, if_pos (by assumption)]
    have hpos : 0 < ll.length := by
      rw [hlb]; exact List.length_pos_iff.2 (openS_zero (b := b) (by assumption)).2.2
    obtain ⟨gp0, gc0, ge0, gr0⟩ := rde.2 0 (by omega)
    have hv := (hmem _ (mem_getDR.2 ⟨0, hpos, rfl⟩)).1
    have hvm := hv.many
    refine mq rfl ?_; obtain ⟨vb, vo, rfl⟩ := rdv.ptr (by omega)
    refine k_ixs rfl zq (by first | rfl | assumption) (by omega) (by omega) ?_; refine k_ld (v := .slice gp0 (ll.getD 0 []).length gc0) rfl zq (by rw [← ge0]; exact rdv.vat 0 (by omega) (by omega)) ?_; refine aq rfl ?_; refine run_seq ?_; refine rs1 (by kernel_rfl) ?_; refine aq rfl ?_; refine run_block ?_; refine run_loop (fun nn l h' => ∃ (k : Nat) (gp : Option Addr) (gc : Nat) (g : List Int), nn = ll.length - k ∧ (0 < k) ∧ (k ≤ ll.length) ∧ (g = bestBy ltStrain (ll.take k)) ∧ (RdS B nw 1 (.slice gp g.length gc) g.length (ints g)) ∧ (∃ U : Nat → Value, l = [bkV b pm nm cm pr nr cr, .pointer (some ⟨q1, 0, none⟩), U 2, U 3, U 4, .slice (some ⟨vb, vo, none⟩) ll.length bc, U 6, .slice gp g.length gc, .int .i64 (k : Int), U 9, U 10, U 11, U 12, U 13, U 14, U 15, U 16, U 17, U 18, U 19, U 20, U 21, U 22, U 23, U 24, U 25, U 26, U 27, U 28, U 29, U 30, U 31, U 32, U 33, U 34, U 35, U 36, U 37, U 38, U 39, U 40]) ∧ h ++ [⟨true, q1, .cells (bkL b pm nm cm pr nr cr).toArray 25 (0, 0)⟩] ++ nw = h') _ ⟨1, _, _, _, rfl, by omega, by omega, (bestBy_one _ _).symm, gr0, exU rfl, rfl⟩ ?_; rintro nn l h' ⟨k, gp, gc, g, rfl, hk0, hk, hg, hgr, ⟨U, rfl⟩, rfl⟩ hnext; have hgm : g ∈ boatsOf b := by
      rw [hg, ← hlb]; exact List.mem_of_mem_take (bestBy_mem _ _ (by rw [List.length_take]; omega))
    have hgl := (line_of (boat_line hgm)).1
    refine run_seq ?_; refine rs4 (by kernel_rfl) ?_; refine mq rfl ?_; refine mq rfl ?_; refine k_len rfl zq ?_; refine k_lssS rfl zq (fun hc => ?_) (fun hc => ?_)
    · refine k_nil ?_; refine run_yes ?_; refine run_skip ?_; refine run_seq ?_; refine run_block ?_; refine rs8 (by kernel_rfl) ?_; obtain ⟨ep, ec, ee, er⟩ := rde.2 k (by omega)
      obtain ⟨hv, h0, hb⟩ := hmem _ (mem_getDR.2 ⟨k, by omega, rfl⟩)
      replace hb : ll.getD k [] ∈ boatsOf b := hb
      have hln := (line_of (boat_line hb)).1
      refine mq rfl ?_; refine mq rfl ?_; refine k_ixs rfl zq (by first | rfl | assumption) (by omega) (by omega) ?_; refine k_ld (v := .slice ep (ll.getD k []).length ec) rfl zq (by rw [← ee]; exact rdv.vat k (by omega) (by omega)) ?_; refine k_calP (Post := fun v => v = _) rfl zq (by kernel_rfl) (fun H' hH => f53_c m H' (er.keeps (sq hH)) (by omega) ((line_small hv (boat_line hb)).le (by omega))) ?_; rintro v rfl; refine k_put ?_; refine mq rfl ?_; refine k_calP (Post := fun v => v = _) rfl zq (by kernel_rfl) (fun H' hH => f53_c m H' (hgr.keeps (sq hH)) (by omega) ((line_small hv (boat_line hgm)).le (by omega))) ?_; rintro v rfl; refine k_put ?_; refine k_lssS rfl zq (fun hc => ?_) (fun hc => ?_)
      · refine k_nil ?_; refine run_yes ?_; refine rr5 (by kernel_rfl) ?_; refine mq rfl ?_; refine mq rfl ?_; refine k_ixs rfl zq (by first | rfl | assumption) (by omega) (by omega) ?_; refine k_ld (v := .slice ep (ll.getD k []).length ec) rfl zq (by rw [← ee]; exact rdv.vat k (by omega) (by omega)) ?_; refine aq rfl ?_; refine run_inBlock ?_; refine rr3 (by kernel_rfl) ?_; refine mq rfl ?_; refine k_add rfl zq (by unfold In64; omega) ?_; refine aq rfl ?_; exact m.weak weakSub (hnext _ _ _ (by omega) ⟨k + 1, _, _, _, rfl, by omega, by omega, by rw [bestBy_succ _ _ _ (by omega) (by omega), if_pos (by rw [← hg]; exact decide_eq_true (by assumption))], er, exU rfl, rfl⟩)
      · refine k_nil ?_; refine run_no ?_; refine run_skip ?_; refine run_inBlock ?_; refine rr3 (by kernel_rfl) ?_; refine mq rfl ?_; refine k_add rfl zq (by unfold In64; omega) ?_; refine aq rfl ?_; exact m.weak weakSub (hnext _ _ _ (by omega) ⟨k + 1, _, _, _, rfl, by omega, by omega, by rw [bestBy_succ _ _ _ (by omega) (by omega), if_neg (by rw [← hg]; unfold ltStrain; rw [decide_eq_true_iff]; omega), hg], hgr, exU rfl, rfl⟩)
    · refine k_nil ?_; refine run_no ?_; refine run_exit rfl ?_; refine rs6 (by kernel_rfl) ?_; refine mq rfl ?_; refine mq rfl ?_; refine k_calP (Post := fun v => v = _) rfl zq (by kernel_rfl) (fun H' hH => f53_c m H' (hgr.keeps (sq hH)) (by omega) ((line_small hv (boat_line hgm)).le (by omega))) ?_; rintro v rfl; refine k_put ?_; refine k_as rfl zq ?_; refine k_as rfl zq ?_; refine aq rfl ?_; refine run_ret rfl ?_; refine run_res (h ++ nw) rfl Tryz.func41 rfl weakSub ?_; refine hK _ _ ?_
      obtain rfl : k = ll.length := by omega
      rw [List.take_length, hlb] at hg
      have e0 : openS b 0 = 0 := by assumption
      have e1 : straightL b = g := by rw [straightL, if_neg (fun e => e e0), hg]
      have e2 : straightN b = strain g := by rw [straightN, if_neg (fun e => e e0), hg]
      exact ⟨nw, rfl, _, by rw [e0, e2], by rw [e1]; exact ⟨_, _, rfl, hgr⟩⟩
theorem f43_c (m : Md Tryz.prog B) (h : Hp) {b : Bk} {pm : Option Addr} {nm cm : Nat} {pr : Option Addr} {nr cr : Nat} (rdm : RdS B h 2 (.slice pm nm cm) nm (encs b.marks)) (hm : nm ≤ 1000) (rdr : RdS B h 4 (.slice pr nr cr) nr (encs b.rules)) (hr : nr ≤ 1000) {p : Option Addr} {n c : Nat} {xs : List Int} (rd : RdS B h 1 (.slice p n c) n (ints xs)) (hn : n ≤ 1000) : FnC m 43 #[bkV b pm nm cm pr nr cr, .slice p n c] h fun v h' => ∃ new, h' = h ++ new ∧ ∃ w, v = .tuple [w, .int .i64 (nearN b xs), .int .i64 (lineO b xs)].toArray ∧ RdI B new w (nearL b xs) := by
  have hml := rdm.elen (by decide)
  have hrl := rdr.elen (by decide)
  have hl := rd.ilen
  refine fn_enter Tryz.func43 rfl rfl (l := (bkV b pm nm cm pr nr cr) :: (.slice p n c) :: uu69) rfl ?_
  intro cf cs K hK
  refine rs4 (by kernel_rfl) ?_; refine k_box rfl zq (fun q2 => k_hp (k_put ?_)); refine k_as rfl zq ?_; refine k_as rfl zq ?_; refine aq rfl ?_; refine run_seq ?_; refine run_draw [(2, .pure), (0, .read), (1, .read), (3, .keep), (4, .keep), (5, .pure), (6, .pure), (7, .pure), (8, .pure), (9, .pure)] (by kernel_rfl) (by kernel_rfl) (List.Sublist.refl _) ?_; refine mq rfl ?_; refine k_ldA rfl zq ?_; refine k_ldA rfl zq ?_; refine k_calP (Post := fun v => v = _) rfl zq (by kernel_rfl) (fun H' hH => f127_c m H' (rdm.keeps (sq hH)) hm (rd.keeps (sq hH)) hn) ?_; rintro v rfl; refine k_put ?_; refine k_calC rfl zq (by kernel_rfl) (fun H' hH => f112_c m H' (rdm.keeps (sq hH)) hm (rdr.keeps (sq hH)) hr _) ?_; rintro v nw ⟨w, rfl, bp, bc, vs, rfl, rdv, rde⟩; refine k_hpA (k_put ?_); have hle := openL_le rde
  have hmem := openL_mem rde
  generalize hll : openL b _ = ll at rdv rde hle hmem ⊢
  refine mq rfl ?_; refine k_ext0 rfl zq ?_; refine k_ext1 rfl zq ?_; refine k_as rfl zq ?_; refine aq rfl ?_; refine run_seq ?_; refine rs2 (by kernel_rfl) ?_; refine mq rfl ?_; refine k_neqS rfl zq (fun hc => ?_) (fun hc => ?_)
  · refine k_nil ?_; refine run_yes ?_; refine rs4 (by kernel_rfl) ?_; refine mq rfl ?_; refine k_as rfl zq ?_; refine k_as rfl zq ?_; refine aq rfl ?_; refine run_ret rfl ?_; refine run_res (h) rfl Tryz.func43 rfl weakSub ?_; refine hK _ _ ?_
    exact ⟨[], by simp, _, by rw [nearN, if_pos (by assumption)]; rfl, by rw [nearL, if_pos (by assumption)]; exact RdI.nil⟩
  · refine k_nil ?_; refine run_no ?_; refine run_skip ?_; refine rs4 (by kernel_rfl) ?_; have hlo : lineS b.marks.length xs = 0 := (openS_zero (b := b) (by assumption)).2.1
    have hlx := lineS_zero hlo
    have hls := (lineS_small hlo).le (show 959 ≤ 100000 by omega)
    have hlb : ll = boatsOf b := by subst hll; rw [openL, if_pos (by assumption)]
    have hpos : 0 < ll.length := by
      rw [hlb]; exact List.length_pos_iff.2 (openS_zero (b := b) (by assumption)).2.2
    obtain ⟨gp0, gc0, ge0, gr0⟩ := rde.2 0 (by omega)
    obtain ⟨hv, _, hb0⟩ := hmem _ (mem_getDR.2 ⟨0, hpos, rfl⟩)
    replace hb0 : ll.getD 0 [] ∈ boatsOf b := hb0
    have hvm := hv.many
    have hln0 := (line_of (boat_line hb0)).1
    refine mq rfl ?_; obtain ⟨vb, vo, rfl⟩ := rdv.ptr (by omega)
    refine k_ixs rfl zq (by first | rfl | assumption) (by omega) (by omega) ?_; refine k_ld (v := .slice gp0 (ll.getD 0 []).length gc0) rfl zq (by rw [← ge0]; exact rdv.vat 0 (by omega) (by omega)) ?_; refine aq rfl ?_; refine rs8 (by kernel_rfl) ?_; refine mq rfl ?_; refine mq rfl ?_; refine k_calP (Post := fun v => v = _) rfl zq (by kernel_rfl) (fun H' hH => f59_c m H' (gr0.keeps (sq hH)) (by omega) (rd.keeps (sq hH)) ((line_small hv (boat_line hb0)).le (by omega)) hls (by omega)) ?_; rintro v rfl; refine k_put ?_; refine mq rfl ?_; refine k_ext0 rfl zq ?_; refine k_ext1 rfl zq ?_; refine k_as rfl zq ?_; refine aq rfl ?_; refine run_seq ?_; refine rs1 (by kernel_rfl) ?_; refine aq rfl ?_; refine run_block ?_; refine run_loop (fun nn l h' => ∃ (k : Nat) (gp : Option Addr) (gc : Nat) (g : List Int) (s t : Int), nn = ll.length - k ∧ (0 < k) ∧ (k ≤ ll.length) ∧ (g = bestBy (ltFar xs) (ll.take k)) ∧ (RdS B nw 1 (.slice gp g.length gc) g.length (ints g)) ∧ (s = sumL (gaps g xs)) ∧ (t = mostL (gaps g xs)) ∧ (∃ U : Nat → Value, l = [bkV b pm nm cm pr nr cr, .slice p n c, .pointer (some ⟨q2, 0, none⟩), U 3, U 4, U 5, U 6, .slice (some ⟨vb, vo, none⟩) ll.length bc, U 8, .slice gp g.length gc, .int .i64 s, .int .i64 t, .int .i64 (k : Int), U 13, U 14, U 15, U 16, U 17, U 18, U 19, U 20, U 21, U 22, U 23, U 24, U 25, U 26, U 27, U 28, U 29, U 30, U 31, U 32, U 33, U 34, U 35, U 36, U 37, U 38, U 39, U 40, U 41, U 42, U 43, U 44, U 45, U 46, U 47, U 48, U 49, U 50, U 51, U 52, U 53, U 54, U 55, U 56, U 57, U 58, U 59, U 60, U 61, U 62, U 63, U 64, U 65, U 66, U 67, U 68, U 69, U 70]) ∧ h ++ [⟨true, q2, .cells (bkL b pm nm cm pr nr cr).toArray 25 (0, 0)⟩] ++ nw = h') _ ⟨1, _, _, _, _, _, rfl, by omega, by omega, (bestBy_one _ _).symm, gr0, rfl, rfl, exU rfl, rfl⟩ ?_; rintro nn l h' ⟨k, gp, gc, g, s, t, rfl, hk0, hk, hg, hgr, hs, ht, ⟨U, rfl⟩, rfl⟩ hnext
    refine run_seq ?_; refine rs4 (by kernel_rfl) ?_; refine mq rfl ?_; refine mq rfl ?_; refine k_len rfl zq ?_; refine k_lssS rfl zq (fun hc => ?_) (fun hc => ?_)
    · refine k_nil ?_; refine run_yes ?_; refine run_skip ?_; refine run_seq ?_; refine run_block ?_; refine rs11 (by kernel_rfl) ?_; obtain ⟨ep, ec, ee, er⟩ := rde.2 k (by omega)
      obtain ⟨hv, h0, hb⟩ := hmem _ (mem_getDR.2 ⟨k, by omega, rfl⟩)
      replace hb : ll.getD k [] ∈ boatsOf b := hb
      have hln := (line_of (boat_line hb)).1
      refine mq rfl ?_; refine mq rfl ?_; refine k_ixs rfl zq (by first | rfl | assumption) (by omega) (by omega) ?_; refine k_ld (v := .slice ep (ll.getD k []).length ec) rfl zq (by rw [← ee]; exact rdv.vat k (by omega) (by omega)) ?_; refine mq rfl ?_; refine k_calP (Post := fun v => v = _) rfl zq (by kernel_rfl) (fun H' hH => f59_c m H' (er.keeps (sq hH)) (by omega) (rd.keeps (sq hH)) ((line_small hv (boat_line hb)).le (by omega)) hls (by omega)) ?_; rintro v rfl; refine k_put ?_; refine mq rfl ?_; refine k_ext0 rfl zq ?_; refine k_ext1 rfl zq ?_; refine k_as rfl zq ?_; refine aq rfl ?_; refine rs13 (by kernel_rfl) ?_; refine mq rfl ?_; refine mq rfl ?_; refine k_lssS rfl zq (fun hc => ?_) (fun hc => ?_)
      · refine mq rfl ?_; refine k_off rfl rfl ?_; refine k_off rfl rfl ?_; refine k_off rfl rfl ?_; refine k_off rfl rfl ?_; refine k_off rfl rfl ?_; refine k_off rfl rfl ?_; refine k_off rfl rfl ?_; refine k_off rfl rfl ?_; refine k_pickT rfl zq ?_; refine k_nil ?_; refine run_yes ?_; refine rr9 (by kernel_rfl) ?_; refine mq rfl ?_; refine mq rfl ?_; refine k_ixs rfl zq (by first | rfl | assumption) (by omega) (by omega) ?_; refine k_ld (v := .slice ep (ll.getD k []).length ec) rfl zq (by rw [← ee]; exact rdv.vat k (by omega) (by omega)) ?_; refine mq rfl ?_; refine mq rfl ?_; refine k_as rfl zq ?_; refine k_as rfl zq ?_; refine aq rfl ?_; refine run_inBlock ?_; refine rr3 (by kernel_rfl) ?_; refine mq rfl ?_; refine k_add rfl zq (by unfold In64; omega) ?_; refine aq rfl ?_; exact m.weak weakSub (hnext _ _ _ (by omega) ⟨k + 1, _, _, _, _, _, rfl, by omega, by omega, by rw [bestBy_succ _ _ _ (by omega) (by omega), if_pos (by rw [← hg]; exact decide_eq_true (by omega))], er, rfl, rfl, exU rfl, rfl⟩)
      · refine mq rfl ?_; refine k_mv rfl rfl ?_; refine k_mv rfl rfl ?_; refine k_eqlS rfl rfl (fun hc => ?_) (fun hc => ?_)
        · refine k_mv rfl rfl ?_; refine k_mv rfl rfl ?_; refine k_mv rfl rfl ?_; refine k_lssS rfl rfl (fun hc => ?_) (fun hc => ?_)
          · refine k_pickT rfl rfl ?_; refine k_pickF rfl zq ?_; refine k_nil ?_; refine run_yes ?_; refine rr9 (by kernel_rfl) ?_; refine mq rfl ?_; refine mq rfl ?_; refine k_ixs rfl zq (by first | rfl | assumption) (by omega) (by omega) ?_; refine k_ld (v := .slice ep (ll.getD k []).length ec) rfl zq (by rw [← ee]; exact rdv.vat k (by omega) (by omega)) ?_; refine mq rfl ?_; refine mq rfl ?_; refine k_as rfl zq ?_; refine k_as rfl zq ?_; refine aq rfl ?_; refine run_inBlock ?_; refine rr3 (by kernel_rfl) ?_; refine mq rfl ?_; refine k_add rfl zq (by unfold In64; omega) ?_; refine aq rfl ?_; exact m.weak weakSub (hnext _ _ _ (by omega) ⟨k + 1, _, _, _, _, _, rfl, by omega, by omega, by rw [bestBy_succ _ _ _ (by omega) (by omega), if_pos (by rw [← hg]; exact decide_eq_true (by omega))], er, rfl, rfl, exU rfl, rfl⟩)
          · refine k_pickT rfl rfl ?_; refine k_pickF rfl zq ?_; refine k_nil ?_; refine run_no ?_; refine run_skip ?_; refine run_inBlock ?_; refine rr3 (by kernel_rfl) ?_; refine mq rfl ?_; refine k_add rfl zq (by unfold In64; omega) ?_; refine aq rfl ?_; exact m.weak weakSub (hnext _ _ _ (by omega) ⟨k + 1, _, _, _, _, _, rfl, by omega, by omega, by rw [bestBy_succ _ _ _ (by omega) (by omega), if_neg (by rw [← hg]; unfold ltFar; rw [decide_eq_true_iff]; omega), hg], hgr, hs, ht, exU rfl, rfl⟩)
        · refine k_mv rfl rfl ?_; refine k_off rfl rfl ?_; refine k_off rfl rfl ?_; refine k_off rfl rfl ?_; refine k_pickF rfl rfl ?_; refine k_pickF rfl zq ?_; refine k_nil ?_; refine run_no ?_; refine run_skip ?_; refine run_inBlock ?_; refine rr3 (by kernel_rfl) ?_; refine mq rfl ?_; refine k_add rfl zq (by unfold In64; omega) ?_; refine aq rfl ?_; exact m.weak weakSub (hnext _ _ _ (by omega) ⟨k + 1, _, _, _, _, _, rfl, by omega, by omega, by rw [bestBy_succ _ _ _ (by omega) (by omega), if_neg (by rw [← hg]; unfold ltFar; rw [decide_eq_true_iff]; omega), hg], hgr, hs, ht, exU rfl, rfl⟩)
    · refine k_nil ?_; refine run_no ?_; refine run_exit rfl ?_; refine rs5 (by kernel_rfl) ?_; refine mq rfl ?_; refine mq rfl ?_; refine k_as rfl zq ?_; refine k_as rfl zq ?_; refine aq rfl ?_; refine run_ret rfl ?_; refine run_res (h ++ nw) rfl Tryz.func43 rfl weakSub ?_; refine hK _ _ ?_
      obtain rfl : k = ll.length := by omega
      rw [List.take_length, hlb] at hg
      have e0 : lineO b xs = 0 := by assumption
      have e1 : nearL b xs = g := by rw [nearL, if_neg (fun e => e e0), hg]
      have e2 : nearN b xs = s := by rw [nearN, if_neg (fun e => e e0), hs, hg]
      exact ⟨nw, rfl, _, by rw [e0, e2], by rw [e1]; exact ⟨_, _, rfl, hgr⟩⟩
theorem map_getD (ll : List (List Int)) (f : List Int → List Int) (k : Nat) (h : k < ll.length) : (ll.map f).getD k [] = f (ll.getD k []) := by
  rw [List.getD_eq_getElem?_getD, List.getD_eq_getElem?_getD, List.getElem?_map, List.getElem?_eq_getElem h]; rfl
theorem unlike_length (xs ys : List Int) : (unlike xs ys).length ≤ xs.length := unlikeF_length _ _ _
def mustF (ll : List (List Int)) (xs : List Int) (k : Nat) : List Int := (firsts k).filter fun i => decide (∀ l ∈ ll, l.getD i.toNat 0 ≠ xs.getD i.toNat 0)
def mustL (b : Bk) (xs : List Int) : List Int := if lineO b xs ≠ 0 then [] else mustF (boatsOf b) xs xs.length
theorem mustF_yes (ll : List (List Int)) (xs : List Int) (k : Nat) (h : ∀ l ∈ ll, l.getD k 0 ≠ xs.getD k 0) : mustF ll xs (k + 1) = mustF ll xs k ++ [(k : Int)] := by
  rw [mustF, firsts_succ, List.filter_append, ← mustF]; congr 1
  rw [List.filter_cons, Int.toNat_natCast, if_pos (decide_eq_true h)]; rfl
theorem mustF_no (ll : List (List Int)) (xs : List Int) (k : Nat) (h : ¬ ∀ l ∈ ll, l.getD k 0 ≠ xs.getD k 0) : mustF ll xs (k + 1) = mustF ll xs k := by
  rw [mustF, firsts_succ, List.filter_append, ← mustF, List.filter_cons, Int.toNat_natCast, if_neg (by rw [decide_eq_true_iff]; exact h)]; simp
theorem mustF_length (ll : List (List Int)) (xs : List Int) (k : Nat) : (mustF ll xs k).length ≤ k := by
  have := List.length_filter_le (fun i : Int => decide (∀ l ∈ ll, l.getD i.toNat 0 ≠ xs.getD i.toNat 0)) (firsts k)
  rw [firsts_length] at this
  exact this
theorem f45_c (m : Md Tryz.prog B) (h : Hp) {b : Bk} {pm : Option Addr} {nm cm : Nat} {pr : Option Addr} {nr cr : Nat} (rdm : RdS B h 2 (.slice pm nm cm) nm (encs b.marks)) (hm : nm ≤ 1000) (rdr : RdS B h 4 (.slice pr nr cr) nr (encs b.rules)) (hr : nr ≤ 1000) {p : Option Addr} {n c : Nat} {xs : List Int} (rd : RdS B h 1 (.slice p n c) n (ints xs)) (hn : n ≤ 1000) : FnC m 45 #[bkV b pm nm cm pr nr cr, .slice p n c] h fun v h' => ∃ new, h' = h ++ new ∧ ∃ w, v = .tuple [w, .int .i64 (lineO b xs)].toArray ∧ RdI B new w (pulledL b xs) := by
  have hml := rdm.elen (by decide)
  have hrl := rdr.elen (by decide)
  have hl := rd.ilen
  refine fn_enter Tryz.func45 rfl rfl (l := (bkV b pm nm cm pr nr cr) :: (.slice p n c) :: uu42) rfl ?_
  intro cf cs K hK
  refine rs3 (by kernel_rfl) ?_; refine k_box rfl zq (fun q2 => k_hp (k_put ?_)); refine k_as rfl zq ?_; refine aq rfl ?_; refine run_seq ?_; refine run_draw [(2, .pure), (0, .read), (1, .read), (3, .keep), (4, .keep), (5, .pure), (6, .pure), (7, .pure), (8, .pure), (9, .pure)] (by kernel_rfl) (by kernel_rfl) (List.Sublist.refl _) ?_; refine mq rfl ?_; refine k_ldA rfl zq ?_; refine k_ldA rfl zq ?_; refine k_calP (Post := fun v => v = _) rfl zq (by kernel_rfl) (fun H' hH => f127_c m H' (rdm.keeps (sq hH)) hm (rd.keeps (sq hH)) hn) ?_; rintro v rfl; refine k_put ?_; refine k_calC rfl zq (by kernel_rfl) (fun H' hH => f112_c m H' (rdm.keeps (sq hH)) hm (rdr.keeps (sq hH)) hr _) ?_; rintro v nw ⟨w, rfl, bp, bc, vs, rfl, rdv, rde⟩; refine k_hpA (k_put ?_); have hle := openL_le rde
  have hmem := openL_mem rde
  generalize hll : openL b _ = ll at rdv rde hle hmem ⊢
  refine mq rfl ?_; refine k_ext0 rfl zq ?_; refine k_ext1 rfl zq ?_; refine k_as rfl zq ?_; refine aq rfl ?_; refine run_seq ?_; refine rs2 (by kernel_rfl) ?_; refine mq rfl ?_; refine k_neqS rfl zq (fun hc => ?_) (fun hc => ?_)
  · refine k_nil ?_; refine run_yes ?_; refine rs3 (by kernel_rfl) ?_; refine mq rfl ?_; refine k_as rfl zq ?_; refine aq rfl ?_; refine run_ret rfl ?_; refine run_res (h) rfl Tryz.func45 rfl weakSub ?_; refine hK _ _ ?_
    exact ⟨[], by simp, _, rfl, by rw [pulledL, if_pos (by assumption)]; exact RdI.nil⟩
  · refine k_nil ?_; refine run_no ?_; refine run_skip ?_; refine rs6 (by kernel_rfl) ?_; have hlo : lineS b.marks.length xs = 0 := (openS_zero (b := b) (by assumption)).2.1
    have hlx := lineS_zero hlo
    have hls := (lineS_small hlo).le (show 959 ≤ 100000 by omega)
    have hlb : ll = boatsOf b := by subst hll; rw [openL, if_pos (by assumption)]
    have hpos : 0 < ll.length := by
      rw [hlb]; exact List.length_pos_iff.2 (openS_zero (b := b) (by assumption)).2.2
    obtain ⟨gp0, gc0, ge0, gr0⟩ := rde.2 0 (by omega)
    obtain ⟨hv, _, hb0⟩ := hmem _ (mem_getDR.2 ⟨0, hpos, rfl⟩)
    replace hb0 : ll.getD 0 [] ∈ boatsOf b := hb0
    have hvm := hv.many
    have hln0 := (line_of (boat_line hb0)).1
    refine mq rfl ?_; obtain ⟨vb, vo, rfl⟩ := rdv.ptr (by omega)
    refine k_ixs rfl zq (by first | rfl | assumption) (by omega) (by omega) ?_; refine k_ld (v := .slice gp0 (ll.getD 0 []).length gc0) rfl zq (by rw [← ge0]; exact rdv.vat 0 (by omega) (by omega)) ?_; refine mq rfl ?_; refine k_calC rfl zq (by kernel_rfl) (fun H' hH => f60_c m H' (gr0.keeps (sq hH)) (by omega) (rd.keeps (sq hH)) (by omega)) ?_; rintro uv un uo; refine k_hpA (k_put ?_); obtain ⟨up, uc, rfl, _⟩ := uo.len
    have ur : RdS B un 1 (.slice up _ uc) _ _ := (uo.rd')
    refine aq rfl ?_; refine run_seq ?_; refine rs1 (by kernel_rfl) ?_; refine aq rfl ?_; refine run_block ?_; refine run_loop (fun nn l h' => ∃ (k : Nat) (M : Hp) (gp : Option Addr) (gc : Nat) (g : List Int), nn = ll.length - k ∧ (0 < k) ∧ (k ≤ ll.length) ∧ (g = bestBy ltFewer ((ll.map fun l => unlike l xs).take k)) ∧ (RdS B M 1 (.slice gp g.length gc) g.length (ints g)) ∧ (g.length ≤ 7) ∧ (∃ U : Nat → Value, l = [bkV b pm nm cm pr nr cr, .slice p n c, .pointer (some ⟨q2, 0, none⟩), U 3, U 4, U 5, .slice (some ⟨vb, vo, none⟩) ll.length bc, U 7, .slice gp g.length gc, .int .i64 (k : Int), U 10, U 11, U 12, U 13, U 14, U 15, U 16, U 17, U 18, U 19, U 20, U 21, U 22, U 23, U 24, U 25, U 26, U 27, U 28, U 29, U 30, U 31, U 32, U 33, U 34, U 35, U 36, U 37, U 38, U 39, U 40, U 41, U 42, U 43]) ∧ h ++ [⟨true, q2, .cells (bkL b pm nm cm pr nr cr).toArray 25 (0, 0)⟩] ++ nw ++ M = h') _ ⟨1, un, _, _, _, rfl, by omega, by omega, by rw [bestBy_one, map_getD _ _ _ (by omega)], ur, by have := unlike_length (ll.getD 0 []) xs; omega, exU rfl, rfl⟩ ?_; rintro nn l h' ⟨k, M, gp, gc, g, rfl, hk0, hk, hg, hgr, hg7, ⟨U, rfl⟩, rfl⟩ hnext; refine run_seq ?_; refine rs4 (by kernel_rfl) ?_; refine mq rfl ?_; refine mq rfl ?_; refine k_len rfl zq ?_; refine k_lssS rfl zq (fun hc => ?_) (fun hc => ?_)
    · refine k_nil ?_; refine run_yes ?_; refine run_skip ?_; refine run_seq ?_; refine run_block ?_; refine rs7 (by kernel_rfl) ?_; obtain ⟨ep, ec, ee, er⟩ := rde.2 k (by omega)
      obtain ⟨hv, h0, hb⟩ := hmem _ (mem_getDR.2 ⟨k, by omega, rfl⟩)
      replace hb : ll.getD k [] ∈ boatsOf b := hb
      have hln := (line_of (boat_line hb)).1
      refine mq rfl ?_; refine mq rfl ?_; refine k_ixs rfl zq (by first | rfl | assumption) (by omega) (by omega) ?_; refine k_ld (v := .slice ep (ll.getD k []).length ec) rfl zq (by rw [← ee]; exact rdv.vat k (by omega) (by omega)) ?_; refine mq rfl ?_; refine k_calC rfl zq (by kernel_rfl) (fun H' hH => f60_c m H' (er.keeps (sq hH)) (by omega) (rd.keeps (sq hH)) (by omega)) ?_; rintro uv un uo; refine k_hpA (k_put ?_); obtain ⟨up, uc, rfl, _⟩ := uo.len
      have ur : RdS B un 1 (.slice up _ uc) _ _ := (uo.rd')
      refine aq rfl ?_; refine rs3 (by kernel_rfl) ?_; refine mq rfl ?_; refine mq rfl ?_; refine k_calP (Post := fun v => IsB _ v) rfl zq (by kernel_rfl) (fun H' hH => f61_c m H' (ur.keeps (sq hH)) (by have := unlike_length (ll.getD k []) xs; omega) (hgr.keeps (sq hH))) ?_; rintro v (⟨hc, rfl⟩ | ⟨hc, rfl⟩)
      · refine k_put ?_; refine k_nil ?_; refine run_yes ?_; refine rr2 (by kernel_rfl) ?_; refine mq rfl ?_; refine aq rfl ?_; refine run_inBlock ?_; refine rr3 (by kernel_rfl) ?_; refine mq rfl ?_; refine k_add rfl zq (by unfold In64; omega) ?_; refine aq rfl ?_; have hum := map_getD ll (fun l => unlike l xs) k (by omega)
        exact m.weak weakSub (hnext _ _ _ (by omega) ⟨k + 1, un, _, _, _, rfl, by omega, by omega, by rw [bestBy_succ _ _ _ (by omega) (by rw [List.length_map]; omega), if_pos (by rw [← hg, hum]; exact decide_eq_true (by assumption)), hum], ur, by have := unlike_length (ll.getD k []) xs; omega, exU rfl, rfl⟩)
      · refine k_put ?_; refine k_nil ?_; refine run_no ?_; refine run_skip ?_; refine run_inBlock ?_; refine rr3 (by kernel_rfl) ?_; refine mq rfl ?_; refine k_add rfl zq (by unfold In64; omega) ?_; refine aq rfl ?_; have hum := map_getD ll (fun l => unlike l xs) k (by omega)
        exact m.weak weakSub (hnext _ _ _ (by omega) ⟨k + 1, M, _, _, _, rfl, by omega, by omega, by rw [bestBy_succ _ _ _ (by omega) (by rw [List.length_map]; omega), if_neg (by rw [← hg, hum]; unfold ltFewer; rw [decide_eq_true_iff]; assumption), hg], hgr, hg7, exU rfl, rfl⟩)
    · refine k_nil ?_; refine run_no ?_; refine run_exit rfl ?_; refine rs3 (by kernel_rfl) ?_; refine mq rfl ?_; refine k_as rfl zq ?_; refine aq rfl ?_; refine run_ret rfl ?_; refine run_res (h ++ M) rfl Tryz.func45 rfl weakSub ?_; refine hK _ _ ?_
      obtain rfl : k = ll.length := by omega
      rw [List.take_of_length_le (by rw [List.length_map]; omega), hlb] at hg
      have e0 : lineO b xs = 0 := by assumption
      have e1 : pulledL b xs = g := by rw [pulledL, if_neg (fun e => e e0), hg]
      exact ⟨M, rfl, _, by rw [e0], by rw [e1]; exact ⟨_, _, rfl, hgr⟩⟩
theorem ex_take {ll : List (List Int)} {q : List Int → Prop} {k : Nat} (h : k < ll.length) : (∃ l ∈ ll.take (k + 1), q l) ↔ (∃ l ∈ ll.take k, q l) ∨ q (ll.getD k []) := by
  rw [take_snocL ll k h]; constructor
  · rintro ⟨l, hl, hq⟩; rcases List.mem_append.1 hl with hl | hl
    · exact .inl ⟨l, hl, hq⟩
    · rw [List.mem_singleton] at hl; exact .inr (hl ▸ hq)
  · rintro (⟨l, hl, hq⟩ | hq)
    · exact ⟨l, List.mem_append_left _ hl, hq⟩
    · exact ⟨_, List.mem_append_right _ (by simp), hq⟩
theorem f47_c (m : Md Tryz.prog B) (h : Hp) {b : Bk} {pm : Option Addr} {nm cm : Nat} {pr : Option Addr} {nr cr : Nat} (rdm : RdS B h 2 (.slice pm nm cm) nm (encs b.marks)) (hm : nm ≤ 1000) (rdr : RdS B h 4 (.slice pr nr cr) nr (encs b.rules)) (hr : nr ≤ 1000) {p : Option Addr} {n c : Nat} {xs : List Int} (rd : RdS B h 1 (.slice p n c) n (ints xs)) (hn : n ≤ 1000) : FnC m 47 #[bkV b pm nm cm pr nr cr, .slice p n c] h fun v h' => ∃ new, h' = h ++ new ∧ ∃ w, v = .tuple [w, .int .i64 (lineO b xs)].toArray ∧ RdI B new w (mustL b xs) := by
  have hml := rdm.elen (by decide)
  have hrl := rdr.elen (by decide)
  have hl := rd.ilen
  refine fn_enter Tryz.func47 rfl rfl (l := (bkV b pm nm cm pr nr cr) :: (.slice p n c) :: uu55) rfl ?_
  intro cf cs K hK
  refine rs3 (by kernel_rfl) ?_; refine k_box rfl zq (fun q2 => k_hp (k_put ?_)); refine k_as rfl zq ?_; refine aq rfl ?_; refine run_seq ?_; refine run_draw [(2, .pure), (0, .read), (1, .read), (3, .keep), (4, .keep), (5, .pure), (6, .pure), (7, .pure), (8, .pure), (9, .pure)] (by kernel_rfl) (by kernel_rfl) (List.Sublist.refl _) ?_; refine mq rfl ?_; refine k_ldA rfl zq ?_; refine k_ldA rfl zq ?_; refine k_calP (Post := fun v => v = _) rfl zq (by kernel_rfl) (fun H' hH => f127_c m H' (rdm.keeps (sq hH)) hm (rd.keeps (sq hH)) hn) ?_; rintro v rfl; refine k_put ?_; refine k_calC rfl zq (by kernel_rfl) (fun H' hH => f112_c m H' (rdm.keeps (sq hH)) hm (rdr.keeps (sq hH)) hr _) ?_; rintro v nw ⟨w, rfl, bp, bc, vs, rfl, rdv, rde⟩; refine k_hpA (k_put ?_); have hle := openL_le rde
  have hmem := openL_mem rde
  generalize hll : openL b _ = ll at rdv rde hle hmem ⊢
  refine mq rfl ?_; refine k_ext0 rfl zq ?_; refine k_ext1 rfl zq ?_; refine k_as rfl zq ?_; refine aq rfl ?_; refine run_seq ?_; refine rs2 (by kernel_rfl) ?_; refine mq rfl ?_; refine k_neqS rfl zq (fun hc => ?_) (fun hc => ?_)
  · refine k_nil ?_; refine run_yes ?_; refine rs3 (by kernel_rfl) ?_; refine mq rfl ?_; refine k_as rfl zq ?_; refine aq rfl ?_; refine run_ret rfl ?_; refine run_res (h) rfl Tryz.func47 rfl weakSub ?_; refine hK _ _ ?_
    exact ⟨[], by simp, _, rfl, by rw [mustL, if_pos (by assumption)]; exact RdI.nil⟩
  · refine k_nil ?_; refine run_no ?_; refine run_skip ?_; refine rs1 (by kernel_rfl) ?_; have hlo : lineS b.marks.length xs = 0 := (openS_zero (b := b) (by assumption)).2.1
    have hlx := lineS_zero hlo
    have hls := (lineS_small hlo).le (show 959 ≤ 100000 by omega)
    have hlb : ll = boatsOf b := by subst hll; rw [openL, if_pos (by assumption)]
    have hpos : 0 < ll.length := by
      rw [hlb]; exact List.length_pos_iff.2 (openS_zero (b := b) (by assumption)).2.2
    have hv := (hmem _ (mem_getDR.2 ⟨0, hpos, rfl⟩)).1
    have hvm := hv.many
    refine aq rfl ?_; refine run_seq ?_; refine rs1 (by kernel_rfl) ?_; refine aq rfl ?_; refine run_block ?_; refine run_loop (fun nn l h' => ∃ (j : Nat) (w8 : Value) (W : Hp), nn = n - j ∧ (j ≤ n) ∧ (OwnS 3 1 w8 (mustF ll xs j).length (ints (mustF ll xs j)) W) ∧ (∃ U : Nat → Value, l = [bkV b pm nm cm pr nr cr, .slice p n c, .pointer (some ⟨q2, 0, none⟩), U 3, U 4, U 5, .slice bp ll.length bc, U 7, w8, .int .i64 (j : Int), U 10, U 11, U 12, U 13, U 14, U 15, U 16, U 17, U 18, U 19, U 20, U 21, U 22, U 23, U 24, U 25, U 26, U 27, U 28, U 29, U 30, U 31, U 32, U 33, U 34, U 35, U 36, U 37, U 38, U 39, U 40, U 41, U 42, U 43, U 44, U 45, U 46, U 47, U 48, U 49, U 50, U 51, U 52, U 53, U 54, U 55, U 56]) ∧ h ++ [⟨true, q2, .cells (bkL b pm nm cm pr nr cr).toArray 25 (0, 0)⟩] ++ nw ++ W = h') _ ⟨0, _, [], rfl, by omega, OwnS.nil, exU rfl, (by simp)⟩ ?_; rintro nn l h' ⟨j, w8, W, rfl, hj, ho, ⟨U, rfl⟩, rfl⟩ hnext1; have hml7 := mustF_length ll xs j
    refine run_seq ?_; refine rs4 (by kernel_rfl) ?_; refine mq rfl ?_; refine mq rfl ?_; refine k_len rfl zq ?_; refine k_lssS rfl zq (fun hc => ?_) (fun hc => ?_)
    · refine k_nil ?_; refine run_yes ?_; refine run_skip ?_; refine run_seq ?_; refine run_block ?_; refine rs1 (by kernel_rfl) ?_; refine aq rfl ?_; refine run_seq ?_; refine rs1 (by kernel_rfl) ?_; refine aq rfl ?_; refine run_block ?_; refine run_loop (fun nn l h' => ∃ (k : Nat) (is : Bool), nn = ll.length - k ∧ (k ≤ ll.length) ∧ (is = true ↔ ∃ l ∈ ll.take k, l.getD j 0 = xs.getD j 0) ∧ (∃ U : Nat → Value, l = [bkV b pm nm cm pr nr cr, .slice p n c, .pointer (some ⟨q2, 0, none⟩), U 3, U 4, U 5, .slice bp ll.length bc, U 7, w8, .int .i64 (j : Int), .bool is, .int .i64 (k : Int), U 12, U 13, U 14, U 15, U 16, U 17, U 18, U 19, U 20, U 21, U 22, U 23, U 24, U 25, U 26, U 27, U 28, U 29, U 30, U 31, U 32, U 33, U 34, U 35, U 36, U 37, U 38, U 39, U 40, U 41, U 42, U 43, U 44, U 45, U 46, U 47, U 48, U 49, U 50, U 51, U 52, U 53, U 54, U 55, U 56]) ∧ h ++ [⟨true, q2, .cells (bkL b pm nm cm pr nr cr).toArray 25 (0, 0)⟩] ++ nw ++ W = h') _ ⟨0, _, rfl, by omega, by simp, exU rfl, rfl⟩ ?_; rintro nn l h' ⟨k, is, rfl, hk, hex, ⟨U, rfl⟩, rfl⟩ hnext2; refine run_seq ?_; refine rs4 (by kernel_rfl) ?_; refine mq rfl ?_; refine mq rfl ?_; refine k_len rfl zq ?_; refine k_lssS rfl zq (fun hc => ?_) (fun hc => ?_)
      · refine k_nil ?_; refine run_yes ?_; refine run_skip ?_; refine run_seq ?_; refine run_block ?_; cases is
        · refine run_draw [(0, .pure), (1, .pure), (2, .pure), (3, .pure), (4, .pure), (6, .pure), (9, .pure), (10, .pure), (11, .pure), (5, .read), (7, .pure), (8, .read), (12, .read), (13, .pure), (14, .pure), (15, .pure)] (by kernel_rfl) (by kernel_rfl) (List.Sublist.refl _) ?_; obtain ⟨ep, ec, ee, er⟩ := rde.2 k (by omega)
          obtain ⟨hv, h0, hb⟩ := hmem _ (mem_getDR.2 ⟨k, by omega, rfl⟩)
          replace hb : ll.getD k [] ∈ boatsOf b := hb
          have hln := (line_of (boat_line hb)).1
          refine mq rfl ?_; refine mq rfl ?_; refine k_mv rfl rfl ?_; refine k_mv rfl rfl ?_; obtain ⟨rdv_b, rdv_o, rfl⟩ := rdv.ptr (by omega)
          refine k_ixs rfl rfl (by first | rfl | assumption) (by omega) (by omega) ?_; refine k_mv rfl rfl ?_; refine k_mv rfl rfl ?_; refine k_mv rfl rfl ?_; obtain ⟨rd_b, rd_o, rfl⟩ := rd.ptr (by omega)
          refine k_ixs rfl rfl (by first | rfl | assumption) (by omega) (by omega) ?_; refine k_ld (v := .slice ep (ll.getD k []).length ec) rfl rfl (by rw [← ee]; exact rdv.vat k (by omega) (by omega)) ?_; obtain ⟨eb, eo, rfl⟩ := er.ptr (by omega)
          refine k_ixs rfl rfl (by first | rfl | assumption) (by omega) (by omega) ?_; refine k_ld rfl rfl (er.iat j (by omega) (by omega)) ?_; refine k_ld rfl rfl (rd.iat j (by omega) (by omega)) ?_; refine k_eqlS rfl rfl (fun hc => ?_) (fun hc => ?_)
          · refine k_pickF rfl zq ?_; refine aq rfl ?_; refine run_inBlock ?_; refine rr3 (by kernel_rfl) ?_; refine mq rfl ?_; refine k_add rfl zq (by unfold In64; omega) ?_; refine aq rfl ?_; exact m.weak weakSub (hnext2 _ _ _ (by omega) ⟨k + 1, _, rfl, by omega, by rw [ex_take (by omega)]; exact ⟨fun _ => .inr (by assumption), fun _ => rfl⟩, exU rfl, rfl⟩)
          · refine k_pickF rfl zq ?_; refine aq rfl ?_; refine run_inBlock ?_; refine rr3 (by kernel_rfl) ?_; refine mq rfl ?_; refine k_add rfl zq (by unfold In64; omega) ?_; refine aq rfl ?_; exact m.weak weakSub (hnext2 _ _ _ (by omega) ⟨k + 1, _, rfl, by omega, by rw [ex_take (by omega), ← hex]; exact ⟨fun e => .inl e, fun e => by rcases e with e | e; exact e; contradiction⟩, exU rfl, rfl⟩)
        · refine run_draw [(0, .pure), (1, .pure), (2, .pure), (3, .pure), (4, .pure), (6, .pure), (9, .pure), (10, .pure), (11, .pure), (5, .read), (7, .pure), (8, .read), (12, .read), (13, .pure), (14, .pure), (15, .pure)] (by kernel_rfl) (by kernel_rfl) (List.Sublist.refl _) ?_; obtain ⟨ep, ec, ee, er⟩ := rde.2 k (by omega)
          obtain ⟨hv, h0, hb⟩ := hmem _ (mem_getDR.2 ⟨k, by omega, rfl⟩)
          replace hb : ll.getD k [] ∈ boatsOf b := hb
          have hln := (line_of (boat_line hb)).1
          refine mq rfl ?_; refine mq rfl ?_; refine k_off rfl rfl ?_; refine k_off rfl rfl ?_; refine k_off rfl rfl ?_; refine k_off rfl rfl ?_; refine k_off rfl rfl ?_; refine k_off rfl rfl ?_; refine k_off rfl rfl ?_; refine k_off rfl rfl ?_; refine k_off rfl rfl ?_; refine k_off rfl rfl ?_; refine k_off rfl rfl ?_; refine k_off rfl rfl ?_; refine k_pickT rfl zq ?_; refine aq rfl ?_; refine run_inBlock ?_; refine rr3 (by kernel_rfl) ?_; refine mq rfl ?_; refine k_add rfl zq (by unfold In64; omega) ?_; refine aq rfl ?_; exact m.weak weakSub (hnext2 _ _ _ (by omega) ⟨k + 1, _, rfl, by omega, by rw [ex_take (by omega), ← hex]; exact ⟨fun e => .inl e, fun _ => rfl⟩, exU rfl, rfl⟩)
      · refine k_nil ?_; refine run_no ?_; refine run_exit rfl ?_; refine run_seq ?_; cases is
        · refine rr2 (by kernel_rfl) ?_; refine mq rfl ?_; refine k_notF rfl zq ?_; refine k_nil ?_; refine run_yes ?_; refine rr5 (by kernel_rfl) ?_; refine mq rfl ?_; refine mq rfl ?_; refine k_bs kdq rfl zq (by decide) (by decide) rfl (fun q54 => k_hp (k_put ?_)); refine k_app1 (F := h ++ [⟨true, q2, .cells (bkL b pm nm cm pr nr cr).toArray 25 (0, 0)⟩] ++ nw) rfl zq rfl ho kdq (by omega) (by omega) (fun w9 n9 o9 => k_put ?_); refine aq rfl ?_; refine run_inBlock ?_; refine rr3 (by kernel_rfl) ?_; refine mq rfl ?_; refine k_add rfl zq (by unfold In64; omega) ?_; refine aq rfl ?_; have hmu := mustF_yes ll xs j (fun l hl e => by have := hex.2 ⟨l, by rw [List.take_of_length_le (by omega)]; exact hl, e⟩; contradiction)
          exact m.weak weakSub (hnext1 _ _ _ (by omega) ⟨j + 1, _, n9, rfl, by omega, by rw [show (mustF ll xs (j + 1)).length = (mustF ll xs j).length + 1 by rw [hmu]; simp, hmu, ints_append]; exact o9, exU rfl, rfl⟩)
        · refine rr2 (by kernel_rfl) ?_; refine mq rfl ?_; refine k_notT rfl zq ?_; refine k_nil ?_; refine run_no ?_; refine run_skip ?_; refine run_inBlock ?_; refine rr3 (by kernel_rfl) ?_; refine mq rfl ?_; refine k_add rfl zq (by unfold In64; omega) ?_; refine aq rfl ?_; have hmu := mustF_no ll xs j (fun e => by
            obtain ⟨l, hl, he⟩ := hex.1 rfl
            exact e l (List.mem_of_mem_take hl) he)
          exact m.weak weakSub (hnext1 _ _ _ (by omega) ⟨j + 1, _, W, rfl, by omega, by rw [hmu]; exact ho, exU rfl, rfl⟩)
    · refine k_nil ?_; refine run_no ?_; refine run_exit rfl ?_; refine rs3 (by kernel_rfl) ?_; refine mq rfl ?_; refine k_as rfl zq ?_; refine aq rfl ?_; refine run_ret rfl ?_; refine run_res (h ++ W) rfl Tryz.func47 rfl weakSub ?_; refine hK _ _ ?_
      obtain rfl : j = xs.length := by omega
      have e0 : lineO b xs = 0 := by assumption
      have e1 : mustL b xs = mustF ll xs xs.length := by rw [mustL, if_neg (fun e => e e0), hlb]
      exact ⟨W, rfl, _, by rw [e0], by rw [e1]; exact OwnS.rdI ho⟩
def handedS (b : Bk) (xs : List Int) : Int := if bookS b ≠ 0 then bookS b else lineS b.marks.length xs
theorem RdI.owned {t : Nat} {w : Value} {n : Nat} {xs : List Int} {new : Hp} (o : OwnS t 1 w n (ints xs) new) : RdI B new w xs := OwnS.rdI o
def countAt (ll : List (List Int)) (s : Nat) (x : Int) : Nat := (ll.filter fun l => decide (l.getD s 0 = x)).length
theorem countAt_yes (ll : List (List Int)) (s : Nat) (x : Int) (k : Nat) (h : k < ll.length) (hp : (ll.getD k []).getD s 0 = x) : countAt (ll.take (k + 1)) s x = countAt (ll.take k) s x + 1 := by
  rw [take_snocL ll k h, countAt, List.filter_append, List.filter_cons, if_pos (decide_eq_true hp), List.length_append]; rfl
theorem countAt_no (ll : List (List Int)) (s : Nat) (x : Int) (k : Nat) (h : k < ll.length) (hp : (ll.getD k []).getD s 0 ≠ x) : countAt (ll.take (k + 1)) s x = countAt (ll.take k) s x := by
  rw [take_snocL ll k h, countAt, List.filter_append, List.filter_cons, if_neg (by rw [decide_eq_true_iff]; exact hp), List.filter_nil, List.append_nil]; rfl
def lefts (ll : List (List Int)) (s : Nat) : List Int := ll.map fun l => (countAt ll s (l.getD s 0) : Int)
def leftOf (ll : List (List Int)) (s : Nat) : Int := mostL (lefts ll s)
theorem st_ne {p : Prop} [Decidable p] (h : (if p then (0 : Int) else 6) ≠ 0) : ¬ p := fun e => h (if_pos e)
theorem st_eq {p : Prop} [Decidable p] (h : (if p then (0 : Int) else 6) = 0) : p := Classical.byContradiction fun e => by rw [if_neg e] at h; cases h
class Laid (B : Array Obj) : Prop where
  eq : ∃ t f, B[0]? = some (.cells [.func (.func 199) #[] #[], .func (.func 200) #[] #[], .func (.func 201) #[] #[]].toArray t f)
variable [Laid B]
theorem laid_rdN {h : Hp} [x : Laid B] : RdN B h 0 0 [.func (.func 199) #[] #[], .func (.func 200) #[] #[], .func (.func 201) #[] #[]] := fun j hj => by
  obtain ⟨t, f, e⟩ := x.eq
  refine Rd.base rfl e ?_
  rw [Nat.zero_add, List.getElem?_toArray, List.getD_eq_getElem?_getD, List.getElem?_eq_getElem hj]; rfl
theorem f204_c (m : Md Tryz.prog B) (h : Hp) {p : Option Addr} {n c : Nat} {xs : List Sp} (rd : RdS B h 2 (.slice p n c) n (encs xs)) (hn : n ≤ 100000) {fid : Nat} {fc cp : Array Value} {pr : Nat → Prop} (hcall : callB Tryz.prog fid = true) (hf : ∀ i, i < n → ∀ H' : Hp, h.Sublist H' → FnC m fid (fc ++ [spV (xs.getD i default)].toArray ++ cp) H' fun v h' => h' = H' ∧ IsB (pr i) v) : FnC m 204 #[.slice p n c, .func (.func fid) fc cp] h fun v h' => h' = h ∧ ∃ j : Int, v = .int .i64 j ∧ (0 ≤ j ↔ ∃ i, i < n ∧ pr i) := by
  refine fn_enter Tryz.func204 rfl rfl (l := (.slice p n c) :: (.func (.func fid) fc cp) :: uu17) rfl ?_
  intro cf cs K hK
  refine rs1 (by kernel_rfl) ?_; refine aq rfl ?_; refine run_seq ?_; refine rs3 (by kernel_rfl) ?_; refine mq rfl ?_; refine k_len rfl zq ?_; refine mq rfl ?_; refine k_nil ?_; refine run_block ?_; refine run_loop (fun nn l h' => ∃ (k : Nat), nn = n - k ∧ (k ≤ n) ∧ (∀ i, i < k → ¬ pr i) ∧ (∃ U : Nat → Value, l = [.slice p n c, .func (.func fid) fc cp, U 2, U 3, U 4, U 5, U 6, .int .i64 (n : Int), .int .i64 (k : Int), U 9, U 10, U 11, U 12, U 13, U 14, U 15, U 16, U 17, U 18]) ∧ h = h') _ ⟨0, rfl, by omega, fun i hi => by omega, exU rfl, rfl⟩ ?_; rintro nn l h' ⟨k, rfl, hk, he, ⟨U, rfl⟩, rfl⟩ hnext; refine rs1 (by kernel_rfl) ?_; refine k_lssS rfl zq (fun hc => ?_) (fun hc => ?_)
  · refine k_nil ?_; refine run_seq ?_; refine run_yes ?_; refine run_skip ?_; refine run_seq ?_; refine run_block ?_; refine rs2 (by kernel_rfl) ?_; refine mq rfl ?_; refine aq rfl ?_; refine rs6 (by kernel_rfl) ?_; refine mq rfl ?_; refine mq rfl ?_; refine mq rfl ?_; obtain ⟨rd_b, rd_o, rfl⟩ := rd.ptr (by omega)
    refine k_ixs rfl zq (by first | rfl | assumption) (by omega) (by omega) ?_; refine k_ldN (vs := spL (xs.getD k default)) rfl zq rfl (rd.eat k (by omega) (by omega)) ?_; refine k_valP (Post := fun v => IsB _ v) rfl zq hcall (fun H' hH => hf k (by omega) H' hH) ?_; rintro v (⟨hc, rfl⟩ | ⟨hc, rfl⟩)
    · refine k_put ?_; refine k_nil ?_; refine run_yes ?_; refine rs2 (by kernel_rfl) ?_; refine mq rfl ?_; refine aq rfl ?_; refine run_ret rfl ?_; refine run_res (h) rfl Tryz.func204 rfl weakSub ?_; refine hK _ _ ?_
      first
        | exact ⟨rfl, _, rfl, fun _ => ⟨k, by omega, hc⟩, fun _ => by omega⟩
        | (refine ⟨rfl, _, rfl, fun e => absurd e (by decide), ?_⟩; rintro ⟨i, h1, h2⟩; exact absurd h2 (he i (by omega)))
    · refine k_put ?_; refine k_nil ?_; refine run_no ?_; refine run_skip ?_; refine run_inBlock ?_; refine rr2 (by kernel_rfl) ?_; refine k_add rfl zq (by unfold In64; omega) ?_; refine mq rfl ?_; refine k_nil ?_; exact m.weak weakSub (hnext _ _ _ (by omega) ⟨k + 1, rfl, by omega, fun i hi => by
        rcases Nat.lt_or_ge i k with h1 | h1
        · exact he i h1
        · obtain rfl : i = k := by omega
          exact hc, exU rfl, rfl⟩)
  · refine k_nil ?_; refine run_seq ?_; refine run_no ?_; refine run_exit rfl ?_; refine rs1 (by kernel_rfl) ?_; refine aq rfl ?_; refine run_ret rfl ?_; refine run_res (h) rfl Tryz.func204 rfl weakSub ?_; refine hK _ _ ?_
    first
      | exact ⟨rfl, _, rfl, fun _ => ⟨k, by omega, hc⟩, fun _ => by omega⟩
      | (refine ⟨rfl, _, rfl, fun e => absurd e (by decide), ?_⟩; rintro ⟨i, h1, h2⟩; exact absurd h2 (he i (by omega)))
theorem f202_c (m : Md Tryz.prog B) (h : Hp) {p : Option Addr} {n c : Nat} {xs : List Sp} (rd : RdS B h 2 (.slice p n c) n (encs xs)) (hn : n ≤ 100000) {fid : Nat} {fc cp : Array Value} {pr : Nat → Prop} (hcall : callB Tryz.prog fid = true) (hf : ∀ i, i < n → ∀ H' : Hp, h.Sublist H' → FnC m fid (fc ++ [spV (xs.getD i default)].toArray ++ cp) H' fun v h' => h' = H' ∧ IsB (pr i) v) : FnC m 202 #[.slice p n c, .func (.func fid) fc cp] h fun v h' => h' = h ∧ IsB (∃ i, i < n ∧ pr i) v := by
  refine fn_enter Tryz.func202 rfl rfl (l := (.slice p n c) :: (.func (.func fid) fc cp) :: uu7) rfl ?_
  intro cf cs K hK
  refine rs1 (by kernel_rfl) ?_; refine aq rfl ?_; refine rs5 (by kernel_rfl) ?_; refine mq rfl ?_; refine mq rfl ?_; refine k_calP (Post := fun v => ∃ j : Int, v = .int .i64 j ∧ (0 ≤ j ↔ ∃ i, i < n ∧ pr i)) rfl zq (by kernel_rfl) (fun H' hH => f204_c m H' (rd.keeps (sq hH)) hn hcall (fun i hi K hK => hf i hi K (SubH.sub.trans (hH.trans hK)))) ?_; rintro v ⟨j, rfl, hj⟩; refine k_put ?_; refine k_geqS rfl zq (fun hc => ?_) (fun hc => ?_)
  · refine aq rfl ?_; refine run_ret rfl ?_; refine run_res (h) rfl Tryz.func202 rfl weakSub ?_; refine hK _ _ ?_
    first | exact ⟨rfl, IsB.yes (hj.1 (by assumption))⟩ | exact ⟨rfl, IsB.no (fun e => absurd (hj.2 e) (by omega))⟩
  · refine aq rfl ?_; refine run_ret rfl ?_; refine run_res (h) rfl Tryz.func202 rfl weakSub ?_; refine hK _ _ ?_
    first | exact ⟨rfl, IsB.yes (hj.1 (by assumption))⟩ | exact ⟨rfl, IsB.no (fun e => absurd (hj.2 e) (by omega))⟩
theorem f159_c (m : Md Tryz.prog B) (h : Hp) {p : Option Addr} {n c : Nat} {xs : List Int} (rd : RdS B h 1 (.slice p n c) n (ints xs)) (hn : n ≤ 100000) {fid : Nat} {fc cp : Array Value} {pr : Nat → Prop} (hcall : callB Tryz.prog fid = true) (hf : ∀ i, i < n → ∀ H' : Hp, h.Sublist H' → FnC m fid (fc ++ [Value.int .i64 (xs.getD i 0)].toArray ++ cp) H' fun v h' => h' = H' ∧ IsB (pr i) v) : FnC m 159 #[.slice p n c, .func (.func fid) fc cp] h fun v h' => h' = h ∧ ∃ j : Int, v = .int .i64 j ∧ (0 ≤ j ↔ ∃ i, i < n ∧ pr i) := by
  refine fn_enter Tryz.func159 rfl rfl (l := (.slice p n c) :: (.func (.func fid) fc cp) :: uu17) rfl ?_
  intro cf cs K hK
  refine rs1 (by kernel_rfl) ?_; refine aq rfl ?_; refine run_seq ?_; refine rs3 (by kernel_rfl) ?_; refine mq rfl ?_; refine k_len rfl zq ?_; refine mq rfl ?_; refine k_nil ?_; refine run_block ?_; refine run_loop (fun nn l h' => ∃ (k : Nat), nn = n - k ∧ (k ≤ n) ∧ (∀ i, i < k → ¬ pr i) ∧ (∃ U : Nat → Value, l = [.slice p n c, .func (.func fid) fc cp, U 2, U 3, U 4, U 5, U 6, .int .i64 (n : Int), .int .i64 (k : Int), U 9, U 10, U 11, U 12, U 13, U 14, U 15, U 16, U 17, U 18]) ∧ h = h') _ ⟨0, rfl, by omega, fun i hi => by omega, exU rfl, rfl⟩ ?_; rintro nn l h' ⟨k, rfl, hk, he, ⟨U, rfl⟩, rfl⟩ hnext; refine rs1 (by kernel_rfl) ?_; refine k_lssS rfl zq (fun hc => ?_) (fun hc => ?_)
  · refine k_nil ?_; refine run_seq ?_; refine run_yes ?_; refine run_skip ?_; refine run_seq ?_; refine run_block ?_; refine rs2 (by kernel_rfl) ?_; refine mq rfl ?_; refine aq rfl ?_; refine rs6 (by kernel_rfl) ?_; refine mq rfl ?_; refine mq rfl ?_; refine mq rfl ?_; obtain ⟨rd_b, rd_o, rfl⟩ := rd.ptr (by omega)
    refine k_ixs rfl zq (by first | rfl | assumption) (by omega) (by omega) ?_; refine k_ld rfl zq (rd.iat k (by omega) (by omega)) ?_; refine k_valP (Post := fun v => IsB _ v) rfl zq hcall (fun H' hH => hf k (by omega) H' hH) ?_; rintro v (⟨hc, rfl⟩ | ⟨hc, rfl⟩)
    · refine k_put ?_; refine k_nil ?_; refine run_yes ?_; refine rs2 (by kernel_rfl) ?_; refine mq rfl ?_; refine aq rfl ?_; refine run_ret rfl ?_; refine run_res (h) rfl Tryz.func159 rfl weakSub ?_; refine hK _ _ ?_
      first
        | exact ⟨rfl, _, rfl, fun _ => ⟨k, by omega, hc⟩, fun _ => by omega⟩
        | (refine ⟨rfl, _, rfl, fun e => absurd e (by decide), ?_⟩; rintro ⟨i, h1, h2⟩; exact absurd h2 (he i (by omega)))
    · refine k_put ?_; refine k_nil ?_; refine run_no ?_; refine run_skip ?_; refine run_inBlock ?_; refine rr2 (by kernel_rfl) ?_; refine k_add rfl zq (by unfold In64; omega) ?_; refine mq rfl ?_; refine k_nil ?_; exact m.weak weakSub (hnext _ _ _ (by omega) ⟨k + 1, rfl, by omega, fun i hi => by
        rcases Nat.lt_or_ge i k with h1 | h1
        · exact he i h1
        · obtain rfl : i = k := by omega
          exact hc, exU rfl, rfl⟩)
  · refine k_nil ?_; refine run_seq ?_; refine run_no ?_; refine run_exit rfl ?_; refine rs1 (by kernel_rfl) ?_; refine aq rfl ?_; refine run_ret rfl ?_; refine run_res (h) rfl Tryz.func159 rfl weakSub ?_; refine hK _ _ ?_
    first
      | exact ⟨rfl, _, rfl, fun _ => ⟨k, by omega, hc⟩, fun _ => by omega⟩
      | (refine ⟨rfl, _, rfl, fun e => absurd e (by decide), ?_⟩; rintro ⟨i, h1, h2⟩; exact absurd h2 (he i (by omega)))
theorem f147_c (m : Md Tryz.prog B) (h : Hp) {p : Option Addr} {n c : Nat} {xs : List Int} (rd : RdS B h 1 (.slice p n c) n (ints xs)) (hn : n ≤ 100000) {fid : Nat} {fc cp : Array Value} {pr : Nat → Prop} (hcall : callB Tryz.prog fid = true) (hf : ∀ i, i < n → ∀ H' : Hp, h.Sublist H' → FnC m fid (fc ++ [Value.int .i64 (xs.getD i 0)].toArray ++ cp) H' fun v h' => h' = H' ∧ IsB (pr i) v) : FnC m 147 #[.slice p n c, .func (.func fid) fc cp] h fun v h' => h' = h ∧ IsB (∃ i, i < n ∧ pr i) v := by
  refine fn_enter Tryz.func147 rfl rfl (l := (.slice p n c) :: (.func (.func fid) fc cp) :: uu7) rfl ?_
  intro cf cs K hK
  refine rs1 (by kernel_rfl) ?_; refine aq rfl ?_; refine rs5 (by kernel_rfl) ?_; refine mq rfl ?_; refine mq rfl ?_; refine k_calP (Post := fun v => ∃ j : Int, v = .int .i64 j ∧ (0 ≤ j ↔ ∃ i, i < n ∧ pr i)) rfl zq (by kernel_rfl) (fun H' hH => f159_c m H' (rd.keeps (sq hH)) hn hcall (fun i hi K hK => hf i hi K (SubH.sub.trans (hH.trans hK)))) ?_; rintro v ⟨j, rfl, hj⟩; refine k_put ?_; refine k_geqS rfl zq (fun hc => ?_) (fun hc => ?_)
  · refine aq rfl ?_; refine run_ret rfl ?_; refine run_res (h) rfl Tryz.func147 rfl weakSub ?_; refine hK _ _ ?_
    first | exact ⟨rfl, IsB.yes (hj.1 (by assumption))⟩ | exact ⟨rfl, IsB.no (fun e => absurd (hj.2 e) (by omega))⟩
  · refine aq rfl ?_; refine run_ret rfl ?_; refine run_res (h) rfl Tryz.func147 rfl weakSub ?_; refine hK _ _ ?_
    first | exact ⟨rfl, IsB.yes (hj.1 (by assumption))⟩ | exact ⟨rfl, IsB.no (fun e => absurd (hj.2 e) (by omega))⟩
theorem f149_c (m : Md Tryz.prog B) (h : Hp) {p : Option Addr} {n c : Nat} {xs : List (List Int)} (rd : RdS B h 7 (.slice p n c) n (encs xs)) (hn : n ≤ 100000) {fid : Nat} {fc cp : Array Value} {pr : Nat → Prop} (hcall : callB Tryz.prog fid = true) (hf : ∀ i, i < n → ∀ H' : Hp, h.Sublist H' → FnC m fid (fc ++ [htV (xs.getD i default)].toArray ++ cp) H' fun v h' => h' = H' ∧ IsB (pr i) v) : FnC m 149 #[.slice p n c, .func (.func fid) fc cp] h fun v h' => h' = h ∧ ∃ j : Int, v = .int .i64 j ∧ (0 ≤ j ↔ ∃ i, i < n ∧ pr i) := by
  refine fn_enter Tryz.func149 rfl rfl (l := (.slice p n c) :: (.func (.func fid) fc cp) :: uu17) rfl ?_
  intro cf cs K hK
  refine rs1 (by kernel_rfl) ?_; refine aq rfl ?_; refine run_seq ?_; refine rs3 (by kernel_rfl) ?_; refine mq rfl ?_; refine k_len rfl zq ?_; refine mq rfl ?_; refine k_nil ?_; refine run_block ?_; refine run_loop (fun nn l h' => ∃ (k : Nat), nn = n - k ∧ (k ≤ n) ∧ (∀ i, i < k → ¬ pr i) ∧ (∃ U : Nat → Value, l = [.slice p n c, .func (.func fid) fc cp, U 2, U 3, U 4, U 5, U 6, .int .i64 (n : Int), .int .i64 (k : Int), U 9, U 10, U 11, U 12, U 13, U 14, U 15, U 16, U 17, U 18]) ∧ h = h') _ ⟨0, rfl, by omega, fun i hi => by omega, exU rfl, rfl⟩ ?_; rintro nn l h' ⟨k, rfl, hk, he, ⟨U, rfl⟩, rfl⟩ hnext; refine rs1 (by kernel_rfl) ?_; refine k_lssS rfl zq (fun hc => ?_) (fun hc => ?_)
  · refine k_nil ?_; refine run_seq ?_; refine run_yes ?_; refine run_skip ?_; refine run_seq ?_; refine run_block ?_; refine rs2 (by kernel_rfl) ?_; refine mq rfl ?_; refine aq rfl ?_; refine rs6 (by kernel_rfl) ?_; refine mq rfl ?_; refine mq rfl ?_; refine mq rfl ?_; obtain ⟨rd_b, rd_o, rfl⟩ := rd.ptr (by omega)
    refine k_ixs rfl zq (by first | rfl | assumption) (by omega) (by omega) ?_; refine k_ldN (vs := hts (xs.getD k default)) rfl zq (hts_length _) (rd.eat k (by omega) (by omega)) ?_; refine k_valP (Post := fun v => IsB _ v) rfl zq hcall (fun H' hH => hf k (by omega) H' hH) ?_; rintro v (⟨hc, rfl⟩ | ⟨hc, rfl⟩)
    · refine k_put ?_; refine k_nil ?_; refine run_yes ?_; refine rs2 (by kernel_rfl) ?_; refine mq rfl ?_; refine aq rfl ?_; refine run_ret rfl ?_; refine run_res (h) rfl Tryz.func149 rfl weakSub ?_; refine hK _ _ ?_
      first
        | exact ⟨rfl, _, rfl, fun _ => ⟨k, by omega, hc⟩, fun _ => by omega⟩
        | (refine ⟨rfl, _, rfl, fun e => absurd e (by decide), ?_⟩; rintro ⟨i, h1, h2⟩; exact absurd h2 (he i (by omega)))
    · refine k_put ?_; refine k_nil ?_; refine run_no ?_; refine run_skip ?_; refine run_inBlock ?_; refine rr2 (by kernel_rfl) ?_; refine k_add rfl zq (by unfold In64; omega) ?_; refine mq rfl ?_; refine k_nil ?_; exact m.weak weakSub (hnext _ _ _ (by omega) ⟨k + 1, rfl, by omega, fun i hi => by
        rcases Nat.lt_or_ge i k with h1 | h1
        · exact he i h1
        · obtain rfl : i = k := by omega
          exact hc, exU rfl, rfl⟩)
  · refine k_nil ?_; refine run_seq ?_; refine run_no ?_; refine run_exit rfl ?_; refine rs1 (by kernel_rfl) ?_; refine aq rfl ?_; refine run_ret rfl ?_; refine run_res (h) rfl Tryz.func149 rfl weakSub ?_; refine hK _ _ ?_
    first
      | exact ⟨rfl, _, rfl, fun _ => ⟨k, by omega, hc⟩, fun _ => by omega⟩
      | (refine ⟨rfl, _, rfl, fun e => absurd e (by decide), ?_⟩; rintro ⟨i, h1, h2⟩; exact absurd h2 (he i (by omega)))
theorem f103_c (m : Md Tryz.prog B) (h : Hp) {p : Option Addr} {n c : Nat} {xs : List (List Int)} (rd : RdS B h 7 (.slice p n c) n (encs xs)) (hn : n ≤ 100000) {fid : Nat} {fc cp : Array Value} {pr : Nat → Prop} (hcall : callB Tryz.prog fid = true) (hf : ∀ i, i < n → ∀ H' : Hp, h.Sublist H' → FnC m fid (fc ++ [htV (xs.getD i default)].toArray ++ cp) H' fun v h' => h' = H' ∧ IsB (pr i) v) : FnC m 103 #[.slice p n c, .func (.func fid) fc cp] h fun v h' => h' = h ∧ IsB (∃ i, i < n ∧ pr i) v := by
  refine fn_enter Tryz.func103 rfl rfl (l := (.slice p n c) :: (.func (.func fid) fc cp) :: uu7) rfl ?_
  intro cf cs K hK
  refine rs1 (by kernel_rfl) ?_; refine aq rfl ?_; refine rs5 (by kernel_rfl) ?_; refine mq rfl ?_; refine mq rfl ?_; refine k_calP (Post := fun v => ∃ j : Int, v = .int .i64 j ∧ (0 ≤ j ↔ ∃ i, i < n ∧ pr i)) rfl zq (by kernel_rfl) (fun H' hH => f149_c m H' (rd.keeps (sq hH)) hn hcall (fun i hi K hK => hf i hi K (SubH.sub.trans (hH.trans hK)))) ?_; rintro v ⟨j, rfl, hj⟩; refine k_put ?_; refine k_geqS rfl zq (fun hc => ?_) (fun hc => ?_)
  · refine aq rfl ?_; refine run_ret rfl ?_; refine run_res (h) rfl Tryz.func103 rfl weakSub ?_; refine hK _ _ ?_
    first | exact ⟨rfl, IsB.yes (hj.1 (by assumption))⟩ | exact ⟨rfl, IsB.no (fun e => absurd (hj.2 e) (by omega))⟩
  · refine aq rfl ?_; refine run_ret rfl ?_; refine run_res (h) rfl Tryz.func103 rfl weakSub ?_; refine hK _ _ ?_
    first | exact ⟨rfl, IsB.yes (hj.1 (by assumption))⟩ | exact ⟨rfl, IsB.no (fun e => absurd (hj.2 e) (by omega))⟩
theorem f175_c (m : Md Tryz.prog B) (h : Hp) {p : Option Addr} {n c : Nat} {xs : List Ru} (rd : RdS B h 4 (.slice p n c) n (encs xs)) (hn : n ≤ 100000) {fid : Nat} {fc cp : Array Value} {pr : Nat → Prop} (hcall : callB Tryz.prog fid = true) (hf : ∀ i, i < n → ∀ H' : Hp, h.Sublist H' → FnC m fid (fc ++ [ruV (xs.getD i default)].toArray ++ cp) H' fun v h' => h' = H' ∧ IsB (pr i) v) : FnC m 175 #[.slice p n c, .func (.func fid) fc cp] h fun v h' => h' = h ∧ ∃ j : Int, v = .int .i64 j ∧ (0 ≤ j ↔ ∃ i, i < n ∧ pr i) := by
  refine fn_enter Tryz.func175 rfl rfl (l := (.slice p n c) :: (.func (.func fid) fc cp) :: uu17) rfl ?_
  intro cf cs K hK
  refine rs1 (by kernel_rfl) ?_; refine aq rfl ?_; refine run_seq ?_; refine rs3 (by kernel_rfl) ?_; refine mq rfl ?_; refine k_len rfl zq ?_; refine mq rfl ?_; refine k_nil ?_; refine run_block ?_; refine run_loop (fun nn l h' => ∃ (k : Nat), nn = n - k ∧ (k ≤ n) ∧ (∀ i, i < k → ¬ pr i) ∧ (∃ U : Nat → Value, l = [.slice p n c, .func (.func fid) fc cp, U 2, U 3, U 4, U 5, U 6, .int .i64 (n : Int), .int .i64 (k : Int), U 9, U 10, U 11, U 12, U 13, U 14, U 15, U 16, U 17, U 18]) ∧ h = h') _ ⟨0, rfl, by omega, fun i hi => by omega, exU rfl, rfl⟩ ?_; rintro nn l h' ⟨k, rfl, hk, he, ⟨U, rfl⟩, rfl⟩ hnext; refine rs1 (by kernel_rfl) ?_; refine k_lssS rfl zq (fun hc => ?_) (fun hc => ?_)
  · refine k_nil ?_; refine run_seq ?_; refine run_yes ?_; refine run_skip ?_; refine run_seq ?_; refine run_block ?_; refine rs2 (by kernel_rfl) ?_; refine mq rfl ?_; refine aq rfl ?_; refine rs6 (by kernel_rfl) ?_; refine mq rfl ?_; refine mq rfl ?_; refine mq rfl ?_; obtain ⟨rd_b, rd_o, rfl⟩ := rd.ptr (by omega)
    refine k_ixs rfl zq (by first | rfl | assumption) (by omega) (by omega) ?_; refine k_ldN (vs := ruL (xs.getD k default)) rfl zq rfl (rd.eat k (by omega) (by omega)) ?_; refine k_valP (Post := fun v => IsB _ v) rfl zq hcall (fun H' hH => hf k (by omega) H' hH) ?_; rintro v (⟨hc, rfl⟩ | ⟨hc, rfl⟩)
    · refine k_put ?_; refine k_nil ?_; refine run_yes ?_; refine rs2 (by kernel_rfl) ?_; refine mq rfl ?_; refine aq rfl ?_; refine run_ret rfl ?_; refine run_res (h) rfl Tryz.func175 rfl weakSub ?_; refine hK _ _ ?_
      first
        | exact ⟨rfl, _, rfl, fun _ => ⟨k, by omega, hc⟩, fun _ => by omega⟩
        | (refine ⟨rfl, _, rfl, fun e => absurd e (by decide), ?_⟩; rintro ⟨i, h1, h2⟩; exact absurd h2 (he i (by omega)))
    · refine k_put ?_; refine k_nil ?_; refine run_no ?_; refine run_skip ?_; refine run_inBlock ?_; refine rr2 (by kernel_rfl) ?_; refine k_add rfl zq (by unfold In64; omega) ?_; refine mq rfl ?_; refine k_nil ?_; exact m.weak weakSub (hnext _ _ _ (by omega) ⟨k + 1, rfl, by omega, fun i hi => by
        rcases Nat.lt_or_ge i k with h1 | h1
        · exact he i h1
        · obtain rfl : i = k := by omega
          exact hc, exU rfl, rfl⟩)
  · refine k_nil ?_; refine run_seq ?_; refine run_no ?_; refine run_exit rfl ?_; refine rs1 (by kernel_rfl) ?_; refine aq rfl ?_; refine run_ret rfl ?_; refine run_res (h) rfl Tryz.func175 rfl weakSub ?_; refine hK _ _ ?_
    first
      | exact ⟨rfl, _, rfl, fun _ => ⟨k, by omega, hc⟩, fun _ => by omega⟩
      | (refine ⟨rfl, _, rfl, fun e => absurd e (by decide), ?_⟩; rintro ⟨i, h1, h2⟩; exact absurd h2 (he i (by omega)))
theorem f161_c (m : Md Tryz.prog B) (h : Hp) {p : Option Addr} {n c : Nat} {xs : List Ru} (rd : RdS B h 4 (.slice p n c) n (encs xs)) (hn : n ≤ 100000) {fid : Nat} {fc cp : Array Value} {pr : Nat → Prop} (hcall : callB Tryz.prog fid = true) (hf : ∀ i, i < n → ∀ H' : Hp, h.Sublist H' → FnC m fid (fc ++ [ruV (xs.getD i default)].toArray ++ cp) H' fun v h' => h' = H' ∧ IsB (pr i) v) : FnC m 161 #[.slice p n c, .func (.func fid) fc cp] h fun v h' => h' = h ∧ IsB (∃ i, i < n ∧ pr i) v := by
  refine fn_enter Tryz.func161 rfl rfl (l := (.slice p n c) :: (.func (.func fid) fc cp) :: uu7) rfl ?_
  intro cf cs K hK
  refine rs1 (by kernel_rfl) ?_; refine aq rfl ?_; refine rs5 (by kernel_rfl) ?_; refine mq rfl ?_; refine mq rfl ?_; refine k_calP (Post := fun v => ∃ j : Int, v = .int .i64 j ∧ (0 ≤ j ↔ ∃ i, i < n ∧ pr i)) rfl zq (by kernel_rfl) (fun H' hH => f175_c m H' (rd.keeps (sq hH)) hn hcall (fun i hi K hK => hf i hi K (SubH.sub.trans (hH.trans hK)))) ?_; rintro v ⟨j, rfl, hj⟩; refine k_put ?_; refine k_geqS rfl zq (fun hc => ?_) (fun hc => ?_)
  · refine aq rfl ?_; refine run_ret rfl ?_; refine run_res (h) rfl Tryz.func161 rfl weakSub ?_; refine hK _ _ ?_
    first | exact ⟨rfl, IsB.yes (hj.1 (by assumption))⟩ | exact ⟨rfl, IsB.no (fun e => absurd (hj.2 e) (by omega))⟩
  · refine aq rfl ?_; refine run_ret rfl ?_; refine run_res (h) rfl Tryz.func161 rfl weakSub ?_; refine hK _ _ ?_
    first | exact ⟨rfl, IsB.yes (hj.1 (by assumption))⟩ | exact ⟨rfl, IsB.no (fun e => absurd (hj.2 e) (by omega))⟩
theorem f203_c (m : Md Tryz.prog B) (h : Hp) (x : Sp) : FnC m 203 #[spV x] h fun v h' => h' = h ∧ IsB (¬ okM x) v := by
  refine fn_enter Tryz.func203 rfl rfl (l := [spV x, undef, undef, undef, undef, undef]) rfl ?_
  intro cf cs K hK
  refine rs2 (by kernel_rfl) ?_; refine k_box rfl zq (fun q1 => k_hp (k_put ?_)); refine aq rfl ?_; refine rs4 (by kernel_rfl) ?_; refine k_ldA rfl zq ?_; refine k_calP (Post := fun v => IsB _ v) rfl zq (by kernel_rfl) (fun H' hH => f140_c m H' _ _ _ _ _ (by decide) (by decide)) ?_; rintro v (⟨hc, rfl⟩ | ⟨hc, rfl⟩)
  · refine k_put ?_; refine k_notT rfl zq ?_; refine aq rfl ?_; refine run_ret rfl ?_; refine run_res (h) rfl Tryz.func203 rfl weakSub ?_; refine hK _ _ ?_
    first | exact ⟨rfl, IsB.yes (by unfold okM; omega)⟩ | exact ⟨rfl, IsB.no (by unfold okM; omega)⟩
  · refine k_put ?_; refine k_notF rfl zq ?_; refine aq rfl ?_; refine run_ret rfl ?_; refine run_res (h) rfl Tryz.func203 rfl weakSub ?_; refine hK _ _ ?_
    first | exact ⟨rfl, IsB.yes (by unfold okM; omega)⟩ | exact ⟨rfl, IsB.no (by unfold okM; omega)⟩
theorem f158_c (m : Md Tryz.prog B) (h : Hp) (x : Int) : FnC m 158 #[.int .i64 x] h fun v h' => h' = h ∧ IsB (¬ (0 ≤ x ∧ x ≤ 959)) v := by
  refine fn_enter Tryz.func158 rfl rfl (l := [.int .i64 x, undef, undef, undef, undef, undef]) rfl ?_
  intro cf cs K hK
  refine rs1 (by kernel_rfl) ?_; refine aq rfl ?_; refine rs4 (by kernel_rfl) ?_; refine mq rfl ?_; refine k_calP (Post := fun v => IsB _ v) rfl zq (by kernel_rfl) (fun H' hH => f117_c m H' _ _ _) ?_; rintro v (⟨hc, rfl⟩ | ⟨hc, rfl⟩)
  · refine k_put ?_; refine k_notT rfl zq ?_; refine aq rfl ?_; refine run_ret rfl ?_; refine run_res (h) rfl Tryz.func158 rfl weakSub ?_; refine hK _ _ ?_
    first | exact ⟨rfl, IsB.yes (by omega)⟩ | exact ⟨rfl, IsB.no (by omega)⟩
  · refine k_put ?_; refine k_notF rfl zq ?_; refine aq rfl ?_; refine run_ret rfl ?_; refine run_res (h) rfl Tryz.func158 rfl weakSub ?_; refine hK _ _ ?_
    first | exact ⟨rfl, IsB.yes (by omega)⟩ | exact ⟨rfl, IsB.no (by omega)⟩
theorem f199_c (m : Md Tryz.prog B) (h : Hp) {b : Bk} {pm : Option Addr} {nm cm : Nat} {pr : Option Addr} {nr cr : Nat} : FnC m 199 #[bkV b pm nm cm pr nr cr] h fun v h' => h' = h ∧ v = .int .i64 (if ¬ (0 ≤ b.bend ∧ b.bend ≤ 99) ∨ ¬ (0 ≤ b.twist ∧ b.twist ≤ 99) ∨ ¬ (0 ≤ b.turns ∧ b.turns ≤ 5) then 1 else 0) := by
  refine fn_enter Tryz.func199 rfl rfl (l := (bkV b pm nm cm pr nr cr) :: uu21) rfl ?_
  intro cf cs K hK
  refine rs2 (by kernel_rfl) ?_; refine k_box rfl zq (fun q1 => k_hp (k_put ?_)); refine aq rfl ?_; refine run_seq ?_; refine run_seq ?_; refine run_region [(0, .free), (1, .free), (2, .free), (3, .free), (4, .free), (5, .free), (6, .free), (7, .free), (8, .free), (9, .free), (10, .free), (11, .free), (12, .free), (13, .free), (14, .free), (15, .free), (16, .free), (17, .free), (18, .free)] (by kernel_rfl) (by kernel_rfl) ?_; first | refine k_fa0 rfl zq ?_ | refine k_fa rfl zq ?_
  first | refine k_fa0 rfl zq ?_ | refine k_fa rfl zq ?_
  refine k_ldh rfl zq ?_; refine k_calP (Post := fun v => IsB _ v) rfl zq (by kernel_rfl) (fun H' hH => f117_c m H' _ _ _) ?_; rintro v (⟨hc, rfl⟩ | ⟨hc, rfl⟩)
  · refine k_put ?_; refine k_notT rfl zq ?_; refine mq rfl ?_; first | refine k_fa0 rfl rfl ?_ | refine k_fa rfl rfl ?_
    first | refine k_fa0 rfl rfl ?_ | refine k_fa rfl rfl ?_
    refine k_ldh rfl rfl ?_; refine k_calP (Post := fun v => IsB _ v) rfl rfl (by kernel_rfl) (fun H' hH => f117_c m H' _ _ _) ?_; rintro v (⟨hc, rfl⟩ | ⟨hc, rfl⟩)
    · refine k_put ?_; refine k_notT rfl rfl ?_; refine k_pickF rfl zq ?_; refine mq rfl ?_; first | refine k_fa0 rfl rfl ?_ | refine k_fa rfl rfl ?_
      first | refine k_fa0 rfl rfl ?_ | refine k_fa rfl rfl ?_
      refine k_ldh rfl rfl ?_; refine k_calP (Post := fun v => IsB _ v) rfl rfl (by kernel_rfl) (fun H' hH => f117_c m H' _ _ _) ?_; rintro v (⟨hc, rfl⟩ | ⟨hc, rfl⟩)
      · refine k_put ?_; refine k_notT rfl rfl ?_; refine k_pickF rfl zq ?_; refine k_nil ?_; refine run_no ?_; refine run_skip ?_; refine rs1 (by kernel_rfl) ?_; refine aq rfl ?_; refine run_ret rfl ?_; refine run_res (h) rfl Tryz.func199 rfl weakSub ?_; refine hK _ _ ?_
        refine ⟨rfl, ?_⟩
        first | (rw [if_pos (by omega)]; done) | (rw [if_neg (by omega)]; done)
      · refine k_put ?_; refine k_notF rfl rfl ?_; refine k_pickF rfl zq ?_; refine k_nil ?_; refine run_yes ?_; refine rs1 (by kernel_rfl) ?_; refine aq rfl ?_; refine run_ret rfl ?_; refine run_res (h) rfl Tryz.func199 rfl weakSub ?_; refine hK _ _ ?_
        refine ⟨rfl, ?_⟩
        first | (rw [if_pos (by omega)]; done) | (rw [if_neg (by omega)]; done)
    · refine k_put ?_; refine k_notF rfl rfl ?_; refine k_pickF rfl zq ?_; refine mq rfl ?_; refine k_off rfl rfl ?_; refine k_off rfl rfl ?_; refine k_off rfl rfl ?_; refine k_off rfl rfl ?_; refine k_off rfl rfl ?_; refine k_pickT rfl zq ?_; refine k_nil ?_; refine run_yes ?_; refine rs1 (by kernel_rfl) ?_; refine aq rfl ?_; refine run_ret rfl ?_; refine run_res (h) rfl Tryz.func199 rfl weakSub ?_; refine hK _ _ ?_
      refine ⟨rfl, ?_⟩
      first | (rw [if_pos (by omega)]; done) | (rw [if_neg (by omega)]; done)
  · refine k_put ?_; refine k_notF rfl zq ?_; refine mq rfl ?_; refine k_off rfl rfl ?_; refine k_off rfl rfl ?_; refine k_off rfl rfl ?_; refine k_off rfl rfl ?_; refine k_off rfl rfl ?_; refine k_pickT rfl zq ?_; refine mq rfl ?_; refine k_off rfl rfl ?_; refine k_off rfl rfl ?_; refine k_off rfl rfl ?_; refine k_off rfl rfl ?_; refine k_off rfl rfl ?_; refine k_pickT rfl zq ?_; refine k_nil ?_; refine run_yes ?_; refine rs1 (by kernel_rfl) ?_; refine aq rfl ?_; refine run_ret rfl ?_; refine run_res (h) rfl Tryz.func199 rfl weakSub ?_; refine hK _ _ ?_
    refine ⟨rfl, ?_⟩
    first | (rw [if_pos (by omega)]; done) | (rw [if_neg (by omega)]; done)
theorem f200_c (m : Md Tryz.prog B) (h : Hp) {b : Bk} {pm : Option Addr} {nm cm : Nat} {pr : Option Addr} {nr cr : Nat} (rdm : RdS B h 2 (.slice pm nm cm) nm (encs b.marks)) (hm : nm ≤ 1000) : FnC m 200 #[bkV b pm nm cm pr nr cr] h fun v h' => h' = h ∧ v = .int .i64 (marksS b.marks) := by
  have hml := rdm.elen (by decide)
  refine fn_enter Tryz.func200 rfl rfl (l := (bkV b pm nm cm pr nr cr) :: uu12) rfl ?_
  intro cf cs K hK
  refine rs2 (by kernel_rfl) ?_; refine k_box rfl zq (fun q1 => k_hp (k_put ?_)); refine aq rfl ?_; refine run_seq ?_; refine run_block ?_; refine rs5 (by kernel_rfl) ?_; refine k_ldA rfl zq ?_; refine k_calP (Post := fun v => v = _) rfl zq (by kernel_rfl) (fun H' hH => f118_c m H' _ _ _ _ _ _ _ _ _) ?_; rintro v rfl; refine k_put ?_; refine k_calP (Post := fun v => IsB _ v) rfl zq (by kernel_rfl) (fun H' hH => f117_c m H' _ _ _) ?_; rintro v (⟨hc, rfl⟩ | ⟨hc, rfl⟩)
  · refine k_put ?_; refine k_notT rfl zq ?_; refine aq rfl ?_; refine run_no ?_; refine rs5 (by kernel_rfl) ?_; first | refine k_fa0 rfl zq ?_ | refine k_fa rfl zq ?_
    first | refine k_fa0 rfl zq ?_ | refine k_fa rfl zq ?_
    refine k_ldh rfl zq ?_; refine k_calP (Post := fun v => IsB _ v) rfl zq (by kernel_rfl) (fun H' hH => f202_c m H' (pr := fun i => ¬ okM (b.marks.getD i default)) (rdm.keeps (sq hH)) (by omega) (by kernel_rfl) (fun i hi K hK => f203_c m K _)) ?_; rintro v (⟨hc, rfl⟩ | ⟨hc, rfl⟩)
    · refine k_put ?_; refine aq rfl ?_; refine run_yes ?_; refine rs1 (by kernel_rfl) ?_; refine aq rfl ?_; refine run_ret rfl ?_; refine run_res (h) rfl Tryz.func200 rfl weakSub ?_; refine hK _ _ ?_
      refine ⟨rfl, ?_⟩
      first
        | (rw [marksS, if_pos (by omega)]; done)
        | (rw [marksS, if_neg (by omega), if_neg (fun e => by obtain ⟨i, h1, h2⟩ := hc; exact h2 (e _ (mem_getDR.2 ⟨i, by omega, rfl⟩)))]; done)
        | (rw [marksS, if_neg (by omega), if_pos (fun x hx => by obtain ⟨i, h1, rfl⟩ := mem_getDR.1 hx; exact Classical.byContradiction fun e => hc ⟨i, by omega, e⟩)]; done)
    · refine k_put ?_; refine aq rfl ?_; refine run_no ?_; refine run_skip ?_; refine run_inBlock ?_; refine rs1 (by kernel_rfl) ?_; refine aq rfl ?_; refine run_ret rfl ?_; refine run_res (h) rfl Tryz.func200 rfl weakSub ?_; refine hK _ _ ?_
      refine ⟨rfl, ?_⟩
      first
        | (rw [marksS, if_pos (by omega)]; done)
        | (rw [marksS, if_neg (by omega), if_neg (fun e => by obtain ⟨i, h1, h2⟩ := hc; exact h2 (e _ (mem_getDR.2 ⟨i, by omega, rfl⟩)))]; done)
        | (rw [marksS, if_neg (by omega), if_pos (fun x hx => by obtain ⟨i, h1, rfl⟩ := mem_getDR.1 hx; exact Classical.byContradiction fun e => hc ⟨i, by omega, e⟩)]; done)
  · refine k_put ?_; refine k_notF rfl zq ?_; refine aq rfl ?_; refine run_yes ?_; refine rs1 (by kernel_rfl) ?_; refine aq rfl ?_; refine run_ret rfl ?_; refine run_res (h) rfl Tryz.func200 rfl weakSub ?_; refine hK _ _ ?_
    refine ⟨rfl, ?_⟩
    first
      | (rw [marksS, if_pos (by omega)]; done)
      | (rw [marksS, if_neg (by omega), if_neg (fun e => by obtain ⟨i, h1, h2⟩ := hc; exact h2 (e _ (mem_getDR.2 ⟨i, by omega, rfl⟩)))]; done)
      | (rw [marksS, if_neg (by omega), if_pos (fun x hx => by obtain ⟨i, h1, rfl⟩ := mem_getDR.1 hx; exact Classical.byContradiction fun e => hc ⟨i, by omega, e⟩)]; done)
theorem f201_c (m : Md Tryz.prog B) (h : Hp) {b : Bk} {pm : Option Addr} {nm cm : Nat} {pr : Option Addr} {nr cr : Nat} (rdm : RdS B h 2 (.slice pm nm cm) nm (encs b.marks)) (hm : nm ≤ 1000) (rdr : RdS B h 4 (.slice pr nr cr) nr (encs b.rules)) (hr : nr ≤ 1000) : FnC m 201 #[bkV b pm nm cm pr nr cr] h fun v h' => h' = h ∧ v = .int .i64 (rulesS b.marks.length b.rules) := by
  have hml := rdm.elen (by decide)
  have hrl := rdr.elen (by decide)
  refine fn_enter Tryz.func201 rfl rfl (l := (bkV b pm nm cm pr nr cr) :: uu42) rfl ?_
  intro cf cs K hK
  refine rs2 (by kernel_rfl) ?_; refine k_box rfl zq (fun q1 => k_hp (k_put ?_)); refine aq rfl ?_; refine run_seq ?_; refine rs5 (by kernel_rfl) ?_; first | refine k_fa0 rfl zq ?_ | refine k_fa rfl zq ?_
  first | refine k_fa0 rfl zq ?_ | refine k_fa rfl zq ?_
  refine k_ldh rfl zq ?_; refine k_len rfl zq ?_; refine k_gtrS rfl zq (fun hc => ?_) (fun hc => ?_)
  · refine k_nil ?_; refine run_yes ?_; refine rs1 (by kernel_rfl) ?_; refine aq rfl ?_; refine run_ret rfl ?_; refine run_res (h) rfl Tryz.func201 rfl weakSub ?_; refine hK _ _ ?_
    refine ⟨rfl, ?_⟩
    first
      | (rw [rulesS, if_pos (by omega)]; done)
      | (rw [rulesS, if_neg (by omega), he, List.drop_eq_nil_of_le (by omega)]; rfl)
      | (rw [rulesS, if_neg (by omega), he, getD_dropR b.rules k (by omega), rules1, if_pos (by omega)]; done)
      | (rw [rulesS, if_neg (by omega), he, getD_dropR b.rules k (by omega), rules1, if_neg (by omega), if_pos (by omega)]; done)
      | (rw [rulesS, if_neg (by omega), he, getD_dropR b.rules k (by omega), rules1, if_neg (by omega), if_neg (by omega), if_pos (by omega)]; done)
  · refine k_nil ?_; refine run_no ?_; refine run_skip ?_; refine run_seq ?_; refine rs5 (by kernel_rfl) ?_; first | refine k_fa0 rfl zq ?_ | refine k_fa rfl zq ?_
    first | refine k_fa0 rfl zq ?_ | refine k_fa rfl zq ?_
    refine k_ldh rfl zq ?_; refine k_len rfl zq ?_; refine mq rfl ?_; refine k_nil ?_; refine run_block ?_; refine run_loop (fun nn l h' => ∃ (k : Nat), nn = nr - k ∧ (k ≤ nr) ∧ (rules1 b.marks.length b.rules = rules1 b.marks.length (b.rules.drop k)) ∧ (∃ U : Nat → Value, l = [bkV b pm nm cm pr nr cr, .pointer (some ⟨q1, 0, none⟩), U 2, U 3, U 4, U 5, U 6, U 7, U 8, U 9, U 10, U 11, .slice pr nr cr, .int .i64 (nr : Int), .int .i64 (k : Int), U 15, U 16, U 17, U 18, U 19, U 20, U 21, U 22, U 23, U 24, U 25, U 26, U 27, U 28, U 29, U 30, U 31, U 32, U 33, U 34, U 35, U 36, U 37, U 38, U 39, U 40, U 41, U 42]) ∧ h ++ [⟨true, q1, .cells (bkL b pm nm cm pr nr cr).toArray 109 (0, 0)⟩] = h') _ ⟨0, rfl, by omega, rfl, exU rfl, rfl⟩ ?_; rintro nn l h' ⟨k, rfl, hk, he, ⟨U, rfl⟩, rfl⟩ hnext; refine rs1 (by kernel_rfl) ?_; refine k_lssS rfl zq (fun hc => ?_) (fun hc => ?_)
    · refine k_nil ?_; refine run_seq ?_; refine run_yes ?_; refine run_skip ?_; refine run_seq ?_; refine run_block ?_; refine rs4 (by kernel_rfl) ?_; obtain ⟨rdr_b, rdr_o, rfl⟩ := rdr.ptr (by omega)
      refine k_ixs rfl zq (by first | rfl | assumption) (by omega) (by omega) ?_; refine k_ldN (vs := [.int .i64 (b.rules.getD k default).a, .int .i64 (b.rules.getD k default).b, .int .i64 (b.rules.getD k default).lo, .int .i64 (b.rules.getD k default).hi]) rfl zq rfl (rdr.eat k (by omega) (by omega)) ?_; refine k_new rfl zq (fun q4 => k_hp (k_put ?_)); refine k_stA rfl zq rfl ?_; refine k_nil ?_; refine run_block ?_; refine rs13 (by kernel_rfl) ?_; refine k_ldA rfl zq ?_; first | refine k_fa0 rfl zq ?_ | refine k_fa rfl zq ?_
      refine k_ldh rfl zq ?_; refine k_calP (Post := fun v => v = _) rfl zq (by kernel_rfl) (fun H' hH => f109_c m H' _ _ _ _ _ _ _ _ _ _ (by omega)) ?_; rintro v rfl; refine k_put ?_; refine k_neqS rfl zq (fun hc => ?_) (fun hc => ?_)
      · replace hc := st_ne hc
        refine mq rfl ?_; refine k_off rfl rfl ?_; refine k_off rfl rfl ?_; refine k_off rfl rfl ?_; refine k_off rfl rfl ?_; refine k_off rfl rfl ?_; refine k_pickT rfl zq ?_; refine aq rfl ?_; refine run_yes ?_; refine rs1 (by kernel_rfl) ?_; refine aq rfl ?_; refine run_ret rfl ?_; refine run_res (h) rfl Tryz.func201 rfl weakSub ?_; refine hK _ _ ?_
        refine ⟨rfl, ?_⟩
        first
          | (rw [rulesS, if_pos (by omega)]; done)
          | (rw [rulesS, if_neg (by omega), he, List.drop_eq_nil_of_le (by omega)]; rfl)
          | (rw [rulesS, if_neg (by omega), he, getD_dropR b.rules k (by omega), rules1, if_pos (by omega)]; done)
          | (rw [rulesS, if_neg (by omega), he, getD_dropR b.rules k (by omega), rules1, if_neg (by omega), if_pos (by omega)]; done)
          | (rw [rulesS, if_neg (by omega), he, getD_dropR b.rules k (by omega), rules1, if_neg (by omega), if_neg (by omega), if_pos (by omega)]; done)
      · replace hc := st_eq hc
        refine mq rfl ?_; refine k_ldA rfl rfl ?_; first | refine k_fa0 rfl rfl ?_ | refine k_fa rfl rfl ?_
        refine k_ldh rfl rfl ?_; refine k_calP (Post := fun v => v = _) rfl rfl (by kernel_rfl) (fun H' hH => f109_c m H' _ _ _ _ _ _ _ _ _ _ (by omega)) ?_; rintro v rfl; refine k_put ?_; refine k_neqS rfl rfl (fun hc => ?_) (fun hc => ?_)
        · replace hc := st_ne hc
          refine k_pickF rfl zq ?_; refine aq rfl ?_; refine run_yes ?_; refine rs1 (by kernel_rfl) ?_; refine aq rfl ?_; refine run_ret rfl ?_; refine run_res (h) rfl Tryz.func201 rfl weakSub ?_; refine hK _ _ ?_
          refine ⟨rfl, ?_⟩
          first
            | (rw [rulesS, if_pos (by omega)]; done)
            | (rw [rulesS, if_neg (by omega), he, List.drop_eq_nil_of_le (by omega)]; rfl)
            | (rw [rulesS, if_neg (by omega), he, getD_dropR b.rules k (by omega), rules1, if_pos (by omega)]; done)
            | (rw [rulesS, if_neg (by omega), he, getD_dropR b.rules k (by omega), rules1, if_neg (by omega), if_pos (by omega)]; done)
            | (rw [rulesS, if_neg (by omega), he, getD_dropR b.rules k (by omega), rules1, if_neg (by omega), if_neg (by omega), if_pos (by omega)]; done)
        · replace hc := st_eq hc
          refine k_pickF rfl zq ?_; refine aq rfl ?_; refine run_no ?_; refine rs6 (by kernel_rfl) ?_; first | refine k_fa0 rfl zq ?_ | refine k_fa rfl zq ?_
          refine k_ldh rfl zq ?_; first | refine k_fa0 rfl zq ?_ | refine k_fa rfl zq ?_
          refine k_ldh rfl zq ?_; refine k_geqS rfl zq (fun hc => ?_) (fun hc => ?_)
          · refine aq rfl ?_; refine run_yes ?_; refine rs1 (by kernel_rfl) ?_; refine aq rfl ?_; refine run_ret rfl ?_; refine run_res (h) rfl Tryz.func201 rfl weakSub ?_; refine hK _ _ ?_
            refine ⟨rfl, ?_⟩
            first
              | (rw [rulesS, if_pos (by omega)]; done)
              | (rw [rulesS, if_neg (by omega), he, List.drop_eq_nil_of_le (by omega)]; rfl)
              | (rw [rulesS, if_neg (by omega), he, getD_dropR b.rules k (by omega), rules1, if_pos (by omega)]; done)
              | (rw [rulesS, if_neg (by omega), he, getD_dropR b.rules k (by omega), rules1, if_neg (by omega), if_pos (by omega)]; done)
              | (rw [rulesS, if_neg (by omega), he, getD_dropR b.rules k (by omega), rules1, if_neg (by omega), if_neg (by omega), if_pos (by omega)]; done)
          · refine aq rfl ?_; refine run_no ?_; refine rs5 (by kernel_rfl) ?_; first | refine k_fa0 rfl zq ?_ | refine k_fa rfl zq ?_
            refine k_ldA rfl zq ?_; refine k_calP (Post := fun v => IsB _ v) rfl zq (by kernel_rfl) (fun H' hH => f140_c m H' _ _ _ _ _ (by decide) (by decide)) ?_; rintro v (⟨hc, rfl⟩ | ⟨hc, rfl⟩)
            · refine k_put ?_; refine k_notT rfl zq ?_; refine aq rfl ?_; refine run_no ?_; refine run_skip ?_; refine run_inBlock ?_; refine run_inBlock ?_; refine rr2 (by kernel_rfl) ?_; refine k_add rfl zq (by unfold In64; omega) ?_; refine mq rfl ?_; refine k_nil ?_; exact m.weak weakSub (hnext _ _ _ (by omega) ⟨k + 1, rfl, by omega, by rw [he, getD_dropR b.rules k (by omega), rules1, if_neg (by omega), if_neg (by omega), if_neg (by omega)], exU rfl, rfl⟩)
            · refine k_put ?_; refine k_notF rfl zq ?_; refine aq rfl ?_; refine run_yes ?_; refine rs1 (by kernel_rfl) ?_; refine aq rfl ?_; refine run_ret rfl ?_; refine run_res (h) rfl Tryz.func201 rfl weakSub ?_; refine hK _ _ ?_
              refine ⟨rfl, ?_⟩
              first
                | (rw [rulesS, if_pos (by omega)]; done)
                | (rw [rulesS, if_neg (by omega), he, List.drop_eq_nil_of_le (by omega)]; rfl)
                | (rw [rulesS, if_neg (by omega), he, getD_dropR b.rules k (by omega), rules1, if_pos (by omega)]; done)
                | (rw [rulesS, if_neg (by omega), he, getD_dropR b.rules k (by omega), rules1, if_neg (by omega), if_pos (by omega)]; done)
                | (rw [rulesS, if_neg (by omega), he, getD_dropR b.rules k (by omega), rules1, if_neg (by omega), if_neg (by omega), if_pos (by omega)]; done)
    · refine k_nil ?_; refine run_seq ?_; refine run_no ?_; refine run_exit rfl ?_; refine rs1 (by kernel_rfl) ?_; refine aq rfl ?_; refine run_ret rfl ?_; refine run_res (h) rfl Tryz.func201 rfl weakSub ?_; refine hK _ _ ?_
      refine ⟨rfl, ?_⟩
      first
        | (rw [rulesS, if_pos (by omega)]; done)
        | (rw [rulesS, if_neg (by omega), he, List.drop_eq_nil_of_le (by omega)]; rfl)
        | (rw [rulesS, if_neg (by omega), he, getD_dropR b.rules k (by omega), rules1, if_pos (by omega)]; done)
        | (rw [rulesS, if_neg (by omega), he, getD_dropR b.rules k (by omega), rules1, if_neg (by omega), if_pos (by omega)]; done)
        | (rw [rulesS, if_neg (by omega), he, getD_dropR b.rules k (by omega), rules1, if_neg (by omega), if_neg (by omega), if_pos (by omega)]; done)
end Go.Proofs
