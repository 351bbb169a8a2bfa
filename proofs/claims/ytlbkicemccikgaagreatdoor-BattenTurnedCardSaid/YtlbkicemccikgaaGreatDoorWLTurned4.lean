/- A part of the proof of a law: my own separation logic over the machine, and walks of the program. Condition of each theorem: as its statement says. -/
import Derived.Test.YtlbkicemccikgaaGreatDoorWLTurned3
set_option linter.all false
namespace Go.Proofs
open Go.Lo
open Go.Conc (G)
set_option maxRecDepth 100000
set_option synthInstance.maxSize 100000
set_option synthInstance.maxHeartbeats 1000000
set_option maxHeartbeats 4000000
variable {B : Array Obj}
variable [Laid B]
theorem f99_c (m : Md Tryz.prog B) (h : Hp) {b : Bk} {pm : Option Addr} {nm cm : Nat} {pr : Option Addr} {nr cr : Nat} {ln : List Int} (hl : ln.length = nm) (h7 : nm ≤ 7) (hs : Small 959 ln) : FnC m 99 #[bkV b pm nm cm pr nr cr, htV ln] h fun v h' => h' = h ∧ v = .int .i64 (turns ln) := by
  refine fn_enter Tryz.func99 rfl rfl (l := (bkV b pm nm cm pr nr cr) :: (htV ln) :: uu36) rfl ?_
  intro cf cs K hK
  refine rs3 (by kernel_rfl) ?_; refine k_box rfl zq (fun q2 => k_hp (k_put ?_)); refine k_box rfl zq (fun q3 => k_hp (k_put ?_)); refine aq rfl ?_; refine rs2 (by kernel_rfl) ?_; refine k_as rfl zq ?_; refine aq rfl ?_; refine run_seq ?_; refine rs5 (by kernel_rfl) ?_; refine k_ldA rfl zq ?_; refine k_ldA rfl zq ?_; refine k_calC rfl zq (by kernel_rfl) (fun H' hH => f94_c m H' hl h7 hs) ?_; rintro v1 w1 o1; obtain ⟨p1, c1, rfl, _⟩ := o1.len
  refine k_hpA (k_put ?_); have r1 : RdS B w1 1 (.slice p1 (nm - 2) c1) (nm - 2) (ints (bends ln)) := o1.rd (List.Sublist.refl _)
  have hbl := bends_length ln
  refine k_len rfl zq ?_; refine mq rfl ?_; refine k_nil ?_; refine run_block ?_; refine run_loop (fun nn l h' => ∃ (k : Nat) (s t : Int), nn = nm - k ∧ (k ≤ nm - 2) ∧ (turnF ((bends ln).take k) = (s, t)) ∧ (0 ≤ s) ∧ (s ≤ k) ∧ (∃ U : Nat → Value, l = [bkV b pm nm cm pr nr cr, htV ln, .pointer (some ⟨q2, 0, none⟩), .pointer (some ⟨q3, 0, none⟩), U 4, .int .i64 s, .int .i64 t, U 7, U 8, U 9, U 10, .slice p1 (nm - 2) c1, .int .i64 ((nm - 2 : Nat) : Int), .int .i64 (k : Int), U 14, U 15, U 16, U 17, U 18, U 19, U 20, U 21, U 22, U 23, U 24, U 25, U 26, U 27, U 28, U 29, U 30, U 31, U 32, U 33, U 34, U 35, U 36, U 37]) ∧ h ++ [⟨true, q2, .cells (bkL b pm nm cm pr nr cr).toArray 109 (0, 0)⟩, ⟨true, q3, .cells (hts ln).toArray 112 (0, 0)⟩] ++ w1 = h') _ ⟨0, 0, 0, rfl, by omega, rfl, by omega, by omega, exU rfl, by simp⟩ ?_; rintro nn l h' ⟨k, s, t, rfl, hk, hst, hs0, hs1, ⟨U, rfl⟩, rfl⟩ hnext; refine rs1 (by kernel_rfl) ?_; refine k_lssS rfl zq (fun hc => ?_) (fun hc => ?_)
  · refine k_nil ?_; refine run_seq ?_; refine run_yes ?_; refine run_skip ?_; refine run_seq ?_; refine run_block ?_; refine rs3 (by kernel_rfl) ?_; obtain ⟨r1_b, r1_o, rfl⟩ := r1.ptr (by omega)
    refine k_ixs rfl zq (by first | rfl | assumption) (by omega) (by omega) ?_; refine k_ld rfl zq (r1.iat k (by omega) (by omega)) ?_; refine aq rfl ?_; refine run_seq ?_; refine rs2 (by kernel_rfl) ?_; refine mq rfl ?_; refine k_eqlS rfl zq (fun hc => ?_) (fun hc => ?_)
    · refine k_nil ?_; refine run_yes ?_; refine run_exit rfl ?_; refine rr2 (by kernel_rfl) ?_; refine k_add rfl zq (by unfold In64; omega) ?_; refine mq rfl ?_; refine k_nil ?_; have ht := turnF_take (bends ln) k (by omega)
      rw [hst] at ht
      simp only [turnSt] at ht
      exact m.weak weakSub (hnext _ _ _ (by omega) ⟨k + 1, _, _, rfl, by omega, by first | (exfalso; omega) | (rw [ht]; repeat first | rw [if_pos (by omega)] | rw [if_neg (by omega)]), by omega, by omega, exU rfl, rfl⟩)
    · refine k_nil ?_; refine run_no ?_; refine run_skip ?_; refine run_seq ?_; refine run_seq ?_; refine run_region [(0, .free), (1, .free), (2, .free), (3, .free), (4, .free), (5, .free), (6, .free), (7, .free), (8, .free), (9, .free), (10, .free), (11, .free), (12, .free), (13, .free)] (by kernel_rfl) (by kernel_rfl) ?_; refine mq rfl ?_; refine k_gtrS rfl zq (fun hc => ?_) (fun hc => ?_)
      · refine mq rfl ?_; refine k_mv rfl rfl ?_; refine k_lssS rfl rfl (fun hc => ?_) (fun hc => ?_)
        · refine k_pickT rfl zq ?_; refine mq rfl ?_; refine k_off rfl rfl ?_; refine k_off rfl rfl ?_; refine k_off rfl rfl ?_; refine k_off rfl rfl ?_; refine k_off rfl rfl ?_; refine k_off rfl rfl ?_; refine k_pickT rfl zq ?_; refine k_nil ?_; refine run_yes ?_; refine rr3 (by kernel_rfl) ?_; refine mq rfl ?_; refine k_add rfl zq (by unfold In64; omega) ?_; refine aq rfl ?_; refine rr2 (by kernel_rfl) ?_; refine mq rfl ?_; refine aq rfl ?_; refine run_inBlock ?_; refine rr2 (by kernel_rfl) ?_; refine k_add rfl zq (by unfold In64; omega) ?_; refine mq rfl ?_; refine k_nil ?_; have ht := turnF_take (bends ln) k (by omega)
          rw [hst] at ht
          simp only [turnSt] at ht
          exact m.weak weakSub (hnext _ _ _ (by omega) ⟨k + 1, _, _, rfl, by omega, by first | (exfalso; omega) | (rw [ht]; repeat first | rw [if_pos (by omega)] | rw [if_neg (by omega)]), by omega, by omega, exU rfl, rfl⟩)
        · refine k_pickT rfl zq ?_; refine mq rfl ?_; refine k_mv rfl rfl ?_; refine k_lssS rfl rfl (fun hc => ?_) (fun hc => ?_)
          · refine k_mv rfl rfl ?_; refine k_mv rfl rfl ?_; refine k_gtrS rfl rfl (fun hc => ?_) (fun hc => ?_)
            · refine k_pickT rfl rfl ?_; refine k_pickF rfl zq ?_; refine k_nil ?_; refine run_yes ?_; refine rr3 (by kernel_rfl) ?_; refine mq rfl ?_; refine k_add rfl zq (by unfold In64; omega) ?_; refine aq rfl ?_; refine rr2 (by kernel_rfl) ?_; refine mq rfl ?_; refine aq rfl ?_; refine run_inBlock ?_; refine rr2 (by kernel_rfl) ?_; refine k_add rfl zq (by unfold In64; omega) ?_; refine mq rfl ?_; refine k_nil ?_; have ht := turnF_take (bends ln) k (by omega)
              rw [hst] at ht
              simp only [turnSt] at ht
              exact m.weak weakSub (hnext _ _ _ (by omega) ⟨k + 1, _, _, rfl, by omega, by first | (exfalso; omega) | (rw [ht]; repeat first | rw [if_pos (by omega)] | rw [if_neg (by omega)]), by omega, by omega, exU rfl, rfl⟩)
            · refine k_pickT rfl rfl ?_; refine k_pickF rfl zq ?_; refine k_nil ?_; refine run_no ?_; refine run_skip ?_; refine rr2 (by kernel_rfl) ?_; refine mq rfl ?_; refine aq rfl ?_; refine run_inBlock ?_; refine rr2 (by kernel_rfl) ?_; refine k_add rfl zq (by unfold In64; omega) ?_; refine mq rfl ?_; refine k_nil ?_; have ht := turnF_take (bends ln) k (by omega)
              rw [hst] at ht
              simp only [turnSt] at ht
              exact m.weak weakSub (hnext _ _ _ (by omega) ⟨k + 1, _, _, rfl, by omega, by first | (exfalso; omega) | (rw [ht]; repeat first | rw [if_pos (by omega)] | rw [if_neg (by omega)]), by omega, by omega, exU rfl, rfl⟩)
          · refine k_mv rfl rfl ?_; refine k_off rfl rfl ?_; refine k_off rfl rfl ?_; refine k_pickF rfl rfl ?_; refine k_pickF rfl zq ?_; refine k_nil ?_; refine run_no ?_; refine run_skip ?_; refine rr2 (by kernel_rfl) ?_; refine mq rfl ?_; refine aq rfl ?_; refine run_inBlock ?_; refine rr2 (by kernel_rfl) ?_; refine k_add rfl zq (by unfold In64; omega) ?_; refine mq rfl ?_; refine k_nil ?_; have ht := turnF_take (bends ln) k (by omega)
            rw [hst] at ht
            simp only [turnSt] at ht
            exact m.weak weakSub (hnext _ _ _ (by omega) ⟨k + 1, _, _, rfl, by omega, by first | (exfalso; omega) | (rw [ht]; repeat first | rw [if_pos (by omega)] | rw [if_neg (by omega)]), by omega, by omega, exU rfl, rfl⟩)
      · refine mq rfl ?_; refine k_off rfl rfl ?_; refine k_off rfl rfl ?_; refine k_pickF rfl zq ?_; refine mq rfl ?_; refine k_mv rfl rfl ?_; refine k_lssS rfl rfl (fun hc => ?_) (fun hc => ?_)
        · refine k_mv rfl rfl ?_; refine k_mv rfl rfl ?_; refine k_gtrS rfl rfl (fun hc => ?_) (fun hc => ?_)
          · refine k_pickT rfl rfl ?_; refine k_pickF rfl zq ?_; refine k_nil ?_; refine run_yes ?_; refine rr3 (by kernel_rfl) ?_; refine mq rfl ?_; refine k_add rfl zq (by unfold In64; omega) ?_; refine aq rfl ?_; refine rr2 (by kernel_rfl) ?_; refine mq rfl ?_; refine aq rfl ?_; refine run_inBlock ?_; refine rr2 (by kernel_rfl) ?_; refine k_add rfl zq (by unfold In64; omega) ?_; refine mq rfl ?_; refine k_nil ?_; have ht := turnF_take (bends ln) k (by omega)
            rw [hst] at ht
            simp only [turnSt] at ht
            exact m.weak weakSub (hnext _ _ _ (by omega) ⟨k + 1, _, _, rfl, by omega, by first | (exfalso; omega) | (rw [ht]; repeat first | rw [if_pos (by omega)] | rw [if_neg (by omega)]), by omega, by omega, exU rfl, rfl⟩)
          · refine k_pickT rfl rfl ?_; refine k_pickF rfl zq ?_; refine k_nil ?_; refine run_no ?_; refine run_skip ?_; refine rr2 (by kernel_rfl) ?_; refine mq rfl ?_; refine aq rfl ?_; refine run_inBlock ?_; refine rr2 (by kernel_rfl) ?_; refine k_add rfl zq (by unfold In64; omega) ?_; refine mq rfl ?_; refine k_nil ?_; have ht := turnF_take (bends ln) k (by omega)
            rw [hst] at ht
            simp only [turnSt] at ht
            exact m.weak weakSub (hnext _ _ _ (by omega) ⟨k + 1, _, _, rfl, by omega, by first | (exfalso; omega) | (rw [ht]; repeat first | rw [if_pos (by omega)] | rw [if_neg (by omega)]), by omega, by omega, exU rfl, rfl⟩)
        · refine k_mv rfl rfl ?_; refine k_off rfl rfl ?_; refine k_off rfl rfl ?_; refine k_pickF rfl rfl ?_; refine k_pickF rfl zq ?_; refine k_nil ?_; refine run_no ?_; refine run_skip ?_; refine rr2 (by kernel_rfl) ?_; refine mq rfl ?_; refine aq rfl ?_; refine run_inBlock ?_; refine rr2 (by kernel_rfl) ?_; refine k_add rfl zq (by unfold In64; omega) ?_; refine mq rfl ?_; refine k_nil ?_; have ht := turnF_take (bends ln) k (by omega)
          rw [hst] at ht
          simp only [turnSt] at ht
          exact m.weak weakSub (hnext _ _ _ (by omega) ⟨k + 1, _, _, rfl, by omega, by first | (exfalso; omega) | (rw [ht]; repeat first | rw [if_pos (by omega)] | rw [if_neg (by omega)]), by omega, by omega, exU rfl, rfl⟩)
  · refine k_nil ?_; refine run_seq ?_; refine run_no ?_; refine run_exit rfl ?_; refine rs2 (by kernel_rfl) ?_; refine mq rfl ?_; refine aq rfl ?_; refine run_ret rfl ?_; refine run_res (h) rfl Tryz.func99 rfl weakSub ?_; refine hK _ _ ?_
    obtain rfl : k = nm - 2 := by omega
    rw [List.take_of_length_le (by omega)] at hst
    exact ⟨rfl, by rw [turns, hst]⟩
theorem f145_c (m : Md Tryz.prog B) (h : Hp) (x : Int) : FnC m 145 #[.int .i64 x] h fun v h' => ∃ nw, h' = h ++ nw ∧ ∃ q, nw = [⟨true, q, .cells [.int .i64 x].toArray 3 (0, 0)⟩] ∧ v = .func (.func 146) #[] [.pointer (some ⟨q, 0, none⟩)].toArray := by
  refine fn_enter Tryz.func145 rfl rfl (l := [.int .i64 x, undef, undef, undef]) rfl ?_
  intro cf cs K hK
  refine rs2 (by kernel_rfl) ?_; refine k_box rfl zq (fun q1 => k_hp (k_put ?_)); refine aq rfl ?_; refine rs2 (by kernel_rfl) ?_; refine k_fun rfl zq ?_; refine aq rfl ?_; refine run_ret rfl ?_; refine run_res (h ++ [⟨true, q1, .cells [.int .i64 x].toArray 3 (0, 0)⟩]) rfl Tryz.func145 rfl weakSub ?_; refine hK _ _ ?_
  exact ⟨_, rfl, q1, rfl, rfl⟩
theorem f146_c (m : Md Tryz.prog B) (h : Hp) (x y : Int) {q : Nat} (rd : Rd B h ⟨q, 0, none⟩ (.int .i64 y)) (hy : -100000 ≤ y ∧ y ≤ 100000) : FnC m 146 #[.int .i64 x, .pointer (some ⟨q, 0, none⟩)] h fun v h' => h' = h ∧ IsB (¬ (-y ≤ x ∧ x ≤ y)) v := by
  refine fn_enter Tryz.func146 rfl rfl (l := (.int .i64 x) :: (.pointer (some ⟨q, 0, none⟩)) :: uu8) rfl ?_
  intro cf cs K hK
  refine rs1 (by kernel_rfl) ?_; refine aq rfl ?_; refine rs7 (by kernel_rfl) ?_; refine mq rfl ?_; refine k_ld rfl zq rd ?_; refine k_neg rfl zq (by unfold In64; omega) ?_; refine k_ld rfl zq rd ?_; refine k_calP (Post := fun v => IsB _ v) rfl zq (by kernel_rfl) (fun H' hH => f117_c m H' _ _ _) ?_; rintro v (⟨hc, rfl⟩ | ⟨hc, rfl⟩)
  · refine k_put ?_; refine k_notT rfl zq ?_; refine aq rfl ?_; refine run_ret rfl ?_; refine run_res (h) rfl Tryz.func146 rfl weakSub ?_; refine hK _ _ ?_
    first | exact ⟨rfl, IsB.yes (by omega)⟩ | exact ⟨rfl, IsB.no (by omega)⟩
  · refine k_put ?_; refine k_notF rfl zq ?_; refine aq rfl ?_; refine run_ret rfl ?_; refine run_res (h) rfl Tryz.func146 rfl weakSub ?_; refine hK _ _ ?_
    first | exact ⟨rfl, IsB.yes (by omega)⟩ | exact ⟨rfl, IsB.no (by omega)⟩
theorem callB146 : callB Tryz.prog 146 = true := by kernel_rfl
theorem rd_has {B : Array Obj} {h : Hp} {q t : Nat} {rw : Bool} {f : Nat × Nat} {v : Value} [x : Has h q rw (.cells [v].toArray t f)] : Rd B h ⟨q, 0, none⟩ v := Rd.held x.mem rfl
theorem f101_c (m : Md Tryz.prog B) (h : Hp) {b : Bk} {pm : Option Addr} {nm cm : Nat} {pr : Option Addr} {nr cr : Nat} {ln : List Int} (hl : ln.length = nm) (h7 : nm ≤ 7) (hs : Small 959 ln) (hv : Valid b) : FnC m 101 #[bkV b pm nm cm pr nr cr, htV ln] h fun v h' => h' = h ∧ IsB (fair b.bend b.twist b.turns ln) v := by
  have hbl := bends_length ln
  have hdl := diffs_length (bends ln)
  have hv1 := hv.bend
  have hv2 := hv.twist
  refine fn_enter Tryz.func101 rfl rfl (l := (bkV b pm nm cm pr nr cr) :: (htV ln) :: uu35) rfl ?_
  intro cf cs K hK
  refine rs3 (by kernel_rfl) ?_; refine k_box rfl zq (fun q2 => k_hp (k_put ?_)); refine k_box rfl zq (fun q3 => k_hp (k_put ?_)); refine aq rfl ?_; refine rs1 (by kernel_rfl) ?_; refine aq rfl ?_; refine run_seq ?_; refine run_draw [(3, .pure), (4, .pure), (5, .pure), (0, .read), (1, .read), (6, .read), (2, .keep), (7, .keep), (8, .keep), (9, .pure), (10, .pure), (14, .pure), (15, .pure), (16, .pure), (11, .read), (12, .read), (17, .read), (13, .keep), (18, .keep), (19, .keep), (20, .pure), (21, .pure), (22, .pure), (26, .pure), (27, .pure), (23, .read), (24, .read), (28, .read), (25, .keep), (29, .pure), (30, .pure), (31, .pure)] (by kernel_rfl) (by kernel_rfl) (List.Sublist.refl _) ?_; refine mq rfl ?_; first | refine k_fa0 rfl zq ?_ | refine k_fa rfl zq ?_
  first | refine k_fa0 rfl zq ?_ | refine k_fa rfl zq ?_
  refine k_ldA rfl zq ?_; refine k_ldA rfl zq ?_; refine k_ldh rfl zq ?_; refine k_calC rfl zq (by kernel_rfl) (fun H' hH => f94_c m H' hl h7 hs) ?_; rintro v1 w1 o1; obtain ⟨p1, c1, rfl, _⟩ := o1.len
  refine k_hpA (k_put ?_); refine k_callC (Post := fun v nw => ∃ q, nw = [⟨true, q, .cells [.int .i64 b.bend].toArray 3 (0, 0)⟩] ∧ v = .func (.func 146) #[] [.pointer (some ⟨q, 0, none⟩)].toArray) rfl zq (by kernel_rfl) (fun H' hH => f145_c m H' _) ?_; rintro _ _ ⟨qa, rfl, rfl⟩; refine k_hpA (k_put ?_); refine k_calP (Post := fun v => IsB _ v) rfl zq (by kernel_rfl) (fun H' hH => f147_c m H' (pr := fun i => ¬ (-b.bend ≤ (bends ln).getD i 0 ∧ (bends ln).getD i 0 ≤ b.bend)) (o1.rd'.keeps hH) (by omega) callB146 (fun i hi K hK => by simpa using f146_c m K ((bends ln).getD i 0) b.bend ((rd_has (q := qa)).keeps (hH.trans hK)) (by omega))) ?_; rintro v (⟨hc, rfl⟩ | ⟨hc, rfl⟩)
  · refine k_put ?_; have hA := hc
    refine k_notT rfl zq ?_; refine mq rfl ?_; refine k_off rfl rfl ?_; refine k_off rfl rfl ?_; refine k_off rfl rfl ?_; refine k_off rfl rfl ?_; refine k_off rfl rfl ?_; refine k_off rfl rfl ?_; refine k_off rfl rfl ?_; refine k_off rfl rfl ?_; refine k_off rfl rfl ?_; refine k_off rfl rfl ?_; refine k_pickF rfl zq ?_; refine mq rfl ?_; refine k_off rfl rfl ?_; refine k_off rfl rfl ?_; refine k_off rfl rfl ?_; refine k_off rfl rfl ?_; refine k_off rfl rfl ?_; refine k_off rfl rfl ?_; refine k_off rfl rfl ?_; refine k_pickF rfl zq ?_; refine aq rfl ?_; refine run_ret rfl ?_; refine run_res (h) rfl Tryz.func101 rfl weakSub ?_; refine hK _ _ ?_
    first
      | exact ⟨rfl, IsB.no fun e => by
          obtain ⟨i, h1, h2⟩ := hA
          exact h2 (e.1 _ (mem_getD.2 ⟨i, by omega, rfl⟩))⟩
      | exact ⟨rfl, IsB.no fun e => by
          obtain ⟨i, h1, h2⟩ := hC
          exact h2 (e.2.1 _ (mem_getD.2 ⟨i, by omega, rfl⟩))⟩
      | exact ⟨rfl, IsB.no fun e => by have := e.2.2; omega⟩
      | exact ⟨rfl, IsB.yes ⟨fun x hx => by
          obtain ⟨i, h1, rfl⟩ := mem_getD.1 hx
          exact Classical.byContradiction fun e => hA ⟨i, by omega, e⟩, fun x hx => by
          obtain ⟨i, h1, rfl⟩ := mem_getD.1 hx
          exact Classical.byContradiction fun e => hC ⟨i, by omega, e⟩, by omega⟩⟩
  · refine k_put ?_; have hA := hc
    refine k_notF rfl zq ?_; refine mq rfl ?_; refine k_mv rfl rfl ?_; first | refine k_fa0 rfl rfl ?_ | refine k_fa rfl rfl ?_
    first | refine k_fa0 rfl rfl ?_ | refine k_fa rfl rfl ?_
    refine k_ldA rfl rfl ?_; refine k_ldA rfl rfl ?_; refine k_ldh rfl rfl ?_; refine k_calC rfl rfl (by kernel_rfl) (fun H' hH => f97_c m H' hl h7 hs) ?_; rintro v2 w2 o2; obtain ⟨p2, c2, rfl, _⟩ := o2.len
    refine k_hpA (k_put ?_); refine k_callC (Post := fun v nw => ∃ q, nw = [⟨true, q, .cells [.int .i64 b.twist].toArray 3 (0, 0)⟩] ∧ v = .func (.func 146) #[] [.pointer (some ⟨q, 0, none⟩)].toArray) rfl rfl (by kernel_rfl) (fun H' hH => f145_c m H' _) ?_; rintro _ _ ⟨qb, rfl, rfl⟩; refine k_hpA (k_put ?_); refine k_calP (Post := fun v => IsB _ v) rfl rfl (by kernel_rfl) (fun H' hH => f147_c m H' (pr := fun i => ¬ (-b.twist ≤ (diffs (bends ln)).getD i 0 ∧ (diffs (bends ln)).getD i 0 ≤ b.twist)) (o2.rd'.keeps hH) (by omega) callB146 (fun i hi K hK => by simpa using f146_c m K ((diffs (bends ln)).getD i 0) b.twist ((rd_has (q := qb)).keeps (hH.trans hK)) (by omega))) ?_; rintro v (⟨hc, rfl⟩ | ⟨hc, rfl⟩)
    · refine k_put ?_; have hC := hc
      refine k_notT rfl rfl ?_; refine k_pickT rfl zq ?_; refine mq rfl ?_; refine k_off rfl rfl ?_; refine k_off rfl rfl ?_; refine k_off rfl rfl ?_; refine k_off rfl rfl ?_; refine k_off rfl rfl ?_; refine k_off rfl rfl ?_; refine k_off rfl rfl ?_; refine k_pickF rfl zq ?_; refine aq rfl ?_; refine run_ret rfl ?_; refine run_res (h) rfl Tryz.func101 rfl weakSub ?_; refine hK _ _ ?_
      first
        | exact ⟨rfl, IsB.no fun e => by
            obtain ⟨i, h1, h2⟩ := hA
            exact h2 (e.1 _ (mem_getD.2 ⟨i, by omega, rfl⟩))⟩
        | exact ⟨rfl, IsB.no fun e => by
            obtain ⟨i, h1, h2⟩ := hC
            exact h2 (e.2.1 _ (mem_getD.2 ⟨i, by omega, rfl⟩))⟩
        | exact ⟨rfl, IsB.no fun e => by have := e.2.2; omega⟩
        | exact ⟨rfl, IsB.yes ⟨fun x hx => by
            obtain ⟨i, h1, rfl⟩ := mem_getD.1 hx
            exact Classical.byContradiction fun e => hA ⟨i, by omega, e⟩, fun x hx => by
            obtain ⟨i, h1, rfl⟩ := mem_getD.1 hx
            exact Classical.byContradiction fun e => hC ⟨i, by omega, e⟩, by omega⟩⟩
    · refine k_put ?_; have hC := hc
      refine k_notF rfl rfl ?_; refine k_pickT rfl zq ?_; refine mq rfl ?_; first | refine k_fa0 rfl rfl ?_ | refine k_fa rfl rfl ?_
      first | refine k_fa0 rfl rfl ?_ | refine k_fa rfl rfl ?_
      refine k_ldA rfl rfl ?_; refine k_ldA rfl rfl ?_; refine k_ldh rfl rfl ?_; refine k_calP (Post := fun v => v = _) rfl rfl (by kernel_rfl) (fun H' hH => f99_c m H' hl h7 hs) ?_; rintro v rfl; refine k_put ?_; refine k_leqS rfl rfl (fun hc => ?_) (fun hc => ?_)
      · refine k_pickT rfl zq ?_; refine aq rfl ?_; refine run_ret rfl ?_; refine run_res (h) rfl Tryz.func101 rfl weakSub ?_; refine hK _ _ ?_
        first
          | exact ⟨rfl, IsB.no fun e => by
              obtain ⟨i, h1, h2⟩ := hA
              exact h2 (e.1 _ (mem_getD.2 ⟨i, by omega, rfl⟩))⟩
          | exact ⟨rfl, IsB.no fun e => by
              obtain ⟨i, h1, h2⟩ := hC
              exact h2 (e.2.1 _ (mem_getD.2 ⟨i, by omega, rfl⟩))⟩
          | exact ⟨rfl, IsB.no fun e => by have := e.2.2; omega⟩
          | exact ⟨rfl, IsB.yes ⟨fun x hx => by
              obtain ⟨i, h1, rfl⟩ := mem_getD.1 hx
              exact Classical.byContradiction fun e => hA ⟨i, by omega, e⟩, fun x hx => by
              obtain ⟨i, h1, rfl⟩ := mem_getD.1 hx
              exact Classical.byContradiction fun e => hC ⟨i, by omega, e⟩, by omega⟩⟩
      · refine k_pickT rfl zq ?_; refine aq rfl ?_; refine run_ret rfl ?_; refine run_res (h) rfl Tryz.func101 rfl weakSub ?_; refine hK _ _ ?_
        first
          | exact ⟨rfl, IsB.no fun e => by
              obtain ⟨i, h1, h2⟩ := hA
              exact h2 (e.1 _ (mem_getD.2 ⟨i, by omega, rfl⟩))⟩
          | exact ⟨rfl, IsB.no fun e => by
              obtain ⟨i, h1, h2⟩ := hC
              exact h2 (e.2.1 _ (mem_getD.2 ⟨i, by omega, rfl⟩))⟩
          | exact ⟨rfl, IsB.no fun e => by have := e.2.2; omega⟩
          | exact ⟨rfl, IsB.yes ⟨fun x hx => by
              obtain ⟨i, h1, rfl⟩ := mem_getD.1 hx
              exact Classical.byContradiction fun e => hA ⟨i, by omega, e⟩, fun x hx => by
              obtain ⟨i, h1, rfl⟩ := mem_getD.1 hx
              exact Classical.byContradiction fun e => hC ⟨i, by omega, e⟩, by omega⟩⟩
theorem rdN_hts {B : Array Obj} {h : Hp} {q : Nat} {ln : List Int} (rd : RdN B h q 0 (hts ln)) {H : Hp} [s : SubH h H] {j : Int} (h0 : 0 ≤ j) (h1 : j < 7) : Rd B H ⟨q, 0 + j.toNat * 1, none⟩ (.int .i64 (ln.getD j.toNat 0)) := by
  have := rd j.toNat (by rw [hts_length]; omega)
  rw [List.getD_eq_getElem?_getD, hts_get (by omega)] at this
  rw [Nat.mul_one]; exact this.keeps s.sub
theorem rdN_has {B : Array Obj} {h : Hp} {q t : Nat} {rw : Bool} {f : Nat × Nat} {vs : List Value} [x : Has h q rw (.cells vs.toArray t f)] : RdN B h q 0 vs := fun j hj => Rd.held x.mem (by
  rw [Nat.zero_add, List.getElem?_toArray, List.getD_eq_getElem?_getD, List.getElem?_eq_getElem hj]; rfl)
theorem callB162 : callB Tryz.prog 162 = true := by kernel_rfl
def ruleOk (ln : List Int) (r : Ru) : Prop := r.lo ≤ ln.getD r.b.toNat 0 - ln.getD r.a.toNat 0 ∧ ln.getD r.b.toNat 0 - ln.getD r.a.toNat 0 ≤ r.hi
def right (b : Bk) (ln : List Int) : Prop := ∀ r ∈ b.rules, ruleOk ln r
theorem f162_c (m : Md Tryz.prog B) (h : Hp) (r : Ru) {q : Nat} {ln : List Int} (rd : RdN B h q 0 (hts ln)) (hs : Small 959 ln) (ha : 0 ≤ r.a ∧ r.a < 7) (hb : 0 ≤ r.b ∧ r.b < 7) : FnC m 162 #[ruV r, .pointer (some ⟨q, 0, none⟩)] h fun v h' => h' = h ∧ IsB (¬ ruleOk ln r) v := by
  refine fn_enter Tryz.func162 rfl rfl (l := (ruV r) :: (.pointer (some ⟨q, 0, none⟩)) :: uu19) rfl ?_
  intro cf cs K hK
  refine rs2 (by kernel_rfl) ?_; refine k_box rfl zq (fun q2 => k_hp (k_put ?_)); refine aq rfl ?_; refine run_seq ?_; refine run_draw [(0, .pure), (4, .pure), (9, .pure), (10, .pure), (12, .pure), (13, .pure), (1, .read), (2, .pure), (3, .read), (5, .read), (6, .pure), (7, .read), (8, .pure), (11, .read), (14, .read), (15, .keep), (16, .pure), (17, .pure)] (by kernel_rfl) (by kernel_rfl) (List.Sublist.refl _) ?_; first | refine k_fa0 rfl zq ?_ | refine k_fa rfl zq ?_
  first | refine k_fa0 rfl zq ?_ | refine k_fa rfl zq ?_
  first | refine k_fa0 rfl zq ?_ | refine k_fa rfl zq ?_
  first | refine k_fa0 rfl zq ?_ | refine k_fa rfl zq ?_
  first | refine k_fa0 rfl zq ?_ | refine k_fa rfl zq ?_
  first | refine k_fa0 rfl zq ?_ | refine k_fa rfl zq ?_
  refine k_ldh rfl zq ?_; refine k_ixa rfl zq (by omega) (by omega) ?_; have hs1 := hs r.b.toNat
  refine k_ld rfl zq (rdN_hts rd (by omega) (by omega)) ?_; refine k_ldh rfl zq ?_; refine k_ixa rfl zq (by omega) (by omega) ?_; have hs2 := hs r.a.toNat
  refine k_ld rfl zq (rdN_hts rd (by omega) (by omega)) ?_; refine k_sub rfl zq (by unfold In64; omega) ?_; refine k_ldh rfl zq ?_; refine k_ldh rfl zq ?_; refine k_calP (Post := fun v => IsB _ v) rfl zq (by kernel_rfl) (fun H' hH => f117_c m H' _ _ _) ?_; rintro v (⟨hc, rfl⟩ | ⟨hc, rfl⟩)
  · refine k_put ?_; refine k_notT rfl zq ?_; refine aq rfl ?_; refine run_ret rfl ?_; refine run_res (h) rfl Tryz.func162 rfl weakSub ?_; refine hK _ _ ?_
    first | exact ⟨rfl, IsB.yes (by unfold ruleOk; omega)⟩ | exact ⟨rfl, IsB.no (by unfold ruleOk; omega)⟩
  · refine k_put ?_; refine k_notF rfl zq ?_; refine aq rfl ?_; refine run_ret rfl ?_; refine run_res (h) rfl Tryz.func162 rfl weakSub ?_; refine hK _ _ ?_
    first | exact ⟨rfl, IsB.yes (by unfold ruleOk; omega)⟩ | exact ⟨rfl, IsB.no (by unfold ruleOk; omega)⟩
theorem f151_c (m : Md Tryz.prog B) (h : Hp) {b : Bk} {pm : Option Addr} {nm cm : Nat} {pr : Option Addr} {nr cr : Nat} {ln : List Int} (hl : ln.length = nm) (h7 : nm ≤ 7) (hs : Small 959 ln) (hm : b.marks.length = nm) (rdr : RdS B h 4 (.slice pr nr cr) nr (encs b.rules)) (hr : nr ≤ 1000) (hv : Valid b) : FnC m 151 #[bkV b pm nm cm pr nr cr, htV ln] h fun v h' => h' = h ∧ IsB (right b ln) v := by
  have hrl := rdr.elen (by decide)
  have hru : ∀ i, i < b.rules.length → (0 ≤ (b.rules.getD i default).a ∧ (b.rules.getD i default).a < 7) ∧ (0 ≤ (b.rules.getD i default).b ∧ (b.rules.getD i default).b < 7) := fun i hi => by
    have := hv.rules _ (mem_getDR.2 ⟨i, hi, rfl⟩)
    omega
  refine fn_enter Tryz.func151 rfl rfl (l := (bkV b pm nm cm pr nr cr) :: (htV ln) :: uu9) rfl ?_
  intro cf cs K hK
  refine rs3 (by kernel_rfl) ?_; refine k_box rfl zq (fun q2 => k_hp (k_put ?_)); refine k_box rfl zq (fun q3 => k_hp (k_put ?_)); refine aq rfl ?_; refine rs7 (by kernel_rfl) ?_; first | refine k_fa0 rfl zq ?_ | refine k_fa rfl zq ?_
  first | refine k_fa0 rfl zq ?_ | refine k_fa rfl zq ?_
  refine k_ldh rfl zq ?_; refine k_fun rfl zq ?_; refine k_calP (Post := fun v => IsB _ v) rfl zq (by kernel_rfl) (fun H' hH => f161_c m H' (pr := fun i => ¬ ruleOk ln (b.rules.getD i default)) (rdr.keeps (sq hH)) (by omega) callB162 (fun i hi K hK => by simpa using f162_c m K (b.rules.getD i default) ((rdN_has (q := q3)).keeps (hH.trans hK)) hs (hru i (by omega)).1 (hru i (by omega)).2)) ?_; rintro v (⟨hc, rfl⟩ | ⟨hc, rfl⟩)
  · refine k_put ?_; refine k_notT rfl zq ?_; refine aq rfl ?_; refine run_ret rfl ?_; refine run_res (h) rfl Tryz.func151 rfl weakSub ?_; refine hK _ _ ?_
    first
      | exact ⟨rfl, IsB.no fun e => by
          obtain ⟨i, h1, h2⟩ := hc
          exact h2 (e _ (mem_getDR.2 ⟨i, by omega, rfl⟩))⟩
      | exact ⟨rfl, IsB.yes fun r hr => by
          obtain ⟨i, h1, rfl⟩ := mem_getDR.1 hr
          exact Classical.byContradiction fun e => hc ⟨i, by omega, e⟩⟩
  · refine k_put ?_; refine k_notF rfl zq ?_; refine aq rfl ?_; refine run_ret rfl ?_; refine run_res (h) rfl Tryz.func151 rfl weakSub ?_; refine hK _ _ ?_
    first
      | exact ⟨rfl, IsB.no fun e => by
          obtain ⟨i, h1, h2⟩ := hc
          exact h2 (e _ (mem_getDR.2 ⟨i, by omega, rfl⟩))⟩
      | exact ⟨rfl, IsB.yes fun r hr => by
          obtain ⟨i, h1, rfl⟩ := mem_getDR.1 hr
          exact Classical.byContradiction fun e => hc ⟨i, by omega, e⟩⟩
theorem hand_zero {b : Bk} {xs : List Int} (h : handedS b xs = 0) : Valid b ∧ lineS b.marks.length xs = 0 := by
  unfold handedS at h
  split at h
  · omega
  · exact ⟨valid_of (by omega), h⟩
theorem f23_c (m : Md Tryz.prog B) (h : Hp) {b : Bk} {pm : Option Addr} {nm cm : Nat} {pr : Option Addr} {nr cr : Nat} (rdm : RdS B h 2 (.slice pm nm cm) nm (encs b.marks)) (hm : nm ≤ 1000) (rdr : RdS B h 4 (.slice pr nr cr) nr (encs b.rules)) (hr : nr ≤ 1000) {p : Option Addr} {n c : Nat} {xs : List Int} (rd : RdS B h 1 (.slice p n c) n (ints xs)) (hn : n ≤ 1000) : FnC m 23 #[bkV b pm nm cm pr nr cr, .slice p n c] h fun v h' => ∃ new, h' = h ++ new ∧ ∃ w, v = .tuple [w, .int .i64 (handedS b xs)].toArray ∧ RdI B new w (if handedS b xs ≠ 0 then [] else bends xs) := by
  refine fn_enter Tryz.func23 rfl rfl (l := (bkV b pm nm cm pr nr cr) :: (.slice p n c) :: uu20) rfl ?_
  intro cf cs K hK
  refine rs3 (by kernel_rfl) ?_; refine k_box rfl zq (fun q2 => k_hp (k_put ?_)); refine k_as rfl zq ?_; refine aq rfl ?_; refine rs12 (by kernel_rfl) ?_; refine k_ldA rfl zq ?_; refine mq rfl ?_; refine k_calP (Post := Handed (handedS b xs) (bkV b pm nm cm pr nr cr) xs) rfl zq (by kernel_rfl) (fun H' hH => f93_c m H' (rdm.keeps (sq hH)) hm (rdr.keeps (sq hH)) hr (rd.keeps (sq hH)) hn) ?_; rintro v ⟨x1, x2, x3, y1, y2, y3, y4, y5, y6, yl, rfl, hz⟩; refine k_put ?_; refine mq rfl ?_; refine k_ext0 rfl zq ?_; refine k_ext1 rfl zq ?_; refine k_ext2 rfl zq ?_; refine k_new rfl zq (fun q6 => k_hp (k_put ?_)); refine k_new rfl zq (fun q7 => k_hp (k_put ?_)); refine k_stA rfl zq rfl ?_; refine k_stA rfl zq (by first | rfl | exact hts_length _) ?_; refine aq rfl ?_; refine run_seq ?_; refine rs2 (by kernel_rfl) ?_; refine mq rfl ?_; refine k_neqS rfl zq (fun hc => ?_) (fun hc => ?_)
  · refine k_nil ?_; refine run_yes ?_; refine rs3 (by kernel_rfl) ?_; refine mq rfl ?_; refine k_as rfl zq ?_; refine aq rfl ?_; refine run_ret rfl ?_; refine run_res (h) rfl Tryz.func23 rfl weakSub ?_; refine hK _ _ ?_
    exact ⟨[], by simp, _, rfl, by rw [if_pos (by assumption)]; exact RdI.nil⟩
  · refine k_nil ?_; refine run_no ?_; refine run_skip ?_; refine rs5 (by kernel_rfl) ?_; have hz0 : handedS b xs = 0 := by omega
    obtain ⟨hz1, rfl⟩ := hz hz0
    injection hz1 with hz1
    injection hz1 with hz1
    injection hz1 with z1 hz1; injection hz1 with z2 hz1; injection hz1 with z3 hz1; injection hz1 with z4 hz1; injection hz1 with z5 hz1
    injection z1 with _ z1; injection z2 with _ z2; injection z3 with _ z3; injection z4 with u1 u2 u3; injection z5 with u4 u5 u6
    subst z1 z2 z3 u1 u2 u3 u4 u5 u6
    obtain ⟨hv, hlo⟩ := hand_zero hz0
    have hln := (lineS_zero hlo).1
    have hml := rdm.elen (by decide)
    have h7 := hv.many
    have hsm := lineS_small hlo
    refine k_ldA rfl zq ?_; refine k_ldA rfl zq ?_; refine k_calC rfl zq (by kernel_rfl) (fun H' hH => f94_c m H' (by omega) (by omega) hsm) ?_; rintro v nw o; refine k_hpA (k_put ?_); refine k_as rfl zq ?_; refine aq rfl ?_; refine run_ret rfl ?_; refine run_res (h ++ nw) rfl Tryz.func23 rfl weakSub ?_; refine hK _ _ ?_
    exact ⟨nw, rfl, _, by rw [hz0], by rw [if_neg (fun e => e hz0)]; exact RdI.owned o⟩
theorem f25_c (m : Md Tryz.prog B) (h : Hp) {b : Bk} {pm : Option Addr} {nm cm : Nat} {pr : Option Addr} {nr cr : Nat} (rdm : RdS B h 2 (.slice pm nm cm) nm (encs b.marks)) (hm : nm ≤ 1000) (rdr : RdS B h 4 (.slice pr nr cr) nr (encs b.rules)) (hr : nr ≤ 1000) {p : Option Addr} {n c : Nat} {xs : List Int} (rd : RdS B h 1 (.slice p n c) n (ints xs)) (hn : n ≤ 1000) : FnC m 25 #[bkV b pm nm cm pr nr cr, .slice p n c] h fun v h' => ∃ new, h' = h ++ new ∧ ∃ w, v = .tuple [w, .int .i64 (handedS b xs)].toArray ∧ RdI B new w (if handedS b xs ≠ 0 then [] else diffs (bends xs)) := by
  refine fn_enter Tryz.func25 rfl rfl (l := (bkV b pm nm cm pr nr cr) :: (.slice p n c) :: uu20) rfl ?_
  intro cf cs K hK
  refine rs3 (by kernel_rfl) ?_; refine k_box rfl zq (fun q2 => k_hp (k_put ?_)); refine k_as rfl zq ?_; refine aq rfl ?_; refine rs12 (by kernel_rfl) ?_; refine k_ldA rfl zq ?_; refine mq rfl ?_; refine k_calP (Post := Handed (handedS b xs) (bkV b pm nm cm pr nr cr) xs) rfl zq (by kernel_rfl) (fun H' hH => f93_c m H' (rdm.keeps (sq hH)) hm (rdr.keeps (sq hH)) hr (rd.keeps (sq hH)) hn) ?_; rintro v ⟨x1, x2, x3, y1, y2, y3, y4, y5, y6, yl, rfl, hz⟩; refine k_put ?_; refine mq rfl ?_; refine k_ext0 rfl zq ?_; refine k_ext1 rfl zq ?_; refine k_ext2 rfl zq ?_; refine k_new rfl zq (fun q6 => k_hp (k_put ?_)); refine k_new rfl zq (fun q7 => k_hp (k_put ?_)); refine k_stA rfl zq rfl ?_; refine k_stA rfl zq (by first | rfl | exact hts_length _) ?_; refine aq rfl ?_; refine run_seq ?_; refine rs2 (by kernel_rfl) ?_; refine mq rfl ?_; refine k_neqS rfl zq (fun hc => ?_) (fun hc => ?_)
  · refine k_nil ?_; refine run_yes ?_; refine rs3 (by kernel_rfl) ?_; refine mq rfl ?_; refine k_as rfl zq ?_; refine aq rfl ?_; refine run_ret rfl ?_; refine run_res (h) rfl Tryz.func25 rfl weakSub ?_; refine hK _ _ ?_
    exact ⟨[], by simp, _, rfl, by rw [if_pos (by assumption)]; exact RdI.nil⟩
  · refine k_nil ?_; refine run_no ?_; refine run_skip ?_; refine rs5 (by kernel_rfl) ?_; have hz0 : handedS b xs = 0 := by omega
    obtain ⟨hz1, rfl⟩ := hz hz0
    injection hz1 with hz1
    injection hz1 with hz1
    injection hz1 with z1 hz1; injection hz1 with z2 hz1; injection hz1 with z3 hz1; injection hz1 with z4 hz1; injection hz1 with z5 hz1
    injection z1 with _ z1; injection z2 with _ z2; injection z3 with _ z3; injection z4 with u1 u2 u3; injection z5 with u4 u5 u6
    subst z1 z2 z3 u1 u2 u3 u4 u5 u6
    obtain ⟨hv, hlo⟩ := hand_zero hz0
    have hln := (lineS_zero hlo).1
    have hml := rdm.elen (by decide)
    have h7 := hv.many
    have hsm := lineS_small hlo
    refine k_ldA rfl zq ?_; refine k_ldA rfl zq ?_; refine k_calC rfl zq (by kernel_rfl) (fun H' hH => f97_c m H' (by omega) (by omega) hsm) ?_; rintro v nw o; refine k_hpA (k_put ?_); refine k_as rfl zq ?_; refine aq rfl ?_; refine run_ret rfl ?_; refine run_res (h ++ nw) rfl Tryz.func25 rfl weakSub ?_; refine hK _ _ ?_
    exact ⟨nw, rfl, _, by rw [hz0], by rw [if_neg (fun e => e hz0)]; exact RdI.owned o⟩
theorem f27_c (m : Md Tryz.prog B) (h : Hp) {b : Bk} {pm : Option Addr} {nm cm : Nat} {pr : Option Addr} {nr cr : Nat} (rdm : RdS B h 2 (.slice pm nm cm) nm (encs b.marks)) (hm : nm ≤ 1000) (rdr : RdS B h 4 (.slice pr nr cr) nr (encs b.rules)) (hr : nr ≤ 1000) {p : Option Addr} {n c : Nat} {xs : List Int} (rd : RdS B h 1 (.slice p n c) n (ints xs)) (hn : n ≤ 1000) : FnC m 27 #[bkV b pm nm cm pr nr cr, .slice p n c] h fun v h' => h' = h ∧ v = .tuple [.int .i64 (if handedS b xs ≠ 0 then 0 else turns xs), .int .i64 (handedS b xs)].toArray := by
  refine fn_enter Tryz.func27 rfl rfl (l := (bkV b pm nm cm pr nr cr) :: (.slice p n c) :: uu20) rfl ?_
  intro cf cs K hK
  refine rs3 (by kernel_rfl) ?_; refine k_box rfl zq (fun q2 => k_hp (k_put ?_)); refine k_as rfl zq ?_; refine aq rfl ?_; refine rs12 (by kernel_rfl) ?_; refine k_ldA rfl zq ?_; refine mq rfl ?_; refine k_calP (Post := Handed (handedS b xs) (bkV b pm nm cm pr nr cr) xs) rfl zq (by kernel_rfl) (fun H' hH => f93_c m H' (rdm.keeps (sq hH)) hm (rdr.keeps (sq hH)) hr (rd.keeps (sq hH)) hn) ?_; rintro v ⟨x1, x2, x3, y1, y2, y3, y4, y5, y6, yl, rfl, hz⟩; refine k_put ?_; refine mq rfl ?_; refine k_ext0 rfl zq ?_; refine k_ext1 rfl zq ?_; refine k_ext2 rfl zq ?_; refine k_new rfl zq (fun q6 => k_hp (k_put ?_)); refine k_new rfl zq (fun q7 => k_hp (k_put ?_)); refine k_stA rfl zq rfl ?_; refine k_stA rfl zq (by first | rfl | exact hts_length _) ?_; refine aq rfl ?_; refine run_seq ?_; refine rs2 (by kernel_rfl) ?_; refine mq rfl ?_; refine k_neqS rfl zq (fun hc => ?_) (fun hc => ?_)
  · refine k_nil ?_; refine run_yes ?_; refine rs3 (by kernel_rfl) ?_; refine mq rfl ?_; refine k_as rfl zq ?_; refine aq rfl ?_; refine run_ret rfl ?_; refine run_res (h) rfl Tryz.func27 rfl weakSub ?_; refine hK _ _ ?_
    exact ⟨rfl, by rw [if_pos (by assumption)]⟩
  · refine k_nil ?_; refine run_no ?_; refine run_skip ?_; refine rs5 (by kernel_rfl) ?_; have hz0 : handedS b xs = 0 := by omega
    obtain ⟨hz1, rfl⟩ := hz hz0
    injection hz1 with hz1
    injection hz1 with hz1
    injection hz1 with z1 hz1; injection hz1 with z2 hz1; injection hz1 with z3 hz1; injection hz1 with z4 hz1; injection hz1 with z5 hz1
    injection z1 with _ z1; injection z2 with _ z2; injection z3 with _ z3; injection z4 with u1 u2 u3; injection z5 with u4 u5 u6
    subst z1 z2 z3 u1 u2 u3 u4 u5 u6
    obtain ⟨hv, hlo⟩ := hand_zero hz0
    have hln := (lineS_zero hlo).1
    have hml := rdm.elen (by decide)
    have h7 := hv.many
    have hsm := lineS_small hlo
    refine k_ldA rfl zq ?_; refine k_ldA rfl zq ?_; refine k_calP (Post := fun v => v = _) rfl zq (by kernel_rfl) (fun H' hH => f99_c m H' (by omega) (by omega) hsm) ?_; rintro v rfl; refine k_put ?_; refine k_as rfl zq ?_; refine aq rfl ?_; refine run_ret rfl ?_; refine run_res (h) rfl Tryz.func27 rfl weakSub ?_; refine hK _ _ ?_
    exact ⟨rfl, by rw [hz0, if_neg (fun e => e rfl)]⟩
theorem f29_c (m : Md Tryz.prog B) (h : Hp) {b : Bk} {pm : Option Addr} {nm cm : Nat} {pr : Option Addr} {nr cr : Nat} (rdm : RdS B h 2 (.slice pm nm cm) nm (encs b.marks)) (hm : nm ≤ 1000) (rdr : RdS B h 4 (.slice pr nr cr) nr (encs b.rules)) (hr : nr ≤ 1000) {p : Option Addr} {n c : Nat} {xs : List Int} (rd : RdS B h 1 (.slice p n c) n (ints xs)) (hn : n ≤ 1000) : FnC m 29 #[bkV b pm nm cm pr nr cr, .slice p n c] h fun v h' => h' = h ∧ ∃ w, v = .tuple [w, .int .i64 (handedS b xs)].toArray ∧ IsB (handedS b xs = 0 ∧ fair b.bend b.twist b.turns xs) w := by
  refine fn_enter Tryz.func29 rfl rfl (l := (bkV b pm nm cm pr nr cr) :: (.slice p n c) :: uu22) rfl ?_
  intro cf cs K hK
  refine rs3 (by kernel_rfl) ?_; refine k_box rfl zq (fun q2 => k_hp (k_put ?_)); refine k_as rfl zq ?_; refine aq rfl ?_; refine rs12 (by kernel_rfl) ?_; refine k_ldA rfl zq ?_; refine mq rfl ?_; refine k_calP (Post := Handed (handedS b xs) (bkV b pm nm cm pr nr cr) xs) rfl zq (by kernel_rfl) (fun H' hH => f93_c m H' (rdm.keeps (sq hH)) hm (rdr.keeps (sq hH)) hr (rd.keeps (sq hH)) hn) ?_; rintro v ⟨x1, x2, x3, y1, y2, y3, y4, y5, y6, yl, rfl, hz⟩; refine k_put ?_; refine mq rfl ?_; refine k_ext0 rfl zq ?_; refine k_ext1 rfl zq ?_; refine k_ext2 rfl zq ?_; refine k_new rfl zq (fun q6 => k_hp (k_put ?_)); refine k_new rfl zq (fun q7 => k_hp (k_put ?_)); refine k_stA rfl zq rfl ?_; refine k_stA rfl zq (by first | rfl | exact hts_length _) ?_; refine aq rfl ?_; refine rs10 (by kernel_rfl) ?_; refine mq rfl ?_; refine k_eqlS rfl zq (fun hc => ?_) (fun hc => ?_)
  · have hz0 : handedS b xs = 0 := by omega
    obtain ⟨hz1, rfl⟩ := hz hz0
    injection hz1 with hz1
    injection hz1 with hz1
    injection hz1 with z1 hz1; injection hz1 with z2 hz1; injection hz1 with z3 hz1; injection hz1 with z4 hz1; injection hz1 with z5 hz1
    injection z1 with _ z1; injection z2 with _ z2; injection z3 with _ z3; injection z4 with u1 u2 u3; injection z5 with u4 u5 u6
    subst z1 z2 z3 u1 u2 u3 u4 u5 u6
    obtain ⟨hv, hlo⟩ := hand_zero hz0
    have hln := (lineS_zero hlo).1
    have hml := rdm.elen (by decide)
    have h7 := hv.many
    have hsm := lineS_small hlo
    refine mq rfl ?_; refine k_ldA rfl rfl ?_; refine k_ldA rfl rfl ?_; refine k_calP (Post := fun v => IsB _ v) rfl rfl (by kernel_rfl) (fun H' hH => f101_c m H' (by omega) (by omega) hsm hv) ?_; rintro v (⟨hc, rfl⟩ | ⟨hc, rfl⟩)
    · refine k_put ?_; refine k_pickT rfl zq ?_; refine mq rfl ?_; refine k_as rfl zq ?_; refine aq rfl ?_; refine run_ret rfl ?_; refine run_res (h) rfl Tryz.func29 rfl weakSub ?_; refine hK _ _ ?_
      first
        | exact ⟨rfl, _, rfl, IsB.no (fun e => absurd e.1 (by omega))⟩
        | exact ⟨rfl, _, rfl, IsB.yes ⟨hz0, by assumption⟩⟩
        | exact ⟨rfl, _, rfl, IsB.no (fun e => absurd e.2 (by assumption))⟩
    · refine k_put ?_; refine k_pickT rfl zq ?_; refine mq rfl ?_; refine k_as rfl zq ?_; refine aq rfl ?_; refine run_ret rfl ?_; refine run_res (h) rfl Tryz.func29 rfl weakSub ?_; refine hK _ _ ?_
      first
        | exact ⟨rfl, _, rfl, IsB.no (fun e => absurd e.1 (by omega))⟩
        | exact ⟨rfl, _, rfl, IsB.yes ⟨hz0, by assumption⟩⟩
        | exact ⟨rfl, _, rfl, IsB.no (fun e => absurd e.2 (by assumption))⟩
  · refine mq rfl ?_; refine k_off rfl rfl ?_; refine k_off rfl rfl ?_; refine k_off rfl rfl ?_; refine k_pickF rfl zq ?_; refine mq rfl ?_; refine k_as rfl zq ?_; refine aq rfl ?_; refine run_ret rfl ?_; refine run_res (h) rfl Tryz.func29 rfl weakSub ?_; refine hK _ _ ?_
    first
      | exact ⟨rfl, _, rfl, IsB.no (fun e => absurd e.1 (by omega))⟩
      | exact ⟨rfl, _, rfl, IsB.yes ⟨hz0, by assumption⟩⟩
      | exact ⟨rfl, _, rfl, IsB.no (fun e => absurd e.2 (by assumption))⟩
def okN (be : Int) (pre : List Int) (n : Int) : Prop := 2 ≤ pre.length → -be ≤ n - 2 * pre.getD (pre.length - 1) 0 + pre.getD (pre.length - 2) 0 ∧ n - 2 * pre.getD (pre.length - 1) 0 + pre.getD (pre.length - 2) 0 ≤ be
instance (be : Int) (pre : List Int) (n : Int) : Decidable (okN be pre n) := by unfold okN; infer_instance
def genL (be : Int) : List Sp → List Int → List (List Int)
  | [], pre => [pre]
  | x :: ms, pre => (spanL x).flatMap fun n => if okN be pre n then genL be ms (pre ++ [n]) else []
def genJ (be : Int) (x : Sp) (ms : List Sp) (pre : List Int) (j : Nat) : List (List Int) := ((spanL x).take j).flatMap fun n => if okN be pre n then genL be ms (pre ++ [n]) else []
theorem genJ_zero (be : Int) (x : Sp) (ms : List Sp) (pre : List Int) : genJ be x ms pre 0 = [] := rfl
theorem genJ_succ (be : Int) (x : Sp) (ms : List Sp) (pre : List Int) (j : Nat) (h : j < (x.hi - x.lo + 1).toNat) : genJ be x ms pre (j + 1) = genJ be x ms pre j ++ if okN be pre (x.lo + j) then genL be ms (pre ++ [x.lo + j]) else [] := by
  unfold genJ
  rw [take_snoc' _ j (by rw [spanL_length]; exact h), spanL_getD x j h, List.flatMap_append]; simp
theorem genJ_full (be : Int) (x : Sp) (ms : List Sp) (pre : List Int) (j : Nat) (h : (x.hi - x.lo + 1).toNat ≤ j) : genJ be x ms pre j = genL be (x :: ms) pre := by
  unfold genJ
  rw [List.take_of_length_le (by rw [spanL_length]; exact h)]; rfl
theorem genJ_le (be : Int) (x : Sp) (ms : List Sp) (pre : List Int) (j : Nat) : (genJ be x ms pre j).length ≤ (genL be (x :: ms) pre).length := by
  have : genL be (x :: ms) pre = genJ be x ms pre j ++ ((spanL x).drop j).flatMap fun n => if okN be pre n then genL be ms (pre ++ [n]) else [] := by
    unfold genJ
    rw [← List.flatMap_append, List.take_append_drop]; rfl
  rw [this, List.length_append]; omega
theorem genL_le (be : Int) : ∀ (ms : List Sp) (pre : List Int), (∀ x ∈ ms, okM x) → (genL be ms pre).length ≤ 3 ^ ms.length
  | [], pre, _ => by simp [genL]
  | x :: ms, pre, h => by
    have hx := h x List.mem_cons_self
    unfold okM at hx
    have hs : (spanL x).length ≤ 3 := by rw [spanL_length]; omega
    have gen : ∀ (ns : List Int), (ns.flatMap fun n => if okN be pre n then genL be ms (pre ++ [n]) else []).length ≤ ns.length * 3 ^ ms.length := by
      intro ns
      induction ns with
      | nil => simp
      | cons n ns ih =>
        rw [List.flatMap_cons, List.length_append, List.length_cons, Nat.add_mul, Nat.one_mul]; have h1 := genL_le be ms (pre ++ [n]) (fun y hy => h y (List.mem_cons_of_mem _ hy))
        have h2 : (if okN be pre n then genL be ms (pre ++ [n]) else []).length ≤ 3 ^ ms.length := by
          split
          · exact h1
          · simp
        omega
    have h1 := gen (spanL x)
    have h2 : (spanL x).length * 3 ^ ms.length ≤ 3 * 3 ^ ms.length := Nat.mul_le_mul_right _ hs
    have h3 : 3 ^ (x :: ms).length = 3 * 3 ^ ms.length := by rw [List.length_cons, Nat.pow_succ, Nat.mul_comm]
    rw [h3]; exact Nat.le_trans h1 h2
theorem hts_rep {n : Nat} (hn : n ≤ 7) : hts (List.replicate n 0) = [.int .i64 0, .int .i64 0, .int .i64 0, .int .i64 0, .int .i64 0, .int .i64 0, .int .i64 0] := by
  rw [← hts_nil]; simp only [hts, padL, List.replicate_append_replicate, List.take_replicate, List.nil_append]
  congr 2
theorem take_set {ln : List Int} {i : Nat} {n : Int} (h : i < ln.length) : (ln.set i n).take (i + 1) = ln.take i ++ [n] := by
  rw [List.take_succ_eq_append_getElem (by simpa using h)]; simp [List.take_set_of_le]
theorem take_getD {ln l2 : List Int} {i j : Nat} (e : ln.take i = l2.take i) (h : j < i) : ln.getD j 0 = l2.getD j 0 := by
  have := congrArg (fun l : List Int => l[j]?) e
  simp only [List.getElem?_take, if_pos h] at this
  rw [List.getD_eq_getElem?_getD, List.getD_eq_getElem?_getD, this]
theorem take_len {ln : List Int} {i n : Nat} (h : ln.length = n) (hi : i ≤ n) : (ln.take i).length = i := by rw [List.length_take]; omega
theorem Small.set {m : Int} {ln : List Int} {i : Nat} {n : Int} (h : Small m ln) (hn : -m ≤ n ∧ n ≤ m) : Small m (ln.set i n) := fun j => by
  by_cases e : i = j
  · subst e
    by_cases hl : i < ln.length
    · rw [List.getD_eq_getElem?_getD, List.getElem?_set_self hl]; exact hn
    · rw [List.set_eq_of_length_le (by omega)]; exact h i
  · rw [List.getD_eq_getElem?_getD, List.getElem?_set_ne e, ← List.getD_eq_getElem?_getD]; exact h j
theorem hts_set {ln : List Int} {i : Nat} {n : Int} (hl : ln.length ≤ 7) (hi : i < ln.length) : hts (ln.set i n) = (hts ln).set i (.int .i64 n) := by
  simp only [hts, ints, padL]
  rw [← List.map_set]; congr 1
  rw [← List.take_set, List.set_append_left _ _ hi]
theorem setSeg_hts {ln : List Int} {i : Nat} {n : Int} (hl : ln.length ≤ 7) (hi : i < ln.length) : SetSeg (hts ln) (0 + (i : Int).toNat * 1) [.int .i64 n] (hts (ln.set i n)) := ⟨by
  rw [hts_set hl hi, Int.toNat_natCast, Nat.mul_one, Nat.zero_add]; have : i < (hts ln).length := by rw [hts_length]; omega
  rw [List.set_eq_take_append_cons_drop, if_pos this]; simp, by rw [hts_length]; simp; omega⟩
def walkH (h0 : Hp) (bl : List Value) (yv : Value) (ln : List Int) (qb qy qa qn : Nat) : Hp :=
  h0 ++ [⟨true, qb, .cells bl.toArray 109 (0, 0)⟩, ⟨true, qy, .cells [yv].toArray 118 (0, 0)⟩, ⟨true, qa, .cells (hts ln).toArray 112 (0, 0)⟩, ⟨true, qn, .cells [.func (.func 160) #[] [.pointer (some ⟨qb, 0, none⟩), .pointer (some ⟨qy, 0, none⟩), .pointer (some ⟨qa, 0, none⟩), .pointer (some ⟨qn, 0, none⟩)].toArray].toArray 159 (0, 0)⟩]
def EachL {P : Program} {B : Array Obj} (m : Md P B) (h0 : Hp) (nm : Nat) (yv : Value) (YI : List (List Int) → Hp → Prop) : Prop :=
  ∀ (F R : Hp) (dn : List (List Int)) (ln : List Int), h0.Sublist F → ln.length = nm → Small 959 ln → dn.length < 2187 → YI dn R → CallV m yv [htV ln] (F ++ R) fun v h' => v = .bool true ∧ ∃ R', h' = F ++ R' ∧ YI (dn ++ [ln]) R'
theorem take_getD2 {ln l2 : List Int} {i j : Nat} (e : l2.take i = ln.take i) (h : j < i) : l2.getD j 0 = (ln.take i).getD j 0 := by
  rw [take_getD e h, List.getD_eq_getElem?_getD, List.getD_eq_getElem?_getD, List.getElem?_take, if_pos h]
theorem CallV.fn' {P : Program} {B : Array Obj} {m : Md P B} {f : FuncId} {first cap vs : Array Value} {args : List Value} {h : Hp} {Post : Value → Hp → Prop} (hf : callB P f = true) (e : first ++ args.toArray ++ cap = vs) (c : FnC m f vs h Post) : CallV m (.func (.func f) first cap) args h Post := CallV.fn hf (e ▸ c)
theorem callB160 : callB Tryz.prog 160 = true := by kernel_rfl
theorem f160_c (m : Md Tryz.prog B) {h0 : Hp} {b : Bk} {pm : Option Addr} {nm cm : Nat} {pr : Option Addr} {nr cr : Nat} (rdm : RdS B h0 2 (.slice pm nm cm) nm (encs b.marks)) (hv : Valid b) {yv : Value} [CellsV yv [yv]] {YI : List (List Int) → Hp → Prop} (hY : EachL m h0 nm yv YI) (qb qy qa qn : Nat) :
    ∀ (d i : Nat) (ln : List Int) (dn : List (List Int)) (R : Hp), i + d = nm → ln.length = nm → Small 959 ln → dn.length + (genL b.bend (b.marks.drop i) (ln.take i)).length ≤ 2187 → YI dn R →
      FnC m 160 #[.int .i64 (i : Int), .pointer (some ⟨qb, 0, none⟩), .pointer (some ⟨qy, 0, none⟩), .pointer (some ⟨qa, 0, none⟩), .pointer (some ⟨qn, 0, none⟩)] (walkH h0 (bkL b pm nm cm pr nr cr) yv ln qb qy qa qn ++ R) fun v h' => v = .bool true ∧ ∃ ln' R', h' = walkH h0 (bkL b pm nm cm pr nr cr) yv ln' qb qy qa qn ++ R' ∧ ln'.length = nm ∧ Small 959 ln' ∧ ln'.take i = ln.take i ∧ YI (dn ++ genL b.bend (b.marks.drop i) (ln.take i)) R' := by
  intro d
  induction d using Nat.strongRecOn
  rename_i d ih
  intro i ln dn R hid hln hsm hdn hR
  have hml := rdm.elen (by decide)
  have hv1 := hv.many
  have hv2 := hv.bend
  unfold walkH at ih ⊢
  refine fn_enter Tryz.func160 rfl rfl (l := (.int .i64 (i : Int)) :: (.pointer (some ⟨qb, 0, none⟩)) :: (.pointer (some ⟨qy, 0, none⟩)) :: (.pointer (some ⟨qa, 0, none⟩)) :: (.pointer (some ⟨qn, 0, none⟩)) :: uu63) rfl ?_
  intro cf cs K hK
  refine rs1 (by kernel_rfl) ?_; refine aq rfl ?_; refine run_seq ?_; refine rs4 (by kernel_rfl) ?_; refine mq rfl ?_; refine k_ldA rfl zq ?_; refine k_calP (Post := fun v => v = _) rfl zq (by kernel_rfl) (fun H' hH => f118_c m H' _ _ _ _ _ _ _ _ _) ?_; rintro v rfl; refine k_put ?_; refine k_eqlS rfl zq (fun hc => ?_) (fun hc => ?_)
  · refine k_nil ?_; refine run_yes ?_; refine rs4 (by kernel_rfl) ?_; refine k_ldh rfl zq ?_; refine k_ldA rfl zq ?_; refine k_callV rfl zq (hY _ R dn ln (List.sublist_append_left _ _) hln hsm (by
      rw [List.drop_eq_nil_of_le (by omega)] at hdn
      simp [genL] at hdn
      omega) hR) ?_
    rintro v h' ⟨rfl, R', rfl, hR'⟩; refine k_put ?_; refine aq rfl ?_; refine run_ret rfl ?_; refine run_res ((h0 ++ [⟨true, qb, .cells (bkL b pm nm cm pr nr cr).toArray 109 (0, 0)⟩, ⟨true, qy, .cells [yv].toArray 118 (0, 0)⟩, ⟨true, qa, .cells (hts ln).toArray 112 (0, 0)⟩, ⟨true, qn, .cells [.func (.func 160) #[] [.pointer (some ⟨qb, 0, none⟩), .pointer (some ⟨qy, 0, none⟩), .pointer (some ⟨qa, 0, none⟩), .pointer (some ⟨qn, 0, none⟩)].toArray].toArray 159 (0, 0)⟩]) ++ R') rfl Tryz.func160 rfl weakSub ?_; refine hK _ _ ?_
    refine ⟨rfl, ln, R', rfl, hln, hsm, rfl, ?_⟩
    rw [List.drop_eq_nil_of_le (by omega), List.take_of_length_le (by omega)]; exact hR'
  · refine k_nil ?_; refine run_no ?_; refine run_skip ?_; refine run_seq ?_; refine rs8 (by kernel_rfl) ?_; have hok := hv.marks _ (mem_getDR.2 ⟨i, by omega, rfl⟩)
    unfold okM at hok
    have hdrop := getD_dropR b.marks i (by omega)
    first | refine k_fa0 rfl zq ?_ | refine k_fa rfl zq ?_
    first | refine k_fa0 rfl zq ?_ | refine k_fa rfl zq ?_
    refine k_ldh rfl zq ?_; refine mq rfl ?_; obtain ⟨rdm_b, rdm_o, rfl⟩ := rdm.ptr (by omega)
    refine k_ixs rfl zq (by first | rfl | assumption) (by omega) (by omega) ?_; first | refine k_fa0 rfl zq ?_ | refine k_fa rfl zq ?_
    refine k_ld rfl zq (rdm.fat (v := .int .i64 (b.marks.getD i default).lo) i 0 (by omega) (by omega) rfl) ?_; refine aq rfl ?_; refine run_block ?_; refine run_loop (fun nn l h' => ∃ (j : Nat) (n7 : Int) (l1 : List Int) (R1 : Hp), nn = ((b.marks.getD i default).hi - (b.marks.getD i default).lo + 1).toNat - j ∧ (n7 = (b.marks.getD i default).lo + (j : Int)) ∧ (j ≤ ((b.marks.getD i default).hi - (b.marks.getD i default).lo + 1).toNat) ∧ (l1.length = nm) ∧ (Small 959 l1) ∧ (l1.take i = ln.take i) ∧ (YI (dn ++ genJ b.bend (b.marks.getD i default) (b.marks.drop (i + 1)) (ln.take i) j) R1) ∧ (∃ U : Nat → Value, l = [.int .i64 (i : Int), .pointer (some ⟨qb, 0, none⟩), .pointer (some ⟨qy, 0, none⟩), .pointer (some ⟨qa, 0, none⟩), .pointer (some ⟨qn, 0, none⟩), U 5, U 6, .int .i64 n7, U 8, U 9, U 10, U 11, U 12, U 13, U 14, U 15, U 16, U 17, U 18, U 19, U 20, U 21, U 22, U 23, U 24, U 25, U 26, U 27, U 28, U 29, U 30, U 31, U 32, U 33, U 34, U 35, U 36, U 37, U 38, U 39, U 40, U 41, U 42, U 43, U 44, U 45, U 46, U 47, U 48, U 49, U 50, U 51, U 52, U 53, U 54, U 55, U 56, U 57, U 58, U 59, U 60, U 61, U 62, U 63, U 64, U 65, U 66, U 67]) ∧ (h0 ++ [⟨true, qb, .cells (bkL b (some ⟨rdm_b, rdm_o, none⟩) nm cm pr nr cr).toArray 109 (0, 0)⟩, ⟨true, qy, .cells [yv].toArray 118 (0, 0)⟩, ⟨true, qa, .cells (hts l1).toArray 112 (0, 0)⟩, ⟨true, qn, .cells [.func (.func 160) #[] [.pointer (some ⟨qb, 0, none⟩), .pointer (some ⟨qy, 0, none⟩), .pointer (some ⟨qa, 0, none⟩), .pointer (some ⟨qn, 0, none⟩)].toArray].toArray 159 (0, 0)⟩]) ++ R1 = h') _ ⟨0, _, ln, R, rfl, by exact (Int.add_zero _).symm, by omega, hln, hsm, rfl, by rw [genJ_zero, List.append_nil]; exact hR, exU rfl, rfl⟩ ?_; rintro nn l h' ⟨j, n7, l1, R1, rfl, rfl, hj, hl1, hs1, ht1, hR1, ⟨U, rfl⟩, rfl⟩ hnext1; refine run_seq ?_; refine rs9 (by kernel_rfl) ?_; refine mq rfl ?_; first | refine k_fa0 rfl zq ?_ | refine k_fa rfl zq ?_
    first | refine k_fa0 rfl zq ?_ | refine k_fa rfl zq ?_
    refine k_ldh rfl zq ?_; refine mq rfl ?_; refine k_ixs rfl zq (by first | rfl | assumption) (by omega) (by omega) ?_; first | refine k_fa0 rfl zq ?_ | refine k_fa rfl zq ?_
    refine k_ld rfl zq (rdm.fat (v := .int .i64 (b.marks.getD i default).hi) i 1 (by omega) (by omega) rfl) ?_; refine k_leqS rfl zq (fun hc => ?_) (fun hc => ?_)
    · refine k_nil ?_; refine run_yes ?_; refine run_skip ?_; refine run_seq ?_; refine run_block ?_; refine rs4 (by kernel_rfl) ?_; have hgs := genJ_succ b.bend (b.marks.getD i default) (b.marks.drop (i + 1)) (ln.take i) j (by omega)
      have hss := setSeg_hts (n := ((b.marks.getD i default).lo + (j : Int))) (show l1.length ≤ 7 by omega) (show i < l1.length by omega)
      have htk : (l1.set i ((b.marks.getD i default).lo + (j : Int))).take i = ln.take i := by rw [List.take_set_of_le (Nat.le_refl _), ht1]
      have hsS : Small 959 (l1.set i ((b.marks.getD i default).lo + (j : Int))) := hs1.set (by omega)
      have hA := hsS i
      have hB := hsS (i - 1)
      have hC := hsS (i - 2)
      have hpl : (ln.take i).length = i := take_len hln (by omega)
      have e0 : (l1.set i ((b.marks.getD i default).lo + (j : Int))).getD i 0 = ((b.marks.getD i default).lo + (j : Int)) := by rw [List.getD_eq_getElem?_getD, List.getElem?_set_self (by omega)]; rfl
      have e1 : 1 ≤ i → (l1.set i ((b.marks.getD i default).lo + (j : Int))).getD (i - 1) 0 = (ln.take i).getD (i - 1) 0 := fun h => take_getD2 htk (by omega)
      have e2 : 2 ≤ i → (l1.set i ((b.marks.getD i default).lo + (j : Int))).getD (i - 2) 0 = (ln.take i).getD (i - 2) 0 := fun h => take_getD2 htk (by omega)
      refine mq rfl ?_; refine mq rfl ?_; refine k_ixa rfl zq (by omega) (by omega) ?_; refine k_st1 rfl zq ?_; refine k_nil ?_; refine run_seq ?_; refine run_seq ?_; refine run_draw [(0, .pure), (1, .pure), (2, .pure), (3, .pure), (4, .pure), (6, .pure), (7, .pure), (8, .pure), (12, .pure), (13, .pure), (14, .pure), (17, .pure), (18, .pure), (21, .pure), (22, .pure), (5, .read), (9, .read), (10, .pure), (11, .pure), (15, .read), (16, .pure), (19, .read), (20, .pure), (23, .read), (24, .keep), (25, .pure), (26, .pure)] (by kernel_rfl) (by kernel_rfl) (List.Sublist.refl _) ?_; refine mq rfl ?_; refine k_geqS rfl zq (fun hc => ?_) (fun hc => ?_)
      · refine mq rfl ?_; refine k_mv rfl rfl ?_; refine k_ixa rfl rfl (by omega) (by omega) ?_; refine k_mv rfl rfl ?_; refine k_sub rfl rfl (by unfold In64; omega) ?_; refine k_ixa rfl rfl (by omega) (by omega) ?_; refine k_mv rfl rfl ?_; refine k_sub rfl rfl (by unfold In64; omega) ?_; refine k_ixa rfl rfl (by omega) (by omega) ?_; first | refine k_fa0 rfl rfl ?_ | refine k_fa rfl rfl ?_
        first | refine k_fa0 rfl rfl ?_ | refine k_fa rfl rfl ?_
        first | refine k_fa0 rfl rfl ?_ | refine k_fa rfl rfl ?_
        first | refine k_fa0 rfl rfl ?_ | refine k_fa rfl rfl ?_
        refine k_ld rfl rfl (rd_hts (q := qa) i rfl (by omega)) ?_; refine k_ld rfl rfl (rd_hts (q := qa) (i - 1) (by omega) (by omega)) ?_; refine k_mul rfl rfl (by unfold In64; omega) ?_; refine k_sub rfl rfl (by unfold In64; omega) ?_; refine k_ld rfl rfl (rd_hts (q := qa) (i - 2) (by omega) (by omega)) ?_; refine k_add rfl rfl (by unfold In64; omega) ?_; refine k_ldh rfl rfl ?_; refine k_neg rfl rfl (by unfold In64; omega) ?_; refine k_ldh rfl rfl ?_; refine k_calP (Post := fun v => IsB _ v) rfl rfl (by kernel_rfl) (fun H' hH => f117_c m H' _ _ _) ?_; rintro v (⟨hc, rfl⟩ | ⟨hc, rfl⟩)
        · refine k_put ?_; have hyes : okN b.bend (ln.take i) ((b.marks.getD i default).lo + (j : Int)) := fun _ => by
            rw [hpl, ← e1 (by omega), ← e2 (by omega)]; rw [e0] at hc
            omega
          refine k_notT rfl rfl ?_; refine k_pickT rfl zq ?_; refine k_nil ?_; refine run_no ?_; refine run_skip ?_; refine rs5 (by kernel_rfl) ?_; refine k_ldh rfl zq ?_; refine mq rfl ?_; refine k_add rfl zq (by unfold In64; omega) ?_; have hrec := ih (d - 1) (by omega) (i + 1) (l1.set i ((b.marks.getD i default).lo + (j : Int))) (dn ++ genJ b.bend (b.marks.getD i default) (b.marks.drop (i + 1)) (ln.take i) j) R1 (by omega) (by simp [hl1]) hsS (by
            rw [take_set (by omega), ht1, List.length_append]; have h1 := genJ_le b.bend (b.marks.getD i default) (b.marks.drop (i + 1)) (ln.take i) (j + 1)
            rw [hgs, if_pos hyes, List.length_append] at h1
            rw [hdrop] at hdn
            omega) hR1
          rw [show ((i + 1 : Nat) : Int) = (i : Int) + 1 by omega] at hrec
          have hcv := CallV.fn' (first := #[]) (args := [.int .i64 ((i : Int) + 1)]) (cap := [Value.pointer (some ⟨qb, 0, none⟩), Value.pointer (some ⟨qy, 0, none⟩), Value.pointer (some ⟨qa, 0, none⟩), Value.pointer (some ⟨qn, 0, none⟩)].toArray) callB160 (by simp) hrec
          refine k_callV rfl zq hcv ?_; clear hcv hrec
          rintro v h' ⟨rfl, ln2, R2, rfl, hl2, hs2, ht2', hR2⟩; have ht2 : ln2.take i = ln.take i := by
            have := congrArg (List.take i) ht2'
            rw [List.take_take, List.take_take, Nat.min_eq_left (by omega)] at this
            rw [this, htk]
          rw [take_set (by omega), ht1] at hR2
          refine k_put ?_; refine k_notT rfl zq ?_; refine k_nil ?_; refine run_no ?_; refine run_skip ?_; refine run_inBlock ?_; refine rr3 (by kernel_rfl) ?_; refine mq rfl ?_; refine k_add rfl zq (by unfold In64; omega) ?_; refine aq rfl ?_; exact m.weak weakSub (hnext1 _ _ _ (by omega) ⟨j + 1, _, ln2, R2, rfl, by omega, by omega, hl2, hs2, ht2, by rw [hgs, if_pos hyes, ← List.append_assoc]; exact hR2, exU rfl, rfl⟩)
        · refine k_put ?_; have hno : ¬ okN b.bend (ln.take i) ((b.marks.getD i default).lo + (j : Int)) := fun e => hc (by
            have := e (by omega)
            rw [hpl, ← e1 (by omega), ← e2 (by omega)] at this
            rw [e0]; omega)
          refine k_notF rfl rfl ?_; refine k_pickT rfl zq ?_; refine k_nil ?_; refine run_yes ?_; refine run_exit rfl ?_; refine rr3 (by kernel_rfl) ?_; refine mq rfl ?_; refine k_add rfl zq (by unfold In64; omega) ?_; refine aq rfl ?_; rw [if_neg hno, List.append_nil] at hgs
          rw [← hgs] at hR1
          exact m.weak weakSub (hnext1 _ _ _ (by omega) ⟨j + 1, _, l1.set i ((b.marks.getD i default).lo + (j : Int)), R1, rfl, by omega, by omega, by simp [hl1], hsS, htk, hR1, exU rfl, rfl⟩)
      · have hyes : okN b.bend (ln.take i) ((b.marks.getD i default).lo + (j : Int)) := fun h2 => by exfalso; omega
        refine mq rfl ?_; refine k_off rfl rfl ?_; refine k_off rfl rfl ?_; refine k_off rfl rfl ?_; refine k_off rfl rfl ?_; refine k_off rfl rfl ?_; refine k_off rfl rfl ?_; refine k_off rfl rfl ?_; refine k_off rfl rfl ?_; refine k_off rfl rfl ?_; refine k_off rfl rfl ?_; refine k_off rfl rfl ?_; refine k_off rfl rfl ?_; refine k_off rfl rfl ?_; refine k_off rfl rfl ?_; refine k_off rfl rfl ?_; refine k_off rfl rfl ?_; refine k_off rfl rfl ?_; refine k_off rfl rfl ?_; refine k_off rfl rfl ?_; refine k_off rfl rfl ?_; refine k_off rfl rfl ?_; refine k_off rfl rfl ?_; refine k_off rfl rfl ?_; refine k_pickF rfl zq ?_; refine k_nil ?_; refine run_no ?_; refine run_skip ?_; refine rs5 (by kernel_rfl) ?_; refine k_ldh rfl zq ?_; refine mq rfl ?_; refine k_add rfl zq (by unfold In64; omega) ?_; have hrec := ih (d - 1) (by omega) (i + 1) (l1.set i ((b.marks.getD i default).lo + (j : Int))) (dn ++ genJ b.bend (b.marks.getD i default) (b.marks.drop (i + 1)) (ln.take i) j) R1 (by omega) (by simp [hl1]) hsS (by
          rw [take_set (by omega), ht1, List.length_append]; have h1 := genJ_le b.bend (b.marks.getD i default) (b.marks.drop (i + 1)) (ln.take i) (j + 1)
          rw [hgs, if_pos hyes, List.length_append] at h1
          rw [hdrop] at hdn
          omega) hR1
        rw [show ((i + 1 : Nat) : Int) = (i : Int) + 1 by omega] at hrec
        have hcv := CallV.fn' (first := #[]) (args := [.int .i64 ((i : Int) + 1)]) (cap := [Value.pointer (some ⟨qb, 0, none⟩), Value.pointer (some ⟨qy, 0, none⟩), Value.pointer (some ⟨qa, 0, none⟩), Value.pointer (some ⟨qn, 0, none⟩)].toArray) callB160 (by simp) hrec
        refine k_callV rfl zq hcv ?_; clear hcv hrec
        rintro v h' ⟨rfl, ln2, R2, rfl, hl2, hs2, ht2', hR2⟩; have ht2 : ln2.take i = ln.take i := by
          have := congrArg (List.take i) ht2'
          rw [List.take_take, List.take_take, Nat.min_eq_left (by omega)] at this
          rw [this, htk]
        rw [take_set (by omega), ht1] at hR2
        refine k_put ?_; refine k_notT rfl zq ?_; refine k_nil ?_; refine run_no ?_; refine run_skip ?_; refine run_inBlock ?_; refine rr3 (by kernel_rfl) ?_; refine mq rfl ?_; refine k_add rfl zq (by unfold In64; omega) ?_; refine aq rfl ?_; exact m.weak weakSub (hnext1 _ _ _ (by omega) ⟨j + 1, _, ln2, R2, rfl, by omega, by omega, hl2, hs2, ht2, by rw [hgs, if_pos hyes, ← List.append_assoc]; exact hR2, exU rfl, rfl⟩)
    · refine k_nil ?_; refine run_no ?_; refine run_exit rfl ?_; refine rs1 (by kernel_rfl) ?_; refine aq rfl ?_; refine run_ret rfl ?_; refine run_res ((h0 ++ [⟨true, qb, .cells (bkL b (some ⟨rdm_b, rdm_o, none⟩) nm cm pr nr cr).toArray 109 (0, 0)⟩, ⟨true, qy, .cells [yv].toArray 118 (0, 0)⟩, ⟨true, qa, .cells (hts l1).toArray 112 (0, 0)⟩, ⟨true, qn, .cells [.func (.func 160) #[] [.pointer (some ⟨qb, 0, none⟩), .pointer (some ⟨qy, 0, none⟩), .pointer (some ⟨qa, 0, none⟩), .pointer (some ⟨qn, 0, none⟩)].toArray].toArray 159 (0, 0)⟩]) ++ R1) rfl Tryz.func160 rfl weakSub ?_; refine hK _ _ ?_
      refine ⟨rfl, l1, R1, rfl, hl1, hs1, ht1, ?_⟩
      rw [hdrop, ← genJ_full _ _ _ _ j (by omega)]; exact hR1
theorem f150_c (m : Md Tryz.prog B) {h0 : Hp} {b : Bk} {pm : Option Addr} {nm cm : Nat} {pr : Option Addr} {nr cr : Nat} (rdm : RdS B h0 2 (.slice pm nm cm) nm (encs b.marks)) (hv : Valid b) {yv : Value} [CellsV yv [yv]] {YI : List (List Int) → Hp → Prop} (hY : EachL m h0 nm yv YI) {R : Hp} (hR : YI [] R) :
    FnC m 150 #[bkV b pm nm cm pr nr cr, yv] (h0 ++ R) fun v h' => v = .tuple [].toArray ∧ ∃ R', h' = h0 ++ R' ∧ YI (genL b.bend b.marks []) R' := by
  have hml := rdm.elen (by decide)
  have hv1 := hv.many
  refine fn_enter Tryz.func150 rfl rfl (l := (bkV b pm nm cm pr nr cr) :: yv :: uu7) rfl ?_
  intro cf cs K hK
  refine rs2 (by kernel_rfl) ?_; refine k_box rfl zq (fun q2 => k_hp (k_put ?_)); refine k_box rfl zq (fun q3 => k_hp (k_put ?_)); refine k_nil ?_; refine rs1 (by kernel_rfl) ?_; refine k_new rfl zq (fun q4 => k_hp (k_put ?_)); refine k_nil ?_; refine rs1 (by kernel_rfl) ?_; refine k_new rfl zq (fun q5 => k_hp (k_put ?_)); refine k_nil ?_; refine rs2 (by kernel_rfl) ?_; refine k_fun rfl zq ?_; refine k_st1 rfl zq ?_; refine k_nil ?_; refine rr2 (by kernel_rfl) ?_; refine k_ldh rfl zq ?_; refine k_weak (Weak.mid h0 R _) ?_; have hw := f160_c m (pr := pr) (nr := nr) (cr := cr) rdm hv hY q2 q3 q4 q5 nm 0 (List.replicate nm 0) [] R (by omega) (by simp) (fun j => by rw [List.getD_eq_getElem?_getD, List.getElem?_replicate]; split <;> simp) (by
    have h1 := genL_le b.bend b.marks [] hv.marks
    have h2 : 3 ^ b.marks.length ≤ 3 ^ 7 := Nat.pow_le_pow_right (by omega) (by omega)
    simp only [List.drop_zero, List.take_zero, List.length_nil]
    omega) hR
  unfold walkH at hw
  rw [hts_rep (by omega)] at hw
  simp only [List.drop_zero, List.take_zero, List.nil_append] at hw
  have hcv := CallV.fn' (first := #[]) (args := [.int .i64 0]) (cap := [Value.pointer (some ⟨q2, 0, none⟩), Value.pointer (some ⟨q3, 0, none⟩), Value.pointer (some ⟨q4, 0, none⟩), Value.pointer (some ⟨q5, 0, none⟩)].toArray) callB160 (by simp) hw
  refine k_callV rfl zq hcv ?_; clear hcv hw
  rintro v h' ⟨rfl, ln2, R2, rfl, hl2, hs2, ht2, hR2⟩; refine k_put ?_; refine k_nil ?_; refine run_end rfl ?_; refine run_res (h0 ++ R2) rfl Tryz.func150 rfl weakSub ?_; refine hK _ _ ?_
  exact ⟨rfl, R2, rfl, hR2⟩
def genA : List Sp → List Int → List (List Int)
  | [], pre => [pre]
  | x :: ms, pre => (spanL x).flatMap fun n => genA ms (pre ++ [n])
theorem foldl_genA : ∀ (ms : List Sp) (all : List (List Int)), ms.foldl extL all = all.flatMap (genA ms)
  | [], all => by
    simp only [List.foldl_nil]
    induction all with
    | nil => rfl
    | cons a r ih => rw [List.flatMap_cons, ← ih]; rfl
  | x :: ms, all => by
    rw [List.foldl_cons, foldl_genA ms (extL all x), extL, List.flatMap_assoc]; congr 1
    funext l
    rw [ext1, List.flatMap_map]; rfl
theorem linesOf_genA (ms : List Sp) : linesOf ms = genA ms [] := by rw [linesOf, foldl_genA]; simp
theorem genA_pre : ∀ (ms : List Sp) (pre l : List Int), l ∈ genA ms pre → ∃ t, l = pre ++ t
  | [], pre, l, h => ⟨[], by simpa [genA] using h⟩
  | x :: ms, pre, l, h => by
    simp only [genA, List.mem_flatMap] at h
    obtain ⟨n, _, h⟩ := h
    obtain ⟨t, rfl⟩ := genA_pre ms _ l h
    exact ⟨n :: t, by simp⟩
theorem okN_fair {be tw tu : Int} {pre t : List Int} {n : Int} (h : fair be tw tu (pre ++ [n] ++ t)) : okN be pre n := fun hp => by
  have hg : ∀ k, k ≤ pre.length → (pre ++ [n] ++ t).getD k 0 = if k = pre.length then n else pre.getD k 0 := fun k hk => by
    rw [List.append_assoc, List.getD_eq_getElem?_getD]; split
    · rename_i e; subst e; simp
    · rw [List.getElem?_append_left (by omega), List.getD_eq_getElem?_getD]
  have hb := bends_getD (pre ++ [n] ++ t) (pre.length - 2) (by simp; omega)
  have hm := h.1 _ (mem_getD.2 ⟨pre.length - 2, by rw [bends_length]; simp; omega, rfl⟩)
  rw [hb, hg _ (by omega), hg _ (by omega), hg _ (by omega), if_neg (by omega), if_pos (by omega), if_neg (by omega)] at hm
  rw [show pre.length - 2 + 1 = pre.length - 1 by omega] at hm
  omega
def goodB (b : Bk) (l : List Int) : Bool := decide (fair b.bend b.twist b.turns l) && decide (∀ r ∈ b.rules, r.lo ≤ l.getD r.b.toNat 0 - l.getD r.a.toNat 0 ∧ l.getD r.b.toNat 0 - l.getD r.a.toNat 0 ≤ r.hi)
theorem goodB_iff {b : Bk} {l : List Int} : goodB b l = true ↔ fair b.bend b.twist b.turns l ∧ right b l := by
  simp only [goodB, Bool.and_eq_true, decide_eq_true_eq]; rfl
theorem genL_good (b : Bk) : ∀ (ms : List Sp) (pre : List Int), (genL b.bend ms pre).filter (goodB b) = (genA ms pre).filter (goodB b)
  | [], pre => rfl
  | x :: ms, pre => by
    simp only [genL, genA, List.filter_flatMap]
    congr 1
    funext n
    split
    · exact genL_good b ms _
    · rename_i hno
      symm
      rw [List.filter_nil, List.filter_eq_nil_iff]; intro l hl hg
      obtain ⟨t, rfl⟩ := genA_pre ms _ l hl
      exact hno (okN_fair (goodB_iff.1 hg).1)
def goodL (b : Bk) (dn : List (List Int)) : List (List Int) := dn.filter (goodB b)
theorem good_boats {b : Bk} : goodL b (genL b.bend b.marks []) = boatsOf b := by
  rw [goodL, genL_good, ← linesOf_genA, boatsOf]; refine List.filter_congr fun l hl => ?_
  rw [Bool.eq_iff_iff, goodB_iff, decide_eq_true_iff]; obtain ⟨h1, h2⟩ := line_of hl
  exact ⟨fun ⟨x, y⟩ => ⟨fun i hi => h2 i (by omega), y, x⟩, fun ⟨_, y, x⟩ => ⟨x, y⟩⟩
theorem goodL_yes {b : Bk} {dn : List (List Int)} {l : List Int} (h : fair b.bend b.twist b.turns l ∧ right b l) : goodL b (dn ++ [l]) = goodL b dn ++ [l] := by
  rw [goodL, List.filter_append, List.filter_cons, if_pos (goodB_iff.2 h)]; rfl
theorem goodL_no {b : Bk} {dn : List (List Int)} {l : List Int} (h : ¬ (fair b.bend b.twist b.turns l ∧ right b l)) : goodL b (dn ++ [l]) = goodL b dn := by
  rw [goodL, List.filter_append, List.filter_cons, if_neg (fun e => h (goodB_iff.1 e))]; simp [goodL]
theorem goodL_le (b : Bk) (dn : List (List Int)) : (goodL b dn).length ≤ dn.length := List.length_filter_le _ _
instance {a : List Value} : AppL a [] a := ⟨List.append_nil a⟩
theorem weak_pre {B : Array Obj} {h A X : Hp} (e : h = A ++ X) : Weak B h A := e ▸ Weak.sub (List.sublist_append_left _ _)
theorem encs_one1 {l : List Int} : encs [l] = hts l := by simp [encs, Enc.enc]
theorem f104_c (m : Md Tryz.prog B) (h : Hp) {b : Bk} {pm : Option Addr} {nm cm : Nat} {pr : Option Addr} {nr cr : Nat} (rdm : RdS B h 2 (.slice pm nm cm) nm (encs b.marks)) (hm : nm ≤ 1000) (rdr : RdS B h 4 (.slice pr nr cr) nr (encs b.rules)) (hr : nr ≤ 1000) (hv : Valid b) : FnC m 104 #[bkV b pm nm cm pr nr cr] h fun v h' => ∃ nw, h' = h ++ nw ∧ OwnS 112 7 v (boatsOf b).length (encs (boatsOf b)) nw := by
  have hml := rdm.elen (by decide)
  have hv1 := hv.many
  refine fn_enter Tryz.func104 rfl rfl (l := (bkV b pm nm cm pr nr cr) :: uu20) rfl ?_
  intro cf cs K hK
  refine rs2 (by kernel_rfl) ?_; refine k_box rfl zq (fun q1 => k_hp (k_put ?_)); refine aq rfl ?_; refine rs1 (by kernel_rfl) ?_; refine k_new rfl zq (fun q3 => k_hp (k_put ?_)); refine k_nil ?_; refine run_seq ?_; refine rs2 (by kernel_rfl) ?_; refine k_ldA rfl zq ?_; refine k_fun rfl zq ?_; refine k_nil ?_; refine run_block ?_; refine run_rangeF rfl rfl (by kernel_rfl) (fun q11 q12 => ?_); generalize hrec : lrec _ _ _ _ _ _ LoopState.ready = rec0
  have hY : EachL m h nm (.func (.yield q12) #[] #[]) (fun dn R => ∃ bp bc nw, R = [⟨true, q1, .cells (bkL b pm nm cm pr nr cr).toArray 109 (0, 0)⟩, ⟨true, q3, .cells [.slice bp (goodL b dn).length bc].toArray 120 (0, 0)⟩, ⟨true, q11, .deferred (some [])⟩, ⟨true, q12, rec0⟩] ++ nw ∧ OwnS 112 7 (.slice bp (goodL b dn).length bc) (goodL b dn).length (encs (goodL b dn)) nw) := ?hY
  rotate_left
  intro F R dn ln hF hln hsm hdn hR
  obtain ⟨bp, bc, nw, rfl, ho⟩ := hR
  subst hrec
  haveI hsF : SubH h F := ⟨hF⟩
  have hgl := goodL_le b dn
  refine CallV.yield (rw := true) (q1 := q11) (st := .ready) (List.mem_append_right _ (List.mem_append_left _ (List.mem_cons_of_mem _ (List.mem_cons_of_mem _ (List.mem_cons_of_mem _ List.mem_cons_self))))) rfl (by simp; rfl) ?_
  intro cf2 cs2 K2 hK2
  · refine rr2 (by kernel_rfl) ?_; refine k_new rfl zq (fun q4 => k_hp (k_put ?_)); refine k_stA rfl zq (by first | rfl | exact hts_length _) ?_; refine k_nil ?_; apply run_beginRound (F := F ++ [⟨true, q1, .cells (bkL b pm nm cm pr nr cr).toArray 109 (0, 0)⟩, ⟨true, q3, .cells [.slice bp (goodL b dn).length bc].toArray 120 (0, 0)⟩, ⟨true, q11, .deferred (some [])⟩]) (E := nw ++ [⟨true, q4, .cells (hts ln).toArray 112 (0, 0)⟩])
    case hh =>
      simp only [List.append_assoc, List.cons_append, List.nil_append]
      rfl
    generalize hbz : lrec _ _ _ _ _ _ LoopState.busy = rec1
    refine run_block ?_; refine rs8 (by kernel_rfl) ?_; refine k_ldA rfl zq ?_; refine k_ldA rfl zq ?_; refine k_calP (Post := fun v => IsB _ v) rfl zq (by kernel_rfl) (fun H' hH => f101_c m H' (nm := nm) hln (by omega) hsm hv) ?_; rintro v (⟨hc, rfl⟩ | ⟨hc, rfl⟩)
    · refine k_put ?_; have hA := hc
      refine mq rfl ?_; refine k_ldA rfl rfl ?_; refine k_ldA rfl rfl ?_; refine k_calP (Post := fun v => IsB _ v) rfl rfl (by kernel_rfl) (fun H' hH => f151_c m H' (nm := nm) hln (by omega) hsm hml (rdr.keeps (hF.trans (sq hH))) hr hv) ?_; rintro v (⟨hc, rfl⟩ | ⟨hc, rfl⟩)
      · refine k_put ?_; refine k_pickT rfl zq ?_; refine k_nil ?_; refine run_yes ?_; refine rr5 (by kernel_rfl) ?_; refine k_ldh rfl zq ?_; refine k_ldA rfl zq ?_; refine k_bs kdq rfl zq (by decide) (by decide) rfl (fun q18 => k_hp (k_put ?_)); refine k_appW (F := F ++ [⟨true, q1, .cells (bkL b pm nm cm pr nr cr).toArray 109 (0, 0)⟩, ⟨true, q3, .cells [.slice bp (goodL b dn).length bc].toArray 120 (0, 0)⟩, ⟨true, q11, .deferred (some [])⟩, ⟨true, q12, rec1⟩]) rfl zq (by simp [hts_length]) ho (weak_pre (X := [⟨true, q4, .cells (hts ln).toArray 112 (0, 0)⟩, ⟨true, q18, .cells (hts ln).toArray 112 (0, 0)⟩]) (by simp)) (.inl rfl) (by omega) (by omega) (fun w19 nw2 ho2 => k_put ?_); obtain ⟨bp2, bc2, rfl, _⟩ := ho2.len
        have hyes := goodL_yes (b := b) (dn := dn) (l := ln) ⟨hA, hc⟩
        have e1 : (goodL b dn).length + 1 = (goodL b (dn ++ [ln])).length := by rw [hyes]; simp
        have e2 : encs (goodL b dn) ++ hts ln = encs (goodL b (dn ++ [ln])) := by rw [hyes, encs_append, encs_one1]
        rw [e2, e1] at ho2
        rw [e1]; refine k_st1 rfl zq ?_; refine k_nil ?_; refine run_inBlock ?_; subst hbz
        apply run_endRound (F := F ++ [⟨true, q1, .cells (bkL b pm nm cm pr nr cr).toArray 109 (0, 0)⟩, ⟨true, q3, .cells [.slice bp2 (goodL b (dn ++ [ln])).length bc2].toArray 120 (0, 0)⟩, ⟨true, q11, .deferred (some [])⟩]) (E := nw2)
        case hh =>
          simp only [List.append_assoc, List.cons_append, List.nil_append]
          rfl
        rw [show F ++ [⟨true, q1, .cells (bkL b pm nm cm pr nr cr).toArray 109 (0, 0)⟩, ⟨true, q3, .cells [.slice bp2 (goodL b (dn ++ [ln])).length bc2].toArray 120 (0, 0)⟩, ⟨true, q11, .deferred (some [])⟩] ++ (_ :: nw2) = F ++ ([⟨true, q1, .cells (bkL b pm nm cm pr nr cr).toArray 109 (0, 0)⟩, ⟨true, q3, .cells [.slice bp2 (goodL b (dn ++ [ln])).length bc2].toArray 120 (0, 0)⟩, ⟨true, q11, .deferred (some [])⟩, _] ++ nw2) by simp; rfl]; exact hK2 _ _ ⟨rfl, _, rfl, _, _, nw2, rfl, ho2⟩
      · refine k_put ?_; refine k_pickT rfl zq ?_; refine k_nil ?_; refine run_no ?_; refine run_skip ?_; refine run_inBlock ?_; subst hbz
        have hno := goodL_no (b := b) (dn := dn) (l := ln) (by intro e; first | exact hc e.1 | exact hc e.2)
        apply run_endRound (F := F ++ [⟨true, q1, .cells (bkL b pm nm cm pr nr cr).toArray 109 (0, 0)⟩, ⟨true, q3, .cells [.slice bp (goodL b dn).length bc].toArray 120 (0, 0)⟩, ⟨true, q11, .deferred (some [])⟩]) (E := nw ++ [⟨true, q4, .cells (hts ln).toArray 112 (0, 0)⟩])
        case hh =>
          simp only [List.append_assoc, List.cons_append, List.nil_append]
          rfl
        refine m.weak (h' := F ++ ([⟨true, q1, .cells (bkL b pm nm cm pr nr cr).toArray 109 (0, 0)⟩, ⟨true, q3, .cells [.slice bp (goodL b dn).length bc].toArray 120 (0, 0)⟩, ⟨true, q11, .deferred (some [])⟩, _] ++ nw)) (weak_pre (X := [⟨true, q4, .cells (hts ln).toArray 112 (0, 0)⟩]) (by simp; rfl)) ?_
        exact hK2 _ _ ⟨rfl, _, rfl, bp, bc, nw, by rw [hno], by rw [hno]; exact ho⟩
    · refine k_put ?_; refine mq rfl ?_; refine k_off rfl rfl ?_; refine k_off rfl rfl ?_; refine k_off rfl rfl ?_; refine k_pickF rfl zq ?_; refine k_nil ?_; refine run_no ?_; refine run_skip ?_; refine run_inBlock ?_; subst hbz
      have hno := goodL_no (b := b) (dn := dn) (l := ln) (by intro e; first | exact hc e.1 | exact hc e.2)
      apply run_endRound (F := F ++ [⟨true, q1, .cells (bkL b pm nm cm pr nr cr).toArray 109 (0, 0)⟩, ⟨true, q3, .cells [.slice bp (goodL b dn).length bc].toArray 120 (0, 0)⟩, ⟨true, q11, .deferred (some [])⟩]) (E := nw ++ [⟨true, q4, .cells (hts ln).toArray 112 (0, 0)⟩])
      case hh =>
        simp only [List.append_assoc, List.cons_append, List.nil_append]
        rfl
      refine m.weak (h' := F ++ ([⟨true, q1, .cells (bkL b pm nm cm pr nr cr).toArray 109 (0, 0)⟩, ⟨true, q3, .cells [.slice bp (goodL b dn).length bc].toArray 120 (0, 0)⟩, ⟨true, q11, .deferred (some [])⟩, _] ++ nw)) (weak_pre (X := [⟨true, q4, .cells (hts ln).toArray 112 (0, 0)⟩]) (by simp; rfl)) ?_
      exact hK2 _ _ ⟨rfl, _, rfl, bp, bc, nw, by rw [hno], by rw [hno]; exact ho⟩
  · have hl := f150_c m (pr := pr) (nr := nr) (cr := cr) rdm hv hY (R := [⟨true, q1, .cells (bkL b pm nm cm pr nr cr).toArray 109 (0, 0)⟩, ⟨true, q3, .cells [.slice none 0 0].toArray 120 (0, 0)⟩, ⟨true, q11, .deferred (some [])⟩, ⟨true, q12, rec0⟩]) ⟨none, 0, [], by simp; rfl, OwnS.nil⟩
    rw [show h ++ [⟨true, q1, .cells (bkL b pm nm cm pr nr cr).toArray 109 (0, 0)⟩, ⟨true, q3, .cells [.slice none 0 0].toArray 120 (0, 0)⟩, ⟨true, q11, .deferred (some [])⟩, ⟨true, q12, rec0⟩] = h ++ [⟨true, q1, .cells (bkL b pm nm cm pr nr cr).toArray 109 (0, 0)⟩, ⟨true, q3, .cells [.slice none 0 0].toArray 120 (0, 0)⟩] ++ [⟨true, q11, .deferred (some [])⟩, ⟨true, q12, rec0⟩] by simp] at hl
    refine CallF.mono hl ?_
    rintro v h' ⟨rfl, R', rfl, bp, bc, nw, rfl, ho⟩; subst hrec
    rw [good_boats] at ho ⊢
    apply run_endRange (F := h ++ [⟨true, q1, .cells (bkL b pm nm cm pr nr cr).toArray 109 (0, 0)⟩, ⟨true, q3, .cells [.slice bp (boatsOf b).length bc].toArray 120 (0, 0)⟩, ⟨true, q11, .deferred (some [])⟩]) (E := nw)
    case hh =>
      simp only [List.append_assoc, List.cons_append, List.nil_append]
      rfl
    case hst => exact .inl rfl
    refine run_inBlock ?_; refine rs2 (by kernel_rfl) ?_; refine k_ldh rfl zq ?_; refine aq rfl ?_; refine run_ret rfl ?_; refine run_collected (F := h ++ [⟨true, q1, .cells (bkL b pm nm cm pr nr cr).toArray 109 (0, 0)⟩, ⟨true, q3, .cells [.slice bp (boatsOf b).length bc].toArray 120 (0, 0)⟩]) (E := nw) (by simp) ?_; refine run_res (h ++ nw) rfl Tryz.func104 rfl weakSub ?_; refine hK _ _ ?_
    exact ⟨nw, rfl, ho⟩
section
variable {P : Program} {B : Array Obj} {m : Md P B} {ops : Array Oper} {l l' : List Value} {S h h' H : Hp} {C : List Value → Hp → Prop} {i : Nat} {kd : Kd} {r : List (Nat × Kd)}
  {d : Option Tmp} {ty : TypeId} {pos : String} {af : Array Edge} {g : Option (Nat × Bool)}
theorem k_eqH {t u e : Nat} {x y : Operand} {xs ys : List Int} (ho : ops[i]? = some ⟨d, .binOp .eql t x y u, ty, pos, af, g⟩) (hw : Wt ops l g) [KHeap kd S h H] [ex : OpV l x (.agg (hts xs).toArray)] [ey : OpV l y (.agg (hts ys).toArray)] [ArrayT P t 7 e 1] [Scal P e]
    (he : P.underlying e = some (.int .i64)) (hg : P.eqGuardType P.depth t = false) [PutV l d (.bool (decide (padL xs = padL ys))) l'] (q : RegK m S ops r l' h C) : RegK m S ops ((i, kd) :: r) l h C :=
  k_eqA (ex := ex) (ey := ey) (n := 7) ho hw he hg (padL_length _) (padL_length _) q
end
theorem mem_boats {b : Bk} {l : List Int} (hl : l.length = b.marks.length) : l ∈ boatsOf b ↔ boat b l := by
  rw [boatsOf, List.mem_filter, decide_eq_true_iff]; refine ⟨fun h => h.2, fun h => ⟨?_, h⟩⟩
  have := (mem_linesOf (ms := b.marks) (k := b.marks.length) (l := l) (Nat.le_refl _)).2 ⟨hl, fun i hi => h.1 i (by omega)⟩
  rwa [List.take_length] at this
theorem boats_len {b : Bk} {l : List Int} (h : l ∈ boatsOf b) : l.length = b.marks.length := (line_of (boat_line h)).1
theorem boats_small {b : Bk} (hv : Valid b) {l : List Int} (h : l ∈ boatsOf b) : Small 959 l := line_small hv (boat_line h)
theorem callB105 : callB Tryz.prog 105 = true := by kernel_rfl
theorem f105_c (m : Md Tryz.prog B) (h : Hp) {o ln : List Int} {q : Nat} (rd : RdN B h q 0 (hts ln)) : FnC m 105 #[htV o, .pointer (some ⟨q, 0, none⟩)] h fun v h' => h' = h ∧ IsB (padL o = padL ln) v := by
  refine fn_enter Tryz.func105 rfl rfl (l := [htV o, .pointer (some ⟨q, 0, none⟩), undef, undef, undef, undef, undef]) rfl ?_
  intro cf cs K hK
  refine rs2 (by kernel_rfl) ?_; refine k_box rfl zq (fun q2 => k_hp (k_put ?_)); refine aq rfl ?_; refine rs4 (by kernel_rfl) ?_; refine k_ldA rfl zq ?_; refine k_ldN (vs := hts ln) rfl zq (hts_length _) (fun j hj => (rd j hj).keeps SubH.sub) ?_; refine k_eqH (e := 3) rfl zq (by kernel_rfl) (by kernel_rfl) ?_; refine aq rfl ?_; refine run_ret rfl ?_; refine run_res (h) rfl Tryz.func105 rfl weakSub ?_; refine hK _ _ ?_
  refine ⟨rfl, ?_⟩
  by_cases e : padL o = padL ln
  · rw [decide_eq_true e]; exact IsB.yes e
  · rw [decide_eq_false e]; exact IsB.no e
theorem f32_c (m : Md Tryz.prog B) (h : Hp) {b : Bk} {pm : Option Addr} {nm cm : Nat} {pr : Option Addr} {nr cr : Nat} (rdm : RdS B h 2 (.slice pm nm cm) nm (encs b.marks)) (hm : nm ≤ 1000) (rdr : RdS B h 4 (.slice pr nr cr) nr (encs b.rules)) (hr : nr ≤ 1000) {p : Option Addr} {n c : Nat} {xs : List Int} (rd : RdS B h 1 (.slice p n c) n (ints xs)) (hn : n ≤ 1000) : FnC m 32 #[bkV b pm nm cm pr nr cr, .slice p n c] h fun v h' => h' = h ∧ ∃ w, v = .tuple [w, .int .i64 (handedS b xs)].toArray ∧ IsB (handedS b xs = 0 ∧ boat b xs) w := by
  refine fn_enter Tryz.func32 rfl rfl (l := (bkV b pm nm cm pr nr cr) :: (.slice p n c) :: uu23) rfl ?_
  intro cf cs K hK
  refine rs3 (by kernel_rfl) ?_; refine k_box rfl zq (fun q2 => k_hp (k_put ?_)); refine k_as rfl zq ?_; refine aq rfl ?_; refine rs12 (by kernel_rfl) ?_; refine k_ldA rfl zq ?_; refine mq rfl ?_; refine k_calP (Post := Handed (handedS b xs) (bkV b pm nm cm pr nr cr) xs) rfl zq (by kernel_rfl) (fun H' hH => f93_c m H' (rdm.keeps (sq hH)) hm (rdr.keeps (sq hH)) hr (rd.keeps (sq hH)) hn) ?_; rintro v ⟨x1, x2, x3, y1, y2, y3, y4, y5, y6, yl, rfl, hz⟩; refine k_put ?_; refine mq rfl ?_; refine k_ext0 rfl zq ?_; refine k_ext1 rfl zq ?_; refine k_ext2 rfl zq ?_; refine k_new rfl zq (fun q7 => k_hp (k_put ?_)); refine k_new rfl zq (fun q7 => k_hp (k_put ?_)); refine k_stA rfl zq rfl ?_; refine k_stA rfl zq (by first | rfl | exact hts_length _) ?_; refine aq rfl ?_; refine run_seq ?_; refine rs2 (by kernel_rfl) ?_; refine mq rfl ?_; refine k_neqS rfl zq (fun hc => ?_) (fun hc => ?_)
  · refine k_nil ?_; refine run_yes ?_; refine rs3 (by kernel_rfl) ?_; refine mq rfl ?_; refine k_as rfl zq ?_; refine aq rfl ?_; refine run_ret rfl ?_; refine run_res (h) rfl Tryz.func32 rfl weakSub ?_; refine hK _ _ ?_
    first
      | exact ⟨rfl, _, rfl, IsB.no (fun e => absurd e.1 (by omega))⟩
      | (refine ⟨rfl, _, by rw [hz0], IsB.yes ⟨hz0, ?_⟩⟩
         obtain ⟨i, h1, h2⟩ := hc
         have hmem : (boatsOf b).getD i default ∈ boatsOf b := mem_getDR.2 ⟨i, h1, rfl⟩
         have hll := boats_len hmem
         have h3 := (padL_eq (l := (boatsOf b).getD i default) (m := yl) (by omega) (by omega)).1 h2
         rw [← h3]; exact (mem_boats hll).1 hmem)
      | (refine ⟨rfl, _, by rw [hz0], IsB.no (fun e => ?_)⟩
         obtain ⟨i, h1, h2⟩ := mem_getDR.1 ((mem_boats hln).2 e.2)
         exact hc ⟨i, h1, by rw [h2]⟩)
  · refine k_nil ?_; refine run_no ?_; refine run_skip ?_; refine rs5 (by kernel_rfl) ?_; have hz0 : handedS b xs = 0 := by omega
    obtain ⟨hz1, rfl⟩ := hz hz0
    injection hz1 with hz1
    injection hz1 with hz1
    injection hz1 with z1 hz1; injection hz1 with z2 hz1; injection hz1 with z3 hz1; injection hz1 with z4 hz1; injection hz1 with z5 hz1
    injection z1 with _ z1; injection z2 with _ z2; injection z3 with _ z3; injection z4 with u1 u2 u3; injection z5 with u4 u5 u6
    subst z1 z2 z3 u1 u2 u3 u4 u5 u6
    obtain ⟨hv, hlo⟩ := hand_zero hz0
    have hln := (lineS_zero hlo).1
    have hml := rdm.elen (by decide)
    have h7 := hv.many
    have hsm := lineS_small hlo
    have hbl := boats_le hv
    refine k_ldA rfl zq ?_; refine k_calC rfl zq (by kernel_rfl) (Post := fun v nw => OwnS 112 7 v (boatsOf b).length (encs (boatsOf b)) nw) (fun H' hH => f104_c m H' (rdm.keeps (sq hH)) hm (rdr.keeps (sq hH)) hr hv) ?_; rintro v nw o; obtain ⟨bp, bc, rfl, _⟩ := o.len
    refine k_hpA (k_put ?_); refine k_fun rfl zq ?_; refine k_calP (Post := fun v => IsB _ v) rfl zq (by kernel_rfl) (fun H' hH => f103_c m H' (pr := fun i => padL ((boatsOf b).getD i default) = padL yl) (o.rd'.keeps hH) (by omega) callB105 (fun i hi K hK => by simpa using f105_c m K (o := (boatsOf b).getD i default) ((rdN_has (q := q7)).keeps (hH.trans hK)))) ?_; rintro v (⟨hc, rfl⟩ | ⟨hc, rfl⟩)
    · refine k_put ?_; refine aq rfl ?_; refine rs3 (by kernel_rfl) ?_; refine mq rfl ?_; refine k_as rfl zq ?_; refine aq rfl ?_; refine run_ret rfl ?_; refine run_res (h) rfl Tryz.func32 rfl weakSub ?_; refine hK _ _ ?_
      first
        | exact ⟨rfl, _, rfl, IsB.no (fun e => absurd e.1 (by omega))⟩
        | (refine ⟨rfl, _, by rw [hz0], IsB.yes ⟨hz0, ?_⟩⟩
           obtain ⟨i, h1, h2⟩ := hc
           have hmem : (boatsOf b).getD i default ∈ boatsOf b := mem_getDR.2 ⟨i, h1, rfl⟩
           have hll := boats_len hmem
           have h3 := (padL_eq (l := (boatsOf b).getD i default) (m := yl) (by omega) (by omega)).1 h2
           rw [← h3]; exact (mem_boats hll).1 hmem)
        | (refine ⟨rfl, _, by rw [hz0], IsB.no (fun e => ?_)⟩
           obtain ⟨i, h1, h2⟩ := mem_getDR.1 ((mem_boats hln).2 e.2)
           exact hc ⟨i, h1, by rw [h2]⟩)
    · refine k_put ?_; refine aq rfl ?_; refine rs3 (by kernel_rfl) ?_; refine mq rfl ?_; refine k_as rfl zq ?_; refine aq rfl ?_; refine run_ret rfl ?_; refine run_res (h) rfl Tryz.func32 rfl weakSub ?_; refine hK _ _ ?_
      first
        | exact ⟨rfl, _, rfl, IsB.no (fun e => absurd e.1 (by omega))⟩
        | (refine ⟨rfl, _, by rw [hz0], IsB.yes ⟨hz0, ?_⟩⟩
           obtain ⟨i, h1, h2⟩ := hc
           have hmem : (boatsOf b).getD i default ∈ boatsOf b := mem_getDR.2 ⟨i, h1, rfl⟩
           have hll := boats_len hmem
           have h3 := (padL_eq (l := (boatsOf b).getD i default) (m := yl) (by omega) (by omega)).1 h2
           rw [← h3]; exact (mem_boats hll).1 hmem)
        | (refine ⟨rfl, _, by rw [hz0], IsB.no (fun e => ?_)⟩
           obtain ⟨i, h1, h2⟩ := mem_getDR.1 ((mem_boats hln).2 e.2)
           exact hc ⟨i, h1, by rw [h2]⟩)
theorem f34_c (m : Md Tryz.prog B) (h : Hp) {b : Bk} {pm : Option Addr} {nm cm : Nat} {pr : Option Addr} {nr cr : Nat} (rdm : RdS B h 2 (.slice pm nm cm) nm (encs b.marks)) (hm : nm ≤ 1000) (rdr : RdS B h 4 (.slice pr nr cr) nr (encs b.rules)) (hr : nr ≤ 1000) : FnC m 34 #[bkV b pm nm cm pr nr cr] h fun v h' => h' = h ∧ v = .tuple [.int .i64 (if bookS b ≠ 0 then 0 else ((boatsOf b).length : Int)), .int .i64 (bookS b)].toArray := by
  refine fn_enter Tryz.func34 rfl rfl (l := (bkV b pm nm cm pr nr cr) :: uu13) rfl ?_
  intro cf cs K hK
  refine rs3 (by kernel_rfl) ?_; refine k_box rfl zq (fun q1 => k_hp (k_put ?_)); refine k_as rfl zq ?_; refine aq rfl ?_; refine run_seq ?_; refine rs3 (by kernel_rfl) ?_; refine k_ldA rfl zq ?_; refine k_calP (Post := fun v => v = _) rfl zq (by kernel_rfl) (fun H' hH => f21_c m H' (rdm.keeps (sq hH)) hm (rdr.keeps (sq hH)) hr) ?_; rintro v rfl; refine k_put ?_; refine aq rfl ?_; refine rs2 (by kernel_rfl) ?_; refine mq rfl ?_; refine k_neqS rfl zq (fun hc => ?_) (fun hc => ?_)
  · refine k_nil ?_; refine run_yes ?_; refine rs3 (by kernel_rfl) ?_; refine mq rfl ?_; refine k_as rfl zq ?_; refine aq rfl ?_; refine run_ret rfl ?_; refine run_res (h) rfl Tryz.func34 rfl weakSub ?_; refine hK _ _ ?_
    exact ⟨rfl, by rw [if_pos (by assumption)]⟩
  · refine k_nil ?_; refine run_no ?_; refine run_skip ?_; refine rs6 (by kernel_rfl) ?_; have hz0 : bookS b = 0 := by omega
    have hv := valid_of hz0
    have hbl := boats_le hv
    refine k_ldA rfl zq ?_; refine k_bld rfl zq ?_; refine k_calC rfl zq (by kernel_rfl) (Post := fun v nw => OwnS 112 7 v (boatsOf b).length (encs (boatsOf b)) nw) (fun H' hH => f104_c m H' (rdm.keeps (sq hH)) hm (rdr.keeps (sq hH)) hr hv) ?_; rintro v nw o; obtain ⟨bp, bc, rfl, _⟩ := o.len
    refine k_hpA (k_put ?_); refine k_len rfl zq ?_; refine k_as rfl zq ?_; refine aq rfl ?_; refine run_ret rfl ?_; refine run_res (h) rfl Tryz.func34 rfl weakSub ?_; refine hK _ _ ?_
    exact ⟨rfl, by rw [hz0, if_neg (fun e => e rfl)]⟩
theorem f120_c (m : Md Tryz.prog B) (h : Hp) {b : Bk} {pm : Option Addr} {nm cm : Nat} {pr : Option Addr} {nr cr : Nat} : FnC m 120 #[bkV b pm nm cm pr nr cr] h fun v h' => h' = h ∧ v = .int .i64 0 := by
  refine fn_enter Tryz.func120 rfl rfl (l := [bkV b pm nm cm pr nr cr, undef, undef]) rfl ?_
  intro cf cs K hK
  refine rs2 (by kernel_rfl) ?_; refine k_box rfl zq (fun q1 => k_hp (k_put ?_)); refine aq rfl ?_; refine rs1 (by kernel_rfl) ?_; refine aq rfl ?_; refine run_ret rfl ?_; refine run_res (h) rfl Tryz.func120 rfl weakSub ?_; refine hK _ _ ?_
  exact ⟨rfl, rfl⟩
theorem f108_c (m : Md Tryz.prog B) (h : Hp) {b : Bk} {pm : Option Addr} {nm cm : Nat} {pr : Option Addr} {nr cr : Nat} (hm : nm ≤ 1000) {q : Nat} {st : Int} (rd : Rd B h ⟨q, 0, none⟩ (.int .i64 st)) : FnC m 108 #[bkV b pm nm cm pr nr cr, .pointer (some ⟨q, 0, none⟩)] h fun v h' => h' = h ∧ v = .int .i64 (if 0 ≤ st ∧ st ≤ nm - 1 then 0 else 6) := by
  refine fn_enter Tryz.func108 rfl rfl (l := [bkV b pm nm cm pr nr cr, .pointer (some ⟨q, 0, none⟩), undef, undef, undef, undef, undef]) rfl ?_
  intro cf cs K hK
  refine rs2 (by kernel_rfl) ?_; refine k_box rfl zq (fun q2 => k_hp (k_put ?_)); refine aq rfl ?_; refine rs4 (by kernel_rfl) ?_; refine k_ldA rfl zq ?_; refine k_ld rfl zq (rd.keeps SubH.sub) ?_; refine k_calP (Post := fun v => v = _) rfl zq (by kernel_rfl) (fun H' hH => f109_c m H' _ _ _ _ _ _ _ _ _ _ (by omega)) ?_; rintro v rfl; refine k_put ?_; refine aq rfl ?_; refine run_ret rfl ?_; refine run_res (h) rfl Tryz.func108 rfl weakSub ?_; refine hK _ _ ?_
  exact ⟨rfl, rfl⟩
theorem f116_c (m : Md Tryz.prog B) (h : Hp) {b : Bk} {pm : Option Addr} {nm cm : Nat} {pr : Option Addr} {nr cr : Nat} (hm : nm ≤ 1000) {q : Nat} {st : Int} (rd : Rd B h ⟨q, 0, none⟩ (.int .i64 st)) : FnC m 116 #[bkV b pm nm cm pr nr cr, .pointer (some ⟨q, 0, none⟩)] h fun v h' => h' = h ∧ v = .int .i64 (if 1 ≤ st ∧ st ≤ nm - 2 then 0 else 6) := by
  refine fn_enter Tryz.func116 rfl rfl (l := (bkV b pm nm cm pr nr cr) :: (.pointer (some ⟨q, 0, none⟩)) :: uu8) rfl ?_
  intro cf cs K hK
  refine rs2 (by kernel_rfl) ?_; refine k_box rfl zq (fun q2 => k_hp (k_put ?_)); refine aq rfl ?_; refine run_seq ?_; refine run_seq ?_; refine run_draw [(0, .read), (1, .read), (2, .keep), (3, .pure), (4, .keep), (5, .pure)] (by kernel_rfl) (by kernel_rfl) (List.Sublist.refl _) ?_; refine k_ld rfl zq (rd.keeps SubH.sub) ?_; refine k_ldA rfl zq ?_; refine k_calP (Post := fun v => v = _) rfl zq (by kernel_rfl) (fun H' hH => f118_c m H' _ _ _ _ _ _ _ _ _) ?_; rintro v rfl; refine k_put ?_; refine k_sub rfl zq (by unfold In64; omega) ?_; refine k_calP (Post := fun v => IsB _ v) rfl zq (by kernel_rfl) (fun H' hH => f117_c m H' _ _ _) ?_; rintro v (⟨hc, rfl⟩ | ⟨hc, rfl⟩)
  · refine k_put ?_; refine k_notT rfl zq ?_; refine k_nil ?_; refine run_no ?_; refine run_skip ?_; refine rs1 (by kernel_rfl) ?_; refine aq rfl ?_; refine run_ret rfl ?_; refine run_res (h) rfl Tryz.func116 rfl weakSub ?_; refine hK _ _ ?_
    first | exact ⟨rfl, by rw [if_neg (by omega)]⟩ | exact ⟨rfl, by rw [if_pos (by omega)]⟩
  · refine k_put ?_; refine k_notF rfl zq ?_; refine k_nil ?_; refine run_yes ?_; refine rs1 (by kernel_rfl) ?_; refine aq rfl ?_; refine run_ret rfl ?_; refine run_res (h) rfl Tryz.func116 rfl weakSub ?_; refine hK _ _ ?_
    first | exact ⟨rfl, by rw [if_neg (by omega)]⟩ | exact ⟨rfl, by rw [if_pos (by omega)]⟩
theorem f155_c (m : Md Tryz.prog B) (h : Hp) {b : Bk} {pm : Option Addr} {nm cm : Nat} {pr : Option Addr} {nr cr : Nat} (rdm : RdS B h 2 (.slice pm nm cm) nm (encs b.marks)) (hm : nm ≤ 1000) {p : Option Addr} {n c : Nat} {xs : List Int} (rd : RdS B h 1 (.slice p n c) n (ints xs)) (hn : n ≤ 1000) {q : Nat} (rq : Rd B h ⟨q, 0, none⟩ (.slice p n c)) : FnC m 155 #[bkV b pm nm cm pr nr cr, .pointer (some ⟨q, 0, none⟩)] h fun v h' => h' = h ∧ v = .int .i64 (lineS b.marks.length xs) := by
  refine fn_enter Tryz.func155 rfl rfl (l := [bkV b pm nm cm pr nr cr, .pointer (some ⟨q, 0, none⟩), undef, undef, undef, undef, undef]) rfl ?_
  intro cf cs K hK
  refine rs2 (by kernel_rfl) ?_; refine k_box rfl zq (fun q2 => k_hp (k_put ?_)); refine aq rfl ?_; refine rs4 (by kernel_rfl) ?_; refine k_ldA rfl zq ?_; refine k_ld rfl zq (rq.keeps SubH.sub) ?_; refine k_calP (Post := fun v => v = _) rfl zq (by kernel_rfl) (fun H' hH => f142_c m H' (rdm.keeps (sq hH)) hm (rd.keeps (sq hH)) hn) ?_; rintro v rfl; refine k_put ?_; refine aq rfl ?_; refine run_ret rfl ?_; refine run_res (h) rfl Tryz.func155 rfl weakSub ?_; refine hK _ _ ?_
  exact ⟨rfl, rfl⟩
def Opened (b : Bk) (bv : Value) (s : Int) (nw : Hp) (v : Value) : Prop := ∃ x y z p1 n1 c1 p2 n2 c2 p3 n3 c3, v = .tuple [.agg [.int .i64 x, .int .i64 y, .int .i64 z, .slice p1 n1 c1, .slice p2 n2 c2, .slice p3 n3 c3].toArray, .int .i64 s].toArray ∧
  (s = 0 → bookV x y z (.slice p1 n1 c1) (.slice p2 n2 c2) = bv ∧ n3 = (boatsOf b).length ∧ n3 ≤ c3 ∧ ∀ {B : Array Obj}, RdS B nw 7 (.slice p3 n3 c3) n3 (encs (boatsOf b)))
theorem opened_no {b : Bk} {bv : Value} {s : Int} (h : s ≠ 0) : Opened b bv s [] (.tuple [.agg [.int .i64 0, .int .i64 0, .int .i64 0, .slice none 0 0, .slice none 0 0, .slice none 0 0].toArray, .int .i64 s].toArray) :=
  ⟨0, 0, 0, none, 0, 0, none, 0, 0, none, 0, 0, rfl, fun e => absurd e h⟩
theorem f107_c (m : Md Tryz.prog B) (h : Hp) {b : Bk} {pm : Option Addr} {nm cm : Nat} {pr : Option Addr} {nr cr : Nat} (rdm : RdS B h 2 (.slice pm nm cm) nm (encs b.marks)) (hm : nm ≤ 1000) (rdr : RdS B h 4 (.slice pr nr cr) nr (encs b.rules)) (hr : nr ≤ 1000) {fid : Nat} {fc cp : Array Value} {own : Int} (hcall : callB Tryz.prog fid = true) (hown : bookS b = 0 → ∀ H' : Hp, h.Sublist H' → FnC m fid (fc ++ [bkV b pm nm cm pr nr cr].toArray ++ cp) H' fun v h' => h' = H' ∧ v = .int .i64 own) : FnC m 107 #[bkV b pm nm cm pr nr cr, .func (.func fid) fc cp] h fun v h' => ∃ nw, h' = h ++ nw ∧ Opened b (bkV b pm nm cm pr nr cr) (openS b own) nw v := by
  refine fn_enter Tryz.func107 rfl rfl (l := (bkV b pm nm cm pr nr cr) :: (.func (.func fid) fc cp) :: uu32) rfl ?_
  intro cf cs K hK
  refine rs3 (by kernel_rfl) ?_; refine k_box rfl zq (fun q2 => k_hp (k_put ?_)); refine k_new rfl zq (fun q4 => k_hp (k_put ?_)); refine aq rfl ?_; refine run_seq ?_; refine rs3 (by kernel_rfl) ?_; refine k_ldA rfl zq ?_; refine k_calP (Post := fun v => v = _) rfl zq (by kernel_rfl) (fun H' hH => f21_c m H' (rdm.keeps (sq hH)) hm (rdr.keeps (sq hH)) hr) ?_; rintro v rfl; refine k_put ?_; refine aq rfl ?_; refine rs2 (by kernel_rfl) ?_; refine mq rfl ?_; refine k_neqS rfl zq (fun hc => ?_) (fun hc => ?_)
  · refine k_nil ?_; refine run_yes ?_; refine rs4 (by kernel_rfl) ?_; refine k_bld rfl zq ?_; refine mq rfl ?_; refine k_stA rfl zq rfl ?_; refine aq rfl ?_; refine run_ret rfl ?_; refine run_res (h) rfl Tryz.func107 rfl weakSub ?_; refine hK _ _ ?_
    have e : openS b own = bookS b := by rw [openS, if_pos (by assumption)]
    exact ⟨[], by simp, by rw [e]; exact opened_no (by assumption)⟩
  · refine k_nil ?_; refine run_no ?_; refine run_skip ?_; refine rs4 (by kernel_rfl) ?_; refine k_ldA rfl zq ?_; refine k_bld rfl zq ?_; refine k_new rfl zq (fun q7 => k_hp (k_put ?_)); refine k_stA rfl zq rfl ?_; refine k_nil ?_; refine run_seq ?_; refine rs4 (by kernel_rfl) ?_; refine mq rfl ?_; refine k_ldA rfl zq ?_; refine k_valP (Post := fun v => v = _) rfl zq hcall (fun H' hH => hown (by omega) H' (sq hH)) ?_; rintro v rfl; refine k_put ?_; refine aq rfl ?_; refine rs2 (by kernel_rfl) ?_; refine mq rfl ?_; refine k_neqS rfl zq (fun hc => ?_) (fun hc => ?_)
    · refine k_nil ?_; refine run_yes ?_; refine rs4 (by kernel_rfl) ?_; refine k_bld rfl zq ?_; refine mq rfl ?_; refine k_stA rfl zq rfl ?_; refine aq rfl ?_; refine run_ret rfl ?_; refine run_res (h) rfl Tryz.func107 rfl weakSub ?_; refine hK _ _ ?_
      have e : openS b own = own := by rw [openS, if_neg (by omega), if_pos (by assumption)]
      exact ⟨[], by simp, by rw [e]; exact opened_no (by assumption)⟩
    · refine k_nil ?_; refine run_no ?_; refine run_skip ?_; refine rs3 (by kernel_rfl) ?_; refine k_ldA rfl zq ?_; have hv : Valid b := valid_of (by omega)
      have hbl := boats_le hv
      refine k_calC rfl zq (by kernel_rfl) (Post := fun v nw => OwnS 112 7 v (boatsOf b).length (encs (boatsOf b)) nw) (fun H' hH => f104_c m H' (rdm.keeps (sq hH)) hm (rdr.keeps (sq hH)) hr hv) ?_; rintro v nw o; obtain ⟨bp, bc, rfl, _⟩ := o.len
      refine k_hpA (k_put ?_); refine aq rfl ?_; refine run_seq ?_; refine rs3 (by kernel_rfl) ?_; refine mq rfl ?_; refine k_len rfl zq ?_; refine k_eqlS rfl zq (fun hc => ?_) (fun hc => ?_)
      · refine k_nil ?_; refine run_yes ?_; refine rs3 (by kernel_rfl) ?_; refine k_bld rfl zq ?_; refine k_stA rfl zq rfl ?_; refine aq rfl ?_; refine run_ret rfl ?_; refine run_res (h) rfl Tryz.func107 rfl weakSub ?_; refine hK _ _ ?_
        have e : openS b own = 9 := by rw [openS, if_neg (by omega), if_neg (by omega), if_pos (List.length_eq_zero_iff.1 (by omega))]
        exact ⟨[], by simp, by rw [e]; exact opened_no (by decide)⟩
      · refine k_nil ?_; refine run_no ?_; refine run_skip ?_; refine rs5 (by kernel_rfl) ?_; refine k_ldA rfl zq ?_; refine mq rfl ?_; refine k_bld rfl zq ?_; refine k_stA rfl zq rfl ?_; refine aq rfl ?_; refine run_ret rfl ?_; refine run_res (h ++ nw) rfl Tryz.func107 rfl weakSub ?_; refine hK _ _ ?_
        have e : openS b own = 0 := by rw [openS, if_neg (by omega), if_neg (by omega), if_neg (fun e => hc (by rw [e]; rfl))]
        exact ⟨nw, rfl, _, _, _, _, _, _, _, _, _, _, _, _, by rw [e], fun _ => ⟨rfl, rfl, o.cap, o.rd (List.Sublist.refl _)⟩⟩
def Opened2 (b : Bk) (bv : Value) (s : Int) (xs : List Int) (nw : Hp) (v : Value) : Prop := ∃ x y z p1 n1 c1 p2 n2 c2 p3 n3 c3, v = .tuple [.agg [.int .i64 x, .int .i64 y, .int .i64 z, .slice p1 n1 c1, .slice p2 n2 c2, .slice p3 n3 c3].toArray, htV xs, .int .i64 s].toArray ∧
  (s = 0 → bookV x y z (.slice p1 n1 c1) (.slice p2 n2 c2) = bv ∧ n3 = (boatsOf b).length ∧ n3 ≤ c3 ∧ ∀ {B : Array Obj}, RdS B nw 7 (.slice p3 n3 c3) n3 (encs (boatsOf b)))
theorem callB155 : callB Tryz.prog 155 = true := by kernel_rfl
theorem callB108 : callB Tryz.prog 108 = true := by kernel_rfl
theorem callB116 : callB Tryz.prog 116 = true := by kernel_rfl
theorem callB120 : callB Tryz.prog 120 = true := by kernel_rfl
theorem f124_c (m : Md Tryz.prog B) (h : Hp) {b : Bk} {pm : Option Addr} {nm cm : Nat} {pr : Option Addr} {nr cr : Nat} (rdm : RdS B h 2 (.slice pm nm cm) nm (encs b.marks)) (hm : nm ≤ 1000) (rdr : RdS B h 4 (.slice pr nr cr) nr (encs b.rules)) (hr : nr ≤ 1000) {p : Option Addr} {n c : Nat} {xs : List Int} (rd : RdS B h 1 (.slice p n c) n (ints xs)) (hn : n ≤ 1000) : FnC m 124 #[bkV b pm nm cm pr nr cr, .slice p n c] h fun v h' => ∃ nw, h' = h ++ nw ∧ Opened2 b (bkV b pm nm cm pr nr cr) (openS b (lineS b.marks.length xs)) xs nw v := by
  refine fn_enter Tryz.func124 rfl rfl (l := (bkV b pm nm cm pr nr cr) :: (.slice p n c) :: uu17) rfl ?_
  intro cf cs K hK
  refine rs5 (by kernel_rfl) ?_; refine k_box rfl zq (fun q2 => k_hp (k_put ?_)); refine k_box rfl zq (fun q3 => k_hp (k_put ?_)); refine k_new rfl zq (fun q4 => k_hp (k_put ?_)); refine k_new rfl zq (fun q5 => k_hp (k_put ?_)); refine aq rfl ?_; refine rs9 (by kernel_rfl) ?_; refine k_ldA rfl zq ?_; refine k_fun rfl zq ?_; refine k_calC rfl zq (by kernel_rfl) (Post := fun v nw => Opened b (bkV b pm nm cm pr nr cr) (openS b (lineS b.marks.length xs)) nw v) (fun H' hH => f107_c m H' (rdm.keeps (sq hH)) hm (rdr.keeps (sq hH)) hr callB155 (fun hbz K hK => by simpa using f155_c m K (rdm.keeps (SubH.sub.trans (hH.trans hK))) hm (rd.keeps (SubH.sub.trans (hH.trans hK))) hn ((rd_has (q := q3)).keeps (hH.trans hK)))) ?_; rintro v nw ⟨x1, x2, x3, y1, y2, y3, y4, y5, y6, z1, z2, z3, rfl, hz⟩; refine k_hpA (k_put ?_); refine mq rfl ?_; refine k_ext0 rfl zq ?_; refine k_ext1 rfl zq ?_; refine k_new rfl zq (fun q7 => k_hp (k_put ?_)); refine k_stA rfl zq rfl ?_; refine aq rfl ?_; refine run_seq ?_; refine run_draw [(3, .pure), (0, .read), (1, .read), (2, .keep), (4, .free), (5, .free), (6, .pure)] (by kernel_rfl) (by kernel_rfl) (List.Sublist.refl _) ?_; refine mq rfl ?_; refine k_ldA rfl zq ?_; refine k_ldh rfl zq ?_; refine k_calP (Post := fun v => v = _) rfl zq (by kernel_rfl) (fun H' hH => f143_c m H' (rd.keeps (sq hH)) hn) ?_; rintro v rfl; refine k_put ?_; refine k_stA rfl zq rfl ?_; refine k_stA rfl zq (by first | rfl | exact hts_length _) ?_; refine aq rfl ?_; refine run_ret rfl ?_; refine run_res (h ++ nw) rfl Tryz.func124 rfl weakSub ?_; refine hK _ _ ?_
  exact ⟨nw, rfl, _, _, _, _, _, _, _, _, _, _, _, _, rfl, hz⟩
theorem f181_c (m : Md Tryz.prog B) (h : Hp) (x : Int) : FnC m 181 #[.int .i64 x] h fun v h' => h' = h ∧ v = .bool false := by
  refine fn_enter Tryz.func181 rfl rfl (l := [.int .i64 x, undef, undef, undef, undef, undef]) rfl ?_
  intro cf cs K hK
  refine rs1 (by kernel_rfl) ?_; refine aq rfl ?_; refine rs4 (by kernel_rfl) ?_; refine mq rfl ?_; refine mq rfl ?_; refine k_neq rfl zq ?_; refine aq rfl ?_; refine run_ret rfl ?_; refine run_res (h) rfl Tryz.func181 rfl weakSub ?_; refine hK _ _ ?_
  exact ⟨rfl, by simp⟩
theorem f169_c (m : Md Tryz.prog B) (h : Hp) (x y : Int) : FnC m 169 #[.int .i64 x, .int .i64 y] h fun v h' => h' = h ∧ IsB (x < y) v := by
  refine fn_enter Tryz.func169 rfl rfl (l := (.int .i64 x) :: (.int .i64 y) :: uu15) rfl ?_
  intro cf cs K hK
  refine rs1 (by kernel_rfl) ?_; refine aq rfl ?_; refine run_seq ?_; refine run_region [(0, .free), (1, .free), (2, .free), (3, .free), (4, .free), (5, .free), (6, .free), (7, .free), (8, .free), (9, .free), (10, .free), (11, .free), (12, .free)] (by kernel_rfl) (by kernel_rfl) ?_; refine mq rfl ?_; refine k_calP (Post := fun v => v = _) rfl zq (by kernel_rfl) (fun H' hH => f181_c m H' _) ?_; rintro v rfl; refine k_put ?_; refine mq rfl ?_; refine k_off rfl rfl ?_; refine k_off rfl rfl ?_; refine k_off rfl rfl ?_; refine k_pickF rfl zq ?_; refine mq rfl ?_; refine k_mv rfl rfl ?_; refine k_mv rfl rfl ?_; refine k_lssS rfl rfl (fun hc => ?_) (fun hc => ?_)
  · refine k_pickF rfl zq ?_; refine aq rfl ?_; refine run_ret rfl ?_; refine run_res (h) rfl Tryz.func169 rfl weakSub ?_; refine hK _ _ ?_
    first | exact ⟨rfl, IsB.yes (by assumption)⟩ | exact ⟨rfl, IsB.no (by omega)⟩
  · refine k_pickF rfl zq ?_; refine aq rfl ?_; refine run_ret rfl ?_; refine run_res (h) rfl Tryz.func169 rfl weakSub ?_; refine hK _ _ ?_
    first | exact ⟨rfl, IsB.yes (by assumption)⟩ | exact ⟨rfl, IsB.no (by omega)⟩
def Ins (ys : List Int) (a i j : Nat) : Prop := (∀ p q, a ≤ p → p < q → q ≤ i → p ≠ j → q ≠ j → ys.getD p 0 ≤ ys.getD q 0) ∧ (∀ q, j < q → q ≤ i → ys.getD j 0 ≤ ys.getD q 0)
theorem Ins.start {ys : List Int} {a i : Nat} (h : SortR ys a i) : Ins ys a i i := ⟨fun p q h1 h2 h3 h4 h5 => h p q h1 h2 (by omega), fun q h1 h2 => by omega⟩
theorem Ins.stop {ys : List Int} {a i j : Nat} (h : Ins ys a i j) (hj : j = a ∨ (a < j ∧ ys.getD (j - 1) 0 ≤ ys.getD j 0)) (haj : a ≤ j) (hji : j ≤ i) : SortR ys a (i + 1) := fun p q h1 h2 h3 => by
  by_cases e1 : p = j
  · subst e1; exact h.2 q h2 (by omega)
  · by_cases e2 : q = j
    · subst e2
      rcases hj with hj | ⟨hj, hle⟩
      · omega
      · by_cases e3 : p = q - 1
        · subst e3; exact hle
        · have := h.1 p (q - 1) h1 (by omega) (by omega) e1 (by omega)
          omega
    · exact h.1 p q h1 h2 (by omega) e1 e2
theorem Ins.step {ys : List Int} {a i j : Nat} (h : Ins ys a i j) (haj : a < j) (hji : j ≤ i) (hi : i < ys.length) (hlt : ys.getD j 0 < ys.getD (j - 1) 0) : Ins (swapL ys j (j - 1)) a i (j - 1) := by
  have g : ∀ k, (swapL ys j (j - 1)).getD k 0 = if k = j - 1 then ys.getD j 0 else if k = j then ys.getD (j - 1) 0 else ys.getD k 0 := fun k => swapL_getD (by omega) (by omega)
  refine ⟨fun p q h1 h2 h3 h4 h5 => ?_, fun q h1 h2 => ?_⟩
  · rw [g, g, if_neg h4, if_neg h5]; by_cases e1 : p = j
    · subst e1
      rw [if_pos rfl, if_neg (by omega)]; exact h.1 (p - 1) q (by omega) (by omega) h3 (by omega) (by omega)
    · rw [if_neg e1]; by_cases e2 : q = j
      · subst e2; rw [if_pos rfl]; exact h.1 p (q - 1) h1 (by omega) (by omega) e1 (by omega)
      · rw [if_neg e2]; exact h.1 p q h1 h2 h3 e1 e2
  · rw [g, g, if_pos rfl, if_neg (by omega)]; by_cases e2 : q = j
    · subst e2; rw [if_pos rfl]; omega
    · rw [if_neg e2]; exact h.2 q (by omega) h2
theorem swapL_at {ys : List Int} {i j : Nat} : (ys.set i (ys.getD j 0)).set j (ys.getD i 0) = swapL ys i j := rfl
theorem f163_c (m : Md Tryz.prog B) (h : Hp) {bk n c : Nat} {xs : List Int} {junk : List Value} (hl : xs.length = n) (hn : n ≤ 100000) (a b : Nat) (hab : a ≤ b) (hb : b ≤ n) : FnC m 163 #[.slice (some ⟨bk, 0, none⟩) n c, .int .i64 (a : Int), .int .i64 (b : Int)] (h ++ [blkC bk xs junk]) fun v h' => v = .tuple [].toArray ∧ ∃ ys, h' = h ++ [blkC bk ys junk] ∧ Sw a b xs ys ∧ SortR ys a b := by
  refine fn_enter Tryz.func163 rfl rfl (l := (.slice (some ⟨bk, 0, none⟩) n c) :: (.int .i64 (a : Int)) :: (.int .i64 (b : Int)) :: uu46) rfl ?_
  intro cf cs K hK
  refine rs3 (by kernel_rfl) ?_; refine mq rfl ?_; refine k_add rfl zq (by unfold In64; omega) ?_; refine aq rfl ?_; refine run_block ?_; refine run_loop (fun nn l h' => ∃ (i : Nat) (ys : List Int), nn = b - i ∧ (a + 1 ≤ i) ∧ (i ≤ max (a + 1) b) ∧ (Sw a b xs ys) ∧ (SortR ys a i) ∧ (∃ U : Nat → Value, l = [.slice (some ⟨bk, 0, none⟩) n c, .int .i64 (a : Int), .int .i64 (b : Int), U 3, U 4, U 5, .int .i64 (i : Int), U 7, U 8, U 9, U 10, U 11, U 12, U 13, U 14, U 15, U 16, U 17, U 18, U 19, U 20, U 21, U 22, U 23, U 24, U 25, U 26, U 27, U 28, U 29, U 30, U 31, U 32, U 33, U 34, U 35, U 36, U 37, U 38, U 39, U 40, U 41, U 42, U 43, U 44, U 45, U 46, U 47, U 48]) ∧ h ++ [blkC bk ys junk] = h') _ ⟨a + 1, xs, rfl, by omega, by omega, .refl _, fun p q h1 h2 h3 => by omega, exU rfl, rfl⟩ ?_; rintro nn l h' ⟨i, ys, rfl, hi1, hi2, hsw, hso, ⟨U, rfl⟩, rfl⟩ hnext1; have hyl := hsw.length
  refine run_seq ?_; refine rs3 (by kernel_rfl) ?_; refine mq rfl ?_; refine mq rfl ?_; refine k_lssS rfl zq (fun hc => ?_) (fun hc => ?_)
  · refine k_nil ?_; refine run_yes ?_; refine run_skip ?_; refine run_seq ?_; refine run_block ?_; refine rs2 (by kernel_rfl) ?_; refine mq rfl ?_; refine aq rfl ?_; refine run_block ?_; refine run_loop (fun nn l h' => ∃ (j : Nat) (zs : List Int), nn = j + 1 ∧ (a ≤ j) ∧ (j ≤ i) ∧ (Sw a b xs zs) ∧ (Ins zs a i j) ∧ (∃ U : Nat → Value, l = [.slice (some ⟨bk, 0, none⟩) n c, .int .i64 (a : Int), .int .i64 (b : Int), U 3, U 4, U 5, .int .i64 (i : Int), .int .i64 (j : Int), U 8, U 9, U 10, U 11, U 12, U 13, U 14, U 15, U 16, U 17, U 18, U 19, U 20, U 21, U 22, U 23, U 24, U 25, U 26, U 27, U 28, U 29, U 30, U 31, U 32, U 33, U 34, U 35, U 36, U 37, U 38, U 39, U 40, U 41, U 42, U 43, U 44, U 45, U 46, U 47, U 48]) ∧ h ++ [blkC bk zs junk] = h') _ ⟨i, ys, rfl, by omega, by omega, hsw, Ins.start hso, exU rfl, rfl⟩ ?_; rintro nn l h' ⟨j, zs, rfl, hj1, hj2, hzw, hin, ⟨U, rfl⟩, rfl⟩ hnext2; have hzl := hzw.length
    refine run_seq ?_; refine run_seq ?_; refine run_draw [(0, .pure), (1, .pure), (2, .pure), (3, .pure), (4, .pure), (5, .pure), (6, .pure), (8, .pure), (9, .pure), (10, .pure), (11, .pure), (7, .read), (12, .read), (13, .keep), (14, .pure)] (by kernel_rfl) (by kernel_rfl) (List.Sublist.refl _) ?_; refine mq rfl ?_; refine mq rfl ?_; refine k_gtrS rfl zq (fun hc => ?_) (fun hc => ?_)
    · refine mq rfl ?_; refine k_mv rfl rfl ?_; refine k_mv rfl rfl ?_; refine k_ixs rfl rfl (by first | rfl | assumption) (by omega) (by omega) ?_; refine k_mv rfl rfl ?_; refine k_mv rfl rfl ?_; refine k_sub rfl rfl (by unfold In64; omega) ?_; refine k_ixs rfl rfl (by first | rfl | assumption) (by omega) (by omega) ?_; refine k_ld rfl rfl (rd_blkI j rfl (by omega)) ?_; refine k_ld rfl rfl (rd_blkI (j - 1) (by omega) (by omega)) ?_; refine k_calP (Post := fun v => IsB _ v) rfl rfl (by kernel_rfl) (fun H' hH => f169_c m H' _ _) ?_; rintro v (⟨hc, rfl⟩ | ⟨hc, rfl⟩)
      · refine k_put ?_; refine k_pickT rfl zq ?_; refine k_nil ?_; refine run_yes ?_; refine run_skip ?_; refine run_seq ?_; refine run_block ?_; refine run_draw [(0, .pure), (1, .pure), (2, .pure), (3, .pure), (4, .pure), (5, .pure), (6, .pure), (7, .pure), (8, .pure), (10, .pure), (11, .pure), (12, .pure), (9, .read), (13, .read), (14, .pure), (15, .free), (16, .pure), (17, .free)] (by kernel_rfl) (by kernel_rfl) (List.Sublist.refl _) ?_; refine mq rfl ?_; refine mq rfl ?_; refine mq rfl ?_; refine mq rfl ?_; refine k_sub rfl zq (by unfold In64; omega) ?_; refine mq rfl ?_; refine mq rfl ?_; refine k_sub rfl zq (by unfold In64; omega) ?_; refine k_ixs rfl zq (by first | rfl | assumption) (by omega) (by omega) ?_; refine mq rfl ?_; refine mq rfl ?_; refine k_ixs rfl zq (by first | rfl | assumption) (by omega) (by omega) ?_; refine k_ld rfl zq (rd_blkI (j - 1) (by omega) (by omega)) ?_; refine k_ld rfl zq (rd_blkI j rfl (by omega)) ?_; refine k_ixs rfl zq (by first | rfl | assumption) (by omega) (by omega) ?_; haveI hs1 := setSeg_ints (xs := zs) (junk := junk) (v := zs.getD (j - 1) 0) (i := (j : Int)) (k := j) rfl (by omega)
        refine k_st1 rfl zq ?_; refine k_ixs rfl zq (by first | rfl | assumption) (by omega) (by omega) ?_; haveI hs2 := setSeg_ints (xs := zs.set j (zs.getD (j - 1) 0)) (junk := junk) (v := zs.getD j 0) (i := (j : Int) - 1) (k := j - 1) (by omega) (by simp; omega)
        refine k_st1 rfl zq ?_; rw [swapL_at]; refine k_nil ?_; refine run_inBlock ?_; refine rr3 (by kernel_rfl) ?_; refine mq rfl ?_; refine k_sub rfl zq (by unfold In64; omega) ?_; refine aq rfl ?_; have ej : (j : Int) - 1 = ((j - 1 : Nat) : Int) := by omega
        rw [ej]; exact m.weak weakSub (hnext2 _ _ _ (by omega) ⟨j - 1, swapL zs j (j - 1), rfl, by omega, by omega, .step j (j - 1) ⟨by omega, by omega⟩ ⟨by omega, by omega⟩ hzw, hin.step (by omega) (by omega) (by omega) (by omega), exU rfl, rfl⟩)
      · refine k_put ?_; refine k_pickT rfl zq ?_; refine k_nil ?_; refine run_no ?_; refine run_exit rfl ?_; refine run_inBlock ?_; refine rr3 (by kernel_rfl) ?_; refine mq rfl ?_; refine k_add rfl zq (by unfold In64; omega) ?_; refine aq rfl ?_; exact m.weak weakSub (hnext1 _ _ _ (by omega) ⟨i + 1, zs, rfl, by omega, by omega, hzw, hin.stop (by omega) (by omega) (by omega), exU rfl, rfl⟩)
    · refine mq rfl ?_; refine k_off rfl rfl ?_; refine k_off rfl rfl ?_; refine k_off rfl rfl ?_; refine k_off rfl rfl ?_; refine k_off rfl rfl ?_; refine k_off rfl rfl ?_; refine k_off rfl rfl ?_; refine k_off rfl rfl ?_; refine k_off rfl rfl ?_; refine k_off rfl rfl ?_; refine k_pickF rfl zq ?_; refine k_nil ?_; refine run_no ?_; refine run_exit rfl ?_; refine run_inBlock ?_; refine rr3 (by kernel_rfl) ?_; refine mq rfl ?_; refine k_add rfl zq (by unfold In64; omega) ?_; refine aq rfl ?_; exact m.weak weakSub (hnext1 _ _ _ (by omega) ⟨i + 1, zs, rfl, by omega, by omega, hzw, hin.stop (by omega) (by omega) (by omega), exU rfl, rfl⟩)
  · refine k_nil ?_; refine run_no ?_; refine run_exit rfl ?_; refine run_end rfl ?_; refine run_res (h ++ [blkC bk ys junk]) rfl Tryz.func163 rfl weakSub ?_; refine hK _ _ ?_
    refine ⟨rfl, ys, rfl, hsw, fun p q h1 h2 h3 => ?_⟩
    by_cases e : a < b
    · exact hso p q h1 h2 (by omega)
    · omega
theorem f173_c (m : Md Tryz.prog B) (h : Hp) (x : Int) (hx : 0 ≤ x ∧ x < 65536) : FnC m 173 #[.int .u64 x] h fun v h' => h' = h ∧ ∃ k : Int, v = .int .i64 k ∧ 0 ≤ k ∧ k ≤ 1000 := by
  refine fn_enter Tryz.func173 rfl rfl (l := (.int .u64 x) :: uu24) rfl ?_
  intro cf cs K hK
  refine rs1 (by kernel_rfl) ?_; refine aq rfl ?_; refine run_seq ?_; refine rs2 (by kernel_rfl) ?_; refine mq rfl ?_; refine k_geqS rfl zq (fun hc => ?_) (fun hc => ?_)
  · exfalso; omega
  · refine k_nil ?_; refine run_no ?_; refine run_skip ?_; refine run_seq ?_; refine rs2 (by kernel_rfl) ?_; refine mq rfl ?_; refine k_geqS rfl zq (fun hc => ?_) (fun hc => ?_)
    · exfalso; omega
    · refine k_nil ?_; refine run_no ?_; refine run_skip ?_; refine run_seq ?_; refine rs2 (by kernel_rfl) ?_; refine mq rfl ?_; refine k_geqS rfl zq (fun hc => ?_) (fun hc => ?_)
      · refine k_nil ?_; refine run_yes ?_; refine rs3 (by kernel_rfl) ?_; refine mq rfl ?_; have hq : x.fdiv (2 ^ (min (8 : Int).toNat IntKind.u64.bits)) = x / 256 := by
          rw [Int.fdiv_eq_ediv_of_nonneg _ (by decide)]; rfl
        refine k_shr (x / 256) rfl zq (by decide) hq ?_; refine aq rfl ?_; refine rr3 (by kernel_rfl) ?_; refine mq rfl ?_; refine k_add rfl zq (by unfold In64; omega) ?_; refine aq rfl ?_; refine rs7 (by kernel_rfl) ?_; refine mq rfl ?_; refine mq rfl ?_; first
          | refine k_conv rfl zq (by kernel_rfl) (n' := x) (by unfold IntKind.wrap; simp [IntKind.bits, IntKind.signed]; omega) ?_
          | refine k_conv rfl zq (by kernel_rfl) (n' := x / 256) (by unfold IntKind.wrap; simp [IntKind.bits, IntKind.signed]; omega) ?_
        refine k_ixS (n := 256) rfl zq (by kernel_rfl) (by kernel_rfl) (by omega) (by omega) (fun b8 => k_put ?_); have hb8 := b8.toNat_lt
        refine k_conv rfl zq (by kernel_rfl) (n' := (b8.toNat : Int)) (by unfold IntKind.wrap; simp [IntKind.bits, IntKind.signed]; omega) ?_; refine k_add rfl zq (by unfold In64; omega) ?_; refine aq rfl ?_; refine run_ret rfl ?_; refine run_res (h) rfl Tryz.func173 rfl weakSub ?_; refine hK _ _ ?_
        exact ⟨rfl, _, rfl, by omega, by omega⟩
      · refine k_nil ?_; refine run_no ?_; refine run_skip ?_; refine rs7 (by kernel_rfl) ?_; refine mq rfl ?_; refine mq rfl ?_; first
          | refine k_conv rfl zq (by kernel_rfl) (n' := x) (by unfold IntKind.wrap; simp [IntKind.bits, IntKind.signed]; omega) ?_
          | refine k_conv rfl zq (by kernel_rfl) (n' := x / 256) (by unfold IntKind.wrap; simp [IntKind.bits, IntKind.signed]; omega) ?_
        refine k_ixS (n := 256) rfl zq (by kernel_rfl) (by kernel_rfl) (by omega) (by omega) (fun b8 => k_put ?_); have hb8 := b8.toNat_lt
        refine k_conv rfl zq (by kernel_rfl) (n' := (b8.toNat : Int)) (by unfold IntKind.wrap; simp [IntKind.bits, IntKind.signed]; omega) ?_; refine k_add rfl zq (by unfold In64; omega) ?_; refine aq rfl ?_; refine run_ret rfl ?_; refine run_res (h) rfl Tryz.func173 rfl weakSub ?_; refine hK _ _ ?_
        exact ⟨rfl, _, rfl, by omega, by omega⟩
theorem f153_c (m : Md Tryz.prog B) (h : Hp) (x : Int) (hx : 0 ≤ x ∧ x < 65536) : FnC m 153 #[.int .u64 x] h fun v h' => h' = h ∧ ∃ k : Int, v = .int .i64 k ∧ 0 ≤ k ∧ k ≤ 1000 := by
  refine fn_enter Tryz.func153 rfl rfl (l := (.int .u64 x) :: uu7) rfl ?_
  intro cf cs K hK
  refine rs1 (by kernel_rfl) ?_; refine aq rfl ?_; refine run_seq ?_; refine run_no ?_; refine run_skip ?_; refine rs3 (by kernel_rfl) ?_; refine mq rfl ?_; refine k_calP rfl zq (by kernel_rfl) (fun H' hH => f173_c m H' _ hx) ?_; rintro v ⟨k, rfl, hk0, hk1⟩; refine k_put ?_; refine aq rfl ?_; refine run_ret rfl ?_; refine run_res (h) rfl Tryz.func153 rfl weakSub ?_; refine hK _ _ ?_
  exact ⟨rfl, _, rfl, hk0, hk1⟩
def PdqC {B : Array Obj} (m : Md Tryz.prog B) (N : Nat) : Prop := ∀ (h : Hp) (bk n c : Nat) (xs : List Int) (junk : List Value) (lim : Int), xs.length = n → n ≤ N → 0 ≤ lim → lim ≤ 1000 →
  FnC m 152 #[.slice (some ⟨bk, 0, none⟩) n c, .int .i64 0, .int .i64 (n : Int), .int .i64 lim] (h ++ [blkC bk xs junk]) fun v h' => v = .tuple [].toArray ∧ ∃ ys, h' = h ++ [blkC bk ys junk] ∧ Sw 0 n xs ys ∧ SortR ys 0 n
def uniqT (xs : List Int) : Nat → List Int
  | 0 => []
  | t + 1 => uniqT xs t ++ if t = 0 ∨ xs.getD t 0 ≠ xs.getD (t - 1) 0 then [xs.getD t 0] else []
theorem uniqT_all (xs : List Int) : ∀ t, t ≤ xs.length → (∀ i, 0 < i → i < t → xs.getD i 0 ≠ xs.getD (i - 1) 0) → uniqT xs t = xs.take t
  | 0, _, _ => rfl
  | t + 1, h, hd => by
    rw [uniqT, uniqT_all xs t (by omega) (fun i h1 h2 => hd i h1 (by omega)), take_snoc' xs t (by omega), if_pos]; by_cases e : t = 0
    · exact .inl e
    · exact .inr (hd t (by omega) (by omega))
theorem uniqT_asc {xs : List Int} (hs : SortR xs 0 xs.length) : ∀ t, t ≤ xs.length → Asc (uniqT xs t) ∧ (∀ z ∈ uniqT xs t, ∃ i, i < t ∧ z = xs.getD i 0)
  | 0, _ => ⟨List.Pairwise.nil, by simp [uniqT]⟩
  | t + 1, h => by
    obtain ⟨h1, h2⟩ := uniqT_asc hs t (by omega)
    rw [uniqT]; by_cases e : t = 0 ∨ xs.getD t 0 ≠ xs.getD (t - 1) 0
    · rw [if_pos e]; refine ⟨?_, fun z hz => ?_⟩
      · unfold Asc at h1 ⊢
        rw [List.pairwise_append]; refine ⟨h1, by simp, fun x hx y hy => ?_⟩
        simp only [List.mem_singleton] at hy
        subst hy
        obtain ⟨i, hi, rfl⟩ := h2 x hx
        have e1 : xs.getD i 0 ≤ xs.getD (t - 1) 0 := by
          by_cases e2 : i = t - 1
          · subst e2; exact Int.le_refl _
          · exact hs i (t - 1) (by omega) (by omega) (by omega)
        have e3 : xs.getD (t - 1) 0 ≤ xs.getD t 0 := hs (t - 1) t (by omega) (by omega) (by omega)
        rcases e with e | e
        · omega
        · omega
      · rcases List.mem_append.1 hz with hz | hz
        · obtain ⟨i, hi, e⟩ := h2 z hz; exact ⟨i, by omega, e⟩
        · simp only [List.mem_singleton] at hz; exact ⟨t, by omega, hz⟩
    · rw [if_neg e, List.append_nil]; exact ⟨h1, fun z hz => by obtain ⟨i, hi, e⟩ := h2 z hz; exact ⟨i, by omega, e⟩⟩
theorem uniqT_mem {xs : List Int} : ∀ t i, i < t → xs.getD i 0 ∈ uniqT xs t
  | 0, i, h => by omega
  | t + 1, i, h => by
    rw [uniqT, List.mem_append]; rcases Nat.lt_or_ge i t with h1 | h1
    · exact .inl (uniqT_mem t i h1)
    · obtain rfl : i = t := by omega
      by_cases e : i = 0 ∨ xs.getD i 0 ≠ xs.getD (i - 1) 0
      · rw [if_pos e]; exact .inr (by simp)
      · have h0 : i ≠ 0 := fun x => e (.inl x)
        have e2 : xs.getD i 0 = xs.getD (i - 1) 0 := Classical.byContradiction fun x => e (.inr x)
        rw [e2]; exact .inl (uniqT_mem i (i - 1) (by omega))
theorem take_set_snoc {ys : List Int} {k : Nat} {v : Int} (h : k < ys.length) : (ys.set k v).take (k + 1) = ys.take k ++ [v] := take_set h
theorem own_blk {bk n c : Nat} {ys : List Int} {junk : List Value} (hl : ys.length = n) (hj : n + junk.length = c) : OwnS 3 1 (.slice (some ⟨bk, 0, none⟩) n c) n (ints ys) [blkC bk ys junk] :=
  .blk (by simp [hl]) (by simp [hl]; omega) (by omega)
theorem own_cut {bk n c k : Nat} {ys : List Int} {junk : List Value} (hl : ys.length = n) (hj : n + junk.length = c) (hk : k ≤ n) : OwnS 3 1 (.slice (some ⟨bk, 0, none⟩) k c) k (ints (ys.take k)) [blkC bk ys junk] := by
  have := (own_blk (bk := bk) hl hj).pre (m := k) hk
  rwa [Nat.mul_one, ← ints_take] at this
theorem f111_c (m : Md Tryz.prog B) (h : Hp) {bk n c : Nat} {xs : List Int} {junk : List Value} (hl : xs.length = n) (hj : n + junk.length = c) (hn : n ≤ 100000) : FnC m 111 #[.slice (some ⟨bk, 0, none⟩) n c] (h ++ [blkC bk xs junk]) fun v h' => ∃ nw, h' = h ++ nw ∧ ∃ k, k = (uniqT xs n).length ∧ OwnS 3 1 v k (ints (uniqT xs n)) nw := by
  refine fn_enter Tryz.func111 rfl rfl (l := (.slice (some ⟨bk, 0, none⟩) n c) :: uu60) rfl ?_
  intro cf cs K hK
  refine rs1 (by kernel_rfl) ?_; refine aq rfl ?_; refine run_seq ?_; refine rs3 (by kernel_rfl) ?_; refine mq rfl ?_; refine k_len rfl zq ?_; refine k_lssS rfl zq (fun hc => ?_) (fun hc => ?_)
  · refine k_nil ?_; refine run_yes ?_; refine rs2 (by kernel_rfl) ?_; refine mq rfl ?_; refine aq rfl ?_; refine run_ret rfl ?_; refine run_res (h ++ [blkC bk xs junk]) rfl Tryz.func111 rfl weakSub ?_; refine hK _ _ ?_
    have hall : uniqT xs n = xs := by rw [uniqT_all xs n (by omega) (fun i h1 h2 => by omega), List.take_of_length_le (by omega)]
    exact ⟨_, rfl, n, by rw [hall, hl], by rw [hall]; exact own_blk hl hj⟩
  · refine k_nil ?_; refine run_no ?_; refine run_skip ?_; refine run_seq ?_; refine rs1 (by kernel_rfl) ?_; refine aq rfl ?_; refine run_block ?_; refine run_loop (fun nn l h' => ∃ (k : Nat), nn = n - k ∧ (1 ≤ k) ∧ (k ≤ n) ∧ (∀ i, 0 < i → i < k → xs.getD i 0 ≠ xs.getD (i - 1) 0) ∧ (∃ U : Nat → Value, l = [.slice (some ⟨bk, 0, none⟩) n c, U 1, U 2, .int .i64 (k : Int), U 4, U 5, U 6, U 7, U 8, U 9, U 10, U 11, U 12, U 13, U 14, U 15, U 16, U 17, U 18, U 19, U 20, U 21, U 22, U 23, U 24, U 25, U 26, U 27, U 28, U 29, U 30, U 31, U 32, U 33, U 34, U 35, U 36, U 37, U 38, U 39, U 40, U 41, U 42, U 43, U 44, U 45, U 46, U 47, U 48, U 49, U 50, U 51, U 52, U 53, U 54, U 55, U 56, U 57, U 58, U 59, U 60]) ∧ h ++ [blkC bk xs junk] = h') _ ⟨1, rfl, by omega, by omega, fun i h1 h2 => by omega, exU rfl, rfl⟩ ?_; rintro nn l h' ⟨k, rfl, hk1, hk2, hd, ⟨U, rfl⟩, rfl⟩ hnext1; have hu := uniqT_all xs k (by omega) hd
    refine run_seq ?_; refine rs4 (by kernel_rfl) ?_; refine mq rfl ?_; refine mq rfl ?_; refine k_len rfl zq ?_; refine k_lssS rfl zq (fun hc => ?_) (fun hc => ?_)
    · refine k_nil ?_; refine run_yes ?_; refine run_skip ?_; refine run_seq ?_; refine run_block ?_; refine run_seq ?_; refine run_draw [(0, .pure), (1, .pure), (2, .pure), (4, .pure), (5, .pure), (6, .pure), (7, .pure), (3, .read), (8, .read), (9, .pure)] (by kernel_rfl) (by kernel_rfl) (List.Sublist.refl _) ?_; refine mq rfl ?_; refine mq rfl ?_; refine k_ixs rfl zq (by first | rfl | assumption) (by omega) (by omega) ?_; refine mq rfl ?_; refine mq rfl ?_; refine k_sub rfl zq (by unfold In64; omega) ?_; refine k_ixs rfl zq (by first | rfl | assumption) (by omega) (by omega) ?_; refine k_ld rfl zq (rd_blkI k rfl (by omega)) ?_; refine k_ld rfl zq (rd_blkI (k - 1) (by omega) (by omega)) ?_; refine k_eqlS rfl zq (fun hc => ?_) (fun hc => ?_)
      · refine k_nil ?_; refine run_yes ?_; refine rs4 (by kernel_rfl) ?_; refine mq rfl ?_; refine mq rfl ?_; refine k_slFrom (a := k) rfl zq rfl (by omega) ?_; rw [cutP_lt (by omega)]; refine aq rfl ?_; refine run_seq ?_; refine rs1 (by kernel_rfl) ?_; have hu1 : uniqT xs (k + 1) = xs.take k := by rw [uniqT, if_neg (by rintro (e | e) <;> omega), List.append_nil, hu]
        refine aq rfl ?_; refine run_block ?_; refine run_loop (fun nn l h' => ∃ (j e : Nat) (ys : List Int), nn = n - j ∧ (1 ≤ j) ∧ (k + j ≤ n) ∧ (e = (uniqT xs (k + j)).length) ∧ (e < k + j) ∧ (k ≤ e) ∧ (ys.length = n) ∧ (ys.take e = uniqT xs (k + j)) ∧ (∀ i, k + j ≤ i + 1 → ys.getD i 0 = xs.getD i 0) ∧ (∃ U : Nat → Value, l = [.slice (some ⟨bk, 0, none⟩) n c, U 1, U 2, .int .i64 (e : Int), .slice (some ⟨bk, k, none⟩) (n - k) (c - k), .int .i64 (j : Int), U 6, U 7, U 8, U 9, U 10, U 11, U 12, U 13, U 14, U 15, U 16, U 17, U 18, U 19, U 20, U 21, U 22, U 23, U 24, U 25, U 26, U 27, U 28, U 29, U 30, U 31, U 32, U 33, U 34, U 35, U 36, U 37, U 38, U 39, U 40, U 41, U 42, U 43, U 44, U 45, U 46, U 47, U 48, U 49, U 50, U 51, U 52, U 53, U 54, U 55, U 56, U 57, U 58, U 59, U 60]) ∧ h ++ [blkC bk ys junk] = h') _ ⟨1, k, xs, rfl, by omega, by omega, by rw [hu1, List.length_take]; omega, by omega, by omega, hl, by rw [hu1], fun i hi => rfl, exU rfl, rfl⟩ ?_; rintro nn l h' ⟨j, e, ys, rfl, hj1, hj2, he, hek, hke, hyl, hyt, hys, ⟨U, rfl⟩, rfl⟩ hnext2; refine run_seq ?_; refine rs4 (by kernel_rfl) ?_; refine mq rfl ?_; refine mq rfl ?_; refine k_len rfl zq ?_; refine k_lssS rfl zq (fun hc => ?_) (fun hc => ?_)
        · refine k_nil ?_; refine run_yes ?_; refine run_skip ?_; refine run_seq ?_; refine run_block ?_; refine run_seq ?_; refine run_draw [(0, .pure), (1, .pure), (2, .pure), (4, .pure), (5, .pure), (6, .pure), (7, .pure), (3, .read), (8, .read), (9, .pure)] (by kernel_rfl) (by kernel_rfl) (List.Sublist.refl _) ?_; have hy1 := hys (k + j) (by omega)
          have hy2 := hys (k + (j - 1)) (by omega)
          refine mq rfl ?_; refine mq rfl ?_; refine k_ixs rfl zq (by first | rfl | assumption) (by omega) (by omega) ?_; refine mq rfl ?_; refine mq rfl ?_; refine k_sub rfl zq (by unfold In64; omega) ?_; refine k_ixs rfl zq (by first | rfl | assumption) (by omega) (by omega) ?_; refine k_ld rfl zq (rd_blkO j rfl (by omega)) ?_; refine k_ld rfl zq (rd_blkO (j - 1) (by omega) (by omega)) ?_; rw [hy1, hy2]; refine k_neqS rfl zq (fun hc => ?_) (fun hc => ?_)
          · have hU : uniqT xs (k + (j + 1)) = uniqT xs (k + j) ++ [xs.getD (k + j) 0] := by
              rw [show k + (j + 1) = (k + j) + 1 by omega, uniqT, if_pos (.inr (by rw [show k + j - 1 = k + (j - 1) by omega]; exact hc))]
            refine k_nil ?_; refine run_yes ?_; refine rs8 (by kernel_rfl) ?_; refine mq rfl ?_; refine mq rfl ?_; refine mq rfl ?_; refine mq rfl ?_; refine k_ixs rfl zq (by first | rfl | assumption) (by omega) (by omega) ?_; refine k_ld rfl zq (rd_blkO j rfl (by omega)) ?_; rw [hy1]; refine k_ixs rfl zq (by first | rfl | assumption) (by omega) (by omega) ?_; haveI hs1 := setSeg_ints (xs := ys) (junk := junk) (v := xs.getD (k + j) 0) (i := (e : Int)) (k := e) rfl (by omega)
            refine k_st1 rfl zq ?_; refine k_nil ?_; refine rr3 (by kernel_rfl) ?_; refine mq rfl ?_; refine k_add rfl zq (by unfold In64; omega) ?_; refine aq rfl ?_; refine run_inBlock ?_; refine rr3 (by kernel_rfl) ?_; refine mq rfl ?_; refine k_add rfl zq (by unfold In64; omega) ?_; refine aq rfl ?_; exact m.weak weakSub (hnext2 _ _ _ (by omega) ⟨j + 1, e + 1, ys.set e (xs.getD (k + j) 0), rfl, by omega, by omega, by rw [hU, List.length_append, ← he]; rfl, by omega, by omega, by simp [hyl], by rw [take_set_snoc (by omega), hyt, hU], fun i hi => by rw [getD_set (by omega), if_neg (by omega)]; exact hys i (by omega), exU rfl, rfl⟩)
          · have hU : uniqT xs (k + (j + 1)) = uniqT xs (k + j) := by
              rw [show k + (j + 1) = (k + j) + 1 by omega, uniqT, if_neg (fun y => y.elim (fun x => by omega) (fun x => x (by rw [show k + j - 1 = k + (j - 1) by omega]; exact hc))), List.append_nil]
            refine k_nil ?_; refine run_no ?_; refine run_skip ?_; refine run_inBlock ?_; refine rr3 (by kernel_rfl) ?_; refine mq rfl ?_; refine k_add rfl zq (by unfold In64; omega) ?_; refine aq rfl ?_; exact m.weak weakSub (hnext2 _ _ _ (by omega) ⟨j + 1, e, ys, rfl, by omega, by omega, by rw [hU, ← he], by omega, by omega, hyl, by rw [hU, hyt], fun i hi => hys i (by omega), exU rfl, rfl⟩)
        · refine k_nil ?_; refine run_no ?_; refine run_exit rfl ?_; refine rs4 (by kernel_rfl) ?_; obtain rfl : n = k + j := by omega
          refine mq rfl ?_; refine mq rfl ?_; refine k_slFrom (a := e) rfl zq rfl (by omega) ?_; refine k_clear rfl zq hyl (by omega) (by omega) ?_; refine k_nil ?_; refine rs4 (by kernel_rfl) ?_; refine mq rfl ?_; refine mq rfl ?_; refine k_slTo (b := e) rfl zq (.inr ⟨_, _, rfl⟩) rfl (by omega) ?_; refine aq rfl ?_; refine run_ret rfl ?_; refine run_res (h ++ [blkC bk (ys.take e ++ List.replicate (k + j - e) 0) junk]) rfl Tryz.func111 rfl weakSub ?_; refine hK _ _ ?_
          refine ⟨_, rfl, e, he, ?_⟩
          have := own_cut (bk := bk) (n := k + j) (c := c) (k := e) (ys := ys.take e ++ List.replicate (k + j - e) 0) (junk := junk) (by simp; omega) hj (by omega)
          rw [List.take_append_of_le_length (by simp; omega), List.take_take, Nat.min_self, hyt] at this
          rw [hyt]; exact this
      · refine k_nil ?_; refine run_no ?_; refine run_skip ?_; refine run_inBlock ?_; refine rr3 (by kernel_rfl) ?_; refine mq rfl ?_; refine k_add rfl zq (by unfold In64; omega) ?_; refine aq rfl ?_; exact m.weak weakSub (hnext1 _ _ _ (by omega) ⟨k + 1, rfl, by omega, by omega, fun i h1 h2 => by
          rcases Nat.lt_or_ge i k with h3 | h3
          · exact hd i h1 h3
          · obtain rfl : i = k := by omega
            assumption, exU rfl, rfl⟩)
    · refine k_nil ?_; refine run_no ?_; refine run_exit rfl ?_; refine rs2 (by kernel_rfl) ?_; refine mq rfl ?_; refine aq rfl ?_; refine run_ret rfl ?_; refine run_res (h ++ [blkC bk xs junk]) rfl Tryz.func111 rfl weakSub ?_; refine hK _ _ ?_
      obtain rfl : k = n := by omega
      have hall : uniqT xs k = xs := by rw [hu, List.take_of_length_le (by omega)]
      exact ⟨_, rfl, k, by rw [hall, hl], by rw [hall]; exact own_blk hl hj⟩
theorem f110_c (m : Md Tryz.prog B) (h : Hp) {N : Nat} (hP : PdqC m N) (hN : N ≤ 60000) {bk n c : Nat} {xs : List Int} {junk : List Value} (hl : xs.length = n) (hn : n ≤ N) : FnC m 110 #[.slice (some ⟨bk, 0, none⟩) n c] (h ++ [blkC bk xs junk]) fun v h' => v = .tuple [].toArray ∧ ∃ ys, h' = h ++ [blkC bk ys junk] ∧ Sw 0 n xs ys ∧ SortR ys 0 n := by
  refine fn_enter Tryz.func110 rfl rfl (l := (.slice (some ⟨bk, 0, none⟩) n c) :: uu10) rfl ?_
  intro cf cs K hK
  refine rs3 (by kernel_rfl) ?_; refine mq rfl ?_; refine k_len rfl zq ?_; refine aq rfl ?_; refine rr6 (by kernel_rfl) ?_; refine mq rfl ?_; refine mq rfl ?_; refine mq rfl ?_; refine k_conv rfl zq (by kernel_rfl) (n' := (n : Int)) (by unfold IntKind.wrap; simp [IntKind.bits, IntKind.signed]; omega) ?_; refine k_calP rfl zq (by kernel_rfl) (fun H' hH => f153_c m H' _ (by omega)) ?_; rintro v ⟨lim, rfl, hk0, hk1⟩; refine k_put ?_; refine k_cal rfl zq (by kernel_rfl) (hP h bk n c xs junk lim hl hn hk0 hk1) ?_; rintro v h' ⟨rfl, ys, rfl, hsw, hso⟩; refine k_put ?_; refine k_nil ?_; refine run_end rfl ?_; refine run_res (h ++ [blkC bk ys junk]) rfl Tryz.func110 rfl weakSub ?_; refine hK _ _ ?_
  exact ⟨rfl, ys, rfl, hsw, hso⟩
theorem f152_s (m : Md Tryz.prog B) : PdqC m 12 := by
  intro h bk n c xs junk lim hl hn hk0 hk1
  refine fn_enter Tryz.func152 rfl rfl (l := (.slice (some ⟨bk, 0, none⟩) n c) :: (.int .i64 0) :: (.int .i64 (n : Int)) :: (.int .i64 lim) :: uu130) rfl ?_
  intro cf cs K hK
  refine rs1 (by kernel_rfl) ?_; refine aq rfl ?_; refine rs1 (by kernel_rfl) ?_; refine aq rfl ?_; refine run_block ?_; refine run_loop (fun nn l h' => ∃ (k : Nat), nn = k + 1 ∧ (k = 0) ∧ (∃ U : Nat → Value, l = [.slice (some ⟨bk, 0, none⟩) n c, .int .i64 0, .int .i64 (n : Int), .int .i64 lim, U 4, U 5, U 6, U 7, U 8, U 9, U 10, U 11, U 12, U 13, U 14, U 15, U 16, U 17, U 18, U 19, U 20, U 21, U 22, U 23, U 24, U 25, U 26, U 27, U 28, U 29, U 30, U 31, U 32, U 33, U 34, U 35, U 36, U 37, U 38, U 39, U 40, U 41, U 42, U 43, U 44, U 45, U 46, U 47, U 48, U 49, U 50, U 51, U 52, U 53, U 54, U 55, U 56, U 57, U 58, U 59, U 60, U 61, U 62, U 63, U 64, U 65, U 66, U 67, U 68, U 69, U 70, U 71, U 72, U 73, U 74, U 75, U 76, U 77, U 78, U 79, U 80, U 81, U 82, U 83, U 84, U 85, U 86, U 87, U 88, U 89, U 90, U 91, U 92, U 93, U 94, U 95, U 96, U 97, U 98, U 99, U 100, U 101, U 102, U 103, U 104, U 105, U 106, U 107, U 108, U 109, U 110, U 111, U 112, U 113, U 114, U 115, U 116, U 117, U 118, U 119, U 120, U 121, U 122, U 123, U 124, U 125, U 126, U 127, U 128, U 129, U 130, U 131, U 132, U 133]) ∧ h ++ [blkC bk xs junk] = h') _ ⟨0, rfl, rfl, exU rfl, rfl⟩ ?_; rintro nn l h' ⟨k, rfl, hk, ⟨U, rfl⟩, rfl⟩ hnext; refine run_block ?_; refine rs4 (by kernel_rfl) ?_; refine mq rfl ?_; refine mq rfl ?_; refine k_sub rfl zq (by unfold In64; omega) ?_; refine aq rfl ?_; refine run_seq ?_; refine rs2 (by kernel_rfl) ?_; refine mq rfl ?_; refine k_leqS rfl zq (fun hc => ?_) (fun hc => ?_)
  · refine k_nil ?_; refine run_yes ?_; refine rs4 (by kernel_rfl) ?_; refine mq rfl ?_; refine mq rfl ?_; refine mq rfl ?_; refine k_cal rfl zq (by kernel_rfl) (f163_c m h hl (by omega) 0 n (by omega) (Nat.le_refl _)) ?_; rintro v h' ⟨rfl, ys, rfl, hsw, hso⟩; refine k_put ?_; refine k_nil ?_; refine run_ret rfl ?_; refine run_res (h ++ [blkC bk ys junk]) rfl Tryz.func152 rfl weakSub ?_; refine hK _ _ ?_
    exact ⟨rfl, ys, rfl, hsw, hso⟩
  · exfalso; omega
theorem own_block {v : Value} {n : Nat} {xs : List Int} {new : Hp} (o : OwnS 3 1 v n (ints xs) new) (h : 0 < n) : ∃ b c junk, v = .slice (some ⟨b, 0, none⟩) n c ∧ new = [blkC b xs junk] ∧ xs.length = n ∧ n + junk.length = c := by
  unfold blkC
  generalize hg : ints xs = ys at o ⊢
  have hy : ys.length = xs.length := by rw [← hg]; simp
  cases o with
  | nil => omega
  | blk hl hc hn => exact ⟨_, _, _, rfl, rfl, by omega, by omega⟩
theorem mem_uniqT {xs : List Int} {z : Int} (hs : SortR xs 0 xs.length) : z ∈ uniqT xs xs.length ↔ z ∈ xs := by
  constructor
  · intro h
    obtain ⟨i, hi, rfl⟩ := (uniqT_asc hs _ (Nat.le_refl _)).2 z h
    exact mem_getD.2 ⟨i, hi, rfl⟩
  · intro h
    obtain ⟨i, hi, rfl⟩ := mem_getD.1 h
    exact uniqT_mem _ i hi
theorem bookV_inj {b : Bk} {pm pr p q : Option Addr} {nm cm nr cr n c k d : Nat} {x y z : Int} (e : bookV x y z (.slice p n c) (.slice q k d) = bkV b pm nm cm pr nr cr) : b.bend = x ∧ b.twist = y ∧ b.turns = z ∧ pm = p ∧ nm = n ∧ cm = c ∧ pr = q ∧ nr = k ∧ cr = d := by
  injection e with e
  injection e with e
  injection e with z1 e; injection e with z2 e; injection e with z3 e; injection e with z4 e; injection e with z5 e
  injection z1 with _ z1; injection z2 with _ z2; injection z3 with _ z3; injection z4 with u1 u2 u3; injection z5 with u4 u5 u6
  exact ⟨z1.symm, z2.symm, z3.symm, u1.symm, u2.symm, u3.symm, u4.symm, u5.symm, u6.symm⟩
theorem openL_no {b : Bk} {own : Int} (h : openS b own ≠ 0) : openL b own = [] := by rw [openL, if_neg h]
theorem openL_yes {b : Bk} {own : Int} (h : openS b own = 0) : openL b own = boatsOf b := by rw [openL, if_pos h]
theorem f36_c (m : Md Tryz.prog B) (h : Hp) {N : Nat} (hP : PdqC m N) (hN : N ≤ 60000) {b : Bk} {pm : Option Addr} {nm cm : Nat} {pr : Option Addr} {nr cr : Nat} (rdm : RdS B h 2 (.slice pm nm cm) nm (encs b.marks)) (hm : nm ≤ 1000) (rdr : RdS B h 4 (.slice pr nr cr) nr (encs b.rules)) (hr : nr ≤ 1000) (hbn : bookS b = 0 → (boatsOf b).length ≤ N) (st : Int) : FnC m 36 #[bkV b pm nm cm pr nr cr, .int .i64 st] h fun v h' => ∃ new, h' = h ++ new ∧ ∃ w ys, v = .tuple [w, .int .i64 (openS b (if 0 ≤ st ∧ st ≤ nm - 1 then 0 else 6))].toArray ∧ OwnS 3 1 w ys.length (ints ys) new ∧ Asc ys ∧ ∀ z, z ∈ ys ↔ z ∈ heightsAt (openL b (if 0 ≤ st ∧ st ≤ nm - 1 then 0 else 6)) st.toNat := by
  refine fn_enter Tryz.func36 rfl rfl (l := (bkV b pm nm cm pr nr cr) :: (.int .i64 st) :: uu36) rfl ?_
  intro cf cs K hK
  refine rs4 (by kernel_rfl) ?_; refine k_box rfl zq (fun q2 => k_hp (k_put ?_)); refine k_box rfl zq (fun q3 => k_hp (k_put ?_)); refine k_as rfl zq ?_; refine aq rfl ?_; refine rs9 (by kernel_rfl) ?_; refine k_ldA rfl zq ?_; refine k_fun rfl zq ?_; refine k_calC rfl zq (by kernel_rfl) (Post := fun v nw => Opened b (bkV b pm nm cm pr nr cr) (openS b ((if 0 ≤ st ∧ st ≤ nm - 1 then 0 else 6))) nw v) (fun H' hH => f107_c m H' (rdm.keeps (sq hH)) hm (rdr.keeps (sq hH)) hr callB108 (fun hbz K hK => by simpa using f108_c m K hm ((rd_has (q := q3)).keeps (hH.trans hK)))) ?_; rintro v nw ⟨x1, x2, x3, y1, y2, y3, y4, y5, y6, z1, z2, z3, rfl, hz⟩; refine k_hpA (k_put ?_); refine mq rfl ?_; refine k_ext0 rfl zq ?_; refine k_ext1 rfl zq ?_; refine k_new rfl zq (fun q6 => k_hp (k_put ?_)); refine k_stA rfl zq rfl ?_; refine aq rfl ?_; refine run_seq ?_; refine rs2 (by kernel_rfl) ?_; refine mq rfl ?_; refine k_neqS rfl zq (fun hc => ?_) (fun hc => ?_)
  · refine k_nil ?_; refine run_yes ?_; refine rs3 (by kernel_rfl) ?_; refine mq rfl ?_; refine k_as rfl zq ?_; refine aq rfl ?_; refine run_ret rfl ?_; refine run_res (h) rfl Tryz.func36 rfl weakSub ?_; refine hK _ _ ?_
    exact ⟨[], by simp, _, [], rfl, OwnS.nil, List.Pairwise.nil, by rw [openL_no (by assumption)]; simp [heightsAt]⟩
  · refine k_nil ?_; refine run_no ?_; refine run_skip ?_; refine rs1 (by kernel_rfl) ?_; have hz0 : openS b (if 0 ≤ st ∧ st ≤ nm - 1 then 0 else 6) = 0 := by first | assumption | omega
    obtain ⟨hz1, rfl, hzc, rdB⟩ := hz hz0
    obtain ⟨rfl, rfl, rfl, rfl, rfl, rfl, rfl, rfl, rfl⟩ := bookV_inj hz1
    obtain ⟨hbz, hoz, hbne⟩ := openS_zero hz0
    have hv := valid_of hbz
    have h7 := hv.many
    have hml := rdm.elen (by decide)
    have hbl := boats_le hv
    have hpos : 0 < (boatsOf b).length := List.length_pos_iff.2 hbne
    obtain ⟨zb, zo, rfl⟩ := RdS.ptr (B := B) rdB hpos
    have hst1 : 0 ≤ st ∧ st ≤ nm - 1 := Classical.byContradiction fun e => by rw [if_neg e] at hoz; omega
    refine aq rfl ?_; refine run_seq ?_; refine rs4 (by kernel_rfl) ?_; first | refine k_fa0 rfl zq ?_ | refine k_fa rfl zq ?_
    refine k_ldh rfl zq ?_; refine k_len rfl zq ?_; refine mq rfl ?_; refine k_nil ?_; refine run_block ?_; refine run_loop (fun nn l h' => ∃ (k : Nat) (w8 : Value) (n8 : Hp), nn = (boatsOf b).length - k ∧ (k ≤ (boatsOf b).length) ∧ (OwnS 3 1 w8 k (ints (heightsAt ((boatsOf b).take k) st.toNat)) n8) ∧ (∃ U : Nat → Value, l = [bkV b pm nm cm pr nr cr, .int .i64 st, U 2, .pointer (some ⟨q3, 0, none⟩), U 4, U 5, U 6, U 7, w8, U 9, U 10, U 11, U 12, U 13, U 14, U 15, U 16, U 17, U 18, U 19, U 20, .slice (some ⟨zb, zo, none⟩) (boatsOf b).length z3, .int .i64 ((boatsOf b).length : Int), .int .i64 (k : Int), U 24, U 25, U 26, U 27, U 28, U 29, U 30, U 31, U 32, U 33, U 34, U 35, U 36, U 37]) ∧ h ++ [⟨true, q2, .cells (bkL b pm nm cm pr nr cr).toArray 25 (0, 0)⟩, ⟨true, q3, .cells [.int .i64 st].toArray 3 (0, 0)⟩] ++ nw ++ [⟨true, q6, .cells [.int .i64 b.bend, .int .i64 b.twist, .int .i64 b.turns, .slice pm nm cm, .slice pr nr cr, .slice (some ⟨zb, zo, none⟩) (boatsOf b).length z3].toArray 123 (0, 0)⟩] ++ n8 = h') _ ⟨0, _, [], rfl, by omega, OwnS.nil, exU rfl, (by simp)⟩ ?_; rintro nn l h' ⟨k, w8, n8, rfl, hk, ho, ⟨U, rfl⟩, rfl⟩ hnext; refine rs1 (by kernel_rfl) ?_; refine k_lssS rfl zq (fun hc => ?_) (fun hc => ?_)
    · refine k_nil ?_; refine run_seq ?_; refine run_yes ?_; refine run_skip ?_; refine run_seq ?_; refine run_block ?_; refine rs4 (by kernel_rfl) ?_; refine k_ixs rfl zq (by first | rfl | assumption) (by omega) (by omega) ?_; refine k_ldN (vs := hts ((boatsOf b).getD k default)) rfl zq (hts_length _) (rdB.eat k (by omega) (by omega)) ?_; have hbm : (boatsOf b).getD k default ∈ boatsOf b := mem_getDR.2 ⟨k, by omega, rfl⟩
      have hbln := boats_len hbm
      have hbs := boats_small hv hbm
      generalize hrow : (boatsOf b).getD k default = ln at hbm hbln hbs ⊢
      refine k_new rfl zq (fun q10 => k_hp (k_put ?_)); refine k_stA rfl zq (by first | rfl | exact hts_length _) ?_; refine k_nil ?_; refine rr7 (by kernel_rfl) ?_; obtain ⟨s, hs⟩ := Int.eq_ofNat_of_zero_le (hst1.1)
      refine mq rfl ?_; refine k_ldh rfl zq ?_; refine k_ixa rfl zq (by omega) (by omega) ?_; refine k_ld rfl zq (rd_hts s (by omega) (by omega)) ?_; refine k_bs kdq rfl zq (by decide) (by decide) rfl (fun q31 => k_hp (k_put ?_)); refine k_app1 (F := h ++ [⟨true, q2, .cells (bkL b pm nm cm pr nr cr).toArray 25 (0, 0)⟩, ⟨true, q3, .cells [.int .i64 st].toArray 3 (0, 0)⟩] ++ nw ++ [⟨true, q6, .cells [.int .i64 b.bend, .int .i64 b.twist, .int .i64 b.turns, .slice pm nm cm, .slice pr nr cr, .slice (some ⟨zb, zo, none⟩) (boatsOf b).length z3].toArray 123 (0, 0)⟩]) rfl zq rfl ho kdq (by omega) (by omega) (fun w9 n9 o9 => k_put ?_); rw [show ints (heightsAt ((boatsOf b).take k) st.toNat) ++ [Value.int .i64 (ln.getD s 0)] = ints (heightsAt ((boatsOf b).take (k + 1)) st.toNat) by rw [heightsAt_take _ _ _ (by omega), show st.toNat = s by omega, ← hrow]; simp; rfl] at o9
      refine aq rfl ?_; refine run_inBlock ?_; refine rr2 (by kernel_rfl) ?_; refine k_add rfl zq (by unfold In64; omega) ?_; refine mq rfl ?_; refine k_nil ?_; exact m.weak weakSub (hnext _ _ _ (by omega) ⟨k + 1, _, n9, rfl, by omega, o9, exU rfl, rfl⟩)
    · refine k_nil ?_; refine run_seq ?_; refine run_no ?_; refine run_exit rfl ?_; refine rs2 (by kernel_rfl) ?_; obtain rfl : k = (boatsOf b).length := by omega
      rw [List.take_of_length_le (by omega)] at ho
      obtain ⟨bk, c, junk, rfl, rfl, hbk1, hbk2⟩ := own_block ho hpos
      refine mq rfl ?_; refine k_cal rfl zq (by kernel_rfl) (f110_c m _ hP hN hbk1 (hbn hbz)) ?_; rintro v h' ⟨rfl, ys, rfl, hsw, hso⟩; refine k_put ?_; have hyl := hsw.length
      refine k_nil ?_; refine rs4 (by kernel_rfl) ?_; refine mq rfl ?_; refine k_cal rfl zq (by kernel_rfl) (f111_c m _ (show ys.length = _ by omega) hbk2 (by omega)) ?_; rintro v h' ⟨n11, rfl, k, hk', ho'⟩; refine k_put ?_; refine k_as rfl zq ?_; refine aq rfl ?_; refine run_ret rfl ?_; refine run_res (h ++ n11) rfl Tryz.func36 rfl weakSub ?_; refine hK _ _ ?_
      have hyn : ys.length = (boatsOf b).length := by omega
      rw [← hyn] at hso ho' hk'
      subst hk'
      refine ⟨n11, rfl, _, _, by rw [hz0], ho', (uniqT_asc hso _ (Nat.le_refl _)).1, fun z => ?_⟩
      rw [openL_yes hz0, mem_uniqT hso]; exact (hsw.perm (by omega)).mem_iff
theorem f38_c (m : Md Tryz.prog B) (h : Hp) {b : Bk} {pm : Option Addr} {nm cm : Nat} {pr : Option Addr} {nr cr : Nat} (rdm : RdS B h 2 (.slice pm nm cm) nm (encs b.marks)) (hm : nm ≤ 1000) (rdr : RdS B h 4 (.slice pr nr cr) nr (encs b.rules)) (hr : nr ≤ 1000) (st : Int) (hst : In64 st) : FnC m 38 #[bkV b pm nm cm pr nr cr, .int .i64 st] h fun v h' => h' = h ∧ v = .tuple [.int .i64 (if openS b (if 1 ≤ st ∧ st ≤ nm - 2 then 0 else 6) ≠ 0 then 0 else told (hollowN (boatsOf b) (st - 1).toNat) (boatsOf b).length), .int .i64 (openS b (if 1 ≤ st ∧ st ≤ nm - 2 then 0 else 6))].toArray := by
  refine fn_enter Tryz.func38 rfl rfl (l := (bkV b pm nm cm pr nr cr) :: (.int .i64 st) :: uu45) rfl ?_
  intro cf cs K hK
  refine rs4 (by kernel_rfl) ?_; refine k_box rfl zq (fun q2 => k_hp (k_put ?_)); refine k_box rfl zq (fun q3 => k_hp (k_put ?_)); refine k_as rfl zq ?_; refine aq rfl ?_; refine rs9 (by kernel_rfl) ?_; refine k_ldA rfl zq ?_; refine k_fun rfl zq ?_; refine k_calC rfl zq (by kernel_rfl) (Post := fun v nw => Opened b (bkV b pm nm cm pr nr cr) (openS b ((if 1 ≤ st ∧ st ≤ nm - 2 then 0 else 6))) nw v) (fun H' hH => f107_c m H' (rdm.keeps (sq hH)) hm (rdr.keeps (sq hH)) hr callB116 (fun hbz K hK => by simpa using f116_c m K hm ((rd_has (q := q3)).keeps (hH.trans hK)))) ?_; rintro v nw ⟨x1, x2, x3, y1, y2, y3, y4, y5, y6, z1, z2, z3, rfl, hz⟩; refine k_hpA (k_put ?_); refine mq rfl ?_; refine k_ext0 rfl zq ?_; refine k_ext1 rfl zq ?_; refine k_new rfl zq (fun q6 => k_hp (k_put ?_)); refine k_stA rfl zq rfl ?_; refine aq rfl ?_; refine run_seq ?_; refine rs2 (by kernel_rfl) ?_; refine mq rfl ?_; refine k_neqS rfl zq (fun hc => ?_) (fun hc => ?_)
  · refine k_nil ?_; refine run_yes ?_; refine rs3 (by kernel_rfl) ?_; refine mq rfl ?_; refine k_as rfl zq ?_; refine aq rfl ?_; refine run_ret rfl ?_; refine run_res (h) rfl Tryz.func38 rfl weakSub ?_; refine hK _ _ ?_
    exact ⟨rfl, by rw [if_pos (show openS b (if 1 ≤ st ∧ st ≤ nm - 2 then 0 else 6) ≠ 0 by assumption)]⟩
  · refine k_nil ?_; refine run_no ?_; refine run_skip ?_; refine rs1 (by kernel_rfl) ?_; have hz0 : openS b (if 1 ≤ st ∧ st ≤ nm - 2 then 0 else 6) = 0 := by first | assumption | omega
    obtain ⟨hz1, rfl, hzc, rdB⟩ := hz hz0
    obtain ⟨rfl, rfl, rfl, rfl, rfl, rfl, rfl, rfl, rfl⟩ := bookV_inj hz1
    obtain ⟨hbz, hoz, hbne⟩ := openS_zero hz0
    have hv := valid_of hbz
    have h7 := hv.many
    have hml := rdm.elen (by decide)
    have hbl := boats_le hv
    have hpos : 0 < (boatsOf b).length := List.length_pos_iff.2 hbne
    obtain ⟨zb, zo, rfl⟩ := RdS.ptr (B := B) rdB hpos
    have hst1 : 1 ≤ st ∧ st ≤ nm - 2 := Classical.byContradiction fun e => by rw [if_neg e] at hoz; omega
    obtain ⟨s, hs⟩ := Int.eq_ofNat_of_zero_le (show 0 ≤ st - 1 by omega)
    refine aq rfl ?_; refine run_seq ?_; refine rs4 (by kernel_rfl) ?_; first | refine k_fa0 rfl zq ?_ | refine k_fa rfl zq ?_
    refine k_ldh rfl zq ?_; refine k_len rfl zq ?_; refine mq rfl ?_; refine k_nil ?_; refine run_block ?_; refine run_loop (fun nn l h' => ∃ (cnt k : Nat), nn = (boatsOf b).length - k ∧ (k ≤ (boatsOf b).length) ∧ (cnt = hollowN ((boatsOf b).take k) (st - 1).toNat) ∧ (cnt ≤ k) ∧ (∃ U : Nat → Value, l = [bkV b pm nm cm pr nr cr, .int .i64 st, U 2, .pointer (some ⟨q3, 0, none⟩), U 4, U 5, .pointer (some ⟨q6, 0, none⟩), U 7, .int .i64 (cnt : Int), U 9, U 10, U 11, U 12, U 13, U 14, U 15, U 16, U 17, U 18, U 19, U 20, .slice (some ⟨zb, zo, none⟩) (boatsOf b).length z3, .int .i64 ((boatsOf b).length : Int), .int .i64 (k : Int), U 24, U 25, U 26, U 27, U 28, U 29, U 30, U 31, U 32, U 33, U 34, U 35, U 36, U 37, U 38, U 39, U 40, U 41, U 42, U 43, U 44, U 45, U 46]) ∧ h ++ [⟨true, q2, .cells (bkL b pm nm cm pr nr cr).toArray 25 (0, 0)⟩, ⟨true, q3, .cells [.int .i64 st].toArray 3 (0, 0)⟩] ++ nw ++ [⟨true, q6, .cells [.int .i64 b.bend, .int .i64 b.twist, .int .i64 b.turns, .slice pm nm cm, .slice pr nr cr, .slice (some ⟨zb, zo, none⟩) (boatsOf b).length z3].toArray 123 (0, 0)⟩] = h') _ ⟨0, 0, rfl, by omega, rfl, by omega, exU rfl, rfl⟩ ?_; rintro nn l h' ⟨cnt, k, rfl, hk, hcnt, hck, ⟨U, rfl⟩, rfl⟩ hnext; refine rs1 (by kernel_rfl) ?_; refine k_lssS rfl zq (fun hc => ?_) (fun hc => ?_)
    · refine k_nil ?_; refine run_seq ?_; refine run_yes ?_; refine run_skip ?_; refine run_seq ?_; refine run_block ?_; refine rs4 (by kernel_rfl) ?_; refine k_ixs rfl zq (by first | rfl | assumption) (by omega) (by omega) ?_; refine k_ldN (vs := hts ((boatsOf b).getD k default)) rfl zq (hts_length _) (rdB.eat k (by omega) (by omega)) ?_; have hbm : (boatsOf b).getD k default ∈ boatsOf b := mem_getDR.2 ⟨k, by omega, rfl⟩
      have hbln := boats_len hbm
      have hbs := boats_small hv hbm
      generalize hrow : (boatsOf b).getD k default = ln at hbm hbln hbs ⊢
      refine k_new rfl zq (fun q10 => k_hp (k_put ?_)); refine k_stA rfl zq (by first | rfl | exact hts_length _) ?_; refine k_nil ?_; refine run_seq ?_; refine run_draw [(0, .pure), (1, .read), (2, .read), (4, .read), (5, .pure), (3, .keep), (6, .pure), (7, .keep), (8, .pure)] (by kernel_rfl) (by kernel_rfl) (List.Sublist.refl _) ?_; first | refine k_fa0 rfl zq ?_ | refine k_fa rfl zq ?_
      refine k_ldA rfl zq ?_; refine k_ldA rfl zq ?_; refine k_ldh rfl zq ?_; refine k_sub rfl zq (by unfold In64; omega) ?_; refine k_calC rfl zq (by kernel_rfl) (fun H' hH => f94_c m H' (by omega) (by omega) hbs) ?_; rintro v bnw bo; refine k_hpA (k_put ?_); obtain ⟨bep, bec, rfl, _⟩ := bo.len
      have ber : RdS B bnw 1 (.slice bep _ bec) _ _ := bo.rd'
      obtain ⟨eb, eo, rfl⟩ := ber.ptr (by omega)
      refine k_ixs rfl zq (by first | rfl | assumption) (by omega) (by omega) ?_; refine k_ld rfl zq (ber.iat s (by omega) (by omega)) ?_; refine k_gtrS rfl zq (fun hc => ?_) (fun hc => ?_)
      · refine k_nil ?_; refine run_yes ?_; refine rr3 (by kernel_rfl) ?_; refine mq rfl ?_; refine k_add rfl zq (by unfold In64; omega) ?_; refine aq rfl ?_; refine run_inBlock ?_; refine rr2 (by kernel_rfl) ?_; refine k_add rfl zq (by unfold In64; omega) ?_; refine mq rfl ?_; refine k_nil ?_; exact m.weak weakSub (hnext _ _ _ (by omega) ⟨cnt + 1, k + 1, rfl, by omega, by rw [hollowN_yes _ _ _ (by omega) (by rw [show (st - 1).toNat = s by omega]; exact (show (boatsOf b).getD k [] = ln from hrow) ▸ (by omega)), ← hcnt], by omega, exU rfl, rfl⟩)
      · refine k_nil ?_; refine run_no ?_; refine run_skip ?_; refine run_inBlock ?_; refine rr2 (by kernel_rfl) ?_; refine k_add rfl zq (by unfold In64; omega) ?_; refine mq rfl ?_; refine k_nil ?_; exact m.weak weakSub (hnext _ _ _ (by omega) ⟨cnt, k + 1, rfl, by omega, by rw [hollowN_no _ _ _ (by omega) (by rw [show (st - 1).toNat = s by omega]; exact (show (boatsOf b).getD k [] = ln from hrow) ▸ (by omega)), ← hcnt], by omega, exU rfl, rfl⟩)
    · refine k_nil ?_; refine run_seq ?_; refine run_no ?_; refine run_exit rfl ?_; refine run_seq ?_; refine rs1 (by kernel_rfl) ?_; obtain rfl : k = (boatsOf b).length := by omega
      rw [List.take_of_length_le (by omega)] at hcnt
      refine mq rfl ?_; refine k_nil ?_; refine run_block ?_; refine rs2 (by kernel_rfl) ?_; refine k_eqlS rfl zq (fun hc => ?_) (fun hc => ?_)
      · refine aq rfl ?_; refine run_yes ?_; refine rs2 (by kernel_rfl) ?_; refine k_as rfl zq ?_; refine aq rfl ?_; refine run_ret rfl ?_; refine run_res (h) rfl Tryz.func38 rfl weakSub ?_; refine hK _ _ ?_
        exact ⟨rfl, by rw [hz0, if_neg (fun e => e rfl)]; unfold told; repeat first | rw [if_pos (by omega)] | rw [if_neg (by omega)]⟩
      · refine aq rfl ?_; refine run_no ?_; refine rs5 (by kernel_rfl) ?_; first | refine k_fa0 rfl zq ?_ | refine k_fa rfl zq ?_
        refine k_ldh rfl zq ?_; refine k_len rfl zq ?_; refine k_eqlS rfl zq (fun hc => ?_) (fun hc => ?_)
        · refine aq rfl ?_; refine run_yes ?_; refine rs2 (by kernel_rfl) ?_; refine k_as rfl zq ?_; refine aq rfl ?_; refine run_ret rfl ?_; refine run_res (h) rfl Tryz.func38 rfl weakSub ?_; refine hK _ _ ?_
          exact ⟨rfl, by rw [hz0, if_neg (fun e => e rfl)]; unfold told; repeat first | rw [if_pos (by omega)] | rw [if_neg (by omega)]⟩
        · refine aq rfl ?_; refine run_no ?_; refine run_skip ?_; refine run_inBlock ?_; refine rs2 (by kernel_rfl) ?_; refine k_as rfl zq ?_; refine aq rfl ?_; refine run_ret rfl ?_; refine run_res (h) rfl Tryz.func38 rfl weakSub ?_; refine hK _ _ ?_
          exact ⟨rfl, by rw [hz0, if_neg (fun e => e rfl)]; unfold told; repeat first | rw [if_pos (by omega)] | rw [if_neg (by omega)]⟩
end Go.Proofs
