/- A part of the proof of a law: my own separation logic over the machine, and walks of the program. Condition of each theorem: as its statement says. -/
import Derived.Test.YtlbkicemccikgaaGreatDoorWLAsked5
set_option linter.all false
namespace Go.Proofs
open Go.Lo
open Go.Conc (G)
set_option maxRecDepth 100000
set_option synthInstance.maxSize 100000
set_option synthInstance.maxHeartbeats 1000000
set_option maxHeartbeats 4000000
variable {B : Array Obj}
variable [Laid B]
section
variable {P : Program} {B : Array Obj} {m : Md P B} {ops : Array Oper} {l l' : List Value} {S h h' H : Hp} {C : List Value → Hp → Prop} {i : Nat} {kd : Kd} {r : List (Nat × Kd)}
  {d : Option Tmp} {ty : TypeId} {pos : String} {af : Array Edge} {g : Option (Nat × Bool)}
theorem k_subU {t u : TypeId} {x y : Operand} {a b : Int} (ho : ops[i]? = some ⟨d, .binOp .sub t x y u, ty, pos, af, g⟩) (hw : Wt ops l g) [KHeap kd S h H] [ex : OpV l x (.int .u64 a)] [ey : OpV l y (.int .u64 b)] (hr : 0 ≤ a - b ∧ a - b < 18446744073709551616) [PutV l d (.int .u64 (a - b)) l']
    (n : RegK m S ops r l' h C) : RegK m S ops ((i, kd) :: r) l h C :=
  RegK.rd (v := .int .u64 (a - b)) ho hw (reads_int ex.eq ey.eq (by simp) (by
    have : IntKind.wrap .u64 (a - b) = a - b := by
      unfold IntKind.wrap
      simp [IntKind.bits, IntKind.signed]
      omega
    simp [binOp, Op.intArith, this]; rfl)) n
end
theorem f165_c (m : Md Tryz.prog B) (h : Hp) {bk n c : Nat} {xs : List Int} {junk : List Value} (hl : xs.length = n) (hn : n ≤ 100000) (hn6 : n ≤ 60000) (a b : Nat) (hab : a + 12 < b) (hb : b ≤ n) : FnC m 165 #[.slice (some ⟨bk, 0, none⟩) n c, .int .i64 (a : Int), .int .i64 (b : Int)] (h ++ [blkC bk xs junk]) fun v h' => v = .tuple [].toArray ∧ ∃ ys, h' = h ++ [blkC bk ys junk] ∧ Sw a b xs ys := by
  refine fn_enter Tryz.func165 rfl rfl (l := (.slice (some ⟨bk, 0, none⟩) n c) :: (.int .i64 (a : Int)) :: (.int .i64 (b : Int)) :: uu62) rfl ?_
  intro cf cs K hK
  refine rs4 (by kernel_rfl) ?_; refine mq rfl ?_; refine mq rfl ?_; refine k_sub rfl zq (by unfold In64; omega) ?_; obtain ⟨w, hwe⟩ : ∃ w : Nat, (b : Int) - (a : Int) = (w : Int) := ⟨b - a, by omega⟩
  have hwn : w = b - a := by omega
  rw [hwe]; refine aq rfl ?_; refine rs2 (by kernel_rfl) ?_; refine mq rfl ?_; refine k_geqS rfl zq (fun hc => ?_) (fun hc => ?_)
  · refine k_nil ?_; refine run_yes ?_; refine rs4 (by kernel_rfl) ?_; refine mq rfl ?_; refine k_conv rfl zq (by kernel_rfl) (n' := (w : Int)) (by unfold IntKind.wrap; simp [IntKind.bits, IntKind.signed]; omega) ?_; refine k_new rfl zq (fun q7 => k_hp (k_put ?_)); refine k_st1 rfl zq ?_; refine k_nil ?_; refine rs3 (by kernel_rfl) ?_; refine mq rfl ?_; refine k_calP rfl zq (by kernel_rfl) (fun H' hH => f177_c m H' w (by omega) (by omega)) ?_; rintro v ⟨M, rfl, hM1, hM2⟩; refine k_put ?_; refine aq rfl ?_; refine rs7 (by kernel_rfl) ?_; refine mq rfl ?_; refine mq rfl ?_; refine k_quo w 4 rfl zq rfl rfl (by omega) (by omega) ?_; refine k_mul rfl zq (by unfold In64; omega) ?_; refine k_add rfl zq (by unfold In64; omega) ?_; refine k_sub rfl zq (by unfold In64; omega) ?_; refine aq rfl ?_; refine run_block ?_; refine run_loop (fun nn l h' => ∃ (e : Nat) (z rr : Int) (ys : List Int), nn = 100000 - e ∧ (z = (e : Int)) ∧ (a ≤ e) ∧ (e ≤ a + w / 4 * 2 + 2) ∧ (Sw a b xs ys) ∧ (∃ U : Nat → Value, l = [.slice (some ⟨bk, 0, none⟩) n c, .int .i64 (a : Int), .int .i64 (b : Int), U 3, U 4, U 5, .int .i64 (w : Int), .pointer (some ⟨q7, 0, none⟩), .int .u64 M, .int .i64 z, U 10, U 11, U 12, U 13, U 14, U 15, U 16, U 17, U 18, U 19, U 20, U 21, U 22, U 23, U 24, U 25, U 26, U 27, U 28, U 29, U 30, U 31, U 32, U 33, U 34, U 35, U 36, U 37, U 38, U 39, U 40, U 41, U 42, U 43, U 44, U 45, U 46, U 47, U 48, U 49, U 50, U 51, U 52, U 53, U 54, U 55, U 56, U 57, U 58, U 59, U 60, U 61, U 62, U 63, U 64]) ∧ h ++ [blkC bk ys junk, ⟨true, q7, .cells [.int .u64 rr].toArray 187 (0, 0)⟩] = h') _ ⟨a + w / 4 * 2 - 1, _, (w : Int), xs, rfl, by omega, by omega, by omega, .refl _, exU rfl, rfl⟩ ?_; rintro nn l h' ⟨e, z, rr, ys, rfl, hz, he1, he2, hsw, ⟨U, rfl⟩, rfl⟩ hnext; have hyl := hsw.length
    refine run_seq ?_; refine rs8 (by kernel_rfl) ?_; refine mq rfl ?_; refine mq rfl ?_; refine mq rfl ?_; refine k_quo w 4 rfl zq rfl rfl (by omega) (by omega) ?_; refine k_mul rfl zq (by unfold In64; omega) ?_; refine k_add rfl zq (by unfold In64; omega) ?_; refine k_add rfl zq (by unfold In64; omega) ?_; refine k_leqS rfl zq (fun hc => ?_) (fun hc => ?_)
    · refine k_nil ?_; refine run_yes ?_; refine run_skip ?_; refine run_seq ?_; refine run_block ?_; refine rs6 (by kernel_rfl) ?_; refine k_cal (Post := fun v h' => ∃ r1 : Int, v = .int .u64 r1 ∧ h' = h ++ [blkC bk ys junk, ⟨true, q7, .cells [.int .u64 r1].toArray 187 (0, 0)⟩] ∧ 0 ≤ r1 ∧ r1 < 18446744073709551616) rfl zq (by kernel_rfl) (by have := f178_c m (h ++ [blkC bk ys junk]) q7 rr; simpa [List.append_assoc] using this) ?_; rintro v h' ⟨r1, rfl, rfl, hr1, hr2⟩; refine k_put ?_; refine mq rfl ?_; refine k_subU rfl zq (by omega) ?_; refine k_andU rfl zq (by omega) (fun v7 hv7 => k_put ?_); refine k_conv rfl zq (by kernel_rfl) (n' := v7) (by unfold IntKind.wrap; simp [IntKind.bits, IntKind.signed]; omega) ?_; refine aq rfl ?_; refine run_seq ?_; refine rs3 (by kernel_rfl) ?_; refine mq rfl ?_; refine mq rfl ?_; refine k_geqS rfl zq (fun hc => ?_) (fun hc => ?_)
      · refine k_nil ?_; refine run_yes ?_; refine rr4 (by kernel_rfl) ?_; refine mq rfl ?_; refine mq rfl ?_; refine k_sub rfl zq (by unfold In64; omega) ?_; obtain ⟨o, hoe, how⟩ : ∃ o : Nat, v7 - (w : Int) = (o : Int) ∧ o < w := ⟨(v7 - w).toNat, by omega, by omega⟩
        rw [hoe]; refine aq rfl ?_; refine run_draw [(0, .pure), (1, .pure), (2, .pure), (3, .pure), (4, .pure), (5, .pure), (6, .pure), (7, .pure), (8, .pure), (9, .pure), (10, .pure), (12, .pure), (13, .pure), (14, .pure), (11, .read), (15, .read), (16, .pure), (17, .free), (18, .pure), (19, .free)] (by kernel_rfl) (by kernel_rfl) (List.Sublist.refl _) ?_; refine mq rfl ?_; refine mq rfl ?_; refine mq rfl ?_; refine mq rfl ?_; refine mq rfl ?_; refine k_add rfl zq (by unfold In64; omega) ?_; refine mq rfl ?_; refine mq rfl ?_; refine mq rfl ?_; refine k_add rfl zq (by unfold In64; omega) ?_; refine k_ixs rfl zq (by first | rfl | assumption) (by omega) (by omega) ?_; refine mq rfl ?_; refine mq rfl ?_; refine k_ixs rfl zq (by first | rfl | assumption) (by omega) (by omega) ?_; refine k_ld rfl zq (rd_blkI (a + o) (by omega) (by omega)) ?_; refine k_ld rfl zq (rd_blkI (e) (by omega) (by omega)) ?_; refine k_ixs rfl zq (by first | rfl | assumption) (by omega) (by omega) ?_; haveI hs1 := setSeg_ints (xs := ys) (junk := junk) (v := ys.getD (a + o) 0) (i := z) (k := e) (by omega) (by omega)
        refine k_st1 rfl zq ?_; refine k_ixs rfl zq (by first | rfl | assumption) (by omega) (by omega) ?_; haveI hs2 := setSeg_ints (xs := ys.set (e) (ys.getD (a + o) 0)) (junk := junk) (v := ys.getD (e) 0) (i := (a : Int) + (o : Int)) (k := a + o) (by omega) (by simp; omega)
        refine k_st1 rfl zq ?_; rw [swapL_at]; refine k_nil ?_; refine run_inBlock ?_; refine rr3 (by kernel_rfl) ?_; refine mq rfl ?_; refine k_add rfl zq (by unfold In64; omega) ?_; refine aq rfl ?_; exact m.weak weakSub (hnext _ _ _ (by omega) ⟨e + 1, z + 1, r1, _, rfl, by omega, by omega, by omega, .step e (a + o) ⟨by omega, by omega⟩ ⟨by omega, by omega⟩ hsw, exU rfl, rfl⟩)
      · obtain ⟨o, hoe, how⟩ : ∃ o : Nat, v7 = (o : Int) ∧ o < w := ⟨v7.toNat, by omega, by omega⟩
        rw [hoe]; refine k_nil ?_; refine run_no ?_; refine run_skip ?_; refine run_draw [(0, .pure), (1, .pure), (2, .pure), (3, .pure), (4, .pure), (5, .pure), (6, .pure), (7, .pure), (8, .pure), (9, .pure), (10, .pure), (12, .pure), (13, .pure), (14, .pure), (11, .read), (15, .read), (16, .pure), (17, .free), (18, .pure), (19, .free)] (by kernel_rfl) (by kernel_rfl) (List.Sublist.refl _) ?_; refine mq rfl ?_; refine mq rfl ?_; refine mq rfl ?_; refine mq rfl ?_; refine mq rfl ?_; refine k_add rfl zq (by unfold In64; omega) ?_; refine mq rfl ?_; refine mq rfl ?_; refine mq rfl ?_; refine k_add rfl zq (by unfold In64; omega) ?_; refine k_ixs rfl zq (by first | rfl | assumption) (by omega) (by omega) ?_; refine mq rfl ?_; refine mq rfl ?_; refine k_ixs rfl zq (by first | rfl | assumption) (by omega) (by omega) ?_; refine k_ld rfl zq (rd_blkI (a + o) (by omega) (by omega)) ?_; refine k_ld rfl zq (rd_blkI (e) (by omega) (by omega)) ?_; refine k_ixs rfl zq (by first | rfl | assumption) (by omega) (by omega) ?_; haveI hs1 := setSeg_ints (xs := ys) (junk := junk) (v := ys.getD (a + o) 0) (i := z) (k := e) (by omega) (by omega)
        refine k_st1 rfl zq ?_; refine k_ixs rfl zq (by first | rfl | assumption) (by omega) (by omega) ?_; haveI hs2 := setSeg_ints (xs := ys.set (e) (ys.getD (a + o) 0)) (junk := junk) (v := ys.getD (e) 0) (i := (a : Int) + (o : Int)) (k := a + o) (by omega) (by simp; omega)
        refine k_st1 rfl zq ?_; rw [swapL_at]; refine k_nil ?_; refine run_inBlock ?_; refine rr3 (by kernel_rfl) ?_; refine mq rfl ?_; refine k_add rfl zq (by unfold In64; omega) ?_; refine aq rfl ?_; exact m.weak weakSub (hnext _ _ _ (by omega) ⟨e + 1, z + 1, r1, _, rfl, by omega, by omega, by omega, .step e (a + o) ⟨by omega, by omega⟩ ⟨by omega, by omega⟩ hsw, exU rfl, rfl⟩)
    · refine k_nil ?_; refine run_no ?_; refine run_exit rfl ?_; refine run_end rfl ?_; refine run_res (h ++ [blkC bk ys junk]) rfl Tryz.func165 rfl weakSub ?_; refine hK _ _ ?_
      exact ⟨rfl, ys, rfl, hsw⟩
  · exfalso; omega
theorem f182_c (m : Md Tryz.prog B) (h : Hp) {bk n c : Nat} {xs : List Int} {junk : List Value} (hl : xs.length = n) (hn : n ≤ 100000) (a b q : Nat) (s : Int) (hs : 0 ≤ s ∧ s ≤ 1000) (ha : a < n) (hb : b < n) : FnC m 182 #[.slice (some ⟨bk, 0, none⟩) n c, .int .i64 (a : Int), .int .i64 (b : Int), .pointer (some ⟨q, 0, none⟩)] (h ++ [blkC bk xs junk, ⟨true, q, .cells [.int .i64 s].toArray 3 (0, 0)⟩]) fun v h' => ∃ (s1 : Int) (x y : Nat), v = .tuple [.int .i64 (x : Int), .int .i64 (y : Int)].toArray ∧ h' = h ++ [blkC bk xs junk, ⟨true, q, .cells [.int .i64 s1].toArray 3 (0, 0)⟩] ∧ s ≤ s1 ∧ s1 ≤ s + 1 ∧ ((x = a ∧ y = b) ∨ (x = b ∧ y = a)) := by
  refine fn_enter Tryz.func182 rfl rfl (l := (.slice (some ⟨bk, 0, none⟩) n c) :: (.int .i64 (a : Int)) :: (.int .i64 (b : Int)) :: (.pointer (some ⟨q, 0, none⟩)) :: uu24) rfl ?_
  intro cf cs K hK
  refine rs2 (by kernel_rfl) ?_; refine k_as rfl zq ?_; refine aq rfl ?_; refine run_seq ?_; refine run_seq ?_; refine run_draw [(0, .pure), (1, .pure), (2, .pure), (4, .pure), (5, .pure), (6, .pure), (3, .read), (7, .read), (8, .keep)] (by kernel_rfl) (by kernel_rfl) (List.Sublist.refl _) ?_; refine mq rfl ?_; refine mq rfl ?_; refine k_ixs rfl zq (by first | rfl | assumption) (by omega) (by omega) ?_; refine mq rfl ?_; refine mq rfl ?_; refine k_ixs rfl zq (by first | rfl | assumption) (by omega) (by omega) ?_; refine k_ld rfl zq (rd_blkI (b) (by omega) (by omega)) ?_; refine k_ld rfl zq (rd_blkI (a) (by omega) (by omega)) ?_; refine k_calP (Post := fun v => IsB _ v) rfl zq (by kernel_rfl) (fun H' hH => f169_c m H' _ _) ?_; rintro v (⟨hc, rfl⟩ | ⟨hc, rfl⟩)
  · refine k_put ?_; refine k_nil ?_; refine run_yes ?_; refine rs6 (by kernel_rfl) ?_; refine mq rfl ?_; refine k_nilC rfl zq ?_; refine k_ldh rfl zq ?_; refine k_add rfl zq (by unfold In64; omega) ?_; refine k_nilC rfl zq ?_; refine k_st1 rfl zq ?_; refine k_nil ?_; refine rs4 (by kernel_rfl) ?_; refine mq rfl ?_; refine mq rfl ?_; refine k_as rfl zq ?_; refine aq rfl ?_; refine run_ret rfl ?_; refine run_res (h ++ [blkC bk xs junk, ⟨true, q, .cells [.int .i64 (s + 1)].toArray 3 (0, 0)⟩]) rfl Tryz.func182 rfl weakSub ?_; refine hK _ _ ?_
    exact ⟨s + 1, b, a, rfl, rfl, by omega, by omega, .inr ⟨rfl, rfl⟩⟩
  · refine k_put ?_; refine k_nil ?_; refine run_no ?_; refine run_skip ?_; refine rs4 (by kernel_rfl) ?_; refine mq rfl ?_; refine mq rfl ?_; refine k_as rfl zq ?_; refine aq rfl ?_; refine run_ret rfl ?_; refine run_res (h ++ [blkC bk xs junk, ⟨true, q, .cells [.int .i64 s].toArray 3 (0, 0)⟩]) rfl Tryz.func182 rfl weakSub ?_; refine hK _ _ ?_
    exact ⟨s, a, b, rfl, rfl, by omega, by omega, .inl ⟨rfl, rfl⟩⟩
theorem f180_c (m : Md Tryz.prog B) (h : Hp) {bk n c : Nat} {xs : List Int} {junk : List Value} (hl : xs.length = n) (hn : n ≤ 100000) (a b c0 q : Nat) (s : Int) (hs : 0 ≤ s ∧ s ≤ 900) (ha : a < n) (hb : b < n) (hc : c0 < n) : FnC m 180 #[.slice (some ⟨bk, 0, none⟩) n c, .int .i64 (a : Int), .int .i64 (b : Int), .int .i64 (c0 : Int), .pointer (some ⟨q, 0, none⟩)] (h ++ [blkC bk xs junk, ⟨true, q, .cells [.int .i64 s].toArray 3 (0, 0)⟩]) fun v h' => ∃ (s1 : Int) (y : Nat), v = .int .i64 (y : Int) ∧ h' = h ++ [blkC bk xs junk, ⟨true, q, .cells [.int .i64 s1].toArray 3 (0, 0)⟩] ∧ s ≤ s1 ∧ s1 ≤ s + 3 ∧ (y = a ∨ y = b ∨ y = c0) := by
  refine fn_enter Tryz.func180 rfl rfl (l := (.slice (some ⟨bk, 0, none⟩) n c) :: (.int .i64 (a : Int)) :: (.int .i64 (b : Int)) :: (.int .i64 (c0 : Int)) :: (.pointer (some ⟨q, 0, none⟩)) :: uu31) rfl ?_
  intro cf cs K hK
  refine rs1 (by kernel_rfl) ?_; refine aq rfl ?_; refine rs10 (by kernel_rfl) ?_; refine mq rfl ?_; refine mq rfl ?_; refine mq rfl ?_; refine mq rfl ?_; refine k_cal rfl zq (by kernel_rfl) (f182_c m h hl hn a b q s (by omega) (by omega) (by omega)) ?_; rintro v h' ⟨s1, x1, y1, rfl, rfl, hs1a, hs1b, hxy1⟩; refine k_put ?_; refine mq rfl ?_; refine k_ext0 rfl zq ?_; refine k_ext1 rfl zq ?_; refine k_as rfl zq ?_; refine aq rfl ?_; refine rs10 (by kernel_rfl) ?_; refine mq rfl ?_; refine mq rfl ?_; refine mq rfl ?_; refine mq rfl ?_; refine k_cal rfl zq (by kernel_rfl) (f182_c m h hl hn y1 c0 q s1 (by omega) (by omega) (by omega)) ?_; rintro v h' ⟨s2, x2, y2, rfl, rfl, hs2a, hs2b, hxy2⟩; refine k_put ?_; refine mq rfl ?_; refine k_ext0 rfl zq ?_; refine k_ext1 rfl zq ?_; refine k_as rfl zq ?_; refine aq rfl ?_; refine rs10 (by kernel_rfl) ?_; refine mq rfl ?_; refine mq rfl ?_; refine mq rfl ?_; refine mq rfl ?_; refine k_cal rfl zq (by kernel_rfl) (f182_c m h hl hn x1 x2 q s2 (by omega) (by omega) (by omega)) ?_; rintro v h' ⟨s3, x3, y3, rfl, rfl, hs3a, hs3b, hxy3⟩; refine k_put ?_; refine mq rfl ?_; refine k_ext0 rfl zq ?_; refine k_ext1 rfl zq ?_; refine k_as rfl zq ?_; refine aq rfl ?_; refine rs2 (by kernel_rfl) ?_; refine mq rfl ?_; refine aq rfl ?_; refine run_ret rfl ?_; refine run_res (h ++ [blkC bk xs junk, ⟨true, q, .cells [.int .i64 s3].toArray 3 (0, 0)⟩]) rfl Tryz.func180 rfl weakSub ?_; refine hK _ _ ?_
  exact ⟨s3, y3, rfl, rfl, by omega, by omega, by omega⟩
theorem f179_c (m : Md Tryz.prog B) (h : Hp) {bk n c : Nat} {xs : List Int} {junk : List Value} (hl : xs.length = n) (hn : n ≤ 100000) (a q : Nat) (s : Int) (hs : 0 ≤ s ∧ s ≤ 900) (ha : 1 ≤ a) (hb : a + 1 < n) : FnC m 179 #[.slice (some ⟨bk, 0, none⟩) n c, .int .i64 (a : Int), .pointer (some ⟨q, 0, none⟩)] (h ++ [blkC bk xs junk, ⟨true, q, .cells [.int .i64 s].toArray 3 (0, 0)⟩]) fun v h' => ∃ (s1 : Int) (y : Nat), v = .int .i64 (y : Int) ∧ h' = h ++ [blkC bk xs junk, ⟨true, q, .cells [.int .i64 s1].toArray 3 (0, 0)⟩] ∧ s ≤ s1 ∧ s1 ≤ s + 3 ∧ (a - 1 ≤ y ∧ y ≤ a + 1) := by
  refine fn_enter Tryz.func179 rfl rfl (l := (.slice (some ⟨bk, 0, none⟩) n c) :: (.int .i64 (a : Int)) :: (.pointer (some ⟨q, 0, none⟩)) :: uu12) rfl ?_
  intro cf cs K hK
  refine rs1 (by kernel_rfl) ?_; refine aq rfl ?_; refine rs9 (by kernel_rfl) ?_; refine mq rfl ?_; refine mq rfl ?_; refine k_sub rfl zq (by unfold In64; omega) ?_; refine mq rfl ?_; refine mq rfl ?_; refine k_add rfl zq (by unfold In64; omega) ?_; rw [show (a : Int) - 1 = ((a - 1 : Nat) : Int) by omega, show (a : Int) + 1 = ((a + 1 : Nat) : Int) by omega]; refine mq rfl ?_; refine k_cal rfl zq (by kernel_rfl) (f180_c m h hl hn (a - 1) a (a + 1) q s hs (by omega) (by omega) (by omega)) ?_; rintro v h' ⟨s1, y, rfl, rfl, hs1, hs2, hy⟩; refine k_put ?_; refine aq rfl ?_; refine run_ret rfl ?_; refine run_res (h ++ [blkC bk xs junk, ⟨true, q, .cells [.int .i64 s1].toArray 3 (0, 0)⟩]) rfl Tryz.func179 rfl weakSub ?_; refine hK _ _ ?_
  exact ⟨s1, y, rfl, rfl, hs1, hs2, by omega⟩
theorem f166_c (m : Md Tryz.prog B) (h : Hp) {bk n c : Nat} {xs : List Int} {junk : List Value} (hl : xs.length = n) (hn : n ≤ 100000) (a b : Nat) (hab : a + 12 < b) (hb : b ≤ n) : FnC m 166 #[.slice (some ⟨bk, 0, none⟩) n c, .int .i64 (a : Int), .int .i64 (b : Int)] (h ++ [blkC bk xs junk]) fun v h' => ∃ (p : Nat) (k : Int), v = .tuple [.int .i64 (p : Int), .int .i64 k].toArray ∧ h' = h ++ [blkC bk xs junk] ∧ a ≤ p ∧ p < b := by
  refine fn_enter Tryz.func166 rfl rfl (l := (.slice (some ⟨bk, 0, none⟩) n c) :: (.int .i64 (a : Int)) :: (.int .i64 (b : Int)) :: uu54) rfl ?_
  intro cf cs K hK
  refine rs2 (by kernel_rfl) ?_; refine k_as rfl zq ?_; refine aq rfl ?_; refine rs4 (by kernel_rfl) ?_; refine mq rfl ?_; refine mq rfl ?_; refine k_sub rfl zq (by unfold In64; omega) ?_; obtain ⟨w, hwe⟩ : ∃ w : Nat, (b : Int) - (a : Int) = (w : Int) := ⟨b - a, by omega⟩
  have hwn : w = b - a := by omega
  rw [hwe]; refine aq rfl ?_; refine rs1 (by kernel_rfl) ?_; refine k_new rfl zq (fun q9 => k_hp (k_put ?_)); refine k_nil ?_; refine rs6 (by kernel_rfl) ?_; refine mq rfl ?_; refine mq rfl ?_; refine k_quo w 4 rfl zq rfl rfl (by omega) (by omega) ?_; refine k_mul rfl zq (by unfold In64; omega) ?_; refine k_add rfl zq (by unfold In64; omega) ?_; obtain ⟨i0, hi0⟩ : ∃ x : Nat, (a : Int) + ((w / 4 : Nat) : Int) * 1 = (x : Int) := ⟨a + w / 4 * 1, by push_cast; rfl⟩
  have hi0n : i0 = a + w / 4 * 1 := by omega
  rw [hi0]; refine aq rfl ?_; refine rs6 (by kernel_rfl) ?_; refine mq rfl ?_; refine mq rfl ?_; refine k_quo w 4 rfl zq rfl rfl (by omega) (by omega) ?_; refine k_mul rfl zq (by unfold In64; omega) ?_; refine k_add rfl zq (by unfold In64; omega) ?_; obtain ⟨j0, hj0⟩ : ∃ x : Nat, (a : Int) + ((w / 4 : Nat) : Int) * 2 = (x : Int) := ⟨a + w / 4 * 2, by push_cast; rfl⟩
  have hj0n : j0 = a + w / 4 * 2 := by omega
  rw [hj0]; refine aq rfl ?_; refine rs6 (by kernel_rfl) ?_; refine mq rfl ?_; refine mq rfl ?_; refine k_quo w 4 rfl zq rfl rfl (by omega) (by omega) ?_; refine k_mul rfl zq (by unfold In64; omega) ?_; refine k_add rfl zq (by unfold In64; omega) ?_; obtain ⟨k0, hk0⟩ : ∃ x : Nat, (a : Int) + ((w / 4 : Nat) : Int) * 3 = (x : Int) := ⟨a + w / 4 * 3, by push_cast; rfl⟩
  have hk0n : k0 = a + w / 4 * 3 := by omega
  rw [hk0]; refine aq rfl ?_; refine run_seq ?_; refine rs2 (by kernel_rfl) ?_; refine mq rfl ?_; refine k_geqS rfl zq (fun hc => ?_) (fun hc => ?_)
  · refine k_nil ?_; refine run_yes ?_; refine run_seq ?_; refine rs2 (by kernel_rfl) ?_; refine mq rfl ?_; refine k_geqS rfl zq (fun hc => ?_) (fun hc => ?_)
    · refine k_nil ?_; refine run_yes ?_; refine rs4 (by kernel_rfl) ?_; refine mq rfl ?_; refine mq rfl ?_; refine k_cal rfl zq (by kernel_rfl) (f179_c m h hl hn i0 q9 0 (by omega) (by omega) (by omega)) ?_; rintro v h' ⟨s1, y1, rfl, rfl, hs1a, hs1b, hy1⟩; refine k_put ?_; refine aq rfl ?_; refine rs4 (by kernel_rfl) ?_; refine mq rfl ?_; refine mq rfl ?_; refine k_cal rfl zq (by kernel_rfl) (f179_c m h hl hn j0 q9 s1 (by omega) (by omega) (by omega)) ?_; rintro v h' ⟨s2, y2, rfl, rfl, hs2a, hs2b, hy2⟩; refine k_put ?_; refine aq rfl ?_; refine rr4 (by kernel_rfl) ?_; refine mq rfl ?_; refine mq rfl ?_; refine k_cal rfl zq (by kernel_rfl) (f179_c m h hl hn k0 q9 s2 (by omega) (by omega) (by omega)) ?_; rintro v h' ⟨s3, y3, rfl, rfl, hs3a, hs3b, hy3⟩; refine k_put ?_; refine aq rfl ?_; refine rr6 (by kernel_rfl) ?_; refine mq rfl ?_; refine mq rfl ?_; refine mq rfl ?_; refine mq rfl ?_; refine k_cal rfl zq (by kernel_rfl) (f180_c m h hl hn _ _ _ q9 _ (by omega) (by omega) (by omega) (by omega)) ?_; rintro v h' ⟨s4, p, rfl, rfl, hs4a, hs4b, hp⟩; refine k_put ?_; refine aq rfl ?_; refine rs1 (by kernel_rfl) ?_; refine k_ldh rfl zq ?_; refine k_nil ?_; refine run_block ?_; refine rs2 (by kernel_rfl) ?_; refine k_eqlS rfl zq (fun hc => ?_) (fun hc => ?_)
      · refine aq rfl ?_; refine run_yes ?_; refine rs3 (by kernel_rfl) ?_; refine mq rfl ?_; refine k_as rfl zq ?_; refine aq rfl ?_; refine run_ret rfl ?_; refine run_res (h ++ [blkC bk xs junk]) rfl Tryz.func166 rfl weakSub ?_; refine hK _ _ ?_
        exact ⟨p, _, rfl, rfl, by omega, by omega⟩
      · refine aq rfl ?_; refine run_no ?_; refine rs2 (by kernel_rfl) ?_; refine k_eqlS rfl zq (fun hc => ?_) (fun hc => ?_)
        · refine aq rfl ?_; refine run_yes ?_; refine rs3 (by kernel_rfl) ?_; refine mq rfl ?_; refine k_as rfl zq ?_; refine aq rfl ?_; refine run_ret rfl ?_; refine run_res (h ++ [blkC bk xs junk]) rfl Tryz.func166 rfl weakSub ?_; refine hK _ _ ?_
          exact ⟨p, _, rfl, rfl, by omega, by omega⟩
        · refine aq rfl ?_; refine run_no ?_; refine rs3 (by kernel_rfl) ?_; refine mq rfl ?_; refine k_as rfl zq ?_; refine aq rfl ?_; refine run_ret rfl ?_; refine run_res (h ++ [blkC bk xs junk]) rfl Tryz.func166 rfl weakSub ?_; refine hK _ _ ?_
          exact ⟨p, _, rfl, rfl, by omega, by omega⟩
    · refine k_nil ?_; refine run_no ?_; refine run_skip ?_; refine rr6 (by kernel_rfl) ?_; refine mq rfl ?_; refine mq rfl ?_; refine mq rfl ?_; refine mq rfl ?_; refine k_cal rfl zq (by kernel_rfl) (f180_c m h hl hn _ _ _ q9 _ (by omega) (by omega) (by omega) (by omega)) ?_; rintro v h' ⟨s4, p, rfl, rfl, hs4a, hs4b, hp⟩; refine k_put ?_; refine aq rfl ?_; refine rs1 (by kernel_rfl) ?_; refine k_ldh rfl zq ?_; refine k_nil ?_; refine run_block ?_; refine rs2 (by kernel_rfl) ?_; refine k_eqlS rfl zq (fun hc => ?_) (fun hc => ?_)
      · refine aq rfl ?_; refine run_yes ?_; refine rs3 (by kernel_rfl) ?_; refine mq rfl ?_; refine k_as rfl zq ?_; refine aq rfl ?_; refine run_ret rfl ?_; refine run_res (h ++ [blkC bk xs junk]) rfl Tryz.func166 rfl weakSub ?_; refine hK _ _ ?_
        exact ⟨p, _, rfl, rfl, by omega, by omega⟩
      · refine aq rfl ?_; refine run_no ?_; refine rs2 (by kernel_rfl) ?_; refine k_eqlS rfl zq (fun hc => ?_) (fun hc => ?_)
        · refine aq rfl ?_; refine run_yes ?_; refine rs3 (by kernel_rfl) ?_; refine mq rfl ?_; refine k_as rfl zq ?_; refine aq rfl ?_; refine run_ret rfl ?_; refine run_res (h ++ [blkC bk xs junk]) rfl Tryz.func166 rfl weakSub ?_; refine hK _ _ ?_
          exact ⟨p, _, rfl, rfl, by omega, by omega⟩
        · refine aq rfl ?_; refine run_no ?_; refine rs3 (by kernel_rfl) ?_; refine mq rfl ?_; refine k_as rfl zq ?_; refine aq rfl ?_; refine run_ret rfl ?_; refine run_res (h ++ [blkC bk xs junk]) rfl Tryz.func166 rfl weakSub ?_; refine hK _ _ ?_
          exact ⟨p, _, rfl, rfl, by omega, by omega⟩
  · exfalso; omega
def Out (ys : List Int) (a b a1 b1 : Nat) : Prop := ∀ p q, a ≤ p → p < q → q < b → (p < a1 ∨ b1 ≤ q) → ys.getD p 0 ≤ ys.getD q 0
theorem Out.sw {ys zs : List Int} {a b a1 b1 : Nat} (h : Out ys a b a1 b1) (s : Sw a1 b1 ys zs) (hb : b1 ≤ b) (hl : b ≤ ys.length) (ha : a ≤ a1) : Out zs a b a1 b1 := fun p q h1 h2 h3 h4 => by
  by_cases e1 : p < a1
  · rw [s.out (by omega) (.inl e1)]; by_cases e2 : a1 ≤ q ∧ q < b1
    · exact s.all (p := fun v => ys.getD p 0 ≤ v) (by omega) (fun k h5 h6 => h p k h1 (by omega) (by omega) (.inl e1)) q e2.1 e2.2
    · rw [s.out (by omega) (by omega)]; exact h p q h1 h2 h3 (.inl e1)
  · have e3 : b1 ≤ q := by omega
    rw [s.out (k := q) (by omega) (.inr e3)]; by_cases e2 : p < b1
    · exact s.all (p := fun v => v ≤ ys.getD q 0) (by omega) (fun k h5 h6 => h k q (by omega) (by omega) h3 (.inr e3)) p (by omega) e2
    · rw [s.out (by omega) (.inr (by omega))]; exact h p q h1 h2 h3 (.inr e3)
theorem Out.all {ys : List Int} {a b a1 b1 : Nat} (h : Out ys a b a1 b1) (hs : SortR ys a1 b1) : SortR ys a b := fun p q h1 h2 h3 => by
  by_cases e : p < a1 ∨ b1 ≤ q
  · exact h p q h1 h2 h3 e
  · exact hs p q (by omega) h2 (by omega)
theorem Out.left {ys : List Int} {a b a1 b1 q0 : Nat} (h : Out ys a b a1 b1) (hc : Cut ys a1 b1 q0) (hs : SortR ys a1 q0) : Out ys a b (q0 + 1) b1 := fun p q h1 h2 h3 h4 => by
  by_cases e : p < a1 ∨ b1 ≤ q
  · exact h p q h1 h2 h3 e
  · by_cases e1 : q < q0
    · exact hs p q (by omega) h2 e1
    · by_cases e2 : q = q0
      · subst e2; exact hc.1 p (by omega) h2
      · have h5 := hc.2 q (by omega) (by omega)
        by_cases e3 : p = q0
        · subst e3; exact h5
        · have := hc.1 p (by omega) (by omega); omega
theorem Out.right {ys : List Int} {a b a1 b1 q0 : Nat} (h : Out ys a b a1 b1) (hc : Cut ys a1 b1 q0) (hs : SortR ys (q0 + 1) b1) : Out ys a b a1 q0 := fun p q h1 h2 h3 h4 => by
  by_cases e : p < a1 ∨ b1 ≤ q
  · exact h p q h1 h2 h3 e
  · by_cases e1 : q0 < p
    · exact hs p q (by omega) h2 (by omega)
    · by_cases e2 : p = q0
      · subst e2; exact hc.2 q h2 (by omega)
      · have h5 := hc.1 p (by omega) (by omega)
        by_cases e3 : q = q0
        · subst e3; exact h5
        · have := hc.2 q (by omega) (by omega); omega
theorem Out.equal {ys : List Int} {a b a1 b1 q0 : Nat} (h : Out ys a b a1 b1) (hs : SortR ys a1 q0) (hx : ∀ p k, a1 ≤ p → p < q0 → q0 ≤ k → k < b1 → ys.getD p 0 ≤ ys.getD k 0) : Out ys a b q0 b1 := fun p q h1 h2 h3 h4 => by
  by_cases e : p < a1 ∨ b1 ≤ q
  · exact h p q h1 h2 h3 e
  · by_cases e1 : q < q0
    · exact hs p q (by omega) h2 e1
    · exact hx p q (by omega) (by omega) (by omega) (by omega)
theorem low_of {xs ys : List Int} {a b a1 b1 : Nat} (h : Low xs a b) (s : Sw a b xs ys) (o : Out ys a b a1 b1) (ha : a ≤ a1) (hb : b1 ≤ b) (hl : b ≤ xs.length) : Low ys a1 b1 := by
  by_cases e : a = a1
  · subst e
    rcases h.sw s hl with h1 | h1
    · exact .inl h1
    · exact .inr fun k hk1 hk2 => h1 k hk1 (by omega)
  · exact .inr fun k hk1 hk2 => o (a1 - 1) k (by omega) (by omega) (by omega) (.inl (by omega))
def PdqP {B : Array Obj} (m : Md Tryz.prog B) (N : Nat) : Prop := ∀ (h : Hp) (bk n c : Nat) (xs : List Int) (junk : List Value) (lim : Int) (a b : Nat), xs.length = n → n ≤ 60000 → 0 ≤ lim → lim ≤ 1000 → a ≤ b → b ≤ n → b - a ≤ N → Low xs a b →
  FnC m 152 #[.slice (some ⟨bk, 0, none⟩) n c, .int .i64 (a : Int), .int .i64 (b : Int), .int .i64 lim] (h ++ [blkC bk xs junk]) fun v h' => v = .tuple [].toArray ∧ ∃ ys, h' = h ++ [blkC bk ys junk] ∧ Sw a b xs ys ∧ SortR ys a b
theorem f152_i (m : Md Tryz.prog B) (N : Nat) (IH : ∀ M, M < N → PdqP m M) : PdqP m N := by
  intro h bk n c xs junk lim a b hl hn hk0 hk1 hab hb hN hlow
  refine fn_enter Tryz.func152 rfl rfl (l := (.slice (some ⟨bk, 0, none⟩) n c) :: (.int .i64 (a : Int)) :: (.int .i64 (b : Int)) :: (.int .i64 lim) :: uu130) rfl ?_
  intro cf cs K hK
  refine rs1 (by kernel_rfl) ?_; refine aq rfl ?_; refine rs1 (by kernel_rfl) ?_; refine aq rfl ?_; refine run_block ?_; refine run_loop (fun nn l h' => ∃ (a1 b1 : Nat) (lim1 : Int) (w1 w2 : Bool) (ys : List Int), nn = b1 - a1 + 0 ∧ (a ≤ a1) ∧ (a1 ≤ b1) ∧ (b1 ≤ b) ∧ (0 ≤ lim1) ∧ (lim1 ≤ 1000) ∧ (Sw a b xs ys) ∧ (Out ys a b a1 b1) ∧ (∃ U : Nat → Value, l = [.slice (some ⟨bk, 0, none⟩) n c, .int .i64 (a1 : Int), .int .i64 (b1 : Int), .int .i64 lim1, U 4, U 5, U 6, U 7, .bool w1, .bool w2, U 10, U 11, U 12, U 13, U 14, U 15, U 16, U 17, U 18, U 19, U 20, U 21, U 22, U 23, U 24, U 25, U 26, U 27, U 28, U 29, U 30, U 31, U 32, U 33, U 34, U 35, U 36, U 37, U 38, U 39, U 40, U 41, U 42, U 43, U 44, U 45, U 46, U 47, U 48, U 49, U 50, U 51, U 52, U 53, U 54, U 55, U 56, U 57, U 58, U 59, U 60, U 61, U 62, U 63, U 64, U 65, U 66, U 67, U 68, U 69, U 70, U 71, U 72, U 73, U 74, U 75, U 76, U 77, U 78, U 79, U 80, U 81, U 82, U 83, U 84, U 85, U 86, U 87, U 88, U 89, U 90, U 91, U 92, U 93, U 94, U 95, U 96, U 97, U 98, U 99, U 100, U 101, U 102, U 103, U 104, U 105, U 106, U 107, U 108, U 109, U 110, U 111, U 112, U 113, U 114, U 115, U 116, U 117, U 118, U 119, U 120, U 121, U 122, U 123, U 124, U 125, U 126, U 127, U 128, U 129, U 130, U 131, U 132, U 133]) ∧ h ++ [blkC bk ys junk] = h') _ ⟨a, b, lim, true, true, xs, rfl, by omega, by omega, by omega, by omega, by omega, .refl _, fun p q h1 h2 h3 h4 => by omega, exU rfl, rfl⟩ ?_; rintro nn l h' ⟨a1, b1, lim1, w1, w2, ys, rfl, ha1, hab1, hb1, hl0, hl1, hsw, hou, ⟨U, rfl⟩, rfl⟩ hnext; have hyl := hsw.length
  have hlo := low_of hlow hsw hou ha1 hb1 (by omega)
  refine run_block ?_; refine rs4 (by kernel_rfl) ?_; refine mq rfl ?_; refine mq rfl ?_; refine k_sub rfl zq (by unfold In64; omega) ?_; refine aq rfl ?_; refine run_seq ?_; refine rs2 (by kernel_rfl) ?_; refine mq rfl ?_; refine k_leqS rfl zq (fun hc => ?_) (fun hc => ?_)
  · refine k_nil ?_; refine run_yes ?_; refine rs4 (by kernel_rfl) ?_; refine mq rfl ?_; refine mq rfl ?_; refine mq rfl ?_; refine k_cal rfl zq (by kernel_rfl) (f163_c m h (by omega) (by omega) a1 b1 (by omega) (by omega)) ?_; rintro v h' ⟨rfl, zs, rfl, hzw, hzs⟩; refine k_put ?_; refine k_nil ?_; refine run_ret rfl ?_; refine run_res (h ++ [blkC bk zs junk]) rfl Tryz.func152 rfl weakSub ?_; refine hK _ _ ?_
    exact ⟨rfl, zs, rfl, hsw.trans (hzw.mono ha1 hb1), (hou.sw hzw hb1 (by omega) ha1).all hzs⟩
  · refine k_nil ?_; refine run_no ?_; refine run_skip ?_; refine run_seq ?_; refine rs2 (by kernel_rfl) ?_; refine mq rfl ?_; refine k_eqlS rfl zq (fun hc => ?_) (fun hc => ?_)
    · refine k_nil ?_; refine run_yes ?_; refine rs4 (by kernel_rfl) ?_; refine mq rfl ?_; refine mq rfl ?_; refine mq rfl ?_; refine k_cal rfl zq (by kernel_rfl) (f164_c m h (by omega) (by omega) a1 b1 (by omega) (by omega)) ?_; rintro v h' ⟨rfl, zs, rfl, hzw, hzs⟩; refine k_put ?_; refine k_nil ?_; refine run_ret rfl ?_; refine run_res (h ++ [blkC bk zs junk]) rfl Tryz.func152 rfl weakSub ?_; refine hK _ _ ?_
      exact ⟨rfl, zs, rfl, hsw.trans (hzw.mono ha1 hb1), (hou.sw hzw hb1 (by omega) ha1).all hzs⟩
    · refine k_nil ?_; refine run_no ?_; refine run_skip ?_; refine run_seqJ (fun l' h' => ∃ (lim2 : Int) (y1 : List Int), (0 ≤ lim2) ∧ (lim2 ≤ 1000) ∧ (Sw a1 b1 ys y1) ∧ (∃ U : Nat → Value, l' = [.slice (some ⟨bk, 0, none⟩) n c, .int .i64 (a1 : Int), .int .i64 (b1 : Int), .int .i64 lim2, U 4, U 5, U 6, U 7, .bool w1, .bool w2, .int .i64 ((b1 : Int) - (a1 : Int)), U 11, U 12, U 13, U 14, U 15, U 16, U 17, U 18, U 19, U 20, U 21, U 22, U 23, U 24, U 25, U 26, U 27, U 28, U 29, U 30, U 31, U 32, U 33, U 34, U 35, U 36, U 37, U 38, U 39, U 40, U 41, U 42, U 43, U 44, U 45, U 46, U 47, U 48, U 49, U 50, U 51, U 52, U 53, U 54, U 55, U 56, U 57, U 58, U 59, U 60, U 61, U 62, U 63, U 64, U 65, U 66, U 67, U 68, U 69, U 70, U 71, U 72, U 73, U 74, U 75, U 76, U 77, U 78, U 79, U 80, U 81, U 82, U 83, U 84, U 85, U 86, U 87, U 88, U 89, U 90, U 91, U 92, U 93, U 94, U 95, U 96, U 97, U 98, U 99, U 100, U 101, U 102, U 103, U 104, U 105, U 106, U 107, U 108, U 109, U 110, U 111, U 112, U 113, U 114, U 115, U 116, U 117, U 118, U 119, U 120, U 121, U 122, U 123, U 124, U 125, U 126, U 127, U 128, U 129, U 130, U 131, U 132, U 133]) ∧ h ++ [blkC bk y1 junk] = h') ?_ ?_
      · refine rs2 (by kernel_rfl) ?_; refine mq rfl ?_; refine k_not rfl zq ?_; refine k_nil ?_; refine run_split (fun hc => ?_) (fun hc => ?_)
        · first | replace hc := of_decide_eq_true hc | replace hc := of_decide_eq_false hc | skip
          refine rs4 (by kernel_rfl) ?_; refine mq rfl ?_; refine mq rfl ?_; refine mq rfl ?_; refine k_cal rfl zq (by kernel_rfl) (f165_c m h (by omega) (by omega) (by omega) a1 b1 (by omega) (by omega)) ?_; rintro v h' ⟨rfl, zb, rfl, hbw⟩; refine k_put ?_; refine k_nil ?_; refine rr3 (by kernel_rfl) ?_; refine mq rfl ?_; refine k_sub rfl zq (by unfold In64; omega) ?_; refine aq rfl ?_; refine Md.stop _ (.inl ⟨_, rfl, ?_⟩)
          first | exact ⟨_, _, by omega, by omega, by first | exact hbw | exact .refl _, exU rfl, rfl⟩
        · first | replace hc := of_decide_eq_true hc | replace hc := of_decide_eq_false hc | skip
          refine run_skip ?_; refine Md.stop _ (.inl ⟨_, rfl, ?_⟩)
          first | exact ⟨_, _, by omega, by omega, by first | exact hbw | exact .refl _, exU rfl, rfl⟩
      · rintro l' h' ⟨lim2, y1, hl2, hl3, hs1, ⟨U, rfl⟩, rfl⟩; have hy1 := hs1.length
        refine rs9 (by kernel_rfl) ?_; refine mq rfl ?_; refine mq rfl ?_; refine mq rfl ?_; refine k_cal rfl zq (by kernel_rfl) (f166_c m h (xs := y1) (by omega) (by omega) a1 b1 (by omega) (by omega)) ?_; rintro v h' ⟨p, hint, rfl, rfl, hp1, hp2⟩; refine k_put ?_; refine mq rfl ?_; refine k_ext0 rfl zq ?_; refine k_ext1 rfl zq ?_; refine k_as rfl zq ?_; refine aq rfl ?_; refine run_seqJ (fun l' h' => ∃ (p : Nat) (hint : Int) (y2 : List Int), (a1 ≤ p) ∧ (p < b1) ∧ (Sw a1 b1 ys y2) ∧ (∃ U : Nat → Value, l' = [.slice (some ⟨bk, 0, none⟩) n c, .int .i64 (a1 : Int), .int .i64 (b1 : Int), .int .i64 lim2, U 4, U 5, U 6, U 7, .bool w1, .bool w2, .int .i64 ((b1 : Int) - (a1 : Int)), .int .i64 (p : Int), .int .i64 hint, U 13, U 14, U 15, U 16, U 17, U 18, U 19, U 20, U 21, U 22, U 23, U 24, U 25, U 26, U 27, U 28, U 29, U 30, U 31, U 32, U 33, U 34, U 35, U 36, U 37, U 38, U 39, U 40, U 41, U 42, U 43, U 44, U 45, U 46, U 47, U 48, U 49, U 50, U 51, U 52, U 53, U 54, U 55, U 56, U 57, U 58, U 59, U 60, U 61, U 62, U 63, U 64, U 65, U 66, U 67, U 68, U 69, U 70, U 71, U 72, U 73, U 74, U 75, U 76, U 77, U 78, U 79, U 80, U 81, U 82, U 83, U 84, U 85, U 86, U 87, U 88, U 89, U 90, U 91, U 92, U 93, U 94, U 95, U 96, U 97, U 98, U 99, U 100, U 101, U 102, U 103, U 104, U 105, U 106, U 107, U 108, U 109, U 110, U 111, U 112, U 113, U 114, U 115, U 116, U 117, U 118, U 119, U 120, U 121, U 122, U 123, U 124, U 125, U 126, U 127, U 128, U 129, U 130, U 131, U 132, U 133]) ∧ h ++ [blkC bk y2 junk] = h') ?_ ?_
        · refine rs2 (by kernel_rfl) ?_; refine mq rfl ?_; refine k_eqlS rfl zq (fun hc => ?_) (fun hc => ?_)
          · refine k_nil ?_; refine run_yes ?_; refine rs4 (by kernel_rfl) ?_; refine mq rfl ?_; refine mq rfl ?_; refine mq rfl ?_; refine k_cal rfl zq (by kernel_rfl) (f167_c m h (xs := y1) (by omega) (by omega) a1 b1 (by omega) (by omega)) ?_; rintro v h' ⟨rfl, zr, rfl, hrw⟩; refine k_put ?_; refine k_nil ?_; refine rs7 (by kernel_rfl) ?_; refine mq rfl ?_; refine k_sub rfl zq (by unfold In64; omega) ?_; refine mq rfl ?_; refine mq rfl ?_; refine k_sub rfl zq (by unfold In64; omega) ?_; refine k_sub rfl zq (by unfold In64; omega) ?_; obtain ⟨p, hpe, hp1, hp2⟩ : ∃ p2 : Nat, (b1 : Int) - 1 - ((p : Int) - (a1 : Int)) = (p2 : Int) ∧ a1 ≤ p2 ∧ p2 < b1 := ⟨((b1 : Int) - 1 - ((p : Int) - (a1 : Int))).toNat, by omega, by omega, by omega⟩
            rw [hpe]; refine aq rfl ?_; refine rr1 (by kernel_rfl) ?_; refine aq rfl ?_; refine Md.stop _ (.inl ⟨_, rfl, ?_⟩)
            exact ⟨_, _, _, by omega, by omega, by first | exact hs1.trans hrw | exact hs1, exU rfl, rfl⟩
          · refine k_nil ?_; refine run_no ?_; refine run_skip ?_; refine Md.stop _ (.inl ⟨_, rfl, ?_⟩)
            exact ⟨_, _, _, by omega, by omega, by first | exact hs1.trans hrw | exact hs1, exU rfl, rfl⟩
        · rintro l' h' ⟨p, hint, y2, hp1, hp2, hs2, ⟨U, rfl⟩, rfl⟩; have hy2 := hs2.length
          refine run_seqJ (fun l' h' => ∃ (y3 : List Int), (Sw a1 b1 ys y3) ∧ (∃ U : Nat → Value, l' = [.slice (some ⟨bk, 0, none⟩) n c, .int .i64 (a1 : Int), .int .i64 (b1 : Int), .int .i64 lim2, U 4, U 5, U 6, U 7, .bool w1, .bool w2, .int .i64 ((b1 : Int) - (a1 : Int)), .int .i64 (p : Int), U 12, U 13, U 14, U 15, U 16, U 17, U 18, U 19, U 20, U 21, U 22, U 23, U 24, U 25, U 26, U 27, U 28, U 29, U 30, U 31, U 32, U 33, U 34, U 35, U 36, U 37, U 38, U 39, U 40, U 41, U 42, U 43, U 44, U 45, U 46, U 47, U 48, U 49, U 50, U 51, U 52, U 53, U 54, U 55, U 56, U 57, U 58, U 59, U 60, U 61, U 62, U 63, U 64, U 65, U 66, U 67, U 68, U 69, U 70, U 71, U 72, U 73, U 74, U 75, U 76, U 77, U 78, U 79, U 80, U 81, U 82, U 83, U 84, U 85, U 86, U 87, U 88, U 89, U 90, U 91, U 92, U 93, U 94, U 95, U 96, U 97, U 98, U 99, U 100, U 101, U 102, U 103, U 104, U 105, U 106, U 107, U 108, U 109, U 110, U 111, U 112, U 113, U 114, U 115, U 116, U 117, U 118, U 119, U 120, U 121, U 122, U 123, U 124, U 125, U 126, U 127, U 128, U 129, U 130, U 131, U 132, U 133]) ∧ h ++ [blkC bk y3 junk] = h') ?_ ?_
          · refine run_seq ?_; rcases w1 with _ | _
            · refine rr8 (by kernel_rfl) ?_; refine mq rfl ?_; refine mq rfl ?_; refine k_off rfl rfl ?_; refine k_pickF rfl zq ?_; refine mq rfl ?_; refine k_off rfl rfl ?_; refine k_off rfl rfl ?_; refine k_pickF rfl zq ?_; refine k_nil ?_; refine run_no ?_; refine run_skip ?_; refine Md.stop _ (.inl ⟨_, rfl, ?_⟩)
              exact ⟨_, by first | exact hs2.trans hiw | exact hs2, exU rfl, rfl⟩
            · rcases w2 with _ | _
              · refine rr8 (by kernel_rfl) ?_; refine mq rfl ?_; refine mq rfl ?_; refine k_mv rfl rfl ?_; refine k_pickT rfl zq ?_; refine mq rfl ?_; refine k_off rfl rfl ?_; refine k_off rfl rfl ?_; refine k_pickF rfl zq ?_; refine k_nil ?_; refine run_no ?_; refine run_skip ?_; refine Md.stop _ (.inl ⟨_, rfl, ?_⟩)
                exact ⟨_, by first | exact hs2.trans hiw | exact hs2, exU rfl, rfl⟩
              · refine rr8 (by kernel_rfl) ?_; refine mq rfl ?_; refine mq rfl ?_; refine k_mv rfl rfl ?_; refine k_pickT rfl zq ?_; refine mq rfl ?_; refine k_mv rfl rfl ?_; refine k_eqlS rfl rfl (fun hc => ?_) (fun hc => ?_)
                · refine k_pickT rfl zq ?_; refine k_nil ?_; refine run_yes ?_; refine rs4 (by kernel_rfl) ?_; refine mq rfl ?_; refine mq rfl ?_; refine mq rfl ?_; refine k_cal rfl zq (by kernel_rfl) (f168_c m h (xs := y2) (by omega) (by omega) a1 b1 (by omega) (by omega) (hlo.sw hs2 (by omega))) ?_; rintro v h' ⟨t168, zi, rfl, rfl, hiw, his⟩; refine k_put ?_; refine k_nil ?_; refine run_split (fun hc => ?_) (fun hc => ?_)
                  · first | replace hc := of_decide_eq_true hc | replace hc := of_decide_eq_false hc | skip
                    refine Md.stop _ (.inr ?_)
                    refine run_ret rfl ?_; refine run_res (h ++ [blkC bk zi junk]) rfl Tryz.func152 rfl weakSub ?_; refine hK _ _ ?_
                    exact ⟨rfl, zi, rfl, hsw.trans ((hs2.trans hiw).mono ha1 hb1), ((hou.sw hs2 hb1 (by omega) ha1).sw hiw hb1 (by omega) ha1).all (his (by assumption))⟩
                  · first | replace hc := of_decide_eq_true hc | replace hc := of_decide_eq_false hc | skip
                    refine run_skip ?_; refine Md.stop _ (.inl ⟨_, rfl, ?_⟩)
                    exact ⟨_, by first | exact hs2.trans hiw | exact hs2, exU rfl, rfl⟩
                · refine k_pickT rfl zq ?_; refine k_nil ?_; refine run_no ?_; refine run_skip ?_; refine Md.stop _ (.inl ⟨_, rfl, ?_⟩)
                  exact ⟨_, by first | exact hs2.trans hiw | exact hs2, exU rfl, rfl⟩
          · rintro l' h' ⟨y3, hs3, ⟨U, rfl⟩, rfl⟩; have hy3 := hs3.length
            have hlo3 := hlo.sw hs3 (by omega)
            refine run_seqJ (fun l' h' => ∃ (y4 : List Int), (Sw a1 b1 ys y4) ∧ (∃ U : Nat → Value, l' = [.slice (some ⟨bk, 0, none⟩) n c, .int .i64 (a1 : Int), .int .i64 (b1 : Int), .int .i64 lim2, U 4, U 5, U 6, U 7, .bool w1, .bool w2, .int .i64 ((b1 : Int) - (a1 : Int)), .int .i64 (p : Int), U 12, U 13, U 14, U 15, U 16, U 17, U 18, U 19, U 20, U 21, U 22, U 23, U 24, U 25, U 26, U 27, U 28, U 29, U 30, U 31, U 32, U 33, U 34, U 35, U 36, U 37, U 38, U 39, U 40, U 41, U 42, U 43, U 44, U 45, U 46, U 47, U 48, U 49, U 50, U 51, U 52, U 53, U 54, U 55, U 56, U 57, U 58, U 59, U 60, U 61, U 62, U 63, U 64, U 65, U 66, U 67, U 68, U 69, U 70, U 71, U 72, U 73, U 74, U 75, U 76, U 77, U 78, U 79, U 80, U 81, U 82, U 83, U 84, U 85, U 86, U 87, U 88, U 89, U 90, U 91, U 92, U 93, U 94, U 95, U 96, U 97, U 98, U 99, U 100, U 101, U 102, U 103, U 104, U 105, U 106, U 107, U 108, U 109, U 110, U 111, U 112, U 113, U 114, U 115, U 116, U 117, U 118, U 119, U 120, U 121, U 122, U 123, U 124, U 125, U 126, U 127, U 128, U 129, U 130, U 131, U 132, U 133]) ∧ h ++ [blkC bk y4 junk] = h') ?_ ?_
            · refine run_seq ?_; refine run_draw [(0, .pure), (1, .pure), (2, .pure), (3, .pure), (4, .pure), (5, .pure), (6, .pure), (8, .pure), (9, .pure), (10, .pure), (7, .read), (11, .read), (12, .keep), (13, .pure), (14, .pure)] (by kernel_rfl) (by kernel_rfl) (List.Sublist.refl _) ?_; refine mq rfl ?_; refine k_gtrS rfl zq (fun hc => ?_) (fun hc => ?_)
              · refine mq rfl ?_; refine k_mv rfl rfl ?_; refine k_mv rfl rfl ?_; refine k_sub rfl rfl (by unfold In64; omega) ?_; refine k_ixs rfl rfl (by first | rfl | assumption) (by omega) (by omega) ?_; refine k_mv rfl rfl ?_; refine k_mv rfl rfl ?_; refine k_ixs rfl rfl (by first | rfl | assumption) (by omega) (by omega) ?_; refine k_ld rfl rfl (rd_blkI (a1 - 1) (by omega) (by omega)) ?_; refine k_ld rfl rfl (rd_blkI p (by omega) (by omega)) ?_; refine k_calP (Post := fun v => IsB _ v) rfl rfl (by kernel_rfl) (fun H' hH => f169_c m H' _ _) ?_; rintro v (⟨hc, rfl⟩ | ⟨hc, rfl⟩)
                · refine k_put ?_; refine k_notT rfl rfl ?_; refine k_pickT rfl zq ?_; refine k_nil ?_; refine run_no ?_; refine run_skip ?_; refine Md.stop _ (.inl ⟨_, rfl, ?_⟩)
                  exact ⟨_, hs3, exU rfl, rfl⟩
                · refine k_put ?_; refine k_notF rfl rfl ?_; refine k_pickT rfl zq ?_; refine k_nil ?_; refine run_yes ?_; refine rs6 (by kernel_rfl) ?_; refine mq rfl ?_; refine mq rfl ?_; refine mq rfl ?_; refine mq rfl ?_; refine k_cal rfl zq (by kernel_rfl) (f170_c m h (xs := y3) (by omega) (by omega) a1 b1 p (by omega) (by omega) (by omega) (fun k hk1 hk2 => by
                    rcases hlo3 with e | e
                    · omega
                    · have := e k hk1 hk2; omega)) ?_
                  rintro v h' ⟨q, zs, rfl, rfl, hzw, hq1, hq2, hzs, hzx⟩; refine k_put ?_; refine aq rfl ?_; refine rs2 (by kernel_rfl) ?_; refine mq rfl ?_; refine aq rfl ?_; refine Md.stop _ (.inr ?_)
                  refine run_exit rfl ?_; exact m.weak weakSub (hnext _ _ _ (by omega) ⟨q, b1, lim2, w1, w2, zs, rfl, by omega, by omega, by omega, by omega, by omega, (hsw.trans (hs3.mono ha1 hb1)).trans (hzw.mono ha1 hb1), ((hou.sw hs3 hb1 (by omega) ha1).sw hzw hb1 (by omega) ha1).equal hzs hzx, exU rfl, rfl⟩)
              · refine mq rfl ?_; refine k_off rfl rfl ?_; refine k_off rfl rfl ?_; refine k_off rfl rfl ?_; refine k_off rfl rfl ?_; refine k_off rfl rfl ?_; refine k_off rfl rfl ?_; refine k_off rfl rfl ?_; refine k_off rfl rfl ?_; refine k_off rfl rfl ?_; refine k_off rfl rfl ?_; refine k_off rfl rfl ?_; refine k_pickF rfl zq ?_; refine k_nil ?_; refine run_no ?_; refine run_skip ?_; refine Md.stop _ (.inl ⟨_, rfl, ?_⟩)
                exact ⟨_, hs3, exU rfl, rfl⟩
            · rintro l' h' ⟨y4, hs4, ⟨U, rfl⟩, rfl⟩; have hy4 := hs4.length
              have hlo4 := hlo.sw hs4 (by omega)
              refine rs10 (by kernel_rfl) ?_; refine mq rfl ?_; refine mq rfl ?_; refine mq rfl ?_; refine mq rfl ?_; refine k_cal rfl zq (by kernel_rfl) (f171_c m h (xs := y4) (by omega) (by omega) a1 b1 p (by omega) (by omega) (by omega)) ?_; rintro v h' ⟨q, t171, zs, rfl, rfl, hzw, hq1, hq2, hcut⟩; refine k_put ?_; have hzl := hzw.length
              have hlo5 := hlo4.sw hzw (by omega)
              refine mq rfl ?_; refine k_ext0 rfl zq ?_; refine k_ext1 rfl zq ?_; refine k_as rfl zq ?_; refine aq rfl ?_; refine rs2 (by kernel_rfl) ?_; refine mq rfl ?_; refine aq rfl ?_; refine rs8 (by kernel_rfl) ?_; refine mq rfl ?_; refine mq rfl ?_; refine k_sub rfl zq (by unfold In64; omega) ?_; refine mq rfl ?_; refine mq rfl ?_; refine k_sub rfl zq (by unfold In64; omega) ?_; refine k_as rfl zq ?_; refine aq rfl ?_; refine rs3 (by kernel_rfl) ?_; refine mq rfl ?_; refine k_quo (b1 - a1) 8 rfl zq (by omega) rfl (by omega) (by omega) ?_; refine aq rfl ?_; refine rs3 (by kernel_rfl) ?_; refine mq rfl ?_; refine mq rfl ?_; refine k_lssS rfl zq (fun hc => ?_) (fun hc => ?_)
              · refine k_nil ?_; refine run_yes ?_; refine rs4 (by kernel_rfl) ?_; refine mq rfl ?_; refine mq rfl ?_; refine k_geq rfl zq ?_; refine aq rfl ?_; refine rs5 (by kernel_rfl) ?_; refine mq rfl ?_; refine mq rfl ?_; refine mq rfl ?_; refine mq rfl ?_; refine k_cal rfl zq (by kernel_rfl) (IH (b1 - a1 - 1) (by omega) h bk n c zs junk lim2 a1 q (by omega) hn hl2 hl3 (by omega) (by omega) (by omega) (hlo5.imp id fun e k h1 h2 => e k h1 (by omega))) ?_; rintro v h' ⟨rfl, us, rfl, huw, hus⟩; refine k_put ?_; refine k_nil ?_; refine rr3 (by kernel_rfl) ?_; refine mq rfl ?_; refine k_add rfl zq (by unfold In64; omega) ?_; refine aq rfl ?_; refine run_inBlock ?_; exact m.weak weakSub (hnext _ _ _ (by omega) ⟨q + 1, b1, lim2, _, _, us, rfl, by omega, by omega, by omega, by omega, by omega, ((hsw.trans (hs4.mono ha1 hb1)).trans (hzw.mono ha1 hb1)).trans (huw.mono ha1 (by omega)), (((hou.sw hs4 hb1 (by omega) ha1).sw hzw hb1 (by omega) ha1).sw (huw.mono (Nat.le_refl _) (by omega)) hb1 (by omega) ha1).left (hcut.swL huw (by omega) (by omega)) hus, exU rfl, rfl⟩)
              · refine k_nil ?_; refine run_no ?_; refine rs4 (by kernel_rfl) ?_; refine mq rfl ?_; refine mq rfl ?_; refine k_geq rfl zq ?_; refine aq rfl ?_; refine rs6 (by kernel_rfl) ?_; refine mq rfl ?_; refine mq rfl ?_; refine k_add rfl zq (by unfold In64; omega) ?_; refine mq rfl ?_; refine mq rfl ?_; rw [show (q : Int) + 1 = ((q + 1 : Nat) : Int) by omega]; refine k_cal rfl zq (by kernel_rfl) (IH (b1 - a1 - 1) (by omega) h bk n c zs junk lim2 (q + 1) b1 (by omega) hn hl2 hl3 (by omega) (by omega) (by omega) (.inr fun k h1 h2 => by rw [Nat.add_sub_cancel]; exact hcut.2 k (by omega) h2)) ?_; rintro v h' ⟨rfl, us, rfl, huw, hus⟩; refine k_put ?_; refine k_nil ?_; refine rr2 (by kernel_rfl) ?_; refine mq rfl ?_; refine aq rfl ?_; refine run_inBlock ?_; exact m.weak weakSub (hnext _ _ _ (by omega) ⟨a1, q, lim2, _, _, us, rfl, by omega, by omega, by omega, by omega, by omega, ((hsw.trans (hs4.mono ha1 hb1)).trans (hzw.mono ha1 hb1)).trans (huw.mono (by omega) hb1), (((hou.sw hs4 hb1 (by omega) ha1).sw hzw hb1 (by omega) ha1).sw (huw.mono (by omega) (Nat.le_refl _)) hb1 (by omega) ha1).right (hcut.swR huw (by omega)) hus, exU rfl, rfl⟩)
theorem pdq_all (m : Md Tryz.prog B) (N : Nat) : PdqP m N := Nat.strongRecOn N fun n ih => f152_i m n ih
theorem f152_all (m : Md Tryz.prog B) : PdqC m 60000 := fun h bk n c xs junk lim hl hn h0 h1 => pdq_all m n h bk n c xs junk lim 0 n hl hn h0 h1 (by omega) (Nat.le_refl _) (by omega) (.inl rfl)
section
variable {P : Program} {B : Array Obj} {m : Md P B} {ops : Array Oper} {l l' : List Value} {S h h' H : Hp} {C : List Value → Hp → Prop} {i : Nat} {kd : Kd} {r : List (Nat × Kd)}
  {d : Option Tmp} {ty : TypeId} {pos : String} {af : Array Edge} {g : Option (Nat × Bool)}
theorem reads_eqNil (dd : Nat) {t e k n c : Nat} {p : Option Addr} [SliceT P t e k] : Reads P B (Op.equalIn (dd + 1) t (.slice p n c) (.slice none 0 0)) h p.isNone := by
  unfold Op.equalIn
  obtain ⟨hu, _⟩ := slice_und (P := P) (B := B) (h := h) (t := t)
  refine Reads.bind (still_und hu).reads ?_
  cases p <;> exact Reads.pure _
theorem k_eqNil {t u e k n c : Nat} {x y : Operand} {p : Option Addr} (ho : ops[i]? = some ⟨d, .binOp .eql t x y u, ty, pos, af, g⟩) (hw : Wt ops l g) [KHeap kd S h H] [ex : OpV l x (.slice p n c)] [ey : OpV l y (.slice none 0 0)] [SliceT P t e k]
    [PutV l d (.bool p.isNone) l'] (q : RegK m S ops r l' h C) : RegK m S ops ((i, kd) :: r) l h C :=
  RegK.rd (v := .bool p.isNone) ho hw (by
    simp only [execOp, ex.eq, ey.eq]
    refine Reads.value (Reads.bind (a := ()) ?_ ?_)
    · exact Reads.pure ()
    · show Reads P B (Op.equal t (.slice p n c) (.slice none 0 0) >>= fun b => pure (Value.bool b)) H _
      exact Reads.bind (reads_eqNil 9999) (Reads.pure _)) q
theorem k_eqNilS {t u e k n c : Nat} {x y : Operand} {p : Option Addr} {l'' : List Value} (ho : ops[i]? = some ⟨d, .binOp .eql t x y u, ty, pos, af, g⟩) (hw : Wt ops l g) [kh : KHeap kd S h H] [ex : OpV l x (.slice p n c)] [ey : OpV l y (.slice none 0 0)] [SliceT P t e k]
    [pt : PutV l d (.bool true) l'] [pf : PutV l d (.bool false) l''] (yes : p = none → RegK m S ops r l' h C) (no : p ≠ none → RegK m S ops r l'' h C) : RegK m S ops ((i, kd) :: r) l h C := by
  cases p with
  | none => have pq := pt; rw [show true = (none : Option Addr).isNone from rfl] at pq; exact k_eqNil (l' := l') ho hw (yes rfl)
  | some a => have pq := pf; rw [show false = (some a).isNone from rfl] at pq; exact k_eqNil (l' := l'') ho hw (no (by simp))
end
def lexB (ms : Nat → List Int → Int) (x o : List Int) : Nat → Nat → Bool
  | 0, _ => false
  | n + 1, j => if ms j x < ms j o then true else if ms j x ≠ ms j o then false else lexB ms x o n (j + 1)
theorem lexB_step {ms : Nat → List Int → Int} {x o : List Int} {k j : Nat} (h : j < k) : lexB ms x o (k - j) j = if ms j x < ms j o then true else if ms j x ≠ ms j o then false else lexB ms x o (k - (j + 1)) (j + 1) := by
  rw [show k - j = (k - (j + 1)) + 1 by omega]; rfl
theorem encs_drop1 (ll : List (List Int)) : (encs ll).drop (1 * 7) = encs (ll.drop 1) := (encs_drop ll 1).symm
theorem own_none {B : Array Obj} {h : Hp} {n c : Nat} {xs : List Int} (rd : RdS B h 1 (.slice none n c) n (ints xs)) : OwnS 3 1 (.slice none 0 0) n (ints xs) [] := by
  obtain ⟨p, c', e, hl, r⟩ := rd
  injection e with e1 e2 e3
  subst e1
  rcases r with ⟨_, rfl⟩ | ⟨b, o, e, _⟩
  · have h0 : ints xs = [] := List.eq_nil_of_length_eq_zero (by omega)
    rw [h0]; exact OwnS.nil
  · cases e
theorem f122_c (m : Md Tryz.prog B) (h : Hp) {b : Bk} {pm : Option Addr} {nm cm : Nat} {pr : Option Addr} {nr cr : Nat} {ln : List Int} (hl : ln.length = nm) (h7 : nm ≤ 7) (hs : Small 959 ln) : FnC m 122 #[bkV b pm nm cm pr nr cr, htV ln] h fun v h' => h' = h ∧ v = .int .i64 (strain ln) := by
  refine fn_enter Tryz.func122 rfl rfl (l := (bkV b pm nm cm pr nr cr) :: (htV ln) :: uu21) rfl ?_
  intro cf cs K hK
  refine rs3 (by kernel_rfl) ?_; refine k_box rfl zq (fun q2 => k_hp (k_put ?_)); refine k_box rfl zq (fun q3 => k_hp (k_put ?_)); refine aq rfl ?_; refine rs1 (by kernel_rfl) ?_; refine aq rfl ?_; refine run_seq ?_; refine rs5 (by kernel_rfl) ?_; refine k_ldA rfl zq ?_; refine k_ldA rfl zq ?_; refine k_calC rfl zq (by kernel_rfl) (fun H' hH => f94_c m H' hl h7 hs) ?_; rintro v bnew bo; refine k_hpA (k_put ?_); obtain ⟨pb, cb, rfl, _⟩ := bo.len
  have rdb : RdS B bnew 1 (.slice pb _ cb) _ _ := bo.rd'
  have hbl := bends_length ln
  have hbb := Small.bends hs
  refine k_len rfl zq ?_; refine mq rfl ?_; refine k_nil ?_; refine run_block ?_; refine m.weak (h' := h ++ bnew) weakSub ?_
  refine run_loop (fun nn l h' => ∃ (k : Nat) (s : Int), nn = nm - k ∧ (k ≤ nm - 2) ∧ (s = sqs ((bends ln).take k)) ∧ (0 ≤ s) ∧ (s ≤ 160000000000 * k) ∧ (∃ U : Nat → Value, l = [bkV b pm nm cm pr nr cr, htV ln, U 2, U 3, U 4, .int .i64 s, U 6, U 7, U 8, U 9, .slice pb (nm - 2) cb, .int .i64 ((nm - 2 : Nat) : Int), .int .i64 (k : Int), U 13, U 14, U 15, U 16, U 17, U 18, U 19, U 20, U 21, U 22]) ∧ h ++ bnew = h') _ ⟨0, 0, rfl, by omega, rfl, by omega, by omega, exU rfl, rfl⟩ ?_; rintro nn l h' ⟨k, s, rfl, hk, hs', hs0, hs1, ⟨U, rfl⟩, rfl⟩ hnext; have hsq := sq_bound (hbb k)
  refine rs1 (by kernel_rfl) ?_; refine k_lssS rfl zq (fun hc => ?_) (fun hc => ?_)
  · refine k_nil ?_; refine run_seq ?_; refine run_yes ?_; refine run_skip ?_; refine run_seq ?_; refine run_block ?_; refine rs3 (by kernel_rfl) ?_; obtain ⟨rdb_b, rdb_o, rfl⟩ := rdb.ptr (by omega)
    refine k_ixs rfl zq (by first | rfl | assumption) (by omega) (by omega) ?_; refine k_ld rfl zq (rdb.iat k (by omega) (by omega)) ?_; refine aq rfl ?_; refine rr6 (by kernel_rfl) ?_; refine mq rfl ?_; refine mq rfl ?_; refine mq rfl ?_; refine k_mul rfl zq (by unfold In64; omega) ?_; refine k_add rfl zq (by unfold In64; omega) ?_; refine aq rfl ?_; refine run_inBlock ?_; refine rr2 (by kernel_rfl) ?_; refine k_add rfl zq (by unfold In64; omega) ?_; refine mq rfl ?_; refine k_nil ?_; exact m.weak weakSub (hnext _ _ _ (by omega) ⟨k + 1, _, rfl, by omega, by rw [sqs_take _ _ (by omega), ← hs'], by omega, by omega, exU rfl, rfl⟩)
  · refine k_nil ?_; refine run_seq ?_; refine run_no ?_; refine run_exit rfl ?_; refine rs2 (by kernel_rfl) ?_; refine mq rfl ?_; refine aq rfl ?_; refine run_ret rfl ?_; refine run_res (h) rfl Tryz.func122 rfl weakSub ?_; refine hK _ _ ?_
    obtain rfl : k = nm - 2 := by omega
    rw [List.take_of_length_le (by omega)] at hs'
    exact ⟨rfl, by rw [hs']; rfl⟩
theorem f154_c (m : Md Tryz.prog B) (h : Hp) {p : Option Addr} {n c : Nat} {xs : List Int} (rd : RdS B h 1 (.slice p n c) n (ints xs)) (hn : n ≤ 1000) : FnC m 154 #[.slice p n c] h fun v h' => ∃ nw, h' = h ++ nw ∧ OwnS 3 1 v n (ints xs) nw := by
  refine fn_enter Tryz.func154 rfl rfl (l := (.slice p n c) :: uu7) rfl ?_
  intro cf cs K hK
  refine rs1 (by kernel_rfl) ?_; refine aq rfl ?_; refine run_seq ?_; refine rs2 (by kernel_rfl) ?_; refine mq rfl ?_; refine k_eqNilS rfl zq (fun hc => ?_) (fun hc => ?_)
  · refine k_nil ?_; refine run_yes ?_; refine rs1 (by kernel_rfl) ?_; refine aq rfl ?_; refine run_ret rfl ?_; refine run_res (h) rfl Tryz.func154 rfl weakSub ?_; refine hK _ _ ?_
    exact ⟨[], by simp, by subst hc; exact own_none rd⟩
  · refine k_nil ?_; refine run_no ?_; refine run_skip ?_; refine rs4 (by kernel_rfl) ?_; refine k_bs0 kdq rfl zq (fun q5 => k_hp (k_put ?_)); refine mq rfl ?_; refine k_app (F := h) rfl zq weakSub OwnS.zero rd.up (ints_one _) kdq (by omega) (by omega) (fun w9 n9 o9 => k_put ?_); refine aq rfl ?_; refine run_ret rfl ?_; refine run_res (h ++ n9) rfl Tryz.func154 rfl weakSub ?_; refine hK _ _ ?_
    exact ⟨n9, rfl, by simpa using o9⟩
theorem f123_c (m : Md Tryz.prog B) (h : Hp) {b : Bk} {pm : Option Addr} {nm cm : Nat} {pr : Option Addr} {nr cr : Nat} {l : List Int} (hl : l.length = nm) (h7 : nm ≤ 7) : FnC m 123 #[bkV b pm nm cm pr nr cr, htV l] h fun v h' => ∃ nw, h' = h ++ nw ∧ OwnS 3 1 v nm (ints l) nw := by
  refine fn_enter Tryz.func123 rfl rfl (l := (bkV b pm nm cm pr nr cr) :: (htV l) :: uu7) rfl ?_
  intro cf cs K hK
  refine rs3 (by kernel_rfl) ?_; refine k_box rfl zq (fun q2 => k_hp (k_put ?_)); refine k_box rfl zq (fun q3 => k_hp (k_put ?_)); refine aq rfl ?_; refine rs5 (by kernel_rfl) ?_; refine k_ldA rfl zq ?_; refine k_calP (Post := fun v => v = _) rfl zq (by kernel_rfl) (fun H' hH => f118_c m H' _ _ _ _ _ _ _ _ _) ?_; rintro v rfl; refine k_put ?_; refine k_slA (c := nm) rfl zq rfl (by omega) ?_; refine k_calC rfl zq (by kernel_rfl) (fun H' hH => f154_c m H' ((rdS_hts (q := q3) hl h7 7).keeps hH) (by omega)) ?_; rintro v nw o; refine k_hpA (k_put ?_); refine aq rfl ?_; refine run_ret rfl ?_; refine run_res (h ++ nw) rfl Tryz.func123 rfl weakSub ?_; refine hK _ _ ?_
  exact ⟨nw, rfl, o⟩
theorem f121_c (m : Md Tryz.prog B) (h : Hp) {vb vo n c : Nat} {ll : List (List Int)} (rd : RdS B h 7 (.slice (some ⟨vb, vo, none⟩) n c) n (encs ll)) (hn : n ≤ 100000) (hpos : 0 < n) (hnc : n ≤ c) {k wb wo wc : Nat} {ws : List Value} (rdw : RdS B h 1 (.slice (some ⟨wb, wo, none⟩) k wc) k ws) (hk9 : k ≤ 9) {ms : Nat → List Int → Int} (hms : ∀ j, j < k → ∃ fid fc cp, ws.getD j undef = .func (.func fid) fc cp ∧ callB Tryz.prog fid = true ∧ ∀ x ∈ ll, ∀ H' : Hp, h.Sublist H' → FnC m fid (fc ++ [htV x].toArray ++ cp) H' fun v h' => h' = H' ∧ v = .int .i64 (ms j x)) : FnC m 121 #[.slice (some ⟨vb, vo, none⟩) n c, .slice (some ⟨wb, wo, none⟩) k wc] h fun v h' => h' = h ∧ v = htV (bestBy (fun x o => lexB ms x o k 0) ll) := by
  have hln := rd.elen (by decide)
  refine fn_enter Tryz.func121 rfl rfl (l := (.slice (some ⟨vb, vo, none⟩) n c) :: (.slice (some ⟨wb, wo, none⟩) k wc) :: uu42) rfl ?_
  intro cf cs K hK
  refine rs1 (by kernel_rfl) ?_; refine k_new rfl zq (fun q4 => k_hp (k_put ?_)); refine k_nil ?_; refine rs5 (by kernel_rfl) ?_; refine mq rfl ?_; refine k_ixs rfl zq (by first | rfl | assumption) (by omega) (by omega) ?_; refine k_ldN (vs := hts (ll.getD 0 default)) rfl zq (hts_length _) (rd.eat 0 (by omega) (by omega)) ?_; refine k_new rfl zq (fun q5 => k_hp (k_put ?_)); refine k_stA rfl zq (by first | rfl | exact hts_length _) ?_; refine k_nil ?_; refine run_seq ?_; refine rs4 (by kernel_rfl) ?_; have hln := rd.elen (by decide)
  have rdc := rd.cut (lo := 1) (by omega) hnc
  rw [encs_drop1] at rdc
  refine mq rfl ?_; refine k_slFrom (a := 1) rfl zq rfl (by omega) ?_; generalize hcp : cutP 7 (some ⟨vb, vo, none⟩) c 1 = cp at rdc ⊢
  refine k_len rfl zq ?_; refine mq rfl ?_; refine k_nil ?_; refine run_block ?_; refine run_loop (fun nn l h' => ∃ (i : Nat) (g : List Int), nn = n - i ∧ (i ≤ n - 1) ∧ (g = bestBy (fun x o => lexB ms x o k 0) (ll.take (i + 1))) ∧ (∃ U : Nat → Value, l = [.slice (some ⟨vb, vo, none⟩) n c, .slice (some ⟨wb, wo, none⟩) k wc, U 2, U 3, .pointer (some ⟨q4, 0, none⟩), .pointer (some ⟨q5, 0, none⟩), U 6, U 7, U 8, U 9, U 10, U 11, U 12, U 13, U 14, U 15, .slice cp (n - 1) (c - 1), .int .i64 ((n - 1 : Nat) : Int), .int .i64 (i : Int), U 19, U 20, U 21, U 22, U 23, U 24, U 25, U 26, U 27, U 28, U 29, U 30, U 31, U 32, U 33, U 34, U 35, U 36, U 37, U 38, U 39, U 40, U 41, U 42, U 43]) ∧ h ++ [⟨true, q4, .cells (hts []).toArray 112 (0, 0)⟩, ⟨true, q5, .cells (hts g).toArray 112 (0, 0)⟩] = h') _ ⟨0, _, rfl, by omega, (bestBy_one _ _).symm, exU rfl, rfl⟩ ?_; rintro nn l h' ⟨i, g, rfl, hi, hg, ⟨U, rfl⟩, rfl⟩ hnext1; have hgm : g ∈ ll := by rw [hg]; exact List.mem_of_mem_take (bestBy_mem _ _ (by rw [List.length_take]; omega))
  refine rs1 (by kernel_rfl) ?_; refine k_lssS rfl zq (fun hc => ?_) (fun hc => ?_)
  · refine k_nil ?_; refine run_seq ?_; refine run_yes ?_; refine run_skip ?_; refine run_seq ?_; refine run_block ?_; refine rs4 (by kernel_rfl) ?_; obtain ⟨cb, co, rfl⟩ := rdc.ptr (by omega)
    refine k_ixs rfl zq (by first | rfl | assumption) (by omega) (by omega) ?_; refine k_ldN (vs := hts ((ll.drop 1).getD i default)) rfl zq (hts_length _) (rdc.eat i (by omega) (by omega)) ?_; have hx0 : (ll.drop 1).getD i default = ll.getD (i + 1) [] := by rw [List.getD_eq_getElem?_getD, List.getElem?_drop, Nat.add_comm, List.getD_eq_getElem?_getD]; rfl
    have hbs := bestBy_succ (fun x o => lexB ms x o k 0) ll (i + 1) (by omega) (by omega)
    have hxm : ll.getD (i + 1) [] ∈ ll := mem_getDR.2 ⟨i + 1, by omega, rfl⟩
    rw [hx0]; rw [← hg] at hbs
    generalize ll.getD (i + 1) [] = x at hbs hxm ⊢
    refine k_new rfl zq (fun q7 => k_hp (k_put ?_)); refine k_stA rfl zq (by first | rfl | exact hts_length _) ?_; refine k_nil ?_; refine rs3 (by kernel_rfl) ?_; refine mq rfl ?_; refine k_len rfl zq ?_; refine mq rfl ?_; refine k_nil ?_; refine run_block ?_; refine run_loop (fun nn l h' => ∃ (j : Nat), nn = k - j ∧ (j ≤ k) ∧ (lexB ms x g k 0 = lexB ms x g (k - j) j) ∧ (∃ U : Nat → Value, l = [.slice (some ⟨vb, vo, none⟩) n c, .slice (some ⟨wb, wo, none⟩) k wc, U 2, U 3, .pointer (some ⟨q4, 0, none⟩), .pointer (some ⟨q5, 0, none⟩), U 6, .pointer (some ⟨q7, 0, none⟩), U 8, U 9, U 10, U 11, U 12, U 13, U 14, U 15, .slice (some ⟨cb, co, none⟩) (n - 1) (c - 1), .int .i64 ((n - 1 : Nat) : Int), .int .i64 (i : Int), U 19, U 20, U 21, .slice (some ⟨wb, wo, none⟩) k wc, .int .i64 (k : Int), .int .i64 (j : Int), U 25, U 26, U 27, U 28, U 29, U 30, U 31, U 32, U 33, U 34, U 35, U 36, U 37, U 38, U 39, U 40, U 41, U 42, U 43]) ∧ h ++ [⟨true, q4, .cells (hts []).toArray 112 (0, 0)⟩, ⟨true, q5, .cells (hts g).toArray 112 (0, 0)⟩, ⟨true, q7, .cells (hts x).toArray 112 (0, 0)⟩] = h') _ ⟨0, rfl, by omega, rfl, exU rfl, rfl⟩ ?_; rintro nn l h' ⟨j, rfl, hj, hlx, ⟨U, rfl⟩, rfl⟩ hnext2; refine rs1 (by kernel_rfl) ?_; refine k_lssS rfl zq (fun hc => ?_) (fun hc => ?_)
    · refine k_nil ?_; refine run_seq ?_; refine run_yes ?_; refine run_skip ?_; refine run_seq ?_; refine run_block ?_; refine rs3 (by kernel_rfl) ?_; refine k_ixs rfl zq (by first | rfl | assumption) (by omega) (by omega) ?_; obtain ⟨fid, fc, cp, hwe, hcb, hfn⟩ := hms j (by omega)
      refine k_ld (v := .func (.func fid) fc cp) rfl zq (by rw [← hwe]; exact rdw.vat j (by omega) (by omega)) ?_; refine aq rfl ?_; refine run_seq ?_; refine run_draw [(0, .pure), (3, .pure), (1, .read), (4, .read), (2, .keep), (5, .keep), (6, .pure), (7, .pure)] (by kernel_rfl) (by kernel_rfl) (List.Sublist.refl _) ?_; refine mq rfl ?_; refine mq rfl ?_; refine k_ldN (vs := hts x) rfl zq (hts_length _) (rdN_has (q := q7)) ?_; refine k_ldN (vs := hts g) rfl zq (hts_length _) (rdN_has (q := q5)) ?_; refine k_valP (Post := fun v => v = _) rfl zq hcb (fun H' hH => hfn x hxm H' (sq hH)) ?_; rintro v rfl; refine k_put ?_; refine k_valP (Post := fun v => v = _) rfl zq hcb (fun H' hH => hfn g hgm H' (sq hH)) ?_; rintro v rfl; refine k_put ?_; refine k_as rfl zq ?_; refine aq rfl ?_; refine run_seq ?_; refine rs3 (by kernel_rfl) ?_; refine mq rfl ?_; refine mq rfl ?_; refine k_lssS rfl zq (fun hc => ?_) (fun hc => ?_)
      · have hA := hc
        refine k_nil ?_; refine run_yes ?_; refine rr2 (by kernel_rfl) ?_; refine k_ldA rfl zq ?_; refine k_stA rfl zq (by first | rfl | exact hts_length _) ?_; refine k_nil ?_; refine rs3 (by kernel_rfl) ?_; refine mq rfl ?_; refine mq rfl ?_; refine k_neqS rfl zq (fun hc => ?_) (fun hc => ?_)
        · have hD := hc
          refine k_nil ?_; refine run_yes ?_; refine run_exit rfl ?_; refine run_inBlock ?_; refine rr2 (by kernel_rfl) ?_; refine k_add rfl zq (by unfold In64; omega) ?_; refine mq rfl ?_; refine k_nil ?_; exact m.weak weakSub (hnext1 _ _ _ (by omega) ⟨i + 1, x, rfl, by omega, by rw [hbs, hlx, lexB_step (by omega), if_pos hA, if_pos rfl], exU rfl, rfl⟩)
        · have hD := hc
          refine k_nil ?_; refine run_no ?_; refine run_skip ?_; refine run_inBlock ?_; refine rr2 (by kernel_rfl) ?_; refine k_add rfl zq (by unfold In64; omega) ?_; refine mq rfl ?_; refine k_nil ?_; exfalso; omega
      · have hA : ¬ ms j x < ms j g := by omega
        refine k_nil ?_; refine run_no ?_; refine run_skip ?_; refine rs3 (by kernel_rfl) ?_; refine mq rfl ?_; refine mq rfl ?_; refine k_neqS rfl zq (fun hc => ?_) (fun hc => ?_)
        · have hD := hc
          refine k_nil ?_; refine run_yes ?_; refine run_exit rfl ?_; refine run_inBlock ?_; refine rr2 (by kernel_rfl) ?_; refine k_add rfl zq (by unfold In64; omega) ?_; refine mq rfl ?_; refine k_nil ?_; exact m.weak weakSub (hnext1 _ _ _ (by omega) ⟨i + 1, g, rfl, by omega, by rw [hbs, hlx, lexB_step (by omega), if_neg hA, if_pos hD, if_neg (by decide)], exU rfl, rfl⟩)
        · have hD := hc
          refine k_nil ?_; refine run_no ?_; refine run_skip ?_; refine run_inBlock ?_; refine rr2 (by kernel_rfl) ?_; refine k_add rfl zq (by unfold In64; omega) ?_; refine mq rfl ?_; refine k_nil ?_; exact m.weak weakSub (hnext2 _ _ _ (by omega) ⟨j + 1, rfl, by omega, by rw [hlx, lexB_step (by omega), if_neg hA, if_neg (fun e => e hD)], exU rfl, rfl⟩)
    · refine k_nil ?_; refine run_seq ?_; refine run_no ?_; refine run_exit rfl ?_; refine run_inBlock ?_; refine rr2 (by kernel_rfl) ?_; refine k_add rfl zq (by unfold In64; omega) ?_; refine mq rfl ?_; refine k_nil ?_; exact m.weak weakSub (hnext1 _ _ _ (by omega) ⟨i + 1, g, rfl, by omega, by rw [hbs, hlx, show k - j = 0 by omega, lexB, if_neg (by decide)], exU rfl, rfl⟩)
  · refine k_nil ?_; refine run_seq ?_; refine run_no ?_; refine run_exit rfl ?_; refine rs2 (by kernel_rfl) ?_; refine k_ldN (vs := hts g) rfl zq (hts_length _) (rdN_has (q := q5)) ?_; refine k_stA rfl zq (by first | rfl | exact hts_length _) ?_; refine k_nil ?_; refine run_ret rfl ?_; refine run_res (h) rfl Tryz.func121 rfl weakSub ?_; refine hK _ _ ?_
    obtain rfl : i = n - 1 := by omega
    rw [List.take_of_length_le (by omega)] at hg
    subst hg
    exact ⟨rfl, rfl⟩
theorem lexB_one {ms : Nat → List Int → Int} : (fun x o => lexB ms x o 1 0) = fun x o => decide (ms 0 x < ms 0 o) := by
  funext x o
  simp only [lexB, Nat.zero_add]
  split
  · rw [decide_eq_true (by assumption)]
  · rw [decide_eq_false (by assumption)]; split <;> rfl
theorem lexB_two {ms : Nat → List Int → Int} : (fun x o => lexB ms x o 2 0) = fun x o => decide (ms 0 x < ms 0 o ∨ (ms 0 x = ms 0 o ∧ ms 1 x < ms 1 o)) := by
  funext x o
  simp only [lexB, Nat.zero_add]
  split
  · rw [decide_eq_true (by omega)]
  · split
    · rw [decide_eq_false (by omega)]
    · split
      · rw [decide_eq_true (by omega)]
      · rw [decide_eq_false (by omega)]; split <;> rfl
theorem boats_ln {b : Bk} {x : List Int} (hv : Valid b) {nm : Nat} (hm : b.marks.length = nm) (h : x ∈ boatsOf b) : x.length = nm ∧ Small 959 x := ⟨(boats_len h).trans hm, boats_small hv h⟩
theorem callB122 : callB Tryz.prog 122 = true := by kernel_rfl
theorem f40_c (m : Md Tryz.prog B) (h : Hp) {b : Bk} {pm : Option Addr} {nm cm : Nat} {pr : Option Addr} {nr cr : Nat} (rdm : RdS B h 2 (.slice pm nm cm) nm (encs b.marks)) (hm : nm ≤ 1000) (rdr : RdS B h 4 (.slice pr nr cr) nr (encs b.rules)) (hr : nr ≤ 1000) : FnC m 40 #[bkV b pm nm cm pr nr cr] h fun v h' => ∃ new, h' = h ++ new ∧ ∃ w, v = .tuple [w, .int .i64 (straightN b), .int .i64 (openS b 0)].toArray ∧ RdI B new w (straightL b) := by
  refine fn_enter Tryz.func40 rfl rfl (l := (bkV b pm nm cm pr nr cr) :: uu29) rfl ?_
  intro cf cs K hK
  refine rs4 (by kernel_rfl) ?_; refine k_box rfl zq (fun q1 => k_hp (k_put ?_)); refine k_as rfl zq ?_; refine k_as rfl zq ?_; refine aq rfl ?_; refine rs8 (by kernel_rfl) ?_; refine k_ldA rfl zq ?_; refine k_calC rfl zq (by kernel_rfl) (Post := fun v nw => Opened b (bkV b pm nm cm pr nr cr) (openS b (0)) nw v) (fun H' hH => f107_c m H' (rdm.keeps (sq hH)) hm (rdr.keeps (sq hH)) hr callB120 (fun hbz K hK => by simpa using f120_c m K)) ?_; rintro v nw ⟨x1, x2, x3, y1, y2, y3, y4, y5, y6, z1, z2, z3, rfl, hz⟩; refine k_hpA (k_put ?_); refine mq rfl ?_; refine k_ext0 rfl zq ?_; refine k_ext1 rfl zq ?_; refine k_new rfl zq (fun q5 => k_hp (k_put ?_)); refine k_stA rfl zq rfl ?_; refine aq rfl ?_; refine run_seq ?_; refine rs2 (by kernel_rfl) ?_; refine mq rfl ?_; refine k_neqS rfl zq (fun hc => ?_) (fun hc => ?_)
  · refine k_nil ?_; refine run_yes ?_; refine rs4 (by kernel_rfl) ?_; refine mq rfl ?_; refine k_as rfl zq ?_; refine k_as rfl zq ?_; refine aq rfl ?_; refine run_ret rfl ?_; refine run_res (h) rfl Tryz.func40 rfl weakSub ?_; refine hK _ _ ?_
    exact ⟨[], by simp, _, by rw [straightN, if_pos (by assumption)], by rw [straightL, if_pos (by assumption)]; exact RdI.nil⟩
  · refine k_nil ?_; refine run_no ?_; refine run_skip ?_; refine rs9 (by kernel_rfl) ?_; have hz0 : openS b 0 = 0 := by first | assumption | omega
    obtain ⟨hz1, rfl, hzc, rdB⟩ := hz hz0
    obtain ⟨rfl, rfl, rfl, rfl, rfl, rfl, rfl, rfl, rfl⟩ := bookV_inj hz1
    obtain ⟨hbz, hoz, hbne⟩ := openS_zero hz0
    have hv := valid_of hbz
    have h7 := hv.many
    have hml := rdm.elen (by decide)
    have hbl := boats_le hv
    have hpos : 0 < (boatsOf b).length := List.length_pos_iff.2 hbne
    obtain ⟨zb, zo, rfl⟩ := RdS.ptr (B := B) rdB hpos
    first | refine k_fa0 rfl zq ?_ | refine k_fa rfl zq ?_
    refine k_ldh rfl zq ?_; first | refine k_fa0 rfl zq ?_ | refine k_fa rfl zq ?_
    refine k_ldA rfl zq ?_; refine k_fun rfl zq ?_; refine k_bs kdq rfl zq (by decide) (by decide) rfl (fun q20 => k_hp (k_put ?_)); refine k_calP (Post := fun v => v = _) rfl zq (by kernel_rfl) (fun H' hH => f121_c m H' (ms := fun _ => strain) (rdB.keeps (sq hH)) (by omega) hpos hzc ((rdS_has (q := q20) rfl).keeps hH) (by decide) (fun j hj => ⟨122, #[bkV b pm nm cm pr nr cr], #[], (by obtain rfl : j = 0 := (by omega); rfl), callB122, fun x hx K hK => f122_c m K (boats_ln hv hml hx).1 (by omega) (boats_ln hv hml hx).2⟩)) ?_; rintro v rfl; refine k_put ?_; refine k_new rfl zq (fun q6 => k_hp (k_put ?_)); refine k_stA rfl zq (by first | rfl | exact hts_length _) ?_; refine k_nil ?_; refine run_seq ?_; refine run_draw [(0, .pure), (4, .pure), (1, .read), (2, .read), (5, .read), (6, .read), (3, .keep), (7, .keep), (8, .pure), (9, .pure), (10, .pure)] (by kernel_rfl) (by kernel_rfl) (List.Sublist.refl _) ?_; rw [lexB_one]; have hgm : bestBy ltStrain (boatsOf b) ∈ boatsOf b := bestBy_mem _ _ hpos
    have hge : (bestBy (fun x o => decide ((fun (_ : Nat) => strain) 0 x < (fun (_ : Nat) => strain) 0 o)) (boatsOf b)) = bestBy ltStrain (boatsOf b) := rfl
    rw [hge]; generalize hg : bestBy ltStrain (boatsOf b) = gg at hgm ⊢
    obtain ⟨hgl, hgs⟩ := boats_ln hv hml hgm
    first | refine k_fa0 rfl zq ?_ | refine k_fa rfl zq ?_
    first | refine k_fa0 rfl zq ?_ | refine k_fa rfl zq ?_
    refine k_ldA rfl zq ?_; refine k_ldN (vs := hts gg) rfl zq (hts_length _) (rdN_has (q := q6)) ?_; refine k_ldA rfl zq ?_; refine k_ldN (vs := hts gg) rfl zq (hts_length _) (rdN_has (q := q6)) ?_; refine k_calC rfl zq (by kernel_rfl) (fun H' hH => f123_c m H' hgl (by omega)) ?_; rintro v n3 o3; refine k_hpA (k_put ?_); refine k_calP (Post := fun v => v = _) rfl zq (by kernel_rfl) (fun H' hH => f122_c m H' hgl (by omega) hgs) ?_; rintro v rfl; refine k_put ?_; refine k_as rfl zq ?_; refine k_as rfl zq ?_; refine aq rfl ?_; refine run_ret rfl ?_; refine run_res (h ++ n3) rfl Tryz.func40 rfl weakSub ?_; refine hK _ _ ?_
    have e1 : straightL b = gg := by rw [straightL, if_neg (fun e => e hz0), hg]
    have e2 : straightN b = strain gg := by rw [straightN, if_neg (fun e => e hz0), hg]
    exact ⟨n3, rfl, _, by rw [hz0, e2], by rw [e1]; exact OwnS.rdI (hgl ▸ o3)⟩
theorem padL_getD {l : List Int} (hl : l.length ≤ 7) (k : Nat) : (padL l).getD k 0 = l.getD k 0 := by
  have h7 := padL_length l
  by_cases hk : k < 7
  · have := padL_get (l := l) hk
    rw [List.getD_eq_getElem?_getD, this]; rfl
  · rw [List.getD_eq_getElem?_getD, List.getD_eq_getElem?_getD, List.getElem?_eq_none (by omega), List.getElem?_eq_none (by omega)]
theorem padL_app {l : List Int} (hl : l.length ≤ 7) : padL l = l ++ List.replicate (7 - l.length) 0 := by
  rw [padL, List.take_append, List.take_of_length_le hl, List.take_replicate, Nat.min_eq_left (by omega)]
theorem gaps_app : ∀ (x y : List Int) (k : Nat), x.length = y.length → gaps (x ++ List.replicate k 0) (y ++ List.replicate k 0) = gaps x y ++ List.replicate k 0
  | [], [], k, _ => by
    induction k with
    | zero => rfl
    | succ k ih => simp only [List.nil_append, gaps, List.replicate_succ, List.zipWith_cons_cons] at ih ⊢; rw [ih]; rfl
  | a :: r, b :: s, k, h => by
    have := gaps_app r s k (by simpa using h)
    simp only [gaps, List.cons_append, List.zipWith_cons_cons] at this ⊢
    rw [this]
  | [], _ :: _, _, h => by simp at h
  | _ :: _, [], _, h => by simp at h
theorem sumL_zeros (l : List Int) : ∀ k, sumL (l ++ List.replicate k 0) = sumL l
  | 0 => by simp
  | k + 1 => by
    rw [List.replicate_succ', ← List.append_assoc, sumL, List.foldl_append]; have := sumL_zeros l k
    rw [sumL] at this
    rw [this]; simp
theorem mostL_nonneg (l : List Int) : 0 ≤ mostL l := by
  have gen : ∀ (r : List Int) (a : Int), a ≤ r.foldl max a := by
    intro r
    induction r with
    | nil => exact fun a => Int.le_refl _
    | cons x r ih => exact fun a => Int.le_trans (by omega : a ≤ max a x) (ih _)
  exact gen l 0
theorem mostL_zeros (l : List Int) : ∀ k, mostL (l ++ List.replicate k 0) = mostL l
  | 0 => by simp
  | k + 1 => by
    rw [List.replicate_succ', ← List.append_assoc, mostL, List.foldl_append]; have := mostL_zeros l k
    rw [mostL] at this
    rw [this]; have := mostL_nonneg l
    show max (mostL l) 0 = mostL l
    omega
theorem gaps_comm : ∀ (x y : List Int), gaps x y = gaps y x
  | [], [] => rfl
  | a :: r, b :: s => by
    have := gaps_comm r s
    simp only [gaps, List.zipWith_cons_cons] at this ⊢
    rw [this, show max (a - b) (b - a) = max (b - a) (a - b) by omega]
  | [], _ :: _ => rfl
  | _ :: _, [] => rfl
theorem f156_c (m : Md Tryz.prog B) (h : Hp) {x y : List Int} (hx : x.length ≤ 7) (hxy : x.length = y.length) (hsx : Small 959 x) (hsy : Small 959 y) : FnC m 156 #[htV x, htV y] h fun v h' => h' = h ∧ v = .tuple [.int .i64 (sumL (gaps x y)), .int .i64 (mostL (gaps x y))].toArray := by
  refine fn_enter Tryz.func156 rfl rfl (l := (htV x) :: (htV y) :: uu33) rfl ?_
  intro cf cs K hK
  refine rs4 (by kernel_rfl) ?_; refine k_box rfl zq (fun q2 => k_hp (k_put ?_)); refine k_box rfl zq (fun q3 => k_hp (k_put ?_)); refine k_as rfl zq ?_; refine aq rfl ?_; refine run_seq ?_; refine rs1 (by kernel_rfl) ?_; refine mq rfl ?_; refine k_nil ?_; refine run_block ?_; refine run_loop (fun nn l h' => ∃ (k : Nat) (s t : Int), nn = 7 - k ∧ (k ≤ 7) ∧ (s = sumL ((gaps (padL x) (padL y)).take k)) ∧ (t = mostL ((gaps (padL x) (padL y)).take k)) ∧ (0 ≤ s ∧ s ≤ 2000 * k) ∧ (0 ≤ t ∧ t ≤ 2000) ∧ (∃ U : Nat → Value, l = [htV x, htV y, .pointer (some ⟨q2, 0, none⟩), .pointer (some ⟨q3, 0, none⟩), .int .i64 s, .int .i64 t, U 6, U 7, .int .i64 (k : Int), U 9, U 10, U 11, U 12, U 13, U 14, U 15, U 16, U 17, U 18, U 19, U 20, U 21, U 22, U 23, U 24, U 25, U 26, U 27, U 28, U 29, U 30, U 31, U 32, U 33, U 34]) ∧ h ++ [⟨true, q2, .cells (hts x).toArray 112 (0, 0)⟩, ⟨true, q3, .cells (hts y).toArray 112 (0, 0)⟩] = h') _ ⟨0, 0, 0, rfl, by omega, rfl, rfl, by omega, by omega, exU rfl, rfl⟩ ?_; rintro nn l h' ⟨k, s, t, rfl, hk, hs, ht, hs0, ht0, ⟨U, rfl⟩, rfl⟩ hnext; have hxk := hsx k
  have hyk := hsy k
  have hgk : ∀ j, j < 7 → (gaps (padL x) (padL y)).getD j 0 = max (x.getD j 0 - y.getD j 0) (y.getD j 0 - x.getD j 0) := fun j hj => by rw [gaps_getD _ _ _ (by rw [padL_length]; exact hj) (by rw [padL_length]; exact hj), padL_getD hx, padL_getD (by omega)]
  have hgl : (gaps (padL x) (padL y)).length = 7 := by rw [gaps_length _ _ (by rw [padL_length, padL_length]; exact Nat.le_refl _), padL_length]
  refine rs1 (by kernel_rfl) ?_; refine k_lssS rfl zq (fun hc => ?_) (fun hc => ?_)
  · refine k_nil ?_; refine run_seq ?_; refine run_yes ?_; refine run_skip ?_; refine run_seq ?_; refine run_block ?_; refine rs2 (by kernel_rfl) ?_; refine mq rfl ?_; refine aq rfl ?_; refine run_seq ?_; refine run_draw [(0, .pure), (1, .pure), (3, .pure), (4, .pure), (7, .pure), (8, .pure), (10, .pure), (11, .pure), (2, .read), (5, .read), (6, .pure), (9, .read), (12, .read), (13, .pure), (14, .pure), (15, .pure)] (by kernel_rfl) (by kernel_rfl) (List.Sublist.refl _) ?_; refine mq rfl ?_; refine k_ixa rfl zq (by omega) (by omega) ?_; refine mq rfl ?_; refine k_ixa rfl zq (by omega) (by omega) ?_; refine mq rfl ?_; refine k_ixa rfl zq (by omega) (by omega) ?_; refine mq rfl ?_; refine k_ixa rfl zq (by omega) (by omega) ?_; refine k_ld rfl zq (rd_hts (q := q2) k (by omega) (by omega)) ?_; refine k_ld rfl zq (rd_hts (q := q3) k (by omega) (by omega)) ?_; refine k_sub rfl zq (by unfold In64; omega) ?_; refine k_ld rfl zq (rd_hts (q := q3) k (by omega) (by omega)) ?_; refine k_ld rfl zq (rd_hts (q := q2) k (by omega) (by omega)) ?_; refine k_sub rfl zq (by unfold In64; omega) ?_; refine k_max rfl zq ?_; refine aq rfl ?_; refine rr8 (by kernel_rfl) ?_; refine mq rfl ?_; refine mq rfl ?_; refine k_add rfl zq (by unfold In64; omega) ?_; refine mq rfl ?_; refine mq rfl ?_; refine k_max rfl zq ?_; refine k_as rfl zq ?_; refine aq rfl ?_; refine run_inBlock ?_; refine rr2 (by kernel_rfl) ?_; refine k_add rfl zq (by unfold In64; omega) ?_; refine mq rfl ?_; refine k_nil ?_; exact m.weak weakSub (hnext _ _ _ (by omega) ⟨k + 1, _, _, rfl, by omega, by rw [sumL_take _ _ (by omega), ← hs, hgk k (by omega)], by rw [mostL_take _ _ (by omega), ← ht, hgk k (by omega)], by omega, by omega, exU rfl, rfl⟩)
  · refine k_nil ?_; refine run_seq ?_; refine run_no ?_; refine run_exit rfl ?_; refine rs4 (by kernel_rfl) ?_; refine mq rfl ?_; refine mq rfl ?_; refine k_as rfl zq ?_; refine aq rfl ?_; refine run_ret rfl ?_; refine run_res (h) rfl Tryz.func156 rfl weakSub ?_; refine hK _ _ ?_
    obtain rfl : k = 7 := by omega
    rw [List.take_of_length_le (by omega), padL_app hx, padL_app (by omega), ← hxy, gaps_app _ _ _ hxy] at hs ht
    rw [sumL_zeros] at hs
    rw [mostL_zeros] at ht
    subst hs ht
    exact ⟨rfl, rfl⟩
theorem f125_c (m : Md Tryz.prog B) (h : Hp) {x y : List Int} (hx : x.length ≤ 7) (hxy : x.length = y.length) (hsx : Small 959 x) (hsy : Small 959 y) : FnC m 125 #[htV x, htV y] h fun v h' => h' = h ∧ v = .int .i64 (sumL (gaps x y)) := by
  refine fn_enter Tryz.func125 rfl rfl (l := (htV x) :: (htV y) :: uu13) rfl ?_
  intro cf cs K hK
  refine rs3 (by kernel_rfl) ?_; refine k_box rfl zq (fun q2 => k_hp (k_put ?_)); refine k_box rfl zq (fun q3 => k_hp (k_put ?_)); refine aq rfl ?_; refine rs9 (by kernel_rfl) ?_; first | refine k_fa0 rfl zq ?_ | refine k_fa rfl zq ?_
  refine k_ldN (vs := hts x) rfl zq (hts_length _) (rdN_has (q := q2)) ?_; refine k_ldN (vs := hts y) rfl zq (hts_length _) (rdN_has (q := q3)) ?_; refine k_calP (Post := fun v => v = _) rfl zq (by kernel_rfl) (fun H' hH => f156_c m H' hx hxy hsx hsy) ?_; rintro v rfl; refine k_put ?_; refine mq rfl ?_; refine k_ext0 rfl zq ?_; refine k_ext1 rfl zq ?_; refine k_as rfl zq ?_; refine aq rfl ?_; refine rs2 (by kernel_rfl) ?_; refine mq rfl ?_; refine aq rfl ?_; refine run_ret rfl ?_; refine run_res (h) rfl Tryz.func125 rfl weakSub ?_; refine hK _ _ ?_
  exact ⟨rfl, rfl⟩
theorem f126_c (m : Md Tryz.prog B) (h : Hp) {x y : List Int} (hx : x.length ≤ 7) (hxy : x.length = y.length) (hsx : Small 959 x) (hsy : Small 959 y) : FnC m 126 #[htV x, htV y] h fun v h' => h' = h ∧ v = .int .i64 (mostL (gaps x y)) := by
  refine fn_enter Tryz.func126 rfl rfl (l := (htV x) :: (htV y) :: uu13) rfl ?_
  intro cf cs K hK
  refine rs3 (by kernel_rfl) ?_; refine k_box rfl zq (fun q2 => k_hp (k_put ?_)); refine k_box rfl zq (fun q3 => k_hp (k_put ?_)); refine aq rfl ?_; refine rs9 (by kernel_rfl) ?_; first | refine k_fa0 rfl zq ?_ | refine k_fa rfl zq ?_
  refine k_ldN (vs := hts x) rfl zq (hts_length _) (rdN_has (q := q2)) ?_; refine k_ldN (vs := hts y) rfl zq (hts_length _) (rdN_has (q := q3)) ?_; refine k_calP (Post := fun v => v = _) rfl zq (by kernel_rfl) (fun H' hH => f156_c m H' hx hxy hsx hsy) ?_; rintro v rfl; refine k_put ?_; refine mq rfl ?_; refine k_ext0 rfl zq ?_; refine k_ext1 rfl zq ?_; refine k_as rfl zq ?_; refine aq rfl ?_; refine rs2 (by kernel_rfl) ?_; refine mq rfl ?_; refine aq rfl ?_; refine run_ret rfl ?_; refine run_res (h) rfl Tryz.func126 rfl weakSub ?_; refine hK _ _ ?_
  exact ⟨rfl, rfl⟩
theorem callB125 : callB Tryz.prog 125 = true := by kernel_rfl
theorem callB126 : callB Tryz.prog 126 = true := by kernel_rfl
def msFar (xs : List Int) (j : Nat) (x : List Int) : Int := if j = 0 then sumL (gaps xs x) else mostL (gaps xs x)
theorem far_msFar (xs : List Int) : (fun x o => lexB (msFar xs) x o 2 0) = ltFar xs := by
  rw [lexB_two]; funext x o
  simp only [msFar, ltFar, if_true, Nat.one_ne_zero, if_false, gaps_comm xs]
theorem f42_c (m : Md Tryz.prog B) (h : Hp) {b : Bk} {pm : Option Addr} {nm cm : Nat} {pr : Option Addr} {nr cr : Nat} (rdm : RdS B h 2 (.slice pm nm cm) nm (encs b.marks)) (hm : nm ≤ 1000) (rdr : RdS B h 4 (.slice pr nr cr) nr (encs b.rules)) (hr : nr ≤ 1000) {p : Option Addr} {n c : Nat} {xs : List Int} (rd : RdS B h 1 (.slice p n c) n (ints xs)) (hn : n ≤ 1000) : FnC m 42 #[bkV b pm nm cm pr nr cr, .slice p n c] h fun v h' => ∃ new, h' = h ++ new ∧ ∃ w, v = .tuple [w, .int .i64 (nearN b xs), .int .i64 (lineO b xs)].toArray ∧ RdI B new w (nearL b xs) := by
  refine fn_enter Tryz.func42 rfl rfl (l := (bkV b pm nm cm pr nr cr) :: (.slice p n c) :: uu36) rfl ?_
  intro cf cs K hK
  refine rs4 (by kernel_rfl) ?_; refine k_box rfl zq (fun q2 => k_hp (k_put ?_)); refine k_as rfl zq ?_; refine k_as rfl zq ?_; refine aq rfl ?_; refine rs12 (by kernel_rfl) ?_; refine k_ldA rfl zq ?_; refine mq rfl ?_; refine k_calC rfl zq (by kernel_rfl) (Post := fun v nw => Opened2 b (bkV b pm nm cm pr nr cr) (openS b (lineS b.marks.length xs)) xs nw v) (fun H' hH => f124_c m H' (rdm.keeps (sq hH)) hm (rdr.keeps (sq hH)) hr (rd.keeps (sq hH)) hn) ?_; rintro v nw ⟨x1, x2, x3, y1, y2, y3, y4, y5, y6, z1, z2, z3, rfl, hz⟩; refine k_hpA (k_put ?_); refine mq rfl ?_; refine k_ext0 rfl zq ?_; refine k_ext1 rfl zq ?_; refine k_ext2 rfl zq ?_; refine k_new rfl zq (fun q7 => k_hp (k_put ?_)); refine k_new rfl zq (fun q8 => k_hp (k_put ?_)); refine k_stA rfl zq rfl ?_; refine k_stA rfl zq (by first | rfl | exact hts_length _) ?_; refine aq rfl ?_; refine run_seq ?_; refine rs2 (by kernel_rfl) ?_; refine mq rfl ?_; refine k_neqS rfl zq (fun hc => ?_) (fun hc => ?_)
  · refine k_nil ?_; refine run_yes ?_; refine rs4 (by kernel_rfl) ?_; refine mq rfl ?_; refine k_as rfl zq ?_; refine k_as rfl zq ?_; refine aq rfl ?_; refine run_ret rfl ?_; refine run_res (h) rfl Tryz.func42 rfl weakSub ?_; refine hK _ _ ?_
    exact ⟨[], by simp, _, by rw [nearN, if_pos (show lineO b xs ≠ 0 by assumption)]; rfl, by rw [nearL, if_pos (show lineO b xs ≠ 0 by assumption)]; exact RdI.nil⟩
  · refine k_nil ?_; refine run_no ?_; refine run_skip ?_; refine rs4 (by kernel_rfl) ?_; have hz0 : openS b (lineS b.marks.length xs) = 0 := by first | assumption | omega
    obtain ⟨hz1, rfl, hzc, rdB⟩ := hz hz0
    obtain ⟨rfl, rfl, rfl, rfl, rfl, rfl, rfl, rfl, rfl⟩ := bookV_inj hz1
    obtain ⟨hbz, hoz, hbne⟩ := openS_zero hz0
    have hv := valid_of hbz
    have h7 := hv.many
    have hml := rdm.elen (by decide)
    have hbl := boats_le hv
    have hpos : 0 < (boatsOf b).length := List.length_pos_iff.2 hbne
    obtain ⟨zb, zo, rfl⟩ := RdS.ptr (B := B) rdB hpos
    have hlx := lineS_zero hoz
    have hls := lineS_small hoz
    have hxl := rd.ilen
    refine k_ldN (vs := hts xs) rfl zq (hts_length _) (rdN_has (q := q8)) ?_; refine k_bld rfl zq ?_; refine k_new rfl zq (fun q9 => k_hp (k_put ?_)); refine k_stA rfl zq (by first | rfl | exact hts_length _) ?_; refine k_nil ?_; refine rs10 (by kernel_rfl) ?_; first | refine k_fa0 rfl zq ?_ | refine k_fa rfl zq ?_
    refine k_ldh rfl zq ?_; refine k_ldN (vs := hts xs) rfl zq (hts_length _) (rdN_has (q := q9)) ?_; refine k_fun rfl zq ?_; refine k_ldN (vs := hts xs) rfl zq (hts_length _) (rdN_has (q := q9)) ?_; refine k_fun rfl zq ?_; refine k_bs kdq rfl zq (by decide) (by decide) rfl (fun q29 => k_hp (k_put ?_)); refine k_calP (Post := fun v => v = _) rfl zq (by kernel_rfl) (fun H' hH => f121_c m H' (ms := msFar xs) (rdB.keeps (sq hH)) (by omega) hpos hzc ((rdS_has (q := q29) rfl).keeps hH) (by decide) (fun j hj => by
          rcases (by omega : j = 0 ∨ j = 1) with rfl | rfl
          · exact ⟨125, #[htV xs], #[], rfl, callB125, fun x hx K hK => f125_c m K (by omega) (by have := (boats_ln hv hml hx).1; omega) hls (boats_ln hv hml hx).2⟩
          · exact ⟨126, #[htV xs], #[], rfl, callB126, fun x hx K hK => f126_c m K (by omega) (by have := (boats_ln hv hml hx).1; omega) hls (boats_ln hv hml hx).2⟩)) ?_
    rintro v rfl; refine k_put ?_; refine k_new rfl zq (fun q10 => k_hp (k_put ?_)); refine k_stA rfl zq (by first | rfl | exact hts_length _) ?_; refine k_nil ?_; refine run_seq ?_; refine run_draw [(0, .pure), (1, .read), (2, .read), (4, .read), (5, .read), (3, .keep), (6, .keep), (7, .pure), (8, .pure), (9, .pure)] (by kernel_rfl) (by kernel_rfl) (List.Sublist.refl _) ?_; rw [far_msFar]; have hgm : bestBy (ltFar xs) (boatsOf b) ∈ boatsOf b := bestBy_mem _ _ hpos
    generalize hg : bestBy (ltFar xs) (boatsOf b) = gg at hgm ⊢
    obtain ⟨hgl, hgs⟩ := boats_ln hv hml hgm
    first | refine k_fa0 rfl zq ?_ | refine k_fa rfl zq ?_
    refine k_ldA rfl zq ?_; refine k_ldN (vs := hts gg) rfl zq (hts_length _) (rdN_has (q := q10)) ?_; refine k_ldN (vs := hts xs) rfl zq (hts_length _) (rdN_has (q := q9)) ?_; refine k_ldN (vs := hts gg) rfl zq (hts_length _) (rdN_has (q := q10)) ?_; refine k_calC rfl zq (by kernel_rfl) (fun H' hH => f123_c m H' hgl (by omega)) ?_; rintro v n3 o3; refine k_hpA (k_put ?_); refine k_calP (Post := fun v => v = _) rfl zq (by kernel_rfl) (fun H' hH => f125_c m H' (by omega) (by omega) hls hgs) ?_; rintro v rfl; refine k_put ?_; refine k_as rfl zq ?_; refine k_as rfl zq ?_; refine aq rfl ?_; refine run_ret rfl ?_; refine run_res (h ++ n3) rfl Tryz.func42 rfl weakSub ?_; refine hK _ _ ?_
    have hz0 : lineO b xs = 0 := hz0
    have e1 : nearL b xs = gg := by rw [nearL, if_neg (fun e => e hz0), hg]
    have e2 : nearN b xs = sumL (gaps gg xs) := by rw [nearN, if_neg (fun e => e hz0), hg]
    exact ⟨n3, rfl, _, by rw [hz0, e2, gaps_comm], by rw [e1]; exact OwnS.rdI (hgl ▸ o3)⟩
def cmpL : List Int → List Int → Int
  | [], [] => 0
  | [], _ :: _ => -1
  | _ :: _, [] => 1
  | a :: r, b :: s => if a < b then -1 else if b < a then 1 else cmpL r s
theorem cmpL_before : ∀ (xs ys : List Int), cmpL xs ys < 0 ↔ before xs ys = true
  | [], [] => by simp [cmpL, before]
  | [], _ :: _ => by simp [cmpL, before]
  | _ :: _, [] => by simp [cmpL, before]
  | a :: r, b :: s => by
    have := cmpL_before r s
    unfold cmpL before
    by_cases h1 : a < b
    · rw [if_pos h1, if_neg (by omega), decide_eq_true h1]; simp
    · rw [if_neg h1]; by_cases h2 : b < a
      · rw [if_pos h2, if_neg (by omega), decide_eq_false h1]; simp
      · rw [if_neg h2, if_pos (by omega)]; exact this
theorem drop_getD (xs : List Int) (k : Nat) (h : k < xs.length) : xs.drop k = xs.getD k 0 :: xs.drop (k + 1) := by
  rw [List.drop_eq_getElem_cons h, List.getD_eq_getElem?_getD, List.getElem?_eq_getElem h]; rfl
theorem cmpL_drop {xs ys : List Int} {k : Nat} (h1 : k < xs.length) (h2 : k < ys.length) : cmpL (xs.drop k) (ys.drop k) = if xs.getD k 0 < ys.getD k 0 then -1 else if ys.getD k 0 < xs.getD k 0 then 1 else cmpL (xs.drop (k + 1)) (ys.drop (k + 1)) := by
  rw [drop_getD xs k h1, drop_getD ys k h2]; rfl
theorem sgn_ne {a b z : Int} (h : (if a < b then (-1 : Int) else if b < a then 1 else 0) ≠ 0) : (if a < b then (-1 : Int) else if b < a then 1 else 0) = if a < b then -1 else if b < a then 1 else z := by
  split
  · rfl
  · rename_i h1
    rw [if_neg h1] at h
    split
    · rfl
    · rename_i h2; rw [if_neg h2] at h; exact absurd rfl h
theorem sgn_eq {a b z : Int} (h : (if a < b then (-1 : Int) else if b < a then 1 else 0) = 0) : (if a < b then (-1 : Int) else if b < a then 1 else z) = z := by
  split
  · rename_i h1; rw [if_pos h1] at h; cases h
  · rename_i h1
    rw [if_neg h1] at h
    split
    · rename_i h2; rw [if_pos h2] at h; cases h
    · rfl
theorem cmpL_end {xs ys : List Int} {k : Nat} (h1 : k ≤ xs.length) (h2 : k ≤ ys.length) (h : xs.length = k ∨ ys.length = k) : cmpL (xs.drop k) (ys.drop k) = if k < xs.length then 1 else if k < ys.length then -1 else 0 := by
  by_cases e : k < xs.length
  · rw [if_pos e, drop_getD xs k e, (List.drop_eq_nil_of_le (by omega) : ys.drop k = [])]; rfl
  · rw [if_neg e, (List.drop_eq_nil_of_le (by omega) : xs.drop k = [])]; by_cases e2 : k < ys.length
    · rw [if_pos e2, drop_getD ys k e2]; rfl
    · rw [if_neg e2, (List.drop_eq_nil_of_le (by omega) : ys.drop k = [])]; rfl
theorem f174_c (m : Md Tryz.prog B) (h : Hp) (x y : Int) : FnC m 174 #[.int .i64 x, .int .i64 y] h fun v h' => h' = h ∧ v = .int .i64 (if x < y then -1 else if y < x then 1 else 0) := by
  refine fn_enter Tryz.func174 rfl rfl (l := (.int .i64 x) :: (.int .i64 y) :: uu18) rfl ?_
  intro cf cs K hK
  refine rs1 (by kernel_rfl) ?_; refine aq rfl ?_; refine rs3 (by kernel_rfl) ?_; refine mq rfl ?_; refine k_calP (Post := fun v => v = _) rfl zq (by kernel_rfl) (fun H' hH => f181_c m H' _) ?_; rintro v rfl; refine k_put ?_; refine aq rfl ?_; refine rs3 (by kernel_rfl) ?_; refine mq rfl ?_; refine k_calP (Post := fun v => v = _) rfl zq (by kernel_rfl) (fun H' hH => f181_c m H' _) ?_; rintro v rfl; refine k_put ?_; refine aq rfl ?_; refine run_seq ?_; refine rs1 (by kernel_rfl) ?_; refine mq rfl ?_; refine k_nil ?_; refine run_no ?_; refine run_skip ?_; refine run_seq ?_; refine rs1 (by kernel_rfl) ?_; refine mq rfl ?_; refine k_nil ?_; refine run_no ?_; refine run_skip ?_; refine run_seq ?_; refine rs3 (by kernel_rfl) ?_; refine mq rfl ?_; refine mq rfl ?_; refine k_lssS rfl zq (fun hc => ?_) (fun hc => ?_)
  · refine k_nil ?_; refine run_yes ?_; refine rs1 (by kernel_rfl) ?_; refine aq rfl ?_; refine run_ret rfl ?_; refine run_res (h) rfl Tryz.func174 rfl weakSub ?_; refine hK _ _ ?_
    first | exact ⟨rfl, by rw [if_pos (by omega)]⟩ | exact ⟨rfl, by rw [if_neg (by omega), if_pos (by omega)]⟩ | exact ⟨rfl, by rw [if_neg (by omega), if_neg (by omega)]⟩
  · refine k_nil ?_; refine run_no ?_; refine run_skip ?_; refine run_seq ?_; refine rs3 (by kernel_rfl) ?_; refine mq rfl ?_; refine mq rfl ?_; refine k_gtrS rfl zq (fun hc => ?_) (fun hc => ?_)
    · refine k_nil ?_; refine run_yes ?_; refine rs1 (by kernel_rfl) ?_; refine aq rfl ?_; refine run_ret rfl ?_; refine run_res (h) rfl Tryz.func174 rfl weakSub ?_; refine hK _ _ ?_
      first | exact ⟨rfl, by rw [if_pos (by omega)]⟩ | exact ⟨rfl, by rw [if_neg (by omega), if_pos (by omega)]⟩ | exact ⟨rfl, by rw [if_neg (by omega), if_neg (by omega)]⟩
    · refine k_nil ?_; refine run_no ?_; refine run_skip ?_; refine rs1 (by kernel_rfl) ?_; refine aq rfl ?_; refine run_ret rfl ?_; refine run_res (h) rfl Tryz.func174 rfl weakSub ?_; refine hK _ _ ?_
      first | exact ⟨rfl, by rw [if_pos (by omega)]⟩ | exact ⟨rfl, by rw [if_neg (by omega), if_pos (by omega)]⟩ | exact ⟨rfl, by rw [if_neg (by omega), if_neg (by omega)]⟩
theorem f157_c (m : Md Tryz.prog B) (h : Hp) {p : Option Addr} {n c : Nat} {xs : List Int} (rd : RdS B h 1 (.slice p n c) n (ints xs)) (hn : n ≤ 1000000) {p2 : Option Addr} {n2 c2 : Nat} {ys : List Int} (rd2 : RdS B h 1 (.slice p2 n2 c2) n2 (ints ys)) : FnC m 157 #[.slice p n c, .slice p2 n2 c2] h fun v h' => h' = h ∧ v = .int .i64 (cmpL xs ys) := by
  have hl := rd.ilen
  have hl2 := rd2.ilen
  refine fn_enter Tryz.func157 rfl rfl (l := (.slice p n c) :: (.slice p2 n2 c2) :: uu34) rfl ?_
  intro cf cs K hK
  refine rs1 (by kernel_rfl) ?_; refine aq rfl ?_; refine run_seq ?_; refine rs3 (by kernel_rfl) ?_; refine mq rfl ?_; refine k_len rfl zq ?_; refine mq rfl ?_; refine k_nil ?_; refine run_block ?_; refine run_loop (fun nn l h' => ∃ (k : Nat), nn = n - k ∧ (k ≤ n) ∧ (k ≤ n2) ∧ (cmpL xs ys = cmpL (xs.drop k) (ys.drop k)) ∧ (∃ U : Nat → Value, l = [.slice p n c, .slice p2 n2 c2, U 2, U 3, U 4, U 5, U 6, U 7, U 8, .slice p n c, .int .i64 (n : Int), .int .i64 (k : Int), U 12, U 13, U 14, U 15, U 16, U 17, U 18, U 19, U 20, U 21, U 22, U 23, U 24, U 25, U 26, U 27, U 28, U 29, U 30, U 31, U 32, U 33, U 34, U 35]) ∧ h = h') _ ⟨0, rfl, by omega, by omega, rfl, exU rfl, rfl⟩ ?_; rintro nn l h' ⟨k, rfl, hk, hk2, he, ⟨U, rfl⟩, rfl⟩ hnext; refine rs1 (by kernel_rfl) ?_; refine k_lssS rfl zq (fun hc => ?_) (fun hc => ?_)
  · refine k_nil ?_; refine run_seq ?_; refine run_yes ?_; refine run_skip ?_; refine run_seq ?_; refine run_block ?_; refine rs5 (by kernel_rfl) ?_; refine mq rfl ?_; obtain ⟨rd_b, rd_o, rfl⟩ := rd.ptr (by omega)
    refine k_ixs rfl zq (by first | rfl | assumption) (by omega) (by omega) ?_; refine k_ld rfl zq (rd.iat k (by omega) (by omega)) ?_; refine k_as rfl zq ?_; refine aq rfl ?_; refine run_seq ?_; refine rs4 (by kernel_rfl) ?_; refine mq rfl ?_; refine mq rfl ?_; refine k_len rfl zq ?_; refine k_geqS rfl zq (fun hc => ?_) (fun hc => ?_)
    · refine k_nil ?_; refine run_yes ?_; refine rs1 (by kernel_rfl) ?_; refine aq rfl ?_; refine run_ret rfl ?_; refine run_res (h) rfl Tryz.func157 rfl weakSub ?_; refine hK _ _ ?_
      exact ⟨rfl, by rw [he, cmpL_end (by omega) (by omega) (by omega), if_pos (by omega)]⟩
    · refine k_nil ?_; refine run_no ?_; refine run_skip ?_; refine rs5 (by kernel_rfl) ?_; refine mq rfl ?_; refine mq rfl ?_; obtain ⟨rd2_b, rd2_o, rfl⟩ := rd2.ptr (by omega)
      refine k_ixs rfl zq (by first | rfl | assumption) (by omega) (by omega) ?_; refine k_ld rfl zq (rd2.iat k (by omega) (by omega)) ?_; refine aq rfl ?_; refine rs4 (by kernel_rfl) ?_; refine mq rfl ?_; refine mq rfl ?_; refine k_calP (Post := fun v => v = _) rfl zq (by kernel_rfl) (fun H' hH => f174_c m H' _ _) ?_; rintro v rfl; refine k_put ?_; refine aq rfl ?_; refine rs2 (by kernel_rfl) ?_; have hcd := cmpL_drop (xs := xs) (ys := ys) (k := k) (by omega) (by omega)
      refine mq rfl ?_; refine k_neqS rfl zq (fun hc => ?_) (fun hc => ?_)
      · refine k_nil ?_; refine run_yes ?_; refine rs2 (by kernel_rfl) ?_; refine mq rfl ?_; refine aq rfl ?_; refine run_ret rfl ?_; refine run_res (h) rfl Tryz.func157 rfl weakSub ?_; refine hK _ _ ?_
        exact ⟨rfl, by rw [he, hcd]; exact congrArg _ (sgn_ne hc)⟩
      · have hcz := hc
        refine k_nil ?_; refine run_no ?_; refine run_skip ?_; refine run_inBlock ?_; refine rr2 (by kernel_rfl) ?_; refine k_add rfl zq (by unfold In64; omega) ?_; refine mq rfl ?_; refine k_nil ?_; exact m.weak weakSub (hnext _ _ _ (by omega) ⟨k + 1, rfl, by omega, by omega, by rw [he, hcd, sgn_eq hcz], exU rfl, rfl⟩)
  · refine k_nil ?_; refine run_seq ?_; refine run_no ?_; refine run_exit rfl ?_; refine run_seq ?_; refine rs5 (by kernel_rfl) ?_; refine mq rfl ?_; refine k_len rfl zq ?_; refine mq rfl ?_; refine k_len rfl zq ?_; refine k_lssS rfl zq (fun hc => ?_) (fun hc => ?_)
    · refine k_nil ?_; refine run_yes ?_; refine rs1 (by kernel_rfl) ?_; refine aq rfl ?_; refine run_ret rfl ?_; refine run_res (h) rfl Tryz.func157 rfl weakSub ?_; refine hK _ _ ?_
      exact ⟨rfl, by rw [he, cmpL_end (by omega) (by omega) (by omega), if_neg (by omega), if_pos (by omega)]⟩
    · refine k_nil ?_; refine run_no ?_; refine run_skip ?_; refine rs1 (by kernel_rfl) ?_; refine aq rfl ?_; refine run_ret rfl ?_; refine run_res (h) rfl Tryz.func157 rfl weakSub ?_; refine hK _ _ ?_
      exact ⟨rfl, by rw [he, cmpL_end (by omega) (by omega) (by omega), if_neg (by omega), if_neg (by omega)]⟩
theorem f128_c (m : Md Tryz.prog B) (h : Hp) {p : Option Addr} {n c : Nat} {xs : List Int} (rd : RdS B h 1 (.slice p n c) n (ints xs)) (hn : n ≤ 1000000) {p2 : Option Addr} {n2 c2 : Nat} {ys : List Int} (rd2 : RdS B h 1 (.slice p2 n2 c2) n2 (ints ys)) : FnC m 128 #[.slice p n c, .slice p2 n2 c2] h fun v h' => h' = h ∧ IsB (fewer xs ys) v := by
  have hl := rd.ilen
  have hl2 := rd2.ilen
  refine fn_enter Tryz.func128 rfl rfl (l := (.slice p n c) :: (.slice p2 n2 c2) :: uu21) rfl ?_
  intro cf cs K hK
  refine rs1 (by kernel_rfl) ?_; refine aq rfl ?_; refine run_seq ?_; refine run_region [(0, .free), (1, .free), (2, .free), (3, .free), (4, .free), (5, .free), (6, .free), (7, .free), (8, .free), (9, .free), (10, .free), (11, .free), (12, .free), (13, .free), (14, .free), (15, .free), (16, .free), (17, .free), (18, .free)] (by kernel_rfl) (by kernel_rfl) ?_; refine mq rfl ?_; refine k_len rfl zq ?_; refine mq rfl ?_; refine k_len rfl zq ?_; refine k_lssS rfl zq (fun hc => ?_) (fun hc => ?_)
  · refine mq rfl ?_; refine k_off rfl rfl ?_; refine k_off rfl rfl ?_; refine k_off rfl rfl ?_; refine k_off rfl rfl ?_; refine k_off rfl rfl ?_; refine k_off rfl rfl ?_; refine k_off rfl rfl ?_; refine k_off rfl rfl ?_; refine k_off rfl rfl ?_; refine k_off rfl rfl ?_; refine k_off rfl rfl ?_; refine k_pickT rfl zq ?_; refine aq rfl ?_; refine run_ret rfl ?_; refine run_res (h) rfl Tryz.func128 rfl weakSub ?_; refine hK _ _ ?_
    first
      | exact ⟨rfl, IsB.yes (.inl (by omega))⟩
      | exact ⟨rfl, IsB.yes (.inr ⟨by omega, hb.1 (by omega)⟩)⟩
      | exact ⟨rfl, IsB.no (fun e => by rcases e with e | ⟨e1, e2⟩; omega; have := hb.2 e2; omega)⟩
      | exact ⟨rfl, IsB.no (fun e => by rcases e with e | ⟨e1, e2⟩; omega; omega)⟩
  · refine mq rfl ?_; refine k_mv rfl rfl ?_; refine k_len rfl rfl ?_; refine k_mv rfl rfl ?_; refine k_len rfl rfl ?_; refine k_eqlS rfl rfl (fun hc => ?_) (fun hc => ?_)
    · refine k_mv rfl rfl ?_; refine k_mv rfl rfl ?_; refine k_mv rfl rfl ?_; refine k_calP (Post := fun v => v = _) rfl rfl (by kernel_rfl) (fun H' hH => f157_c m H' (rd.keeps (sq hH)) hn (rd2.keeps (sq hH))) ?_; rintro v rfl; refine k_put ?_; refine k_lssS rfl rfl (fun hc => ?_) (fun hc => ?_)
      · have hb := cmpL_before xs ys
        refine k_pickT rfl rfl ?_; refine k_pickF rfl zq ?_; refine aq rfl ?_; refine run_ret rfl ?_; refine run_res (h) rfl Tryz.func128 rfl weakSub ?_; refine hK _ _ ?_
        first
          | exact ⟨rfl, IsB.yes (.inl (by omega))⟩
          | exact ⟨rfl, IsB.yes (.inr ⟨by omega, hb.1 (by omega)⟩)⟩
          | exact ⟨rfl, IsB.no (fun e => by rcases e with e | ⟨e1, e2⟩; omega; have := hb.2 e2; omega)⟩
          | exact ⟨rfl, IsB.no (fun e => by rcases e with e | ⟨e1, e2⟩; omega; omega)⟩
      · have hb := cmpL_before xs ys
        refine k_pickT rfl rfl ?_; refine k_pickF rfl zq ?_; refine aq rfl ?_; refine run_ret rfl ?_; refine run_res (h) rfl Tryz.func128 rfl weakSub ?_; refine hK _ _ ?_
        first
          | exact ⟨rfl, IsB.yes (.inl (by omega))⟩
          | exact ⟨rfl, IsB.yes (.inr ⟨by omega, hb.1 (by omega)⟩)⟩
          | exact ⟨rfl, IsB.no (fun e => by rcases e with e | ⟨e1, e2⟩; omega; have := hb.2 e2; omega)⟩
          | exact ⟨rfl, IsB.no (fun e => by rcases e with e | ⟨e1, e2⟩; omega; omega)⟩
    · refine k_mv rfl rfl ?_; refine k_off rfl rfl ?_; refine k_off rfl rfl ?_; refine k_off rfl rfl ?_; refine k_off rfl rfl ?_; refine k_pickF rfl rfl ?_; refine k_pickF rfl zq ?_; refine aq rfl ?_; refine run_ret rfl ?_; refine run_res (h) rfl Tryz.func128 rfl weakSub ?_; refine hK _ _ ?_
      first
        | exact ⟨rfl, IsB.yes (.inl (by omega))⟩
        | exact ⟨rfl, IsB.yes (.inr ⟨by omega, hb.1 (by omega)⟩)⟩
        | exact ⟨rfl, IsB.no (fun e => by rcases e with e | ⟨e1, e2⟩; omega; have := hb.2 e2; omega)⟩
        | exact ⟨rfl, IsB.no (fun e => by rcases e with e | ⟨e1, e2⟩; omega; omega)⟩
theorem f44_c (m : Md Tryz.prog B) (h : Hp) {b : Bk} {pm : Option Addr} {nm cm : Nat} {pr : Option Addr} {nr cr : Nat} (rdm : RdS B h 2 (.slice pm nm cm) nm (encs b.marks)) (hm : nm ≤ 1000) (rdr : RdS B h 4 (.slice pr nr cr) nr (encs b.rules)) (hr : nr ≤ 1000) {p : Option Addr} {n c : Nat} {xs : List Int} (rd : RdS B h 1 (.slice p n c) n (ints xs)) (hn : n ≤ 1000) : FnC m 44 #[bkV b pm nm cm pr nr cr, .slice p n c] h fun v h' => ∃ new, h' = h ++ new ∧ ∃ w, v = .tuple [w, .int .i64 (lineO b xs)].toArray ∧ RdI B new w (pulledL b xs) := by
  refine fn_enter Tryz.func44 rfl rfl (l := (bkV b pm nm cm pr nr cr) :: (.slice p n c) :: uu58) rfl ?_
  intro cf cs K hK
  refine rs3 (by kernel_rfl) ?_; refine k_box rfl zq (fun q2 => k_hp (k_put ?_)); refine k_as rfl zq ?_; refine aq rfl ?_; refine rs12 (by kernel_rfl) ?_; refine k_ldA rfl zq ?_; refine mq rfl ?_; refine k_calC rfl zq (by kernel_rfl) (Post := fun v nw => Opened2 b (bkV b pm nm cm pr nr cr) (openS b (lineS b.marks.length xs)) xs nw v) (fun H' hH => f124_c m H' (rdm.keeps (sq hH)) hm (rdr.keeps (sq hH)) hr (rd.keeps (sq hH)) hn) ?_; rintro v nw ⟨x1, x2, x3, y1, y2, y3, y4, y5, y6, z1, z2, z3, rfl, hz⟩; refine k_hpA (k_put ?_); refine mq rfl ?_; refine k_ext0 rfl zq ?_; refine k_ext1 rfl zq ?_; refine k_ext2 rfl zq ?_; refine k_new rfl zq (fun q6 => k_hp (k_put ?_)); refine k_new rfl zq (fun q7 => k_hp (k_put ?_)); refine k_stA rfl zq rfl ?_; refine k_stA rfl zq (by first | rfl | exact hts_length _) ?_; refine aq rfl ?_; refine run_seq ?_; refine rs2 (by kernel_rfl) ?_; refine mq rfl ?_; refine k_neqS rfl zq (fun hc => ?_) (fun hc => ?_)
  · refine k_nil ?_; refine run_yes ?_; refine rs3 (by kernel_rfl) ?_; refine mq rfl ?_; refine k_as rfl zq ?_; refine aq rfl ?_; refine run_ret rfl ?_; refine run_res (h) rfl Tryz.func44 rfl weakSub ?_; refine hK _ _ ?_
    exact ⟨[], by simp, _, rfl, by rw [pulledL, if_pos (show lineO b xs ≠ 0 by assumption)]; exact RdI.nil⟩
  · refine k_nil ?_; refine run_no ?_; refine run_skip ?_; refine rs1 (by kernel_rfl) ?_; have hz0 : openS b (lineS b.marks.length xs) = 0 := by first | assumption | omega
    obtain ⟨hz1, rfl, hzc, rdB⟩ := hz hz0
    obtain ⟨rfl, rfl, rfl, rfl, rfl, rfl, rfl, rfl, rfl⟩ := bookV_inj hz1
    obtain ⟨hbz, hoz, hbne⟩ := openS_zero hz0
    have hv := valid_of hbz
    have h7 := hv.many
    have hml := rdm.elen (by decide)
    have hbl := boats_le hv
    have hpos : 0 < (boatsOf b).length := List.length_pos_iff.2 hbne
    obtain ⟨zb, zo, rfl⟩ := RdS.ptr (B := B) rdB hpos
    have hlx := lineS_zero hoz
    have hls := lineS_small hoz
    have hxl := rd.ilen
    refine aq rfl ?_; refine run_seq ?_; refine rs4 (by kernel_rfl) ?_; first | refine k_fa0 rfl zq ?_ | refine k_fa rfl zq ?_
    refine k_ldh rfl zq ?_; refine k_len rfl zq ?_; refine mq rfl ?_; refine k_nil ?_; refine run_block ?_; refine m.weak (h' := h ++ nw ++ [⟨true, q6, .cells [.int .i64 b.bend, .int .i64 b.twist, .int .i64 b.turns, .slice pm nm cm, .slice pr nr cr, .slice (some ⟨zb, zo, none⟩) (boatsOf b).length z3].toArray 123 (0, 0)⟩, ⟨true, q7, .cells (hts xs).toArray 112 (0, 0)⟩]) weakSub ?_
    refine run_loop (fun nn l h' => ∃ (k : Nat) (M : Hp) (gp : Option Addr) (gc : Nat) (g : List Int), nn = (boatsOf b).length - k ∧ (k ≤ (boatsOf b).length) ∧ (0 < k → g = bestBy ltFewer (((boatsOf b).map fun l => unlike l xs).take k)) ∧ (RdS B M 1 (.slice gp g.length gc) g.length (ints g)) ∧ (g.length ≤ 7) ∧ (∃ U : Nat → Value, l = [bkV b pm nm cm pr nr cr, .slice p n c, U 2, U 3, U 4, U 5, .pointer (some ⟨q6, 0, none⟩), .pointer (some ⟨q7, 0, none⟩), U 8, .slice gp g.length gc, U 10, U 11, U 12, U 13, U 14, U 15, U 16, U 17, U 18, U 19, U 20, U 21, U 22, U 23, U 24, .slice (some ⟨zb, zo, none⟩) (boatsOf b).length z3, .int .i64 ((boatsOf b).length : Int), .int .i64 (k : Int), U 28, U 29, U 30, U 31, U 32, U 33, U 34, U 35, U 36, U 37, U 38, U 39, U 40, U 41, U 42, U 43, U 44, U 45, U 46, U 47, U 48, U 49, U 50, U 51, U 52, U 53, U 54, U 55, U 56, U 57, U 58, U 59]) ∧ h ++ nw ++ [⟨true, q6, .cells [.int .i64 b.bend, .int .i64 b.twist, .int .i64 b.turns, .slice pm nm cm, .slice pr nr cr, .slice (some ⟨zb, zo, none⟩) (boatsOf b).length z3].toArray 123 (0, 0)⟩, ⟨true, q7, .cells (hts xs).toArray 112 (0, 0)⟩] ++ M = h') _ ⟨0, [], none, 0, [], rfl, by omega, fun e => absurd e (by decide), ⟨none, 0, rfl, rfl, .inl ⟨rfl, rfl⟩⟩, by simp, exU rfl, (by simp)⟩ ?_; rintro nn l h' ⟨k, M, gp, gc, g, rfl, hk, hg, hgr, hg7, ⟨U, rfl⟩, rfl⟩ hnext1; refine rs1 (by kernel_rfl) ?_; refine k_lssS rfl zq (fun hc => ?_) (fun hc => ?_)
    · refine k_nil ?_; refine run_seq ?_; refine run_yes ?_; refine run_skip ?_; refine run_seq ?_; refine run_block ?_; refine rs6 (by kernel_rfl) ?_; refine mq rfl ?_; refine k_ixs rfl zq (by first | rfl | assumption) (by omega) (by omega) ?_; refine k_ldN (vs := hts ((boatsOf b).getD k default)) rfl zq (hts_length _) (rdB.eat k (by omega) (by omega)) ?_; have hbm : (boatsOf b).getD k default ∈ boatsOf b := mem_getDR.2 ⟨k, by omega, rfl⟩
      have hbln := boats_len hbm
      have hbs := boats_small hv hbm
      generalize hrow : (boatsOf b).getD k default = ln at hbm hbln hbs ⊢
      refine k_new rfl zq (fun q11 => k_hp (k_put ?_)); refine k_as rfl zq ?_; refine k_stA rfl zq (by first | rfl | exact hts_length _) ?_; refine k_nil ?_; refine rs1 (by kernel_rfl) ?_; refine aq rfl ?_; refine run_seq ?_; refine rs4 (by kernel_rfl) ?_; first | refine k_fa0 rfl zq ?_ | refine k_fa rfl zq ?_
      refine k_ldA rfl zq ?_; refine k_calP (Post := fun v => v = _) rfl zq (by kernel_rfl) (fun H' hH => f118_c m H' _ _ _ _ _ _ _ _ _) ?_; rintro v rfl; refine k_put ?_; refine mq rfl ?_; refine k_nil ?_; refine run_block ?_; refine run_loop (fun nn l h' => ∃ (j : Nat) (w12 : Value) (W : Hp), nn = nm - j ∧ (j ≤ nm) ∧ (OwnS 3 1 w12 (unlikeF ln xs j).length (ints (unlikeF ln xs j)) W) ∧ (∃ U : Nat → Value, l = [bkV b pm nm cm pr nr cr, .slice p n c, U 2, U 3, U 4, U 5, .pointer (some ⟨q6, 0, none⟩), .pointer (some ⟨q7, 0, none⟩), U 8, .slice gp g.length gc, .int .i64 (k : Int), .pointer (some ⟨q11, 0, none⟩), w12, U 13, U 14, U 15, U 16, U 17, U 18, U 19, U 20, U 21, U 22, U 23, U 24, .slice (some ⟨zb, zo, none⟩) (boatsOf b).length z3, .int .i64 ((boatsOf b).length : Int), .int .i64 (k : Int), U 28, U 29, U 30, U 31, U 32, U 33, .int .i64 (nm : Int), .int .i64 (j : Int), U 36, U 37, U 38, U 39, U 40, U 41, U 42, U 43, U 44, U 45, U 46, U 47, U 48, U 49, U 50, U 51, U 52, U 53, U 54, U 55, U 56, U 57, U 58, U 59]) ∧ h ++ nw ++ [⟨true, q6, .cells [.int .i64 b.bend, .int .i64 b.twist, .int .i64 b.turns, .slice pm nm cm, .slice pr nr cr, .slice (some ⟨zb, zo, none⟩) (boatsOf b).length z3].toArray 123 (0, 0)⟩, ⟨true, q7, .cells (hts xs).toArray 112 (0, 0)⟩] ++ M ++ [⟨true, q11, .cells (hts ln).toArray 112 (0, 0)⟩] ++ W = h') _ ⟨0, _, [], rfl, by omega, OwnS.nil, exU rfl, (by simp)⟩ ?_; rintro nn l h' ⟨j, w12, W, rfl, hj, ho, ⟨U, rfl⟩, rfl⟩ hnext2; have hul := unlikeF_length ln xs j
      refine rs1 (by kernel_rfl) ?_; refine k_lssS rfl zq (fun hc => ?_) (fun hc => ?_)
      · refine k_nil ?_; refine run_seq ?_; refine run_yes ?_; refine run_skip ?_; refine run_seq ?_; refine run_block ?_; refine rs2 (by kernel_rfl) ?_; refine mq rfl ?_; refine aq rfl ?_; refine run_seq ?_; refine run_draw [(0, .pure), (1, .pure), (3, .pure), (4, .pure), (2, .read), (5, .read), (6, .pure)] (by kernel_rfl) (by kernel_rfl) (List.Sublist.refl _) ?_; refine mq rfl ?_; refine k_ixa rfl zq (by omega) (by omega) ?_; refine mq rfl ?_; refine k_ixa rfl zq (by omega) (by omega) ?_; refine k_ld rfl zq (rd_hts (q := q11) j (by omega) (by omega)) ?_; refine k_ld rfl zq (rd_hts (q := q7) j (by omega) (by omega)) ?_; refine k_neqS rfl zq (fun hc => ?_) (fun hc => ?_)
        · refine k_nil ?_; refine run_yes ?_; refine rr5 (by kernel_rfl) ?_; refine mq rfl ?_; refine mq rfl ?_; refine k_bs kdq rfl zq (by decide) (by decide) rfl (fun q47 => k_hp (k_put ?_)); refine k_app1 (F := h ++ nw ++ [⟨true, q6, .cells [.int .i64 b.bend, .int .i64 b.twist, .int .i64 b.turns, .slice pm nm cm, .slice pr nr cr, .slice (some ⟨zb, zo, none⟩) (boatsOf b).length z3].toArray 123 (0, 0)⟩, ⟨true, q7, .cells (hts xs).toArray 112 (0, 0)⟩] ++ M ++ [⟨true, q11, .cells (hts ln).toArray 112 (0, 0)⟩]) rfl zq rfl ho kdq (by omega) (by omega) (fun w9 n9 o9 => k_put ?_); refine aq rfl ?_; refine run_inBlock ?_; refine rr2 (by kernel_rfl) ?_; refine k_add rfl zq (by unfold In64; omega) ?_; refine mq rfl ?_; refine k_nil ?_; have hmu := unlikeF_yes ln xs j hc
          exact m.weak weakSub (hnext2 _ _ _ (by omega) ⟨j + 1, _, n9, rfl, by omega, by rw [show (unlikeF ln xs (j + 1)).length = (unlikeF ln xs j).length + 1 by rw [hmu]; simp, hmu, ints_append]; exact o9, exU rfl, rfl⟩)
        · refine k_nil ?_; refine run_no ?_; refine run_skip ?_; refine run_inBlock ?_; refine rr2 (by kernel_rfl) ?_; refine k_add rfl zq (by unfold In64; omega) ?_; refine mq rfl ?_; refine k_nil ?_; have hmu := unlikeF_no ln xs j hc
          exact m.weak weakSub (hnext2 _ _ _ (by omega) ⟨j + 1, _, W, rfl, by omega, by rw [hmu]; exact ho, exU rfl, rfl⟩)
      · refine k_nil ?_; refine run_seq ?_; refine run_no ?_; refine run_exit rfl ?_; refine rs7 (by kernel_rfl) ?_; obtain rfl : j = nm := by omega
        have hue : unlikeF ln xs j = unlike ln xs := by rw [unlike, show ln.length = j by omega]
        rw [hue] at ho hul
        obtain ⟨up, uc, rfl, _⟩ := ho.len
        have ur : RdS B W 1 (.slice up _ uc) _ _ := ho.rd'
        refine mq rfl ?_; refine k_eqlS rfl zq (fun hc => ?_) (fun hc => ?_)
        · refine mq rfl ?_; refine k_off rfl rfl ?_; refine k_off rfl rfl ?_; refine k_off rfl rfl ?_; refine k_pickT rfl zq ?_; refine k_nil ?_; refine run_yes ?_; refine rr2 (by kernel_rfl) ?_; refine mq rfl ?_; refine aq rfl ?_; refine run_inBlock ?_; refine rr2 (by kernel_rfl) ?_; refine k_add rfl zq (by unfold In64; omega) ?_; refine mq rfl ?_; refine k_nil ?_; have hum := map_getD (boatsOf b) (fun l => unlike l xs) k (by omega)
          rw [show (boatsOf b).getD k [] = ln from hrow] at hum
          exact m.weak weakSub (hnext1 _ _ _ (by omega) ⟨k + 1, W, _, _, _, rfl, by omega, fun _ => by obtain rfl : k = 0 := (by omega); rw [bestBy_one, hum], ur, by have := unlike_length ln xs; omega, exU rfl, rfl⟩)
        · refine mq rfl ?_; refine k_mv rfl rfl ?_; refine k_mv rfl rfl ?_; refine k_calP (Post := fun v => IsB _ v) rfl rfl (by kernel_rfl) (fun H' hH => f128_c m H' (ur.keeps (sq hH)) (by omega) (hgr.keeps (sq hH))) ?_; rintro v (⟨hc, rfl⟩ | ⟨hc, rfl⟩)
          · refine k_put ?_; refine k_pickF rfl zq ?_; refine k_nil ?_; refine run_yes ?_; refine rr2 (by kernel_rfl) ?_; refine mq rfl ?_; refine aq rfl ?_; refine run_inBlock ?_; refine rr2 (by kernel_rfl) ?_; refine k_add rfl zq (by unfold In64; omega) ?_; refine mq rfl ?_; refine k_nil ?_; have hum := map_getD (boatsOf b) (fun l => unlike l xs) k (by omega)
            rw [show (boatsOf b).getD k [] = ln from hrow] at hum
            exact m.weak weakSub (hnext1 _ _ _ (by omega) ⟨k + 1, W, _, _, _, rfl, by omega, fun _ => by rw [bestBy_succ _ _ _ (by omega) (by rw [List.length_map]; omega), if_pos (by rw [← hg (by omega), hum]; exact decide_eq_true hc), hum], ur, by have := unlike_length ln xs; omega, exU rfl, rfl⟩)
          · refine k_put ?_; refine k_pickF rfl zq ?_; refine k_nil ?_; refine run_no ?_; refine run_skip ?_; refine run_inBlock ?_; refine rr2 (by kernel_rfl) ?_; refine k_add rfl zq (by unfold In64; omega) ?_; refine mq rfl ?_; refine k_nil ?_; have hum := map_getD (boatsOf b) (fun l => unlike l xs) k (by omega)
            rw [show (boatsOf b).getD k [] = ln from hrow] at hum
            exact m.weak weakSub (hnext1 _ _ _ (by omega) ⟨k + 1, M, _, _, _, rfl, by omega, fun _ => by rw [bestBy_succ _ _ _ (by omega) (by rw [List.length_map]; omega), if_neg (by rw [← hg (by omega), hum]; unfold ltFewer; rw [decide_eq_true_iff]; exact hc), hg (by omega)], hgr, hg7, exU rfl, rfl⟩)
    · refine k_nil ?_; refine run_seq ?_; refine run_no ?_; refine run_exit rfl ?_; refine rs3 (by kernel_rfl) ?_; refine mq rfl ?_; refine k_as rfl zq ?_; refine aq rfl ?_; refine run_ret rfl ?_; refine run_res (h ++ M) rfl Tryz.func44 rfl weakSub ?_; refine hK _ _ ?_
      obtain rfl : k = (boatsOf b).length := by omega
      have hg := hg hpos
      rw [List.take_of_length_le (by rw [List.length_map]; omega)] at hg
      have hz0 : lineO b xs = 0 := hz0
      have e1 : pulledL b xs = g := by rw [pulledL, if_neg (fun e => e hz0), hg]
      exact ⟨M, rfl, _, by rw [hz0], by rw [e1]; exact ⟨_, _, rfl, hgr⟩⟩
theorem f46_c (m : Md Tryz.prog B) (h : Hp) {b : Bk} {pm : Option Addr} {nm cm : Nat} {pr : Option Addr} {nr cr : Nat} (rdm : RdS B h 2 (.slice pm nm cm) nm (encs b.marks)) (hm : nm ≤ 1000) (rdr : RdS B h 4 (.slice pr nr cr) nr (encs b.rules)) (hr : nr ≤ 1000) {p : Option Addr} {n c : Nat} {xs : List Int} (rd : RdS B h 1 (.slice p n c) n (ints xs)) (hn : n ≤ 1000) : FnC m 46 #[bkV b pm nm cm pr nr cr, .slice p n c] h fun v h' => ∃ new, h' = h ++ new ∧ ∃ w, v = .tuple [w, .int .i64 (lineO b xs)].toArray ∧ RdI B new w (mustL b xs) := by
  refine fn_enter Tryz.func46 rfl rfl (l := (bkV b pm nm cm pr nr cr) :: (.slice p n c) :: uu48) rfl ?_
  intro cf cs K hK
  refine rs3 (by kernel_rfl) ?_; refine k_box rfl zq (fun q2 => k_hp (k_put ?_)); refine k_as rfl zq ?_; refine aq rfl ?_; refine run_scope ?_; refine rs12 (by kernel_rfl) ?_; refine k_ldA rfl zq ?_; refine mq rfl ?_; refine k_calC rfl zq (by kernel_rfl) (Post := fun v nw => Opened2 b (bkV b pm nm cm pr nr cr) (openS b (lineS b.marks.length xs)) xs nw v) (fun H' hH => f124_c m H' (rdm.keeps (sq hH)) hm (rdr.keeps (sq hH)) hr (rd.keeps (sq hH)) hn) ?_; rintro v nw ⟨x1, x2, x3, y1, y2, y3, y4, y5, y6, z1, z2, z3, rfl, hz⟩; refine k_hpA (k_put ?_); refine mq rfl ?_; refine k_ext0 rfl zq ?_; refine k_ext1 rfl zq ?_; refine k_ext2 rfl zq ?_; refine k_new rfl zq (fun q6 => k_hp (k_put ?_)); refine k_new rfl zq (fun q7 => k_hp (k_put ?_)); refine k_stA rfl zq rfl ?_; refine k_stA rfl zq (by first | rfl | exact hts_length _) ?_; refine aq rfl ?_; refine run_seq ?_; refine rs2 (by kernel_rfl) ?_; refine mq rfl ?_; refine k_neqS rfl zq (fun hc => ?_) (fun hc => ?_)
  · refine k_nil ?_; refine run_yes ?_; refine rs3 (by kernel_rfl) ?_; refine mq rfl ?_; refine k_as rfl zq ?_; refine aq rfl ?_; refine run_ret rfl ?_; refine run_res (h) rfl Tryz.func46 rfl weakSub ?_; refine hK _ _ ?_
    exact ⟨[], by simp, _, rfl, by rw [mustL, if_pos (show lineO b xs ≠ 0 by assumption)]; exact RdI.nil⟩
  · refine k_nil ?_; refine run_no ?_; refine run_skip ?_; refine rs1 (by kernel_rfl) ?_; have hz0 : openS b (lineS b.marks.length xs) = 0 := by first | assumption | omega
    obtain ⟨hz1, rfl, hzc, rdB⟩ := hz hz0
    obtain ⟨rfl, rfl, rfl, rfl, rfl, rfl, rfl, rfl, rfl⟩ := bookV_inj hz1
    obtain ⟨hbz, hoz, hbne⟩ := openS_zero hz0
    have hv := valid_of hbz
    have h7 := hv.many
    have hml := rdm.elen (by decide)
    have hbl := boats_le hv
    have hpos : 0 < (boatsOf b).length := List.length_pos_iff.2 hbne
    obtain ⟨zb, zo, rfl⟩ := RdS.ptr (B := B) rdB hpos
    have hlx := lineS_zero hoz
    have hls := lineS_small hoz
    have hxl := rd.ilen
    refine aq rfl ?_; refine run_seq ?_; refine run_label ?_; refine run_seq ?_; refine rs4 (by kernel_rfl) ?_; first | refine k_fa0 rfl zq ?_ | refine k_fa rfl zq ?_
    refine k_ldA rfl zq ?_; refine k_calP (Post := fun v => v = _) rfl zq (by kernel_rfl) (fun H' hH => f118_c m H' _ _ _ _ _ _ _ _ _) ?_; rintro v rfl; refine k_put ?_; refine mq rfl ?_; refine k_nil ?_; refine run_block ?_; refine m.weak (h' := h ++ nw ++ [⟨true, q6, .cells [.int .i64 b.bend, .int .i64 b.twist, .int .i64 b.turns, .slice pm nm cm, .slice pr nr cr, .slice (some ⟨zb, zo, none⟩) (boatsOf b).length z3].toArray 123 (0, 0)⟩, ⟨true, q7, .cells (hts xs).toArray 112 (0, 0)⟩]) weakSub ?_
    refine run_loop (fun nn l h' => ∃ (j : Nat) (w9 : Value) (W : Hp), nn = nm - j ∧ (j ≤ nm) ∧ (OwnS 3 1 w9 (mustF (boatsOf b) xs j).length (ints (mustF (boatsOf b) xs j)) W) ∧ (∃ U : Nat → Value, l = [bkV b pm nm cm pr nr cr, .slice p n c, U 2, U 3, U 4, U 5, .pointer (some ⟨q6, 0, none⟩), .pointer (some ⟨q7, 0, none⟩), U 8, w9, U 10, U 11, U 12, U 13, U 14, U 15, U 16, U 17, U 18, U 19, U 20, U 21, U 22, U 23, U 24, .int .i64 (nm : Int), .int .i64 (j : Int), U 27, U 28, U 29, U 30, U 31, U 32, U 33, U 34, U 35, U 36, U 37, U 38, U 39, U 40, U 41, U 42, U 43, U 44, U 45, U 46, U 47, U 48, U 49]) ∧ h ++ nw ++ [⟨true, q6, .cells [.int .i64 b.bend, .int .i64 b.twist, .int .i64 b.turns, .slice pm nm cm, .slice pr nr cr, .slice (some ⟨zb, zo, none⟩) (boatsOf b).length z3].toArray 123 (0, 0)⟩, ⟨true, q7, .cells (hts xs).toArray 112 (0, 0)⟩] ++ W = h') _ ⟨0, _, [], rfl, by omega, OwnS.nil, exU rfl, (by simp)⟩ ?_; rintro nn l h' ⟨j, w9, W, rfl, hj, ho, ⟨U, rfl⟩, rfl⟩ hnext1; have hml7 := mustF_length (boatsOf b) xs j
    refine rs1 (by kernel_rfl) ?_; refine k_lssS rfl zq (fun hc => ?_) (fun hc => ?_)
    · refine k_nil ?_; refine run_seq ?_; refine run_yes ?_; refine run_skip ?_; refine run_seq ?_; refine run_block ?_; refine rs2 (by kernel_rfl) ?_; refine mq rfl ?_; refine aq rfl ?_; refine run_seq ?_; refine rs4 (by kernel_rfl) ?_; first | refine k_fa0 rfl zq ?_ | refine k_fa rfl zq ?_
      refine k_ldh rfl zq ?_; refine k_len rfl zq ?_; refine mq rfl ?_; refine k_nil ?_; refine run_block ?_; refine run_loop (fun nn l h' => ∃ (k : Nat), nn = (boatsOf b).length - k ∧ (k ≤ (boatsOf b).length) ∧ (∀ l ∈ (boatsOf b).take k, l.getD j 0 ≠ xs.getD j 0) ∧ (∃ U : Nat → Value, l = [bkV b pm nm cm pr nr cr, .slice p n c, U 2, U 3, U 4, U 5, .pointer (some ⟨q6, 0, none⟩), .pointer (some ⟨q7, 0, none⟩), U 8, w9, .int .i64 (j : Int), U 11, U 12, U 13, U 14, U 15, U 16, U 17, U 18, U 19, U 20, U 21, U 22, U 23, U 24, .int .i64 (nm : Int), .int .i64 (j : Int), U 27, U 28, U 29, .slice (some ⟨zb, zo, none⟩) (boatsOf b).length z3, .int .i64 ((boatsOf b).length : Int), .int .i64 (k : Int), U 33, U 34, U 35, U 36, U 37, U 38, U 39, U 40, U 41, U 42, U 43, U 44, U 45, U 46, U 47, U 48, U 49]) ∧ h ++ nw ++ [⟨true, q6, .cells [.int .i64 b.bend, .int .i64 b.twist, .int .i64 b.turns, .slice pm nm cm, .slice pr nr cr, .slice (some ⟨zb, zo, none⟩) (boatsOf b).length z3].toArray 123 (0, 0)⟩, ⟨true, q7, .cells (hts xs).toArray 112 (0, 0)⟩] ++ W = h') _ ⟨0, rfl, by omega, by simp, exU rfl, rfl⟩ ?_; rintro nn l h' ⟨k, rfl, hk, hno, ⟨U, rfl⟩, rfl⟩ hnext2; refine rs1 (by kernel_rfl) ?_; refine k_lssS rfl zq (fun hc => ?_) (fun hc => ?_)
      · refine k_nil ?_; refine run_seq ?_; refine run_yes ?_; refine run_skip ?_; refine run_seq ?_; refine run_block ?_; refine rs4 (by kernel_rfl) ?_; refine k_ixs rfl zq (by first | rfl | assumption) (by omega) (by omega) ?_; refine k_ldN (vs := hts ((boatsOf b).getD k default)) rfl zq (hts_length _) (rdB.eat k (by omega) (by omega)) ?_; have hbm : (boatsOf b).getD k default ∈ boatsOf b := mem_getDR.2 ⟨k, by omega, rfl⟩
        have hbln := boats_len hbm
        have hbs := boats_small hv hbm
        generalize hrow : (boatsOf b).getD k default = ln at hbm hbln hbs ⊢
        refine k_new rfl zq (fun q12 => k_hp (k_put ?_)); refine k_stA rfl zq (by first | rfl | exact hts_length _) ?_; refine k_nil ?_; refine run_seq ?_; refine run_draw [(0, .pure), (1, .pure), (3, .pure), (4, .pure), (2, .read), (5, .read), (6, .pure)] (by kernel_rfl) (by kernel_rfl) (List.Sublist.refl _) ?_; refine mq rfl ?_; refine k_ixa rfl zq (by omega) (by omega) ?_; refine mq rfl ?_; refine k_ixa rfl zq (by omega) (by omega) ?_; refine k_ld rfl zq (rd_hts (q := q12) j (by omega) (by omega)) ?_; refine k_ld rfl zq (rd_hts (q := q7) j (by omega) (by omega)) ?_; refine k_eqlS rfl zq (fun hc => ?_) (fun hc => ?_)
        · refine k_nil ?_; refine run_yes ?_; refine run_exit rfl ?_; refine rr2 (by kernel_rfl) ?_; refine k_add rfl zq (by unfold In64; omega) ?_; refine mq rfl ?_; refine k_nil ?_; have hmu := mustF_no (boatsOf b) xs j (fun e => e _ hbm hc)
          exact m.weak weakSub (hnext1 _ _ _ (by omega) ⟨j + 1, _, W, rfl, by omega, by rw [hmu]; exact ho, exU rfl, rfl⟩)
        · refine k_nil ?_; refine run_no ?_; refine run_skip ?_; refine run_inBlock ?_; refine rr2 (by kernel_rfl) ?_; refine k_add rfl zq (by unfold In64; omega) ?_; refine mq rfl ?_; refine k_nil ?_; exact m.weak weakSub (hnext2 _ _ _ (by omega) ⟨k + 1, rfl, by omega, fun l hl => by
               rw [take_snocL _ _ (by omega), List.mem_append, List.mem_singleton] at hl
               rcases hl with hl | rfl
               · exact hno l hl
               · exact (show (boatsOf b).getD k [] = ln from hrow) ▸ hc, exU rfl, rfl⟩)
      · refine k_nil ?_; refine run_seq ?_; refine run_no ?_; refine run_exit rfl ?_; refine rr5 (by kernel_rfl) ?_; refine mq rfl ?_; refine mq rfl ?_; refine k_bs kdq rfl zq (by decide) (by decide) rfl (fun q46 => k_hp (k_put ?_)); refine k_app1 (F := h ++ nw ++ [⟨true, q6, .cells [.int .i64 b.bend, .int .i64 b.twist, .int .i64 b.turns, .slice pm nm cm, .slice pr nr cr, .slice (some ⟨zb, zo, none⟩) (boatsOf b).length z3].toArray 123 (0, 0)⟩, ⟨true, q7, .cells (hts xs).toArray 112 (0, 0)⟩]) rfl zq rfl ho kdq (by omega) (by omega) (fun w9 n9 o9 => k_put ?_); refine aq rfl ?_; refine run_inBlock ?_; refine rr2 (by kernel_rfl) ?_; refine k_add rfl zq (by unfold In64; omega) ?_; refine mq rfl ?_; refine k_nil ?_; have hmu := mustF_yes (boatsOf b) xs j (fun l hl => hno l (by rw [List.take_of_length_le (by omega)]; exact hl))
        exact m.weak weakSub (hnext1 _ _ _ (by omega) ⟨j + 1, _, n9, rfl, by omega, by rw [show (mustF (boatsOf b) xs (j + 1)).length = (mustF (boatsOf b) xs j).length + 1 by rw [hmu]; simp, hmu, ints_append]; exact o9, exU rfl, rfl⟩)
    · refine k_nil ?_; refine run_seq ?_; refine run_no ?_; refine run_exit rfl ?_; refine rs3 (by kernel_rfl) ?_; refine mq rfl ?_; refine k_as rfl zq ?_; refine aq rfl ?_; refine run_ret rfl ?_; refine run_res (h ++ W) rfl Tryz.func46 rfl weakSub ?_; refine hK _ _ ?_
      obtain rfl : j = xs.length := by omega
      have hz0 : lineO b xs = 0 := hz0
      have e1 : mustL b xs = mustF (boatsOf b) xs xs.length := by rw [mustL, if_neg (fun e => e hz0)]
      exact ⟨W, rfl, _, by rw [hz0], by rw [e1]; exact OwnS.rdI ho⟩
theorem own_noneE {B : Array Obj} {α : Type} {k : Nat} [Enc α k] {t : Nat} {h : Hp} {n c : Nat} {xs : List α} (rd : RdS B h k (.slice none n c) n (encs xs)) : OwnS t k (.slice none 0 0) n (encs xs) [] := by
  obtain ⟨p, c', e, hl, r⟩ := rd
  injection e with e1 e2 e3
  subst e1
  rcases r with ⟨_, rfl⟩ | ⟨b, o, e, _⟩
  · have h0 : encs xs = [] := List.eq_nil_of_length_eq_zero (by omega)
    rw [h0]; exact OwnS.nil
  · cases e
theorem own_rdA {B : Array Obj} {t k : Nat} {v : Value} {n : Nat} {cs : List Value} {new : Hp} (o : OwnS t k v n cs new) : ∃ p c, v = .slice p n c ∧ n ≤ c ∧ RdS B new k (.slice p n c) n cs := by
  obtain ⟨p, c, rfl, _⟩ := o.len
  exact ⟨p, c, rfl, o.cap, o.rd (List.Sublist.refl _)⟩
def BkR (B : Array Obj) (b : Bk) (nw : Hp) (w : Value) : Prop := ∃ pm nm cm pr nr cr, w = bkV b pm nm cm pr nr cr ∧ nm = b.marks.length ∧ nr = b.rules.length ∧ nm ≤ cm ∧ nr ≤ cr ∧ RdS B nw 2 (.slice pm nm cm) nm (encs b.marks) ∧ RdS B nw 4 (.slice pr nr cr) nr (encs b.rules)
def noBk : Bk := ⟨0, 0, 0, [], []⟩
theorem BkR.zero {B : Array Obj} {nw : Hp} : BkR B noBk nw (.agg [.int .i64 0, .int .i64 0, .int .i64 0, .slice none 0 0, .slice none 0 0].toArray) :=
  ⟨none, 0, 0, none, 0, 0, rfl, rfl, rfl, Nat.le_refl _, Nat.le_refl _, ⟨none, 0, rfl, rfl, .inl ⟨rfl, rfl⟩⟩, ⟨none, 0, rfl, rfl, .inl ⟨rfl, rfl⟩⟩⟩
def agreeS (b : Bk) : Int := openS b 0
def agreeB (b : Bk) : Bk := if openS b 0 = 0 then b else noBk
def Agreed (B : Array Obj) (b : Bk) (nw : Hp) (v : Value) : Prop := ∃ w, v = .tuple [w, .int .i64 (agreeS b)].toArray ∧ BkR B (agreeB b) nw w
theorem f134_c (m : Md Tryz.prog B) (h : Hp) {p : Option Addr} {n c : Nat} {xs : List Sp} (rd : RdS B h 2 (.slice p n c) n (encs xs)) (hn : n ≤ 1000) : FnC m 134 #[.slice p n c] h fun v h' => ∃ nw, h' = h ++ nw ∧ OwnS 92 2 v n (encs xs) nw := by
  refine fn_enter Tryz.func134 rfl rfl (l := (.slice p n c) :: uu7) rfl ?_
  intro cf cs K hK
  refine rs1 (by kernel_rfl) ?_; refine aq rfl ?_; refine run_seq ?_; refine rs2 (by kernel_rfl) ?_; refine mq rfl ?_; refine k_eqNilS rfl zq (fun hc => ?_) (fun hc => ?_)
  · refine k_nil ?_; refine run_yes ?_; refine rs1 (by kernel_rfl) ?_; refine aq rfl ?_; refine run_ret rfl ?_; refine run_res (h) rfl Tryz.func134 rfl weakSub ?_; refine hK _ _ ?_
    exact ⟨[], by simp, by subst hc; exact own_noneE rd⟩
  · refine k_nil ?_; refine run_no ?_; refine run_skip ?_; refine rs4 (by kernel_rfl) ?_; refine k_bs0 kdq rfl zq (fun q5 => k_hp (k_put ?_)); refine mq rfl ?_; refine k_app (F := h) rfl zq weakSub OwnS.zero rd.up (encs_one _) kdq (by omega) (by omega) (fun w9 n9 o9 => k_put ?_); refine aq rfl ?_; refine run_ret rfl ?_; refine run_res (h ++ n9) rfl Tryz.func134 rfl weakSub ?_; refine hK _ _ ?_
    exact ⟨n9, rfl, by simpa using o9⟩
theorem f135_c (m : Md Tryz.prog B) (h : Hp) {p : Option Addr} {n c : Nat} {xs : List Ru} (rd : RdS B h 4 (.slice p n c) n (encs xs)) (hn : n ≤ 1000) : FnC m 135 #[.slice p n c] h fun v h' => ∃ nw, h' = h ++ nw ∧ OwnS 94 4 v n (encs xs) nw := by
  refine fn_enter Tryz.func135 rfl rfl (l := (.slice p n c) :: uu7) rfl ?_
  intro cf cs K hK
  refine rs1 (by kernel_rfl) ?_; refine aq rfl ?_; refine run_seq ?_; refine rs2 (by kernel_rfl) ?_; refine mq rfl ?_; refine k_eqNilS rfl zq (fun hc => ?_) (fun hc => ?_)
  · refine k_nil ?_; refine run_yes ?_; refine rs1 (by kernel_rfl) ?_; refine aq rfl ?_; refine run_ret rfl ?_; refine run_res (h) rfl Tryz.func135 rfl weakSub ?_; refine hK _ _ ?_
    exact ⟨[], by simp, by subst hc; exact own_noneE rd⟩
  · refine k_nil ?_; refine run_no ?_; refine run_skip ?_; refine rs4 (by kernel_rfl) ?_; refine k_bs0 kdq rfl zq (fun q5 => k_hp (k_put ?_)); refine mq rfl ?_; refine k_app (F := h) rfl zq weakSub OwnS.zero rd.up (encs_one _) kdq (by omega) (by omega) (fun w9 n9 o9 => k_put ?_); refine aq rfl ?_; refine run_ret rfl ?_; refine run_res (h ++ n9) rfl Tryz.func135 rfl weakSub ?_; refine hK _ _ ?_
    exact ⟨n9, rfl, by simpa using o9⟩
theorem f90_c (m : Md Tryz.prog B) (h : Hp) (x y : Int) : FnC m 90 #[.int .i64 x, .int .i64 y] h fun v h' => h' = h ∧ v = spV ⟨x, y⟩ := by
  refine fn_enter Tryz.func90 rfl rfl (l := (.int .i64 x) :: (.int .i64 y) :: uu6) rfl ?_
  intro cf cs K hK
  refine rs1 (by kernel_rfl) ?_; refine k_new rfl zq (fun q4 => k_hp (k_put ?_)); refine k_nil ?_; refine rs4 (by kernel_rfl) ?_; refine mq rfl ?_; refine mq rfl ?_; refine k_bld rfl zq ?_; refine k_stA rfl zq rfl ?_; refine k_nil ?_; refine run_ret rfl ?_; refine run_res (h) rfl Tryz.func90 rfl weakSub ?_; refine hK _ _ ?_
  exact ⟨rfl, rfl⟩
theorem f84_c (m : Md Tryz.prog B) (h : Hp) (x : Int) : FnC m 84 #[.int .i64 x] h fun v h' => h' = h ∧ v = spV ⟨x, x⟩ := by
  refine fn_enter Tryz.func84 rfl rfl (l := [.int .i64 x, undef, undef, undef, undef, undef]) rfl ?_
  intro cf cs K hK
  refine rs1 (by kernel_rfl) ?_; refine k_new rfl zq (fun q2 => k_hp (k_put ?_)); refine k_nil ?_; refine rs4 (by kernel_rfl) ?_; refine mq rfl ?_; refine mq rfl ?_; refine k_bld rfl zq ?_; refine k_stA rfl zq rfl ?_; refine k_nil ?_; refine run_ret rfl ?_; refine run_res (h) rfl Tryz.func84 rfl weakSub ?_; refine hK _ _ ?_
  exact ⟨rfl, rfl⟩
theorem f137_c (m : Md Tryz.prog B) (h : Hp) {b : Bk} {pm : Option Addr} {nm cm : Nat} {pr : Option Addr} {nr cr : Nat} (rdm : RdS B h 2 (.slice pm nm cm) nm (encs b.marks)) (hm : nm ≤ 1000) (rdr : RdS B h 4 (.slice pr nr cr) nr (encs b.rules)) (hr : nr ≤ 1000) : FnC m 137 #[bkV b pm nm cm pr nr cr] h fun v h' => ∃ nw, h' = h ++ nw ∧ Agreed B b nw v := by
  refine fn_enter Tryz.func137 rfl rfl (l := (bkV b pm nm cm pr nr cr) :: uu23) rfl ?_
  intro cf cs K hK
  refine rs3 (by kernel_rfl) ?_; refine k_box rfl zq (fun q1 => k_hp (k_put ?_)); refine k_new rfl zq (fun q2 => k_hp (k_put ?_)); refine aq rfl ?_; refine run_seq ?_; refine rs8 (by kernel_rfl) ?_; refine k_ldA rfl zq ?_; refine k_calC rfl zq (by kernel_rfl) (Post := fun v nw => Opened b (bkV b pm nm cm pr nr cr) (openS b (0)) nw v) (fun H' hH => f107_c m H' (rdm.keeps (sq hH)) hm (rdr.keeps (sq hH)) hr callB120 (fun hbz K hK => by simpa using f120_c m K)) ?_; rintro v nw ⟨x1, x2, x3, y1, y2, y3, y4, y5, y6, z1, z2, z3, rfl, hz⟩; refine k_hpA (k_put ?_); refine mq rfl ?_; refine k_ext0 rfl zq ?_; refine k_ext1 rfl zq ?_; refine k_new rfl zq (fun q4 => k_hp (k_put ?_)); refine k_stA rfl zq rfl ?_; refine aq rfl ?_; refine rs2 (by kernel_rfl) ?_; refine mq rfl ?_; refine k_neqS rfl zq (fun hc => ?_) (fun hc => ?_)
  · refine k_nil ?_; refine run_yes ?_; refine rs4 (by kernel_rfl) ?_; refine k_bld rfl zq ?_; refine mq rfl ?_; refine k_stA rfl zq rfl ?_; refine aq rfl ?_; refine run_ret rfl ?_; refine run_res (h) rfl Tryz.func137 rfl weakSub ?_; refine hK _ _ ?_
    exact ⟨[], by simp, _, rfl, by rw [agreeB, if_neg (by assumption)]; exact BkR.zero⟩
  · refine k_nil ?_; refine run_no ?_; refine run_skip ?_; refine run_seq ?_; refine run_draw [(0, .pure), (3, .pure), (1, .read), (4, .read), (2, .keep), (6, .pure), (5, .keep), (7, .free), (8, .pure), (9, .free)] (by kernel_rfl) (by kernel_rfl) (List.Sublist.refl _) ?_; have hz0 : openS b 0 = 0 := by first | assumption | omega
    obtain ⟨hz1, rfl, hzc, rdB⟩ := hz hz0
    obtain ⟨rfl, rfl, rfl, rfl, rfl, rfl, rfl, rfl, rfl⟩ := bookV_inj hz1
    obtain ⟨hbz, hoz, hbne⟩ := openS_zero hz0
    have hv := valid_of hbz
    have h7 := hv.many
    have hml := rdm.elen (by decide)
    have hbl := boats_le hv
    have hpos : 0 < (boatsOf b).length := List.length_pos_iff.2 hbne
    obtain ⟨zb, zo, rfl⟩ := RdS.ptr (B := B) rdB hpos
    have hrl := rdr.elen (by decide)
    first | refine k_fa0 rfl zq ?_ | refine k_fa rfl zq ?_
    first | refine k_fa0 rfl zq ?_ | refine k_fa rfl zq ?_
    refine k_ldh rfl zq ?_; refine k_ldh rfl zq ?_; refine k_calC rfl zq (by kernel_rfl) (fun H' hH => f134_c m H' (rdm.keeps (sq hH)) (by omega)) ?_; rintro v n1 o1; refine k_hpA (k_put ?_); obtain ⟨p1, c1, rfl, hc1, r1⟩ := own_rdA (B := B) o1
    first | refine k_fa0 rfl zq ?_ | refine k_fa rfl zq ?_
    refine k_calC rfl zq (by kernel_rfl) (fun H' hH => f135_c m H' (rdr.keeps (sq hH)) (by omega)) ?_; rintro v n2 o2; refine k_hpA (k_put ?_); obtain ⟨p2, c2, rfl, hc2, r2⟩ := own_rdA (B := B) o2
    refine k_st1 rfl zq ?_; first | refine k_fa0 rfl zq ?_ | refine k_fa rfl zq ?_
    refine k_st1 rfl zq ?_; refine k_nil ?_; refine rs3 (by kernel_rfl) ?_; refine k_ldA rfl zq ?_; refine k_stA rfl zq rfl ?_; refine aq rfl ?_; refine run_ret rfl ?_; refine run_res (h ++ n1 ++ n2) rfl Tryz.func137 rfl weakSub ?_; refine hK _ _ ?_
    refine ⟨n1 ++ n2, by simp, _, by rw [agreeS, hz0], ?_⟩
    rw [agreeB, if_pos hz0]; exact ⟨p1, nm, c1, p2, nr, c2, rfl, hml.symm, hrl.symm, hc1, hc2, r1.keeps (List.sublist_append_left _ _), r2.keeps (List.sublist_append_right _ _)⟩
end Go.Proofs
namespace Go.Lo
open Go.Conc (G)
section
variable {P : Program} {B : Array Obj} {m : Md P B} {S : Hp} {ops : Array Oper}
def waitE (ops : Array Oper) (E : List (Nat × Nat)) (i : Nat) : List Nat := (match ops[i]? with | some o => binding o | none => []) ++ (E.filter (·.2 == i)).map (·.1)
def masksE (ops : Array Oper) (E : List (Nat × Nat)) : Nat → List Nat
  | 0 => []
  | n + 1 => masksE ops E n ++ [maskOf (masksE ops E n) (waitE ops E n)]
theorem masksE_length (E : List (Nat × Nat)) : ∀ n, (masksE ops E n).length = n
  | 0 => rfl
  | n + 1 => by rw [masksE, List.length_append, masksE_length E n]; rfl
theorem masksE_spec (E : List (Nat × Nat)) : ∀ n i j, ((masksE ops E n).getD i 0).testBit j = true → ∃ x ∈ waitE ops E i, x = j ∨ (x < i ∧ ((masksE ops E n).getD x 0).testBit j = true)
  | 0, i, j, h => by simp [masksE] at h
  | n + 1, i, j, h => by
    have hlen := masksE_length (ops := ops) E n
    have old : ∀ x, x < n → (masksE ops E (n + 1)).getD x 0 = (masksE ops E n).getD x 0 := fun x hx => by
      rw [masksE, List.getD_eq_getElem?_getD, List.getD_eq_getElem?_getD, List.getElem?_append_left (by omega)]
    rcases Nat.lt_trichotomy i n with hi | rfl | hi
    · rw [old i hi] at h
      obtain ⟨x, hx, hx'⟩ := masksE_spec E n i j h
      exact ⟨x, hx, hx'.imp id fun ⟨h1, h2⟩ => ⟨h1, by rw [old x (by omega)]; exact h2⟩⟩
    · have e : (masksE ops E (i + 1)).getD i 0 = maskOf (masksE ops E i) (waitE ops E i) := by
        rw [masksE, List.getD_eq_getElem?_getD, List.getElem?_append_right (by omega), hlen]; simp
      rw [e] at h
      obtain ⟨x, hx, hx'⟩ := testBit_maskOf _ _ _ h
      refine ⟨x, hx, hx'.imp id fun h2 => ?_⟩
      have hxi : x < i := by
        rcases Nat.lt_or_ge x i with h3 | h3
        · exact h3
        · rw [List.getD_eq_getElem?_getD, List.getElem?_eq_none (by omega)] at h2
          simp at h2
      exact ⟨hxi, by rw [old x hxi]; exact h2⟩
    · rw [List.getD_eq_getElem?_getD, List.getElem?_eq_none (by rw [masksE_length]; omega)] at h
      simp at h
def Resp (w : Nat → List Nat) : List Nat → Prop
  | [] => True
  | i :: L => (∀ p ∈ w i, p ∉ i :: L) ∧ Resp w L
theorem mask_done' {ms : List Nat} {w : Nat → List Nat} (hms : ∀ i j, (ms.getD i 0).testBit j = true → ∃ x ∈ w i, x = j ∨ (x < i ∧ (ms.getD x 0).testBit j = true)) {L : List Nat} (down : ∀ x, x ∉ L → ∀ p ∈ w x, p ∉ L) :
    ∀ i, (∀ p ∈ w i, p ∉ L) → ∀ j ∈ L, (ms.getD i 0).testBit j = false := by
  intro i
  induction i using Nat.strongRecOn with
  | _ i ih =>
    intro hb j hj
    cases ht : (ms.getD i 0).testBit j with
    | false => rfl
    | true =>
      exfalso
      obtain ⟨x, hx, e | ⟨hlt, h2⟩⟩ := hms i j ht
      · exact hb x hx (e ▸ hj)
      · have := ih x hlt (down x (hb x hx)) j hj
        rw [this] at h2
        cases h2
theorem run_any (hn : noDefer ops = true) {ms : List Nat} {w : Nat → List Nat} (hms : ∀ i j, (ms.getD i 0).testBit j = true → ∃ x ∈ w i, x = j ∨ (x < i ∧ (ms.getD x 0).testBit j = true))
    {b : Frame} {ds : List Deferred} {k : List Item} {cs : List Frame} {K : Goroutine → Hp → Prop} :
    ∀ (L : List Nat) (r : List (Nat × Kd)) (l : List Value) (h : Hp), (∀ x, x ∈ L ↔ ∃ y ∈ r, y.1 = x) → L.Nodup → (r.map (·.1)).Nodup → pairsOk ops ms r = true → newsOk P ops r = true → ((∃ x ∈ r, x.2 = .read ∨ x.2 = .call) → S.Sublist h) → readsOk r = true → Resp w L →
      (∀ x, x ∉ L → ∀ p ∈ w x, p ∉ L) →
      RegK m S ops r l h (fun l' h' => m.R K (Gr b l' ds k cs) h') → m.R K (Gr b l ds (.inRegion ops L :: k) cs) h := by
  intro L
  induction L with
  | nil =>
    intro r l h hL _ _ _ _ _ _ _ _ hk
    cases r with
    | nil => exact run_region_end hk
    | cons y r => exact absurd ((hL y.1).2 ⟨y, List.mem_cons_self, rfl⟩) (by simp)
  | cons i L ih =>
    intro r l h hL hLn hnd hp hnw hS hro hresp hd hk
    obtain ⟨⟨i', ki⟩, hmr, rfl⟩ := (hL i).1 List.mem_cons_self
    have hmk' := mask_done' hms hd i' hresp.1
    have hmk : ∀ y ∈ r, (ms.getD i' 0).testBit y.1 = false := fun y hy => hmk' y.1 ((hL y.1).2 ⟨y, hy, rfl⟩)
    obtain ⟨o', ho', t'⟩ := RegK_take hn (newsOk_spec hnw hmr) WeakR hp hmr hnd hmk hk
    refine opK_run ho' (noDefer_spec hn ho').1 (fun e => hS ⟨_, hmr, e⟩) (opK_mono (fun l' h' x hkeep => ?_) t')
    have hmf : ∀ y, y ∈ r.filter (fun x => x.1 != i') ↔ y ∈ r ∧ y.1 ≠ i' := fun y => by rw [List.mem_filter]; simp
    have hLn' := List.nodup_cons.1 hLn
    refine ih _ l' h' (fun z => ?_) hLn'.2 (List.Nodup.sublist (List.Sublist.map _ List.filter_sublist) hnd) (pairsOk_filter _ hp) (List.all_eq_true.2 fun y hy => List.all_eq_true.1 hnw y (List.mem_filter.1 hy).1) (fun hex => ?_) (readsOk_filter _ hro) hresp.2 (fun z hz p hpz hpL => ?_) x
    · constructor
      · intro hz
        obtain ⟨y, hy, e⟩ := (hL z).1 (List.mem_cons_of_mem _ hz)
        exact ⟨y, (hmf y).2 ⟨hy, fun e' => hLn'.1 (by rw [← e', e]; exact hz)⟩, e⟩
      · rintro ⟨y, hy, rfl⟩; obtain ⟨h1, h2⟩ := (hmf y).1 hy
        rcases List.mem_cons.1 ((hL y.1).2 ⟨y, h1, rfl⟩) with e | e
        · exact absurd e h2
        · exact e
    · obtain ⟨y, hy, e⟩ := hex
      have hy' := (List.mem_filter.1 hy).1
      refine hkeep (fun ek => ?_) (hS ⟨y, hy', e⟩)
      subst ek
      exact free_last hp hro hmr hmk y hy' e
    · by_cases ez : z = i'
      · subst ez; exact hresp.1 p hpz (List.mem_cons_of_mem _ hpL)
      · exact hd z (fun hm => (List.mem_cons.1 hm).elim ez hz) p hpz (List.mem_cons_of_mem _ hpL)
theorem go_spec : ∀ (fuel t : Nat) (listed : Array Bool) (r : List (Nat × Kd)), r.length ≤ fuel → listed.size = ops.size →
      (∀ x, x < ops.size → (listed.getD x true = true ↔ ∀ y ∈ r, y.1 ≠ x)) → (r.map (·.1)).Nodup → Topo ops r →
      (∀ x, x ∈ Region.linearise.go .any ops fuel t listed [] ↔ ∃ y ∈ r, y.1 = x) ∧ (Region.linearise.go .any ops fuel t listed []).Nodup ∧ Resp (waitE ops []) (Region.linearise.go .any ops fuel t listed []) := by
  intro fuel
  induction fuel with
  | zero =>
    intro t listed r hr _ _ _ _
    have : r = [] := List.length_eq_zero_iff.1 (by omega)
    subst this
    simp [Region.linearise.go, Resp]
  | succ fuel ih =>
    intro t listed r hr hsz hl hnd ht
    simp only [Region.linearise.go]
    split
    · rename_i i hi
      have hmem := List.mem_of_getElem? hi
      simp only [List.mem_filter, List.mem_range, Bool.and_eq_true, Bool.not_eq_true'] at hmem
      obtain ⟨hin, hnl, hrd⟩ := hmem
      cases ho : ops[i]? with
      | none => rw [ho] at hrd; simp at hrd
      | some o =>
        rw [ho] at hrd
        simp only [Option.map_some, Option.getD_some, Array.all_eq_true_iff_forall_mem] at hrd
        have hir : ∃ y ∈ r, y.1 = i := by
          apply Classical.byContradiction
          intro hne
          have := (hl i hin).2 fun y hy e => hne ⟨y, hy, e⟩
          rw [this] at hnl
          cases hnl
        obtain ⟨⟨i', ki⟩, hmr, rfl⟩ := hir
        have hbn : ∀ p ∈ binding o, ∀ y ∈ r, y.1 ≠ p := by
          intro p hp'
          obtain ⟨e, he, rfl⟩ := List.mem_map.1 hp'
          obtain ⟨he1, he2⟩ := List.mem_filter.1 he
          have := hrd e (by simpa using he1)
          rw [he2] at this
          simp only [Bool.not_true, Bool.false_or] at this
          have hlt : e.on < ops.size := by
            rcases Nat.lt_or_ge e.on ops.size with h3 | h3
            · exact h3
            · rw [Array.getD_eq_getD_getElem?, Array.getElem?_eq_none (by omega)] at this
              simp at this
          refine (hl e.on hlt).1 ?_
          rw [Array.getD_eq_getD_getElem?, Array.getElem?_eq_getElem (by omega)] at this ⊢
          exact this
        have hmf : ∀ y, y ∈ r.filter (fun x => x.1 != i') ↔ y ∈ r ∧ y.1 ≠ i' := fun y => by rw [List.mem_filter]; simp
        rw [linearise_go_acc, List.reverse_singleton, List.singleton_append]; obtain ⟨g1, g2, g3⟩ := ih (t / ((List.range ops.size).filter fun i => !listed.getD i true && ((ops[i]?).map (·.after.all fun e => !Region.binds .any e || listed.getD e.on false)).getD false).length) (listed.setIfInBounds i' true) (r.filter fun x => x.1 != i')
          (by
            have : (r.filter fun x => x.1 != i').length < r.length := by
              exact List.length_filter_lt_length_iff_exists.2 ⟨_, hmr, by simp⟩
            omega) (by simpa using hsz) (fun x hx => by
            by_cases e : x = i'
            · subst e
              refine ⟨fun _ y hy => ((hmf y).1 hy).2, fun _ => ?_⟩
              rw [Array.getD_eq_getD_getElem?, Array.getElem?_setIfInBounds_self_of_lt (by omega)]; rfl
            · have : (listed.setIfInBounds i' true).getD x true = listed.getD x true := by
                rw [Array.getD_eq_getD_getElem?, Array.getElem?_setIfInBounds_ne (fun e' => e e'.symm), ← Array.getD_eq_getD_getElem?]
              rw [this, hl x hx]; refine ⟨fun hh y hy => hh y ((hmf y).1 hy).1, fun hh y hy => ?_⟩
              by_cases ey : y.1 = i'
              · rw [ey]; exact fun e' => e e'.symm
              · exact hh y ((hmf y).2 ⟨hy, ey⟩)) (List.Nodup.sublist (List.Sublist.map _ List.filter_sublist) hnd) (ht.filter _)
        refine ⟨fun x => ?_, List.nodup_cons.2 ⟨fun hm => ?_, g2⟩, fun p hp hm => ?_, g3⟩
        · rw [List.mem_cons, g1]; constructor
          · rintro (rfl | ⟨y, hy, e⟩)
            · exact ⟨_, hmr, rfl⟩
            · exact ⟨y, ((hmf y).1 hy).1, e⟩
          · rintro ⟨y, hy, rfl⟩; by_cases e : y.1 = i'
            · exact .inl e
            · exact .inr ⟨y, (hmf y).2 ⟨hy, e⟩, rfl⟩
        · obtain ⟨y, hy, e⟩ := (g1 i').1 hm
          exact ((hmf y).1 hy).2 e
        · have hp' : p ∈ binding o := by simpa [waitE, ho] using hp
          rcases List.mem_cons.1 hm with rfl | hm
          · exact hbn _ hp' _ hmr rfl
          · obtain ⟨y, hy, e⟩ := (g1 p).1 hm
            exact hbn _ hp' y ((hmf y).1 hy).1 e
    · rename_i hnone
      cases r with
      | nil => simp [Resp]
      | cons x r =>
        exfalso
        obtain ⟨i, ki⟩ := x
        obtain ⟨⟨o, ho, hb⟩, _⟩ := ht
        have hin : i < ops.size := (Array.getElem?_eq_some_iff.1 ho).1
        have : i ∈ (List.range ops.size).filter (fun i => !listed.getD i true && ((ops[i]?).map (·.after.all fun e => !Region.binds .any e || listed.getD e.on false)).getD false) := by
          rw [List.mem_filter]; refine ⟨List.mem_range.2 hin, ?_⟩
          have h1 : listed.getD i true = false := by
            cases hc : listed.getD i true with
            | false => rfl
            | true => exact absurd rfl ((hl i hin).1 hc _ List.mem_cons_self)
          rw [h1, ho]; simp only [Bool.not_false, Bool.true_and, Option.map_some, Option.getD_some, Array.all_eq_true_iff_forall_mem]
          intro e he
          cases hbe : Region.binds .any e with
          | false => rfl
          | true =>
            simp only [Bool.not_true, Bool.false_or]
            have hm : e.on ∈ binding o := List.mem_map.2 ⟨e, List.mem_filter.2 ⟨by simpa using he, hbe⟩, rfl⟩
            obtain ⟨h3, h4⟩ := hb _ hm
            have := (hl e.on h3).2 h4
            rw [Array.getD_eq_getD_getElem?, Array.getElem?_eq_getElem (by omega)] at this ⊢
            exact this
        have hpos := List.length_pos_of_mem this
        rw [List.getElem?_eq_none_iff] at hnone
        exact absurd (Nat.mod_lt t hpos) (by omega)
def Bef (a b : Nat) : List Nat → Prop
  | [] => True
  | i :: L => (i = b → a ∉ i :: L) ∧ Bef a b L
theorem Bef.gone {a b : Nat} : ∀ {L : List Nat}, a ∉ L → Bef a b L
  | [], _ => trivial
  | _ :: _, h => ⟨fun _ => h, Bef.gone fun x => h (List.mem_cons_of_mem _ x)⟩
theorem bef_or {a b : Nat} (hab : a ≠ b) : ∀ {L : List Nat}, L.Nodup → Bef a b L ∨ Bef b a L
  | [], _ => .inl trivial
  | i :: L, h => by
    obtain ⟨h1, h2⟩ := List.nodup_cons.1 h
    by_cases ea : i = a
    · subst ea; exact .inl ⟨fun e => absurd e hab, Bef.gone h1⟩
    · by_cases eb : i = b
      · subst eb; exact .inr ⟨fun e => absurd e.symm hab, Bef.gone h1⟩
      · exact (bef_or hab h2).imp (fun x => ⟨fun e => absurd e eb, x⟩) fun x => ⟨fun e => absurd e ea, x⟩
theorem Resp.add {E : List (Nat × Nat)} {a b : Nat} : ∀ {L : List Nat}, Resp (waitE ops E) L → Bef a b L → Resp (waitE ops ((a, b) :: E)) L
  | [], _, _ => trivial
  | i :: L, ⟨h1, h2⟩, ⟨h3, h4⟩ => by
    refine ⟨fun p hp => ?_, Resp.add h2 h4⟩
    simp only [waitE, List.filter_cons, List.mem_append] at hp
    rcases hp with hp | hp
    · exact h1 p (List.mem_append_left _ hp)
    · split at hp
      · rename_i e
        rcases List.mem_cons.1 hp with rfl | hp
        · exact h3 (by have : b = i := (by simpa using e); exact this.symm)
        · exact h1 p (List.mem_append_right _ hp)
      · exact h1 p (List.mem_append_right _ hp)
def okE (P : Program) (ops : Array Oper) (E : List (Nat × Nat)) (r : List (Nat × Kd)) : Bool :=
  noDefer ops && readsOk r && pairsOk ops (masksE ops E ops.size) r && newsOk P ops r && (r.all fun x => decide (x.1 < ops.size)) && decide (r.map (·.1)).Nodup && ((List.range ops.size).all fun i => r.any (·.1 == i)) && E.all fun e => decide (e.2 < ops.size)
inductive DrawT (m : Md P B) (S : Hp) (ops : Array Oper) (l : List Value) (h : Hp) (C : List Value → Hp → Prop) : List (Nat × Nat) → Prop
  | leaf {E} (r : List (Nat × Kd)) (hok : okE P ops E r = true) (t : RegK m S ops r l h C) : DrawT m S ops l h C E
  | split {E} (a b : Nat) (hab : a ≠ b) (t1 : DrawT m S ops l h C ((a, b) :: E)) (t2 : DrawT m S ops l h C ((b, a) :: E)) : DrawT m S ops l h C E
theorem run_list {b : Frame} {ds : List Deferred} {k : List Item} {cs : List Frame} {K : Goroutine → Hp → Prop} {l : List Value} {h : Hp} (hS : S.Sublist h) {L : List Nat} (hL : ∀ x, x ∈ L ↔ x < ops.size) (hLn : L.Nodup) {E : List (Nat × Nat)}
    (t : DrawT m S ops l h (fun l' h' => m.R K (Gr b l' ds k cs) h') E) : Resp (waitE ops E) L → m.R K (Gr b l ds (.inRegion ops L :: k) cs) h := by
  induction t with
  | @leaf E r hok t =>
    intro hr
    simp only [okE, Bool.and_eq_true, List.all_eq_true, List.mem_range, List.any_eq_true, beq_iff_eq, decide_eq_true_eq] at hok
    obtain ⟨⟨⟨⟨⟨⟨⟨h1, h2⟩, h3⟩, h4⟩, h5⟩, h6⟩, h7⟩, h8⟩ := hok
    refine run_any h1 (masksE_spec E ops.size) L r l h (fun x => ?_) hLn h6 h3 h4 (fun _ => hS) h2 hr (fun x hx p hp _ => ?_) t
    · rw [hL]; exact ⟨fun hx => h7 x hx, fun ⟨y, hy, e⟩ => e ▸ h5 y hy⟩
    · have hx' : ops.size ≤ x := Nat.le_of_not_lt fun e => hx ((hL x).2 e)
      simp only [waitE, Array.getElem?_eq_none hx', List.nil_append, List.mem_map, List.mem_filter, beq_iff_eq] at hp
      obtain ⟨e, ⟨he1, he2⟩, _⟩ := hp
      have := h8 e he1
      omega
  | split a b hab _ _ ih1 ih2 =>
    intro hr
    rcases bef_or hab hLn with h1 | h1
    · exact ih1 (hr.add h1)
    · exact ih2 (hr.add h1)
theorem run_drawT {b : Frame} {ds : List Deferred} {k : List Item} {cs : List Frame} {K : Goroutine → Hp → Prop} {id : Nat} {l : List Value} {h : Hp} (r0 : List Nat) (hm : (P.follows .mixedOrders || !Region.departs ops) = true)
    (hok : (topoOk ops [] (r0.map fun i => (i, Kd.free)) && (List.range ops.size).all fun i => r0.contains i) = true) (hS : S.Sublist h) (t : DrawT m S ops l h (fun l' h' => m.R K (Gr b l' ds k cs) h') []) : m.R K (Gr b l ds (.code (.region id ops true) :: k) cs) h := by
  refine run_region_drawn fun t' => ?_; simp only [Bool.and_eq_true, List.all_eq_true, List.mem_range, List.contains_iff_mem] at hok
  obtain ⟨h3, h4⟩ := hok
  generalize hr : (r0.map fun i => (i, Kd.free)) = r at h3
  obtain ⟨t1, _, t3⟩ := topo_of r [] h3 (by simp)
  have hlt : ∀ y ∈ r, y.1 < ops.size := by
    have : ∀ (r : List (Nat × Kd)), Topo ops r → ∀ y ∈ r, y.1 < ops.size := by
      intro r
      induction r with
      | nil => intro _ y hy; simp at hy
      | cons z r ih =>
        intro ⟨⟨o, ho, _⟩, h5⟩ y hy
        rcases List.mem_cons.1 hy with rfl | hy
        · exact (Array.getElem?_eq_some_iff.1 ho).1
        · exact ih h5 y hy
    exact this r t1
  have hin : ∀ x, x < ops.size → ∃ y ∈ r, y.1 = x := fun x hx => ⟨(x, .free), by rw [← hr]; exact List.mem_map.2 ⟨x, h4 x hx, rfl⟩, rfl⟩
  have hlen : r.length ≤ ops.size := by
    have := List.Nodup.length_le_of_subset t3 (l₂ := List.range ops.size) fun x hx => by
      obtain ⟨y, hy, rfl⟩ := List.mem_map.1 hx
      exact List.mem_range.2 (hlt y hy)
    simpa using this
  simp only [Region.schedule, hm, if_true]
  obtain ⟨g1, g2, g3⟩ := go_spec (ops := ops) ops.size t' (Array.replicate ops.size false) r hlen (by simp) (fun x hx => by
    rw [Array.getD_eq_getD_getElem?, Array.getElem?_eq_getElem (by simpa using hx)]; obtain ⟨y, hy, e⟩ := hin x hx
    simp only [Array.getElem_replicate, Option.getD_some, Bool.false_eq_true, false_iff]
    exact fun hh => hh y hy e) t3 t1
  refine run_list hS (fun x => ?_) g2 t g3
  exact (g1 x).trans ⟨fun ⟨y, hy, e⟩ => e ▸ hlt y hy, fun hx => hin x hx⟩
theorem DrawT.mono {l : List Value} {h : Hp} {C C' : List Value → Hp → Prop} (hc : ∀ l h, C l h → C' l h) {E : List (Nat × Nat)} (t : DrawT m S ops l h C E) : DrawT m S ops l h C' E := by
  induction t with
  | leaf r hok t => exact .leaf r hok (RegK.mono hc t)
  | split a b hab _ _ ih1 ih2 => exact .split a b hab ih1 ih2
theorem run_drawC (C : List Value → Hp → Prop) {b : Frame} {ds : List Deferred} {k : List Item} {cs : List Frame} {K : Goroutine → Hp → Prop} {id : Nat} {l : List Value} {h : Hp} (r0 : List Nat) (hm : (P.follows .mixedOrders || !Region.departs ops) = true)
    (hok : (topoOk ops [] (r0.map fun i => (i, Kd.free)) && (List.range ops.size).all fun i => r0.contains i) = true) (hS : S.Sublist h) (t : DrawT m S ops l h C []) (n : ∀ l' h', C l' h' → m.R K (Gr b l' ds k cs) h') : m.R K (Gr b l ds (.code (.region id ops true) :: k) cs) h :=
  run_drawT r0 hm hok hS (t.mono n)
end
end Go.Lo
