/- A part of the proof of a law: my own separation logic over the machine, and walks of the program. Condition of each theorem: as its statement says. -/
import Derived.Test.YtlbkicemccikgaaGreatDoorWLReached2
set_option linter.all false
namespace Go.Proofs
open Go.Lo
open Go.Conc (G)
set_option maxRecDepth 100000
set_option synthInstance.maxSize 100000
set_option synthInstance.maxHeartbeats 1000000
set_option maxHeartbeats 4000000
variable {B : Array Obj}
def diffs : List Int → List Int
  | a :: b :: r => (b - a) :: diffs (b :: r)
  | _ => []
theorem diffs_length : ∀ (l : List Int), (diffs l).length = l.length - 1
  | [] => rfl
  | [_] => rfl
  | a :: b :: r => by simp [diffs, diffs_length (b :: r)]
theorem diffs_get : ∀ (l : List Int) (k : Nat), k + 1 < l.length → (diffs l)[k]? = some (l.getD (k + 1) 0 - l.getD k 0)
  | [], k, h => by simp at h
  | [_], k, h => by simp at h
  | a :: b :: r, 0, _ => by simp [diffs]
  | a :: b :: r, k + 1, h => by
    have := diffs_get (b :: r) k (by simpa using h)
    simpa [diffs] using this
theorem diffs_take (l : List Int) (k : Nat) (h : k + 1 < l.length) : (diffs l).take (k + 1) = (diffs l).take k ++ [l.getD (k + 1) 0 - l.getD k 0] := by
  rw [List.take_add_one, diffs_get l k h]; rfl
theorem f144_c (m : Md Tryz.prog B) (h : Hp) (v : Value) (xs : List Int) (n : Nat) (hn : n = xs.length) (hmax : n ≤ 1000) (hb : ∀ j, -100000 ≤ xs.getD j 0 ∧ xs.getD j 0 ≤ 100000) (rd : RdS B h 1 v n (ints xs)) :
    FnC m 144 #[v] h fun v' h' => ∃ new, h' = h ++ new ∧ OwnS 3 1 v' (n - 1) (ints (diffs xs)) new := by
  obtain ⟨p, c, rfl, hl, hp⟩ := id rd
  refine fn_enter Tryz.func144 rfl rfl (l := (.slice p n c) :: uu24) rfl ?_
  intro cf cs K hK
  refine rs1 (by kernel_rfl) ?_; refine aq rfl ?_; refine rs1 (by kernel_rfl) ?_; refine aq rfl ?_; refine run_seq ?_; refine rs1 (by kernel_rfl) ?_; refine aq rfl ?_; refine run_block ?_; refine run_loop (fun nn l h' => ∃ (k : Nat) (w : Value) (new : Hp), nn = n - k ∧ (k + 1 ≤ max n 1) ∧ (OwnS 3 1 w k (ints ((diffs xs).take k)) new) ∧ (∃ U : Nat → Value, l = [.slice p n c, U 1, U 2, w, .int .i64 ((k : Int) + 1), U 5, U 6, U 7, U 8, U 9, U 10, U 11, U 12, U 13, U 14, U 15, U 16, U 17, U 18, U 19, U 20, U 21, U 22, U 23, U 24]) ∧ h ++ new = h') _ ⟨0, _, [], rfl, by omega, OwnS.nil, exU rfl, (by simp)⟩ ?_; rintro nn l h' ⟨k, w, new, rfl, hk, ho, ⟨U, rfl⟩, rfl⟩ hnext; subst hn
  refine run_seq ?_; refine rs4 (by kernel_rfl) ?_; refine mq rfl ?_; refine mq rfl ?_; refine k_len rfl zq ?_; refine k_lssS rfl zq (fun hc => ?_) (fun hc => ?_)
  · refine k_nil ?_; refine run_yes ?_; refine run_skip ?_; refine run_seq ?_; refine run_block ?_; refine run_draw [(0, .pure), (1, .pure), (2, .pure), (3, .pure), (5, .pure), (6, .pure), (7, .pure), (8, .pure), (4, .read), (9, .read), (10, .pure), (11, .keep), (12, .free), (13, .pure)] (by kernel_rfl) (by kernel_rfl) (List.Sublist.refl _) ?_; obtain ⟨b, o, rfl⟩ := rd.ptr (by omega)
    have hb1 := hb (k + 1)
    have hb0 := hb k
    have e1 : ((k : Int) + 1).toNat = k + 1 := by omega
    have e0 : ((k : Int) + 1 - 1).toNat = k := by omega
    refine mq rfl ?_; refine mq rfl ?_; refine mq rfl ?_; refine k_ixs rfl zq (by first | rfl | assumption) (by omega) (by omega) ?_; refine mq rfl ?_; refine mq rfl ?_; refine k_sub rfl zq (by unfold In64; omega) ?_; refine k_ixs rfl zq (by first | rfl | assumption) (by omega) (by omega) ?_; refine k_ld rfl zq ((rd.int rfl (by omega) (by omega)).app _) ?_; refine k_ld rfl zq ((rd.int rfl (by omega) (by omega)).app _) ?_; rw [e1, e0]; refine k_sub rfl zq (by unfold In64; omega) ?_; refine k_bs kdq rfl zq (by decide) (by decide) rfl (fun q22 => k_hp (k_put ?_)); refine k_app1 (F := h) rfl zq rfl ho kdq (by omega) (by omega) (fun w2 new2 ho2 => k_put ?_); rw [show ints ((diffs xs).take k) ++ [Value.int .i64 (xs.getD (k + 1) 0 - xs.getD k 0)] = ints ((diffs xs).take (k + 1)) by rw [diffs_take xs k (by omega)]; simp] at ho2
    refine aq rfl ?_; refine run_inBlock ?_; refine rr3 (by kernel_rfl) ?_; refine mq rfl ?_; refine k_add rfl zq (by unfold In64; omega) ?_; refine aq rfl ?_; exact m.weak weakSub (hnext _ _ _ (by omega) ⟨k + 1, _, _, rfl, by omega, ho2, exU rfl, rfl⟩)
  · refine k_nil ?_; refine run_no ?_; refine run_exit rfl ?_; refine rs2 (by kernel_rfl) ?_; refine mq rfl ?_; refine aq rfl ?_; refine run_ret rfl ?_; refine run_res (h ++ new) rfl Tryz.func144 rfl weakSub ?_; refine hK _ _ ?_
    obtain rfl : k = xs.length - 1 := by omega
    rw [List.take_of_length_le (by rw [diffs_length]; exact Nat.le_refl _)] at ho
    exact ⟨_, rfl, ho⟩
theorem f117_c (m : Md Tryz.prog B) (h : Hp) (x lo hi : Int) : FnC m 117 #[.int .i64 x, .int .i64 lo, .int .i64 hi] h fun v h' => h' = h ∧ IsB (lo ≤ x ∧ x ≤ hi) v := by
  refine fn_enter Tryz.func117 rfl rfl (l := (.int .i64 x) :: (.int .i64 lo) :: (.int .i64 hi) :: uu12) rfl ?_
  intro cf cs K hK
  refine rs1 (by kernel_rfl) ?_; refine aq rfl ?_; refine rs9 (by kernel_rfl) ?_; refine mq rfl ?_; refine mq rfl ?_; refine k_leqS rfl zq (fun hc => ?_) (fun hc => ?_)
  · refine mq rfl ?_; refine k_mv rfl rfl ?_; refine k_mv rfl rfl ?_; refine k_leqS rfl rfl (fun hc => ?_) (fun hc => ?_)
    · refine k_pickT rfl zq ?_; refine aq rfl ?_; refine run_ret rfl ?_; refine run_res (h) rfl Tryz.func117 rfl weakSub ?_; refine hK _ _ ?_
      first | exact ⟨rfl, IsB.yes (by omega)⟩ | exact ⟨rfl, IsB.no (by omega)⟩
    · refine k_pickT rfl zq ?_; refine aq rfl ?_; refine run_ret rfl ?_; refine run_res (h) rfl Tryz.func117 rfl weakSub ?_; refine hK _ _ ?_
      first | exact ⟨rfl, IsB.yes (by omega)⟩ | exact ⟨rfl, IsB.no (by omega)⟩
  · refine mq rfl ?_; refine k_off rfl rfl ?_; refine k_off rfl rfl ?_; refine k_off rfl rfl ?_; refine k_pickF rfl zq ?_; refine aq rfl ?_; refine run_ret rfl ?_; refine run_res (h) rfl Tryz.func117 rfl weakSub ?_; refine hK _ _ ?_
    first | exact ⟨rfl, IsB.yes (by omega)⟩ | exact ⟨rfl, IsB.no (by omega)⟩
theorem f72_c (m : Md Tryz.prog B) (h : Hp) (x lo hi : Int) : FnC m 72 #[.int .i64 x, .int .i64 lo, .int .i64 hi] h fun v h' => h' = h ∧ IsB (lo ≤ x ∧ x ≤ hi) v := by
  refine fn_enter Tryz.func72 rfl rfl (l := (.int .i64 x) :: (.int .i64 lo) :: (.int .i64 hi) :: uu12) rfl ?_
  intro cf cs K hK
  refine rs1 (by kernel_rfl) ?_; refine aq rfl ?_; refine rs9 (by kernel_rfl) ?_; refine mq rfl ?_; refine mq rfl ?_; refine k_leqS rfl zq (fun hc => ?_) (fun hc => ?_)
  · refine mq rfl ?_; refine k_mv rfl rfl ?_; refine k_mv rfl rfl ?_; refine k_leqS rfl rfl (fun hc => ?_) (fun hc => ?_)
    · refine k_pickT rfl zq ?_; refine aq rfl ?_; refine run_ret rfl ?_; refine run_res (h) rfl Tryz.func72 rfl weakSub ?_; refine hK _ _ ?_
      first | exact ⟨rfl, IsB.yes (by omega)⟩ | exact ⟨rfl, IsB.no (by omega)⟩
    · refine k_pickT rfl zq ?_; refine aq rfl ?_; refine run_ret rfl ?_; refine run_res (h) rfl Tryz.func72 rfl weakSub ?_; refine hK _ _ ?_
      first | exact ⟨rfl, IsB.yes (by omega)⟩ | exact ⟨rfl, IsB.no (by omega)⟩
  · refine mq rfl ?_; refine k_off rfl rfl ?_; refine k_off rfl rfl ?_; refine k_off rfl rfl ?_; refine k_pickF rfl zq ?_; refine aq rfl ?_; refine run_ret rfl ?_; refine run_res (h) rfl Tryz.func72 rfl weakSub ?_; refine hK _ _ ?_
    first | exact ⟨rfl, IsB.yes (by omega)⟩ | exact ⟨rfl, IsB.no (by omega)⟩
theorem f132_c (m : Md Tryz.prog B) (h : Hp) (a b lo hi : Int) : FnC m 132 #[.agg [.int .i64 a, .int .i64 b].toArray, .int .i64 lo, .int .i64 hi] h fun v h' => h' = h ∧ IsB (lo ≤ a ∧ a ≤ b ∧ b ≤ hi) v := by
  refine fn_enter Tryz.func132 rfl rfl (l := (.agg [.int .i64 a, .int .i64 b].toArray) :: (.int .i64 lo) :: (.int .i64 hi) :: uu21) rfl ?_
  intro cf cs K hK
  refine rs2 (by kernel_rfl) ?_; refine k_box rfl zq (fun q3 => k_hp (k_put ?_)); refine aq rfl ?_; refine run_seq ?_; refine run_region [(0, .free), (1, .free), (2, .free), (3, .free), (4, .free), (5, .free), (6, .free), (7, .free), (8, .free), (9, .free), (10, .free), (11, .free), (12, .free), (13, .free), (14, .free), (15, .free), (16, .free), (17, .free)] (by kernel_rfl) (by kernel_rfl) ?_; refine mq rfl ?_; first | refine k_fa0 rfl zq ?_ | refine k_fa rfl zq ?_
  refine k_ldh rfl zq ?_; refine k_leqS rfl zq (fun hc => ?_) (fun hc => ?_)
  · refine mq rfl ?_; first | refine k_fa0 rfl rfl ?_ | refine k_fa rfl rfl ?_
    refine k_ldh rfl rfl ?_; first | refine k_fa0 rfl rfl ?_ | refine k_fa rfl rfl ?_
    refine k_ldh rfl rfl ?_; refine k_leqS rfl rfl (fun hc => ?_) (fun hc => ?_)
    · refine k_pickT rfl zq ?_; refine mq rfl ?_; first | refine k_fa0 rfl rfl ?_ | refine k_fa rfl rfl ?_
      refine k_ldh rfl rfl ?_; refine k_mv rfl rfl ?_; refine k_leqS rfl rfl (fun hc => ?_) (fun hc => ?_)
      · refine k_pickT rfl zq ?_; refine aq rfl ?_; refine run_ret rfl ?_; refine run_res (h) rfl Tryz.func132 rfl weakSub ?_; refine hK _ _ ?_
        first | exact ⟨rfl, IsB.yes (by omega)⟩ | exact ⟨rfl, IsB.no (by omega)⟩
      · refine k_pickT rfl zq ?_; refine aq rfl ?_; refine run_ret rfl ?_; refine run_res (h) rfl Tryz.func132 rfl weakSub ?_; refine hK _ _ ?_
        first | exact ⟨rfl, IsB.yes (by omega)⟩ | exact ⟨rfl, IsB.no (by omega)⟩
    · refine k_pickT rfl zq ?_; refine mq rfl ?_; refine k_off rfl rfl ?_; refine k_off rfl rfl ?_; refine k_off rfl rfl ?_; refine k_off rfl rfl ?_; refine k_pickF rfl zq ?_; refine aq rfl ?_; refine run_ret rfl ?_; refine run_res (h) rfl Tryz.func132 rfl weakSub ?_; refine hK _ _ ?_
      first | exact ⟨rfl, IsB.yes (by omega)⟩ | exact ⟨rfl, IsB.no (by omega)⟩
  · refine mq rfl ?_; refine k_off rfl rfl ?_; refine k_off rfl rfl ?_; refine k_off rfl rfl ?_; refine k_off rfl rfl ?_; refine k_off rfl rfl ?_; refine k_pickF rfl zq ?_; refine mq rfl ?_; refine k_off rfl rfl ?_; refine k_off rfl rfl ?_; refine k_off rfl rfl ?_; refine k_off rfl rfl ?_; refine k_pickF rfl zq ?_; refine aq rfl ?_; refine run_ret rfl ?_; refine run_res (h) rfl Tryz.func132 rfl weakSub ?_; refine hK _ _ ?_
    first | exact ⟨rfl, IsB.yes (by omega)⟩ | exact ⟨rfl, IsB.no (by omega)⟩
theorem f140_c (m : Md Tryz.prog B) (h : Hp) (a b lo hi n : Int) (h0 : -10000 ≤ lo) (h1 : hi ≤ 10000) : FnC m 140 #[.agg [.int .i64 a, .int .i64 b].toArray, .int .i64 lo, .int .i64 hi, .int .i64 n] h fun v h' => h' = h ∧ IsB (lo ≤ a ∧ a ≤ b ∧ b ≤ hi ∧ b - a < n) v := by
  refine fn_enter Tryz.func140 rfl rfl (l := (.agg [.int .i64 a, .int .i64 b].toArray) :: (.int .i64 lo) :: (.int .i64 hi) :: (.int .i64 n) :: uu31) rfl ?_
  intro cf cs K hK
  refine rs2 (by kernel_rfl) ?_; refine k_box rfl zq (fun q4 => k_hp (k_put ?_)); refine aq rfl ?_; refine run_seq ?_; refine run_region [(0, .free), (1, .free), (2, .free), (3, .free), (4, .free), (5, .free), (6, .free), (7, .free), (8, .free), (9, .free), (10, .free), (11, .free), (12, .free), (13, .free), (14, .free), (15, .free), (16, .free), (17, .free), (18, .free), (19, .free), (20, .free), (21, .free), (22, .free), (23, .free), (24, .free), (25, .free), (26, .free)] (by kernel_rfl) (by kernel_rfl) ?_; refine mq rfl ?_; first | refine k_fa0 rfl zq ?_ | refine k_fa rfl zq ?_
  refine k_ldh rfl zq ?_; refine k_leqS rfl zq (fun hc => ?_) (fun hc => ?_)
  · refine mq rfl ?_; first | refine k_fa0 rfl rfl ?_ | refine k_fa rfl rfl ?_
    refine k_ldh rfl rfl ?_; first | refine k_fa0 rfl rfl ?_ | refine k_fa rfl rfl ?_
    refine k_ldh rfl rfl ?_; refine k_leqS rfl rfl (fun hc => ?_) (fun hc => ?_)
    · refine k_pickT rfl zq ?_; refine mq rfl ?_; first | refine k_fa0 rfl rfl ?_ | refine k_fa rfl rfl ?_
      refine k_ldh rfl rfl ?_; refine k_mv rfl rfl ?_; refine k_leqS rfl rfl (fun hc => ?_) (fun hc => ?_)
      · refine k_pickT rfl zq ?_; refine mq rfl ?_; first | refine k_fa0 rfl rfl ?_ | refine k_fa rfl rfl ?_
        refine k_ldh rfl rfl ?_; first | refine k_fa0 rfl rfl ?_ | refine k_fa rfl rfl ?_
        refine k_ldh rfl rfl ?_; refine k_sub rfl rfl (by unfold In64; omega) ?_; refine k_mv rfl rfl ?_; refine k_lssS rfl rfl (fun hc => ?_) (fun hc => ?_)
        · refine k_pickT rfl zq ?_; refine aq rfl ?_; refine run_ret rfl ?_; refine run_res (h) rfl Tryz.func140 rfl weakSub ?_; refine hK _ _ ?_
          first | exact ⟨rfl, IsB.yes (by omega)⟩ | exact ⟨rfl, IsB.no (by omega)⟩
        · refine k_pickT rfl zq ?_; refine aq rfl ?_; refine run_ret rfl ?_; refine run_res (h) rfl Tryz.func140 rfl weakSub ?_; refine hK _ _ ?_
          first | exact ⟨rfl, IsB.yes (by omega)⟩ | exact ⟨rfl, IsB.no (by omega)⟩
      · refine k_pickT rfl zq ?_; refine mq rfl ?_; refine k_off rfl rfl ?_; refine k_off rfl rfl ?_; refine k_off rfl rfl ?_; refine k_off rfl rfl ?_; refine k_off rfl rfl ?_; refine k_off rfl rfl ?_; refine k_off rfl rfl ?_; refine k_pickF rfl zq ?_; refine aq rfl ?_; refine run_ret rfl ?_; refine run_res (h) rfl Tryz.func140 rfl weakSub ?_; refine hK _ _ ?_
        first | exact ⟨rfl, IsB.yes (by omega)⟩ | exact ⟨rfl, IsB.no (by omega)⟩
    · refine k_pickT rfl zq ?_; refine mq rfl ?_; refine k_off rfl rfl ?_; refine k_off rfl rfl ?_; refine k_off rfl rfl ?_; refine k_off rfl rfl ?_; refine k_pickF rfl zq ?_; refine mq rfl ?_; refine k_off rfl rfl ?_; refine k_off rfl rfl ?_; refine k_off rfl rfl ?_; refine k_off rfl rfl ?_; refine k_off rfl rfl ?_; refine k_off rfl rfl ?_; refine k_off rfl rfl ?_; refine k_pickF rfl zq ?_; refine aq rfl ?_; refine run_ret rfl ?_; refine run_res (h) rfl Tryz.func140 rfl weakSub ?_; refine hK _ _ ?_
      first | exact ⟨rfl, IsB.yes (by omega)⟩ | exact ⟨rfl, IsB.no (by omega)⟩
  · refine mq rfl ?_; refine k_off rfl rfl ?_; refine k_off rfl rfl ?_; refine k_off rfl rfl ?_; refine k_off rfl rfl ?_; refine k_off rfl rfl ?_; refine k_pickF rfl zq ?_; refine mq rfl ?_; refine k_off rfl rfl ?_; refine k_off rfl rfl ?_; refine k_off rfl rfl ?_; refine k_off rfl rfl ?_; refine k_pickF rfl zq ?_; refine mq rfl ?_; refine k_off rfl rfl ?_; refine k_off rfl rfl ?_; refine k_off rfl rfl ?_; refine k_off rfl rfl ?_; refine k_off rfl rfl ?_; refine k_off rfl rfl ?_; refine k_off rfl rfl ?_; refine k_pickF rfl zq ?_; refine aq rfl ?_; refine run_ret rfl ?_; refine run_res (h) rfl Tryz.func140 rfl weakSub ?_; refine hK _ _ ?_
    first | exact ⟨rfl, IsB.yes (by omega)⟩ | exact ⟨rfl, IsB.no (by omega)⟩
theorem f136_c (m : Md Tryz.prog B) (h : Hp) (a b c d : Int) : FnC m 136 #[.agg [.int .i64 a, .int .i64 b].toArray, .agg [.int .i64 c, .int .i64 d].toArray] h fun v h' => h' = h ∧ v = .tuple [.agg [.int .i64 (max a c), .int .i64 (min b d)].toArray, .bool (decide (max a c ≤ min b d))].toArray := by
  refine fn_enter Tryz.func136 rfl rfl (l := (.agg [.int .i64 a, .int .i64 b].toArray) :: (.agg [.int .i64 c, .int .i64 d].toArray) :: uu22) rfl ?_
  intro cf cs K hK
  refine rs4 (by kernel_rfl) ?_; refine k_box rfl zq (fun q2 => k_hp (k_put ?_)); refine k_box rfl zq (fun q3 => k_hp (k_put ?_)); refine k_new rfl zq (fun q4 => k_hp (k_put ?_)); refine aq rfl ?_; refine run_seq ?_; refine run_region [(0, .free), (1, .free), (2, .free), (3, .free), (4, .free), (5, .free), (6, .free), (7, .free), (8, .free), (9, .free), (10, .free), (11, .free), (12, .free)] (by kernel_rfl) (by kernel_rfl) ?_; first | refine k_fa0 rfl zq ?_ | refine k_fa rfl zq ?_
  refine k_ldh rfl zq ?_; first | refine k_fa0 rfl zq ?_ | refine k_fa rfl zq ?_
  refine k_ldh rfl zq ?_; refine k_max rfl zq ?_; first | refine k_fa0 rfl zq ?_ | refine k_fa rfl zq ?_
  refine k_ldh rfl zq ?_; first | refine k_fa0 rfl zq ?_ | refine k_fa rfl zq ?_
  refine k_ldh rfl zq ?_; refine k_min rfl zq ?_; refine k_bld rfl zq ?_; refine k_new rfl zq (fun q6 => k_hp (k_put ?_)); refine k_stA rfl zq rfl ?_; refine k_nil ?_; refine run_seq ?_; refine run_draw (S := h ++ [⟨true, q6, .cells [.int .i64 (max a c), .int .i64 (min b d)].toArray 92 (0, 0)⟩]) [(1, .pure), (3, .pure), (0, .read), (2, .read), (4, .read), (5, .pure), (6, .keep), (7, .pure)] (by kernel_rfl) (by kernel_rfl) SubH.sub ?_; first | refine k_fa0 rfl zq ?_ | refine k_fa rfl zq ?_
  first | refine k_fa0 rfl zq ?_ | refine k_fa rfl zq ?_
  refine k_ldA rfl zq ?_; refine k_ldh rfl zq ?_; refine k_ldh rfl zq ?_; refine k_leq rfl zq ?_; refine k_stA rfl zq rfl ?_; refine aq rfl ?_; refine run_ret rfl ?_; refine run_res (h) rfl Tryz.func136 rfl weakSub ?_; refine hK _ _ ?_
  exact ⟨rfl, rfl⟩
theorem f118_c (m : Md Tryz.prog B) (h : Hp) (x y z : Int) (p : Option Addr) (n c : Nat) (q : Option Addr) (k e : Nat) : FnC m 118 #[bookV x y z (.slice p n c) (.slice q k e)] h fun v h' => h' = h ∧ v = .int .i64 n := by
  refine fn_enter Tryz.func118 rfl rfl (l := (bookV x y z (.slice p n c) (.slice q k e)) :: uu6) rfl ?_
  intro cf cs K hK
  refine rs2 (by kernel_rfl) ?_; refine k_box rfl zq (fun q1 => k_hp (k_put ?_)); refine aq rfl ?_; refine rs5 (by kernel_rfl) ?_; first | refine k_fa0 rfl zq ?_ | refine k_fa rfl zq ?_
  first | refine k_fa0 rfl zq ?_ | refine k_fa rfl zq ?_
  refine k_ldh rfl zq ?_; refine k_len rfl zq ?_; refine aq rfl ?_; refine run_ret rfl ?_; refine run_res (h) rfl Tryz.func118 rfl weakSub ?_; refine hK _ _ ?_
  exact ⟨rfl, rfl⟩
theorem f114_c (m : Md Tryz.prog B) (h : Hp) (x y z : Int) (p : Option Addr) (n c : Nat) (q : Option Addr) (k e : Nat) (i : Int) (hn : n ≤ 1000) : FnC m 114 #[bookV x y z (.slice p n c) (.slice q k e), .int .i64 i] h fun v h' => h' = h ∧ IsB (0 ≤ i ∧ i ≤ n - 1) v := by
  refine fn_enter Tryz.func114 rfl rfl (l := (bookV x y z (.slice p n c) (.slice q k e)) :: (.int .i64 i) :: uu9) rfl ?_
  intro cf cs K hK
  refine rs2 (by kernel_rfl) ?_; refine k_box rfl zq (fun q2 => k_hp (k_put ?_)); refine aq rfl ?_; refine rs7 (by kernel_rfl) ?_; refine mq rfl ?_; first | refine k_fa0 rfl zq ?_ | refine k_fa rfl zq ?_
  refine k_ldh rfl zq ?_; refine k_len rfl zq ?_; refine k_sub rfl zq (by unfold In64; omega) ?_; refine k_calP (Post := fun v => IsB _ v) rfl zq (by kernel_rfl) (fun H' hH => f72_c m _ _ _ _) ?_; rintro v (⟨hc, rfl⟩ | ⟨hc, rfl⟩)
  · refine k_put ?_; refine aq rfl ?_; refine run_ret rfl ?_; refine run_res (h) rfl Tryz.func114 rfl weakSub ?_; refine hK _ _ ?_
    first | exact ⟨rfl, IsB.yes (by omega)⟩ | exact ⟨rfl, IsB.no (by omega)⟩
  · refine k_put ?_; refine aq rfl ?_; refine run_ret rfl ?_; refine run_res (h) rfl Tryz.func114 rfl weakSub ?_; refine hK _ _ ?_
    first | exact ⟨rfl, IsB.yes (by omega)⟩ | exact ⟨rfl, IsB.no (by omega)⟩
theorem f109_c (m : Md Tryz.prog B) (h : Hp) (x y z : Int) (p : Option Addr) (n c : Nat) (q : Option Addr) (k e : Nat) (i : Int) (hn : n ≤ 1000) : FnC m 109 #[bookV x y z (.slice p n c) (.slice q k e), .int .i64 i] h fun v h' => h' = h ∧ v = .int .i64 (if 0 ≤ i ∧ i ≤ n - 1 then 0 else 6) := by
  refine fn_enter Tryz.func109 rfl rfl (l := (bookV x y z (.slice p n c) (.slice q k e)) :: (.int .i64 i) :: uu9) rfl ?_
  intro cf cs K hK
  refine rs2 (by kernel_rfl) ?_; refine k_box rfl zq (fun q2 => k_hp (k_put ?_)); refine aq rfl ?_; refine run_seq ?_; refine rs6 (by kernel_rfl) ?_; refine mq rfl ?_; refine k_ldA rfl zq ?_; refine k_calP (Post := fun v => v = _) rfl zq (by kernel_rfl) (fun H' hH => f118_c m _ _ _ _ _ _ _ _ _ _) ?_; rintro v rfl; refine k_put ?_; refine k_sub rfl zq (by unfold In64; omega) ?_; refine k_calP (Post := fun v => IsB _ v) rfl zq (by kernel_rfl) (fun H' hH => f117_c m _ _ _ _) ?_; rintro v (⟨hc, rfl⟩ | ⟨hc, rfl⟩)
  · refine k_put ?_; refine k_notT rfl zq ?_; refine k_nil ?_; refine run_no ?_; refine run_skip ?_; refine rs1 (by kernel_rfl) ?_; refine aq rfl ?_; refine run_ret rfl ?_; refine run_res (h) rfl Tryz.func109 rfl weakSub ?_; refine hK _ _ ?_
    first | exact ⟨rfl, by rw [if_pos (by assumption)]⟩ | exact ⟨rfl, by rw [if_neg (by assumption)]⟩
  · refine k_put ?_; refine k_notF rfl zq ?_; refine k_nil ?_; refine run_yes ?_; refine rs1 (by kernel_rfl) ?_; refine aq rfl ?_; refine run_ret rfl ?_; refine run_res (h) rfl Tryz.func109 rfl weakSub ?_; refine hK _ _ ?_
    first | exact ⟨rfl, by rw [if_pos (by assumption)]⟩ | exact ⟨rfl, by rw [if_neg (by assumption)]⟩
theorem ext_getD {xs ys : List Int} (hl : xs.length = ys.length) (he : ∀ i, i < xs.length → xs.getD i 0 = ys.getD i 0) : xs = ys := by
  apply List.ext_getElem hl
  intro i h1 h2
  have := he i h1
  rw [List.getD_eq_getElem?_getD, List.getElem?_eq_getElem h1, List.getD_eq_getElem?_getD, List.getElem?_eq_getElem h2] at this
  exact this
theorem mem_getD {xs : List Int} {x : Int} : x ∈ xs ↔ ∃ i, i < xs.length ∧ xs.getD i 0 = x := by
  rw [List.mem_iff_getElem]; constructor
  · rintro ⟨i, h, e⟩; exact ⟨i, h, by rw [List.getD_eq_getElem?_getD, List.getElem?_eq_getElem h]; exact e⟩
  · rintro ⟨i, h, e⟩; exact ⟨i, h, by rw [List.getD_eq_getElem?_getD, List.getElem?_eq_getElem h] at e; exact e⟩
def before : List Int → List Int → Bool
  | a :: r, b :: s => if a = b then before r s else decide (a < b)
  | [], _ :: _ => true
  | _, [] => false
def fewer (xs ys : List Int) : Prop := xs.length < ys.length ∨ (xs.length = ys.length ∧ before xs ys = true)
instance (xs ys : List Int) : Decidable (fewer xs ys) := by unfold fewer; infer_instance
def rising (many : Int) : Int → List Int → Int
  | _, [] => 0
  | prev, a :: r => if ¬ (0 ≤ a ∧ a ≤ many - 1) then 6 else if a ≤ prev then 7 else rising many a r
def firsts (n : Nat) : List Int := (List.range n).map fun i : Nat => (i : Int)
theorem firsts_succ (n : Nat) : firsts (n + 1) = firsts n ++ [(n : Int)] := by simp [firsts, List.range_succ]
theorem firsts_length (n : Nat) : (firsts n).length = n := by simp [firsts]
theorem f31_c (m : Md Tryz.prog B) (h : Hp) {p p2 : Option Addr} {n c n2 c2 : Nat} {xs ys : List Int} (rd : RdS B h 1 (.slice p n c) n (ints xs)) (hn : n ≤ 1000000) (rd2 : RdS B h 1 (.slice p2 n2 c2) n2 (ints ys)) : FnC m 31 #[.slice p n c, .slice p2 n2 c2] h fun v h' => h' = h ∧ IsB (xs = ys) v := by
  have hl := rd.ilen
  have hl2 := rd2.ilen
  refine fn_enter Tryz.func31 rfl rfl (l := (.slice p n c) :: (.slice p2 n2 c2) :: uu24) rfl ?_
  intro cf cs K hK
  refine rs1 (by kernel_rfl) ?_; refine aq rfl ?_; refine run_seq ?_; refine rs5 (by kernel_rfl) ?_; refine mq rfl ?_; refine k_len rfl zq ?_; refine mq rfl ?_; refine k_len rfl zq ?_; refine k_neqS rfl zq (fun hc => ?_) (fun hc => ?_)
  · refine k_nil ?_; refine run_yes ?_; refine rs1 (by kernel_rfl) ?_; refine aq rfl ?_; refine run_ret rfl ?_; refine run_res (h) rfl Tryz.func31 rfl weakSub ?_; refine hK _ _ ?_
    exact ⟨rfl, IsB.no fun e => by subst e; omega⟩
  · refine k_nil ?_; refine run_no ?_; refine run_skip ?_; refine run_seq ?_; refine rs1 (by kernel_rfl) ?_; refine aq rfl ?_; refine run_block ?_; refine run_loop (fun nn l h' => ∃ (k : Nat), nn = n - k ∧ (k ≤ n) ∧ (∀ i, i < k → xs.getD i 0 = ys.getD i 0) ∧ (∃ U : Nat → Value, l = [.slice p n c, .slice p2 n2 c2, U 2, U 3, U 4, .int .i64 (k : Int), U 6, U 7, U 8, U 9, U 10, U 11, U 12, U 13, U 14, U 15, U 16, U 17, U 18, U 19, U 20, U 21, U 22, U 23, U 24, U 25]) ∧ h = h') _ ⟨0, rfl, by omega, by omega, exU rfl, rfl⟩ ?_; rintro nn l h' ⟨k, rfl, hk, he, ⟨U, rfl⟩, rfl⟩ hnext; refine run_seq ?_; refine rs4 (by kernel_rfl) ?_; refine mq rfl ?_; refine mq rfl ?_; refine k_len rfl zq ?_; refine k_lssS rfl zq (fun hc => ?_) (fun hc => ?_)
    · refine k_nil ?_; refine run_yes ?_; refine run_skip ?_; refine run_seq ?_; refine run_block ?_; refine run_seq ?_; refine run_draw [(0, .pure), (1, .pure), (2, .pure), (4, .pure), (5, .pure), (6, .pure), (3, .read), (7, .read), (8, .pure)] (by kernel_rfl) (by kernel_rfl) (List.Sublist.refl _) ?_; refine mq rfl ?_; refine mq rfl ?_; obtain ⟨rd_b, rd_o, rfl⟩ := rd.ptr (by omega)
      refine k_ixs rfl zq (by first | rfl | assumption) (by omega) (by omega) ?_; refine mq rfl ?_; refine mq rfl ?_; obtain ⟨rd2_b, rd2_o, rfl⟩ := rd2.ptr (by omega)
      refine k_ixs rfl zq (by first | rfl | assumption) (by omega) (by omega) ?_; refine k_ld rfl zq (rd.iat k (by omega) (by omega)) ?_; refine k_ld rfl zq (rd2.iat k (by omega) (by omega)) ?_; refine k_neqS rfl zq (fun hc => ?_) (fun hc => ?_)
      · refine k_nil ?_; refine run_yes ?_; refine rs1 (by kernel_rfl) ?_; refine aq rfl ?_; refine run_ret rfl ?_; refine run_res (h) rfl Tryz.func31 rfl weakSub ?_; refine hK _ _ ?_
        exact ⟨rfl, IsB.no fun e => by subst e; contradiction⟩
      · refine k_nil ?_; refine run_no ?_; refine run_skip ?_; refine run_inBlock ?_; refine rr3 (by kernel_rfl) ?_; refine mq rfl ?_; refine k_add rfl zq (by unfold In64; omega) ?_; refine aq rfl ?_; exact m.weak weakSub (hnext _ _ _ (by omega) ⟨k + 1, rfl, by omega, fun i hi => by
          rcases Nat.lt_or_ge i k with h1 | h1
          · exact he i h1
          · obtain rfl : i = k := by omega
            assumption, exU rfl, rfl⟩)
    · refine k_nil ?_; refine run_no ?_; refine run_exit rfl ?_; refine rs1 (by kernel_rfl) ?_; refine aq rfl ?_; refine run_ret rfl ?_; refine run_res (h) rfl Tryz.func31 rfl weakSub ?_; refine hK _ _ ?_
      exact ⟨rfl, IsB.yes (ext_getD (by omega) fun i hi => he i (by omega))⟩
theorem f52_c (m : Md Tryz.prog B) (h : Hp) {p : Option Addr} {n c : Nat} {xs : List Int} (x : Int) (rd : RdS B h 1 (.slice p n c) n (ints xs)) (hn : n ≤ 1000000) : FnC m 52 #[.slice p n c, .int .i64 x] h fun v h' => h' = h ∧ IsB (x ∈ xs) v := by
  have hl := rd.ilen
  refine fn_enter Tryz.func52 rfl rfl (l := (.slice p n c) :: (.int .i64 x) :: uu16) rfl ?_
  intro cf cs K hK
  refine rs1 (by kernel_rfl) ?_; refine aq rfl ?_; refine run_seq ?_; refine rs1 (by kernel_rfl) ?_; refine aq rfl ?_; refine run_block ?_; refine run_loop (fun nn l h' => ∃ (k : Nat), nn = n - k ∧ (k ≤ n) ∧ (∀ i, i < k → xs.getD i 0 ≠ x) ∧ (∃ U : Nat → Value, l = [.slice p n c, .int .i64 x, U 2, U 3, U 4, .int .i64 (k : Int), U 6, U 7, U 8, U 9, U 10, U 11, U 12, U 13, U 14, U 15, U 16, U 17]) ∧ h = h') _ ⟨0, rfl, by omega, by omega, exU rfl, rfl⟩ ?_; rintro nn l h' ⟨k, rfl, hk, he, ⟨U, rfl⟩, rfl⟩ hnext; refine run_seq ?_; refine rs4 (by kernel_rfl) ?_; refine mq rfl ?_; refine mq rfl ?_; refine k_len rfl zq ?_; refine k_lssS rfl zq (fun hc => ?_) (fun hc => ?_)
  · refine k_nil ?_; refine run_yes ?_; refine run_skip ?_; refine run_seq ?_; refine run_block ?_; refine rs6 (by kernel_rfl) ?_; refine mq rfl ?_; refine mq rfl ?_; obtain ⟨rd_b, rd_o, rfl⟩ := rd.ptr (by omega)
    refine k_ixs rfl zq (by first | rfl | assumption) (by omega) (by omega) ?_; refine k_ld rfl zq (rd.iat k (by omega) (by omega)) ?_; refine mq rfl ?_; refine k_eqlS rfl zq (fun hc => ?_) (fun hc => ?_)
    · refine k_nil ?_; refine run_yes ?_; refine rs1 (by kernel_rfl) ?_; refine aq rfl ?_; refine run_ret rfl ?_; refine run_res (h) rfl Tryz.func52 rfl weakSub ?_; refine hK _ _ ?_
      exact ⟨rfl, IsB.yes (mem_getD.2 ⟨k, by omega, by assumption⟩)⟩
    · refine k_nil ?_; refine run_no ?_; refine run_skip ?_; refine run_inBlock ?_; refine rr3 (by kernel_rfl) ?_; refine mq rfl ?_; refine k_add rfl zq (by unfold In64; omega) ?_; refine aq rfl ?_; exact m.weak weakSub (hnext _ _ _ (by omega) ⟨k + 1, rfl, by omega, fun i hi => by
        rcases Nat.lt_or_ge i k with h1 | h1
        · exact he i h1
        · obtain rfl : i = k := by omega
          assumption, exU rfl, rfl⟩)
  · refine k_nil ?_; refine run_no ?_; refine run_exit rfl ?_; refine rs1 (by kernel_rfl) ?_; refine aq rfl ?_; refine run_ret rfl ?_; refine run_res (h) rfl Tryz.func52 rfl weakSub ?_; refine hK _ _ ?_
    exact ⟨rfl, IsB.no fun e => by
      obtain ⟨i, h1, h2⟩ := mem_getD.1 e
      exact he i (by omega) h2⟩
def bends (xs : List Int) : List Int := diffs (diffs xs)
theorem bends_length (xs : List Int) : (bends xs).length = xs.length - 2 := by simp [bends, diffs_length]; omega
theorem diffs_getD (l : List Int) (k : Nat) (h : k + 1 < l.length) : (diffs l).getD k 0 = l.getD (k + 1) 0 - l.getD k 0 := by
  rw [List.getD_eq_getElem?_getD, diffs_get l k h]; rfl
theorem bends_getD (xs : List Int) (k : Nat) (h : k + 2 < xs.length) : (bends xs).getD k 0 = xs.getD k 0 + xs.getD (k + 2) 0 - 2 * xs.getD (k + 1) 0 := by
  unfold bends
  rw [diffs_getD _ _ (by rw [diffs_length]; omega), diffs_getD _ _ (by omega), diffs_getD _ _ (by omega), show k + 1 + 1 = k + 2 from rfl]; omega
theorem getD_out (l : List Int) (k : Nat) (h : l.length ≤ k) : l.getD k 0 = 0 := by
  rw [List.getD_eq_getElem?_getD, List.getElem?_eq_none (by omega)]; rfl
def Small (m : Int) (xs : List Int) : Prop := ∀ j, -m ≤ xs.getD j 0 ∧ xs.getD j 0 ≤ m
theorem Small.diffs {m : Int} {xs : List Int} (hb : Small m xs) : Small (2 * m) (diffs xs) := fun j => by
  have h1 := hb j
  have h2 := hb (j + 1)
  by_cases h : j + 1 < xs.length
  · rw [diffs_getD xs j h]; omega
  · rw [getD_out _ _ (by rw [diffs_length]; omega)]; omega
theorem Small.bends {m : Int} {xs : List Int} (hb : Small m xs) : Small (4 * m) (bends xs) := fun j => by
  have := hb.diffs.diffs j
  unfold Go.Proofs.bends
  omega
def turnSt (s : Int × Int) (k : Int) : Int × Int := (if (k > 0 ∧ s.2 < 0) ∨ (k < 0 ∧ s.2 > 0) then s.1 + 1 else s.1, if k ≠ 0 then k else s.2)
def turnF (l : List Int) : Int × Int := l.foldl turnSt (0, 0)
def turns (xs : List Int) : Int := (turnF (bends xs)).1
theorem turnF_take (l : List Int) (k : Nat) (h : k < l.length) : turnF (l.take (k + 1)) = turnSt (turnF (l.take k)) (l.getD k 0) := by
  rw [take_snoc' l k h, turnF, List.foldl_append]; rfl
def sqs (l : List Int) : Int := l.foldl (fun n k => n + k * k) 0
def strain (xs : List Int) : Int := sqs (bends xs)
theorem sqs_take (l : List Int) (k : Nat) (h : k < l.length) : sqs (l.take (k + 1)) = sqs (l.take k) + l.getD k 0 * l.getD k 0 := by
  rw [take_snoc' l k h, sqs, List.foldl_append]; rfl
theorem sq_bound {x m : Int} (h : -m ≤ x ∧ x ≤ m) : 0 ≤ x * x ∧ x * x ≤ m * m := by
  have h0 : 0 ≤ m := by omega
  rcases Int.le_total 0 x with hx | hx
  · exact ⟨Int.mul_nonneg hx hx, Int.mul_le_mul h.2 h.2 hx h0⟩
  · refine ⟨Int.mul_nonneg_of_nonpos_of_nonpos hx hx, ?_⟩
    have := Int.mul_le_mul (a := -x) (b := -x) (c := m) (d := m) (by omega) (by omega) (by omega) h0
    rwa [Int.neg_mul_neg] at this
def withinL (l : List Int) (m : Int) : Prop := ∀ x ∈ l, -m ≤ x ∧ x ≤ m
def fair (be tw tu : Int) (xs : List Int) : Prop := withinL (bends xs) be ∧ withinL (diffs (bends xs)) tw ∧ turns xs ≤ tu
def gaps (xs ys : List Int) : List Int := List.zipWith (fun a b => max (a - b) (b - a)) xs ys
theorem gaps_length (xs ys : List Int) (h : xs.length ≤ ys.length) : (gaps xs ys).length = xs.length := by simp [gaps]; omega
theorem gaps_getD : ∀ (xs ys : List Int) (k : Nat), k < xs.length → k < ys.length → (gaps xs ys).getD k 0 = max (xs.getD k 0 - ys.getD k 0) (ys.getD k 0 - xs.getD k 0)
  | [], _, k, h, _ => by simp at h
  | a :: r, [], k, _, h => by simp at h
  | a :: r, b :: s, 0, _, _ => rfl
  | a :: r, b :: s, k + 1, h1, h2 => gaps_getD r s k (by simpa using h1) (by simpa using h2)
def sumL (l : List Int) : Int := l.foldl (· + ·) 0
def mostL (l : List Int) : Int := l.foldl max 0
theorem sumL_take (l : List Int) (k : Nat) (h : k < l.length) : sumL (l.take (k + 1)) = sumL (l.take k) + l.getD k 0 := by
  rw [take_snoc' l k h, sumL, List.foldl_append]; rfl
theorem mostL_take (l : List Int) (k : Nat) (h : k < l.length) : mostL (l.take (k + 1)) = max (mostL (l.take k)) (l.getD k 0) := by
  rw [take_snoc' l k h, mostL, List.foldl_append]; rfl
def unlikeF (xs ys : List Int) (k : Nat) : List Int := (firsts k).filter fun i => decide (xs.getD i.toNat 0 ≠ ys.getD i.toNat 0)
def unlike (xs ys : List Int) : List Int := unlikeF xs ys xs.length
theorem unlikeF_yes (xs ys : List Int) (k : Nat) (h : xs.getD k 0 ≠ ys.getD k 0) : unlikeF xs ys (k + 1) = unlikeF xs ys k ++ [(k : Int)] := by
  rw [unlikeF, firsts_succ, List.filter_append, ← unlikeF]; congr 1
  simp only [List.filter_cons, List.filter_nil, Int.toNat_natCast, ne_eq, h, not_false_eq_true, decide_true, if_true]
theorem unlikeF_no (xs ys : List Int) (k : Nat) (h : xs.getD k 0 = ys.getD k 0) : unlikeF xs ys (k + 1) = unlikeF xs ys k := by
  rw [unlikeF, firsts_succ, List.filter_append, ← unlikeF]; simp only [List.filter_cons, List.filter_nil, Int.toNat_natCast, ne_eq, h, not_true_eq_false, decide_false, Bool.false_eq_true, if_false, List.append_nil]
theorem unlikeF_length (xs ys : List Int) (k : Nat) : (unlikeF xs ys k).length ≤ k := by
  have := List.length_filter_le (fun i => decide (xs.getD i.toNat 0 ≠ ys.getD i.toNat 0)) (firsts k)
  rw [firsts_length] at this
  exact this
def okM (x : Sp) : Prop := 0 ≤ x.lo ∧ x.lo ≤ x.hi ∧ x.hi ≤ 959 ∧ x.hi - x.lo < 3
instance (x : Sp) : Decidable (okM x) := by unfold okM; infer_instance
instance (ms : List Sp) : Decidable (∀ x ∈ ms, okM x) := List.decidableBAll _ _
def marksS (ms : List Sp) : Int := if ¬ (3 ≤ ms.length ∧ ms.length ≤ 7) then 2 else if ∀ x ∈ ms, okM x then 0 else 1
def rules1 (many : Int) : List Ru → Int
  | [] => 0
  | r :: t => if ¬ (0 ≤ r.a ∧ r.a ≤ many - 1) ∨ ¬ (0 ≤ r.b ∧ r.b ≤ many - 1) then 6 else if r.a ≥ r.b then 7 else if ¬ (-959 ≤ r.lo ∧ r.lo ≤ r.hi ∧ r.hi ≤ 959) then 1 else rules1 many t
def rulesS (many : Int) (rs : List Ru) : Int := if rs.length > 4 then 2 else rules1 many rs
def bookS (b : Bk) : Int :=
  if ¬ (0 ≤ b.bend ∧ b.bend ≤ 99) ∨ ¬ (0 ≤ b.twist ∧ b.twist ≤ 99) ∨ ¬ (0 ≤ b.turns ∧ b.turns ≤ 5) then 1 else
  if marksS b.marks ≠ 0 then marksS b.marks else rulesS b.marks.length b.rules
def lineS (many : Nat) (xs : List Int) : Int := if xs.length ≠ many then 2 else if ∀ x ∈ xs, 0 ≤ x ∧ x ≤ 959 then 0 else 1
theorem f91_c (m : Md Tryz.prog B) (h : Hp) {pm : Option Addr} {nm cm : Nat} {ms : List Sp} (rdm : RdS B h 2 (.slice pm nm cm) nm (encs ms)) (hm : nm ≤ 1000) : FnC m 91 #[.slice pm nm cm] h fun v h' => h' = h ∧ v = .int .i64 (marksS ms) := by
  have hml := rdm.elen (by decide)
  refine fn_enter Tryz.func91 rfl rfl (l := (.slice pm nm cm) :: uu33) rfl ?_
  intro cf cs K hK
  refine rs1 (by kernel_rfl) ?_; refine aq rfl ?_; refine run_seq ?_; refine rs4 (by kernel_rfl) ?_; refine mq rfl ?_; refine k_len rfl zq ?_; refine k_calP (Post := fun v => IsB _ v) rfl zq (by kernel_rfl) (fun H' hH => f72_c m H' _ _ _) ?_; rintro v (⟨hc, rfl⟩ | ⟨hc, rfl⟩)
  · refine k_put ?_; refine k_notT rfl zq ?_; refine k_nil ?_; refine run_no ?_; refine run_skip ?_; refine run_seq ?_; refine rs1 (by kernel_rfl) ?_; refine aq rfl ?_; refine run_block ?_; refine run_loop (fun nn l h' => ∃ (k : Nat), nn = nm - k ∧ (k ≤ nm) ∧ (∀ i, i < k → okM (ms.getD i default)) ∧ (∃ U : Nat → Value, l = [.slice pm nm cm, U 1, U 2, .int .i64 (k : Int), U 4, U 5, U 6, U 7, U 8, U 9, U 10, U 11, U 12, U 13, U 14, U 15, U 16, U 17, U 18, U 19, U 20, U 21, U 22, U 23, U 24, U 25, U 26, U 27, U 28, U 29, U 30, U 31, U 32, U 33]) ∧ h = h') _ ⟨0, rfl, by omega, by omega, exU rfl, rfl⟩ ?_; rintro nn l h' ⟨k, rfl, hk, he, ⟨U, rfl⟩, rfl⟩ hnext; refine run_seq ?_; refine rs4 (by kernel_rfl) ?_; refine mq rfl ?_; refine mq rfl ?_; refine k_len rfl zq ?_; refine k_lssS rfl zq (fun hc => ?_) (fun hc => ?_)
    · refine k_nil ?_; refine run_yes ?_; refine run_skip ?_; refine run_seq ?_; refine run_block ?_; refine run_seq ?_; refine run_draw [(0, .pure), (1, .pure), (2, .pure), (3, .read), (4, .keep), (5, .pure), (6, .pure), (7, .pure), (8, .pure), (9, .pure), (10, .pure), (12, .pure), (13, .pure), (14, .pure), (15, .pure), (11, .read), (16, .read), (17, .pure), (18, .pure), (19, .pure)] (by kernel_rfl) (by kernel_rfl) (List.Sublist.refl _) ?_; refine mq rfl ?_; refine mq rfl ?_; obtain ⟨rdm_b, rdm_o, rfl⟩ := rdm.ptr (by omega)
      refine k_ixs rfl zq (by first | rfl | assumption) (by omega) (by omega) ?_; refine k_ldN (vs := [.int .i64 (ms.getD k default).lo, .int .i64 (ms.getD k default).hi]) rfl zq rfl (rdm.eat k (by omega) (by omega)) ?_; refine k_calP (Post := fun v => IsB _ v) rfl zq (by kernel_rfl) (fun H' hH => f132_c m H' _ _ _ _) ?_; rintro v (⟨hc, rfl⟩ | ⟨hc, rfl⟩)
      · refine k_put ?_; refine k_notT rfl zq ?_; refine mq rfl ?_; refine k_mv rfl rfl ?_; refine k_mv rfl rfl ?_; refine k_ixs rfl rfl (by first | rfl | assumption) (by omega) (by omega) ?_; first | refine k_fa0 rfl rfl ?_ | refine k_fa rfl rfl ?_
        refine k_mv rfl rfl ?_; refine k_mv rfl rfl ?_; refine k_ixs rfl rfl (by first | rfl | assumption) (by omega) (by omega) ?_; first | refine k_fa0 rfl rfl ?_ | refine k_fa rfl rfl ?_
        refine k_ld rfl rfl (rdm.fat (v := .int .i64 (ms.getD k default).hi) k 1 (by omega) (by omega) rfl) ?_; refine k_ld rfl rfl (rdm.fat (v := .int .i64 (ms.getD k default).lo) k 0 (by omega) (by omega) rfl) ?_; refine k_sub rfl rfl (by unfold In64; omega) ?_; refine k_geqS rfl rfl (fun hc => ?_) (fun hc => ?_)
        · refine k_pickF rfl zq ?_; refine k_nil ?_; refine run_yes ?_; refine rs1 (by kernel_rfl) ?_; refine aq rfl ?_; refine run_ret rfl ?_; refine run_res (h) rfl Tryz.func91 rfl weakSub ?_; refine hK _ _ ?_
          first
            | exact ⟨rfl, by rw [marksS, if_pos (by omega)]⟩
            | exact ⟨rfl, by rw [marksS, if_neg (by omega), if_neg (fun e => by have := e _ (mem_getDR.2 ⟨k, by omega, rfl⟩); unfold okM at this; omega)]⟩
            | exact ⟨rfl, by rw [marksS, if_neg (by omega), if_pos (fun x hx => by obtain ⟨i, h1, rfl⟩ := mem_getDR.1 hx; exact he i (by omega))]⟩
        · refine k_pickF rfl zq ?_; refine k_nil ?_; refine run_no ?_; refine run_skip ?_; refine run_inBlock ?_; refine rr3 (by kernel_rfl) ?_; refine mq rfl ?_; refine k_add rfl zq (by unfold In64; omega) ?_; refine aq rfl ?_; exact m.weak weakSub (hnext _ _ _ (by omega) ⟨k + 1, rfl, by omega, all_snoc he (by unfold okM; omega), exU rfl, rfl⟩)
      · refine k_put ?_; refine k_notF rfl zq ?_; refine mq rfl ?_; refine k_off rfl rfl ?_; refine k_off rfl rfl ?_; refine k_off rfl rfl ?_; refine k_off rfl rfl ?_; refine k_off rfl rfl ?_; refine k_off rfl rfl ?_; refine k_off rfl rfl ?_; refine k_off rfl rfl ?_; refine k_off rfl rfl ?_; refine k_off rfl rfl ?_; refine k_off rfl rfl ?_; refine k_off rfl rfl ?_; refine k_pickT rfl zq ?_; refine k_nil ?_; refine run_yes ?_; refine rs1 (by kernel_rfl) ?_; refine aq rfl ?_; refine run_ret rfl ?_; refine run_res (h) rfl Tryz.func91 rfl weakSub ?_; refine hK _ _ ?_
        first
          | exact ⟨rfl, by rw [marksS, if_pos (by omega)]⟩
          | exact ⟨rfl, by rw [marksS, if_neg (by omega), if_neg (fun e => by have := e _ (mem_getDR.2 ⟨k, by omega, rfl⟩); unfold okM at this; omega)]⟩
          | exact ⟨rfl, by rw [marksS, if_neg (by omega), if_pos (fun x hx => by obtain ⟨i, h1, rfl⟩ := mem_getDR.1 hx; exact he i (by omega))]⟩
    · refine k_nil ?_; refine run_no ?_; refine run_exit rfl ?_; refine rs1 (by kernel_rfl) ?_; refine aq rfl ?_; refine run_ret rfl ?_; refine run_res (h) rfl Tryz.func91 rfl weakSub ?_; refine hK _ _ ?_
      first
        | exact ⟨rfl, by rw [marksS, if_pos (by omega)]⟩
        | exact ⟨rfl, by rw [marksS, if_neg (by omega), if_neg (fun e => by have := e _ (mem_getDR.2 ⟨k, by omega, rfl⟩); unfold okM at this; omega)]⟩
        | exact ⟨rfl, by rw [marksS, if_neg (by omega), if_pos (fun x hx => by obtain ⟨i, h1, rfl⟩ := mem_getDR.1 hx; exact he i (by omega))]⟩
  · refine k_put ?_; refine k_notF rfl zq ?_; refine k_nil ?_; refine run_yes ?_; refine rs1 (by kernel_rfl) ?_; refine aq rfl ?_; refine run_ret rfl ?_; refine run_res (h) rfl Tryz.func91 rfl weakSub ?_; refine hK _ _ ?_
    first
      | exact ⟨rfl, by rw [marksS, if_pos (by omega)]⟩
      | exact ⟨rfl, by rw [marksS, if_neg (by omega), if_neg (fun e => by have := e _ (mem_getDR.2 ⟨k, by omega, rfl⟩); unfold okM at this; omega)]⟩
      | exact ⟨rfl, by rw [marksS, if_neg (by omega), if_pos (fun x hx => by obtain ⟨i, h1, rfl⟩ := mem_getDR.1 hx; exact he i (by omega))]⟩
theorem f92_c (m : Md Tryz.prog B) (h : Hp) {b : Bk} {pm : Option Addr} {nm cm : Nat} {pr : Option Addr} {nr cr : Nat} (rdm : RdS B h 2 (.slice pm nm cm) nm (encs b.marks)) (hm : nm ≤ 1000) (rdr : RdS B h 4 (.slice pr nr cr) nr (encs b.rules)) (hr : nr ≤ 1000) : FnC m 92 #[bkV b pm nm cm pr nr cr] h fun v h' => h' = h ∧ v = .int .i64 (rulesS b.marks.length b.rules) := by
  have hml := rdm.elen (by decide)
  have hrl := rdr.elen (by decide)
  refine fn_enter Tryz.func92 rfl rfl (l := (bkV b pm nm cm pr nr cr) :: uu41) rfl ?_
  intro cf cs K hK
  refine rs2 (by kernel_rfl) ?_; refine k_box rfl zq (fun q1 => k_hp (k_put ?_)); refine aq rfl ?_; refine run_seq ?_; refine rs4 (by kernel_rfl) ?_; first | refine k_fa0 rfl zq ?_ | refine k_fa rfl zq ?_
  refine k_ldh rfl zq ?_; refine k_len rfl zq ?_; refine k_gtrS rfl zq (fun hc => ?_) (fun hc => ?_)
  · refine k_nil ?_; refine run_yes ?_; refine rs1 (by kernel_rfl) ?_; refine aq rfl ?_; refine run_ret rfl ?_; refine run_res (h) rfl Tryz.func92 rfl weakSub ?_; refine hK _ _ ?_
    refine ⟨rfl, ?_⟩
    first
      | (rw [rulesS, if_pos (by omega)]; done)
      | (rw [rulesS, if_neg (by omega), he, List.drop_eq_nil_of_le (by omega)]; rfl)
      | (rw [rulesS, if_neg (by omega), he, getD_dropR b.rules k (by omega), rules1, if_pos (by omega)]; done)
      | (rw [rulesS, if_neg (by omega), he, getD_dropR b.rules k (by omega), rules1, if_neg (by omega), if_pos (by omega)]; done)
      | (rw [rulesS, if_neg (by omega), he, getD_dropR b.rules k (by omega), rules1, if_neg (by omega), if_neg (by omega), if_pos (by omega)]; done)
  · refine k_nil ?_; refine run_no ?_; refine run_skip ?_; refine run_seq ?_; refine rs1 (by kernel_rfl) ?_; refine aq rfl ?_; refine run_block ?_; refine run_loop (fun nn l h' => ∃ (k : Nat), nn = nr - k ∧ (k ≤ nr) ∧ (rules1 b.marks.length b.rules = rules1 b.marks.length (b.rules.drop k)) ∧ (∃ U : Nat → Value, l = [bkV b pm nm cm pr nr cr, .pointer (some ⟨q1, 0, none⟩), U 2, .int .i64 (k : Int), U 4, U 5, U 6, U 7, U 8, U 9, U 10, U 11, U 12, U 13, U 14, U 15, U 16, U 17, U 18, U 19, U 20, U 21, U 22, U 23, U 24, U 25, U 26, U 27, U 28, U 29, U 30, U 31, U 32, U 33, U 34, U 35, U 36, U 37, U 38, U 39, U 40, U 41]) ∧ h ++ [⟨true, q1, .cells (bkL b pm nm cm pr nr cr).toArray 25 (0, 0)⟩] = h') _ ⟨0, rfl, by omega, rfl, exU rfl, rfl⟩ ?_; rintro nn l h' ⟨k, rfl, hk, he, ⟨U, rfl⟩, rfl⟩ hnext; refine run_seq ?_; refine rs5 (by kernel_rfl) ?_; refine mq rfl ?_; first | refine k_fa0 rfl zq ?_ | refine k_fa rfl zq ?_
    refine k_ldh rfl zq ?_; refine k_len rfl zq ?_; refine k_lssS rfl zq (fun hc => ?_) (fun hc => ?_)
    · refine k_nil ?_; refine run_yes ?_; refine run_skip ?_; refine run_seq ?_; refine run_block ?_; refine rs7 (by kernel_rfl) ?_; first | refine k_fa0 rfl zq ?_ | refine k_fa rfl zq ?_
      refine k_ldh rfl zq ?_; refine mq rfl ?_; obtain ⟨rdr_b, rdr_o, rfl⟩ := rdr.ptr (by omega)
      refine k_ixs rfl zq (by first | rfl | assumption) (by omega) (by omega) ?_; refine k_ldN (vs := [.int .i64 (b.rules.getD k default).a, .int .i64 (b.rules.getD k default).b, .int .i64 (b.rules.getD k default).lo, .int .i64 (b.rules.getD k default).hi]) rfl zq rfl (rdr.eat k (by omega) (by omega)) ?_; refine k_new rfl zq (fun q4 => k_hp (k_put ?_)); refine k_stA rfl zq rfl ?_; refine k_nil ?_; refine run_seq ?_; refine rs12 (by kernel_rfl) ?_; refine k_ldA rfl zq ?_; first | refine k_fa0 rfl zq ?_ | refine k_fa rfl zq ?_
      refine k_ldh rfl zq ?_; refine k_calP (Post := fun v => IsB _ v) rfl zq (by kernel_rfl) (fun H' hH => f114_c m H' _ _ _ _ _ _ _ _ _ _ (by omega)) ?_; rintro v (⟨hc, rfl⟩ | ⟨hc, rfl⟩)
      · refine k_put ?_; refine k_notT rfl zq ?_; refine mq rfl ?_; refine k_ldA rfl rfl ?_; first | refine k_fa0 rfl rfl ?_ | refine k_fa rfl rfl ?_
        refine k_ldh rfl rfl ?_; refine k_calP (Post := fun v => IsB _ v) rfl rfl (by kernel_rfl) (fun H' hH => f114_c m H' _ _ _ _ _ _ _ _ _ _ (by omega)) ?_; rintro v (⟨hc, rfl⟩ | ⟨hc, rfl⟩)
        · refine k_put ?_; refine k_notT rfl rfl ?_; refine k_pickF rfl zq ?_; refine k_nil ?_; refine run_no ?_; refine run_skip ?_; refine run_seq ?_; refine rs5 (by kernel_rfl) ?_; first | refine k_fa0 rfl zq ?_ | refine k_fa rfl zq ?_
          refine k_ldh rfl zq ?_; first | refine k_fa0 rfl zq ?_ | refine k_fa rfl zq ?_
          refine k_ldh rfl zq ?_; refine k_geqS rfl zq (fun hc => ?_) (fun hc => ?_)
          · refine k_nil ?_; refine run_yes ?_; refine rs1 (by kernel_rfl) ?_; refine aq rfl ?_; refine run_ret rfl ?_; refine run_res (h) rfl Tryz.func92 rfl weakSub ?_; refine hK _ _ ?_
            refine ⟨rfl, ?_⟩
            first
              | (rw [rulesS, if_pos (by omega)]; done)
              | (rw [rulesS, if_neg (by omega), he, List.drop_eq_nil_of_le (by omega)]; rfl)
              | (rw [rulesS, if_neg (by omega), he, getD_dropR b.rules k (by omega), rules1, if_pos (by omega)]; done)
              | (rw [rulesS, if_neg (by omega), he, getD_dropR b.rules k (by omega), rules1, if_neg (by omega), if_pos (by omega)]; done)
              | (rw [rulesS, if_neg (by omega), he, getD_dropR b.rules k (by omega), rules1, if_neg (by omega), if_neg (by omega), if_pos (by omega)]; done)
          · refine k_nil ?_; refine run_no ?_; refine run_skip ?_; refine rs4 (by kernel_rfl) ?_; first | refine k_fa0 rfl zq ?_ | refine k_fa rfl zq ?_
            refine k_ldA rfl zq ?_; refine k_calP (Post := fun v => IsB _ v) rfl zq (by kernel_rfl) (fun H' hH => f132_c m H' _ _ _ _) ?_; rintro v (⟨hc, rfl⟩ | ⟨hc, rfl⟩)
            · refine k_put ?_; refine k_notT rfl zq ?_; refine k_nil ?_; refine run_no ?_; refine run_skip ?_; refine run_inBlock ?_; refine rr3 (by kernel_rfl) ?_; refine mq rfl ?_; refine k_add rfl zq (by unfold In64; omega) ?_; refine aq rfl ?_; exact m.weak weakSub (hnext _ _ _ (by omega) ⟨k + 1, rfl, by omega, by rw [he, getD_dropR b.rules k (by omega), rules1, if_neg (by omega), if_neg (by omega), if_neg (by omega)], exU rfl, rfl⟩)
            · refine k_put ?_; refine k_notF rfl zq ?_; refine k_nil ?_; refine run_yes ?_; refine rs1 (by kernel_rfl) ?_; refine aq rfl ?_; refine run_ret rfl ?_; refine run_res (h) rfl Tryz.func92 rfl weakSub ?_; refine hK _ _ ?_
              refine ⟨rfl, ?_⟩
              first
                | (rw [rulesS, if_pos (by omega)]; done)
                | (rw [rulesS, if_neg (by omega), he, List.drop_eq_nil_of_le (by omega)]; rfl)
                | (rw [rulesS, if_neg (by omega), he, getD_dropR b.rules k (by omega), rules1, if_pos (by omega)]; done)
                | (rw [rulesS, if_neg (by omega), he, getD_dropR b.rules k (by omega), rules1, if_neg (by omega), if_pos (by omega)]; done)
                | (rw [rulesS, if_neg (by omega), he, getD_dropR b.rules k (by omega), rules1, if_neg (by omega), if_neg (by omega), if_pos (by omega)]; done)
        · refine k_put ?_; refine k_notF rfl rfl ?_; refine k_pickF rfl zq ?_; refine k_nil ?_; refine run_yes ?_; refine rs1 (by kernel_rfl) ?_; refine aq rfl ?_; refine run_ret rfl ?_; refine run_res (h) rfl Tryz.func92 rfl weakSub ?_; refine hK _ _ ?_
          refine ⟨rfl, ?_⟩
          first
            | (rw [rulesS, if_pos (by omega)]; done)
            | (rw [rulesS, if_neg (by omega), he, List.drop_eq_nil_of_le (by omega)]; rfl)
            | (rw [rulesS, if_neg (by omega), he, getD_dropR b.rules k (by omega), rules1, if_pos (by omega)]; done)
            | (rw [rulesS, if_neg (by omega), he, getD_dropR b.rules k (by omega), rules1, if_neg (by omega), if_pos (by omega)]; done)
            | (rw [rulesS, if_neg (by omega), he, getD_dropR b.rules k (by omega), rules1, if_neg (by omega), if_neg (by omega), if_pos (by omega)]; done)
      · refine k_put ?_; refine k_notF rfl zq ?_; refine mq rfl ?_; refine k_off rfl rfl ?_; refine k_off rfl rfl ?_; refine k_off rfl rfl ?_; refine k_off rfl rfl ?_; refine k_off rfl rfl ?_; refine k_pickT rfl zq ?_; refine k_nil ?_; refine run_yes ?_; refine rs1 (by kernel_rfl) ?_; refine aq rfl ?_; refine run_ret rfl ?_; refine run_res (h) rfl Tryz.func92 rfl weakSub ?_; refine hK _ _ ?_
        refine ⟨rfl, ?_⟩
        first
          | (rw [rulesS, if_pos (by omega)]; done)
          | (rw [rulesS, if_neg (by omega), he, List.drop_eq_nil_of_le (by omega)]; rfl)
          | (rw [rulesS, if_neg (by omega), he, getD_dropR b.rules k (by omega), rules1, if_pos (by omega)]; done)
          | (rw [rulesS, if_neg (by omega), he, getD_dropR b.rules k (by omega), rules1, if_neg (by omega), if_pos (by omega)]; done)
          | (rw [rulesS, if_neg (by omega), he, getD_dropR b.rules k (by omega), rules1, if_neg (by omega), if_neg (by omega), if_pos (by omega)]; done)
    · refine k_nil ?_; refine run_no ?_; refine run_exit rfl ?_; refine rs1 (by kernel_rfl) ?_; refine aq rfl ?_; refine run_ret rfl ?_; refine run_res (h) rfl Tryz.func92 rfl weakSub ?_; refine hK _ _ ?_
      refine ⟨rfl, ?_⟩
      first
        | (rw [rulesS, if_pos (by omega)]; done)
        | (rw [rulesS, if_neg (by omega), he, List.drop_eq_nil_of_le (by omega)]; rfl)
        | (rw [rulesS, if_neg (by omega), he, getD_dropR b.rules k (by omega), rules1, if_pos (by omega)]; done)
        | (rw [rulesS, if_neg (by omega), he, getD_dropR b.rules k (by omega), rules1, if_neg (by omega), if_pos (by omega)]; done)
        | (rw [rulesS, if_neg (by omega), he, getD_dropR b.rules k (by omega), rules1, if_neg (by omega), if_neg (by omega), if_pos (by omega)]; done)
theorem f22_c (m : Md Tryz.prog B) (h : Hp) {b : Bk} {pm : Option Addr} {nm cm : Nat} {pr : Option Addr} {nr cr : Nat} (rdm : RdS B h 2 (.slice pm nm cm) nm (encs b.marks)) (hm : nm ≤ 1000) (rdr : RdS B h 4 (.slice pr nr cr) nr (encs b.rules)) (hr : nr ≤ 1000) : FnC m 22 #[bkV b pm nm cm pr nr cr] h fun v h' => h' = h ∧ v = .int .i64 (bookS b) := by
  have hml := rdm.elen (by decide)
  have hrl := rdr.elen (by decide)
  refine fn_enter Tryz.func22 rfl rfl (l := (bkV b pm nm cm pr nr cr) :: uu27) rfl ?_
  intro cf cs K hK
  refine rs2 (by kernel_rfl) ?_; refine k_box rfl zq (fun q1 => k_hp (k_put ?_)); refine aq rfl ?_; refine run_seq ?_; refine run_seq ?_; refine run_region [(0, .free), (1, .free), (2, .free), (3, .free), (4, .free), (5, .free), (6, .free), (7, .free), (8, .free), (9, .free), (10, .free), (11, .free), (12, .free), (13, .free), (14, .free), (15, .free)] (by kernel_rfl) (by kernel_rfl) ?_; first | refine k_fa0 rfl zq ?_ | refine k_fa rfl zq ?_
  refine k_ldh rfl zq ?_; refine k_calP (Post := fun v => IsB _ v) rfl zq (by kernel_rfl) (fun H' hH => f72_c m H' _ _ _) ?_; rintro v (⟨hc, rfl⟩ | ⟨hc, rfl⟩)
  · refine k_put ?_; refine k_notT rfl zq ?_; refine mq rfl ?_; first | refine k_fa0 rfl rfl ?_ | refine k_fa rfl rfl ?_
    refine k_ldh rfl rfl ?_; refine k_calP (Post := fun v => IsB _ v) rfl rfl (by kernel_rfl) (fun H' hH => f72_c m H' _ _ _) ?_; rintro v (⟨hc, rfl⟩ | ⟨hc, rfl⟩)
    · refine k_put ?_; refine k_notT rfl rfl ?_; refine k_pickF rfl zq ?_; refine mq rfl ?_; first | refine k_fa0 rfl rfl ?_ | refine k_fa rfl rfl ?_
      refine k_ldh rfl rfl ?_; refine k_calP (Post := fun v => IsB _ v) rfl rfl (by kernel_rfl) (fun H' hH => f72_c m H' _ _ _) ?_; rintro v (⟨hc, rfl⟩ | ⟨hc, rfl⟩)
      · refine k_put ?_; refine k_notT rfl rfl ?_; refine k_pickF rfl zq ?_; refine k_nil ?_; refine run_no ?_; refine run_skip ?_; refine run_seq ?_; refine rs4 (by kernel_rfl) ?_; first | refine k_fa0 rfl zq ?_ | refine k_fa rfl zq ?_
        refine k_ldh rfl zq ?_; refine k_calP (Post := fun v => v = _) rfl zq (by kernel_rfl) (fun H' hH => f91_c m H' (rdm.keeps (sq hH)) hm) ?_; rintro v rfl; refine k_put ?_; refine aq rfl ?_; refine rs2 (by kernel_rfl) ?_; refine mq rfl ?_; refine k_neqS rfl zq (fun hc => ?_) (fun hc => ?_)
        · refine k_nil ?_; refine run_yes ?_; refine rs2 (by kernel_rfl) ?_; refine mq rfl ?_; refine aq rfl ?_; refine run_ret rfl ?_; refine run_res (h) rfl Tryz.func22 rfl weakSub ?_; refine hK _ _ ?_
          refine ⟨rfl, ?_⟩
          rw [bookS]; first | (rw [if_pos (by omega)]; done) | (rw [if_neg (by omega), if_pos (by assumption)]; done) | (rw [if_neg (by omega), if_neg (by omega)]; done)
        · refine k_nil ?_; refine run_no ?_; refine run_skip ?_; refine rs3 (by kernel_rfl) ?_; refine k_ldA rfl zq ?_; refine k_calP (Post := fun v => v = _) rfl zq (by kernel_rfl) (fun H' hH => f92_c m H' (rdm.keeps (sq hH)) hm (rdr.keeps (sq hH)) hr) ?_; rintro v rfl; refine k_put ?_; refine aq rfl ?_; refine run_ret rfl ?_; refine run_res (h) rfl Tryz.func22 rfl weakSub ?_; refine hK _ _ ?_
          refine ⟨rfl, ?_⟩
          rw [bookS]; first | (rw [if_pos (by omega)]; done) | (rw [if_neg (by omega), if_pos (by assumption)]; done) | (rw [if_neg (by omega), if_neg (by omega)]; done)
      · refine k_put ?_; refine k_notF rfl rfl ?_; refine k_pickF rfl zq ?_; refine k_nil ?_; refine run_yes ?_; refine rs1 (by kernel_rfl) ?_; refine aq rfl ?_; refine run_ret rfl ?_; refine run_res (h) rfl Tryz.func22 rfl weakSub ?_; refine hK _ _ ?_
        refine ⟨rfl, ?_⟩
        rw [bookS]; first | (rw [if_pos (by omega)]; done) | (rw [if_neg (by omega), if_pos (by assumption)]; done) | (rw [if_neg (by omega), if_neg (by omega)]; done)
    · refine k_put ?_; refine k_notF rfl rfl ?_; refine k_pickF rfl zq ?_; refine mq rfl ?_; refine k_off rfl rfl ?_; refine k_off rfl rfl ?_; refine k_off rfl rfl ?_; refine k_off rfl rfl ?_; refine k_pickT rfl zq ?_; refine k_nil ?_; refine run_yes ?_; refine rs1 (by kernel_rfl) ?_; refine aq rfl ?_; refine run_ret rfl ?_; refine run_res (h) rfl Tryz.func22 rfl weakSub ?_; refine hK _ _ ?_
      refine ⟨rfl, ?_⟩
      rw [bookS]; first | (rw [if_pos (by omega)]; done) | (rw [if_neg (by omega), if_pos (by assumption)]; done) | (rw [if_neg (by omega), if_neg (by omega)]; done)
  · refine k_put ?_; refine k_notF rfl zq ?_; refine mq rfl ?_; refine k_off rfl rfl ?_; refine k_off rfl rfl ?_; refine k_off rfl rfl ?_; refine k_off rfl rfl ?_; refine k_pickT rfl zq ?_; refine mq rfl ?_; refine k_off rfl rfl ?_; refine k_off rfl rfl ?_; refine k_off rfl rfl ?_; refine k_off rfl rfl ?_; refine k_pickT rfl zq ?_; refine k_nil ?_; refine run_yes ?_; refine rs1 (by kernel_rfl) ?_; refine aq rfl ?_; refine run_ret rfl ?_; refine run_res (h) rfl Tryz.func22 rfl weakSub ?_; refine hK _ _ ?_
    refine ⟨rfl, ?_⟩
    rw [bookS]; first | (rw [if_pos (by omega)]; done) | (rw [if_neg (by omega), if_pos (by assumption)]; done) | (rw [if_neg (by omega), if_neg (by omega)]; done)
def boat (b : Bk) (xs : List Int) : Prop :=
  (∀ i, i < xs.length → (b.marks.getD i default).lo ≤ xs.getD i 0 ∧ xs.getD i 0 ≤ (b.marks.getD i default).hi) ∧
  (∀ r ∈ b.rules, r.lo ≤ xs.getD r.b.toNat 0 - xs.getD r.a.toNat 0 ∧ xs.getD r.b.toNat 0 - xs.getD r.a.toNat 0 ≤ r.hi) ∧ fair b.bend b.twist b.turns xs
structure Valid (b : Bk) : Prop where
  bend : 0 ≤ b.bend ∧ b.bend ≤ 99
  twist : 0 ≤ b.twist ∧ b.twist ≤ 99
  turns : 0 ≤ b.turns ∧ b.turns ≤ 5
  many : 3 ≤ b.marks.length ∧ b.marks.length ≤ 7
  marks : ∀ x ∈ b.marks, okM x
  few : b.rules.length ≤ 4
  rules : ∀ r ∈ b.rules, (0 ≤ r.a ∧ r.a < b.marks.length) ∧ (0 ≤ r.b ∧ r.b < b.marks.length) ∧ r.a < r.b ∧ -959 ≤ r.lo ∧ r.lo ≤ r.hi ∧ r.hi ≤ 959
theorem marksS_zero {ms : List Sp} (h : marksS ms = 0) : (3 ≤ ms.length ∧ ms.length ≤ 7) ∧ ∀ x ∈ ms, okM x := by
  unfold marksS at h
  split at h
  · omega
  · split at h
    · rename_i h1 h2; exact ⟨by omega, h2⟩
    · omega
theorem rules1_zero {many : Int} : ∀ {rs : List Ru}, rules1 many rs = 0 → ∀ r ∈ rs, (0 ≤ r.a ∧ r.a < many) ∧ (0 ≤ r.b ∧ r.b < many) ∧ r.a < r.b ∧ -959 ≤ r.lo ∧ r.lo ≤ r.hi ∧ r.hi ≤ 959
  | [], _, r, hr => by simp at hr
  | x :: t, h, r, hr => by
    unfold rules1 at h
    split at h
    · omega
    · split at h
      · omega
      · split at h
        · omega
        · rcases List.mem_cons.1 hr with rfl | hr
          · refine ⟨?_, ?_, ?_, ?_, ?_, ?_⟩ <;> omega
          · exact rules1_zero h r hr
theorem valid_of {b : Bk} (h : bookS b = 0) : Valid b := by
  unfold bookS at h
  split at h
  · omega
  · split at h
    · contradiction
    · rename_i h1 h2
      obtain ⟨m1, m2⟩ := marksS_zero (ms := b.marks) (by omega)
      unfold rulesS at h
      split at h
      · omega
      · exact ⟨by omega, by omega, by omega, m1, m2, by omega, fun r hr => rules1_zero h r hr⟩
def spanL (x : Sp) : List Int := (List.range (x.hi - x.lo + 1).toNat).map fun i : Nat => x.lo + (i : Int)
theorem spanL_length (x : Sp) : (spanL x).length = (x.hi - x.lo + 1).toNat := by simp [spanL]
theorem spanL_getD (x : Sp) (j : Nat) (h : j < (x.hi - x.lo + 1).toNat) : (spanL x).getD j 0 = x.lo + j := by
  rw [spanL, List.getD_eq_getElem?_getD, List.getElem?_map, List.getElem?_range h]; rfl
def ext1 (l : List Int) (ns : List Int) : List (List Int) := ns.map fun n => l ++ [n]
def extL (all : List (List Int)) (x : Sp) : List (List Int) := all.flatMap fun l => ext1 l (spanL x)
def linesOf (ms : List Sp) : List (List Int) := ms.foldl extL [[]]
instance (l : List Int) (m : Int) : Decidable (withinL l m) := by unfold withinL; infer_instance
instance (be tw tu : Int) (xs : List Int) : Decidable (fair be tw tu xs) := by unfold fair; infer_instance
instance (b : Bk) (xs : List Int) : Decidable (boat b xs) := by unfold boat; infer_instance
def boatsOf (b : Bk) : List (List Int) := (linesOf b.marks).filter fun l => decide (boat b l)
theorem linesOf_take (ms : List Sp) (k : Nat) (h : k < ms.length) : linesOf (ms.take (k + 1)) = extL (linesOf (ms.take k)) (ms.getD k default) := by
  rw [take_snoc ms k h, linesOf, List.foldl_append]; rfl
theorem extL_length (all : List (List Int)) (x : Sp) : (extL all x).length = all.length * (x.hi - x.lo + 1).toNat := by
  induction all with
  | nil => simp [extL]
  | cons a r ih =>
    have : extL (a :: r) x = ext1 a (spanL x) ++ extL r x := by simp [extL]
    rw [this, List.length_append, ih, ext1, List.length_map, spanL_length, List.length_cons, Nat.add_mul, Nat.one_mul]; omega
theorem linesOf_small {ms : List Sp} (hk : ∀ x ∈ ms, okM x) : ∀ k, k ≤ ms.length → (linesOf (ms.take k)).length ≤ 3 ^ k
  | 0, _ => by simp [linesOf]
  | k + 1, h => by
    have ih := linesOf_small hk k (by omega)
    have ho := hk _ (mem_getDR.2 ⟨k, by omega, rfl⟩)
    rw [linesOf_take ms k (by omega), extL_length]; unfold okM at ho
    exact Nat.mul_le_mul ih (by omega)
theorem linesOf_le {b : Bk} (hv : Valid b) (k : Nat) (h : k ≤ b.marks.length) : (linesOf (b.marks.take k)).length ≤ 2187 := by
  have h1 := linesOf_small hv.marks k h
  have h2 := hv.many
  have h3 : 3 ^ k ≤ 3 ^ 7 := Nat.pow_le_pow_right (by omega) (by omega)
  omega
theorem mem_extL {all : List (List Int)} {x : Sp} {l : List Int} : l ∈ extL all x ↔ ∃ a ∈ all, ∃ n ∈ spanL x, l = a ++ [n] := by
  simp only [extL, ext1, List.mem_flatMap, List.mem_map]
  constructor
  · rintro ⟨a, ha, n, hn, rfl⟩; exact ⟨a, ha, n, hn, rfl⟩
  · rintro ⟨a, ha, n, hn, rfl⟩; exact ⟨a, ha, n, hn, rfl⟩
theorem mem_spanL {x : Sp} {n : Int} : n ∈ spanL x ↔ x.lo ≤ n ∧ n ≤ x.hi := by
  simp only [spanL, List.mem_map, List.mem_range]
  constructor
  · rintro ⟨i, hi, rfl⟩; omega
  · intro h; exact ⟨(n - x.lo).toNat, by omega, by omega⟩
def partL (ll : List (List Int)) (x : Sp) (k j : Nat) : List (List Int) := extL (ll.take k) x ++ ext1 (ll.getD k []) ((spanL x).take j)
theorem mem_linesOf {ms : List Sp} : ∀ {k : Nat} {l : List Int}, k ≤ ms.length → (l ∈ linesOf (ms.take k) ↔ l.length = k ∧ ∀ i, i < k → (ms.getD i default).lo ≤ l.getD i 0 ∧ l.getD i 0 ≤ (ms.getD i default).hi)
  | 0, l, _ => by
    simp only [List.take_zero, linesOf, List.foldl_nil, List.mem_singleton]
    constructor
    · rintro rfl; exact ⟨rfl, fun i hi => by omega⟩
    · rintro ⟨h, _⟩; exact List.length_eq_zero_iff.1 h
  | k + 1, l, h => by
    rw [linesOf_take ms k (by omega), mem_extL]; constructor
    · rintro ⟨a, ha, n, hn, rfl⟩; obtain ⟨h1, h2⟩ := (mem_linesOf (by omega)).1 ha
      have hn' := mem_spanL.1 hn
      refine ⟨by simp [h1], fun i hi => ?_⟩
      rcases Nat.lt_or_ge i k with h3 | h3
      · have := h2 i h3
        simp only [List.getD_eq_getElem?_getD] at this ⊢
        rw [List.getElem?_append_left (by omega)]; exact this
      · obtain rfl : i = k := by omega
        simp only [List.getD_eq_getElem?_getD] at hn' ⊢
        rw [List.getElem?_append_right (by omega), h1, Nat.sub_self]; exact hn'
    · rintro ⟨h1, h2⟩; refine ⟨l.take k, (mem_linesOf (by omega)).2 ⟨by simp; omega, fun i hi => ?_⟩, l.getD k 0, mem_spanL.2 (h2 k (by omega)), ?_⟩
      · have := h2 i (by omega)
        simp only [List.getD_eq_getElem?_getD] at this ⊢
        rw [List.getElem?_take, if_pos hi]; exact this
      · rw [← take_snoc' l k (by omega), List.take_of_length_le (by omega)]
def boatsF (b : Bk) (ll : List (List Int)) (e : Nat) : List (List Int) := (ll.take e).filter fun l => decide (boat b l)
theorem boatsF_le (b : Bk) (ll : List (List Int)) (e : Nat) : (boatsF b ll e).length ≤ ll.length := by
  have := List.length_filter_le (fun l => decide (boat b l)) (ll.take e)
  rw [List.length_take] at this
  unfold boatsF
  omega
theorem line_of {b : Bk} {l : List Int} (hl : l ∈ linesOf b.marks) : l.length = b.marks.length ∧ ∀ i, i < b.marks.length → (b.marks.getD i default).lo ≤ l.getD i 0 ∧ l.getD i 0 ≤ (b.marks.getD i default).hi := by
  have := (mem_linesOf (ms := b.marks) (k := b.marks.length) (l := l) (Nat.le_refl _)).1 (by rw [List.take_length]; exact hl)
  exact this
theorem line_small {b : Bk} (hv : Valid b) {l : List Int} (hl : l ∈ linesOf b.marks) : Small 959 l := fun j => by
  obtain ⟨h1, h2⟩ := line_of hl
  by_cases h : j < l.length
  · have h3 := h2 j (by omega)
    have h4 := hv.marks _ (mem_getDR.2 ⟨j, by omega, rfl⟩)
    unfold okM at h4
    omega
  · rw [getD_out _ _ (by omega)]; omega
theorem Small.le {m m' : Int} {xs : List Int} (h : Small m xs) (hm : m ≤ m') : Small m' xs := fun j => by have := h j; omega
def openS (b : Bk) (own : Int) : Int := if bookS b ≠ 0 then bookS b else if own ≠ 0 then own else if boatsOf b = [] then 9 else 0
def openL (b : Bk) (own : Int) : List (List Int) := if openS b own = 0 then boatsOf b else []
theorem openS_zero {b : Bk} {own : Int} (h : openS b own = 0) : bookS b = 0 ∧ own = 0 ∧ boatsOf b ≠ [] := by
  unfold openS at h
  split at h
  · omega
  · split at h
    · omega
    · split at h
      · omega
      · refine ⟨by omega, by omega, by assumption⟩
theorem boats_le {b : Bk} (hv : Valid b) : (boatsOf b).length ≤ 2187 := by
  have := boatsF_le b (linesOf b.marks) (linesOf b.marks).length
  rw [boatsF, List.take_length] at this
  have h2 := linesOf_le hv b.marks.length (Nat.le_refl _)
  rw [List.take_length] at h2
  unfold boatsOf
  omega
theorem boat_line {b : Bk} {l : List Int} (h : l ∈ boatsOf b) : l ∈ linesOf b.marks := (List.mem_filter.1 h).1
def RdLL (B : Array Obj) (h : Hp) (v : Value) (ll : List (List Int)) : Prop := ∃ p c vs, v = .slice p ll.length c ∧ RdS B h 1 (.slice p ll.length c) ll.length vs ∧ RdE B h vs ll
theorem RdLL.nil {B : Array Obj} {h : Hp} : RdLL B h (.slice none 0 0) [] := ⟨none, 0, [], rfl, ⟨none, 0, rfl, rfl, .inl ⟨rfl, rfl⟩⟩, RdE.nil⟩
def Asc (ys : List Int) : Prop := ys.Pairwise (· < ·)
theorem Asc.eq : ∀ {xs ys : List Int}, Asc xs → Asc ys → (∀ z, z ∈ xs ↔ z ∈ ys) → xs = ys
  | [], [], _, _, _ => rfl
  | [], b :: s, _, _, h => by have := (h b).2 (by simp); simp at this
  | a :: r, [], _, _, h => by have := (h a).1 (by simp); simp at this
  | a :: r, b :: s, h1, h2, h => by
    unfold Asc at h1 h2
    rw [List.pairwise_cons] at h1 h2
    have hab : a = b := by
      rcases List.mem_cons.1 ((h a).1 (by simp)) with e | e
      · exact e
      · rcases List.mem_cons.1 ((h b).2 (by simp)) with e' | e'
        · exact e'.symm
        · have := h1.1 b e'; have := h2.1 a e; omega
    subst hab
    have : r = s := Asc.eq h1.2 h2.2 fun z => by
      constructor
      · intro hz
        rcases List.mem_cons.1 ((h z).1 (List.mem_cons_of_mem _ hz)) with e | e
        · have := h1.1 z hz; omega
        · exact e
      · intro hz
        rcases List.mem_cons.1 ((h z).2 (List.mem_cons_of_mem _ hz)) with e | e
        · have := h2.1 z hz; omega
        · exact e
    rw [this]
theorem OwnS.full {t k q n : Nat} {cs : List Value} (hl : cs.length = n * k) : OwnS t k (.slice (some ⟨q, 0, none⟩) n n) n cs [⟨true, q, .cells cs.toArray t (0, 0)⟩] := by
  have := OwnS.blk (t := t) (k := k) (b := q) (n := n) (cap := n) (cs := cs) (junk := []) hl (by simpa using hl) (Nat.le_refl _)
  simpa using this
class ThereV (t : Bool) (z : outParam Int) : Prop where
  eq : (if t then 0 else 6) = z
instance : ThereV true 0 := ⟨rfl⟩
instance : ThereV false 6 := ⟨rfl⟩
def heightsAt (ll : List (List Int)) (s : Nat) : List Int := ll.map fun l => l.getD s 0
theorem heightsAt_take (ll : List (List Int)) (s k : Nat) (h : k < ll.length) : heightsAt (ll.take (k + 1)) s = heightsAt (ll.take k) s ++ [(ll.getD k []).getD s 0] := by
  rw [take_snocL ll k h, heightsAt, List.map_append]; rfl
def hollowN (ll : List (List Int)) (s : Nat) : Nat := (ll.filter fun l => decide (0 < (bends l).getD s 0)).length
theorem hollowN_yes (ll : List (List Int)) (s k : Nat) (h : k < ll.length) (hp : 0 < (bends (ll.getD k [])).getD s 0) : hollowN (ll.take (k + 1)) s = hollowN (ll.take k) s + 1 := by
  rw [take_snocL ll k h, hollowN, List.filter_append, List.filter_cons, if_pos (decide_eq_true hp), List.length_append]; rfl
theorem hollowN_no (ll : List (List Int)) (s k : Nat) (h : k < ll.length) (hp : ¬ 0 < (bends (ll.getD k [])).getD s 0) : hollowN (ll.take (k + 1)) s = hollowN (ll.take k) s := by
  rw [take_snocL ll k h, hollowN, List.filter_append, List.filter_cons, if_neg (by simpa using hp), List.filter_nil, List.append_nil]; rfl
def told (x y : Int) : Int := if x = 0 then 2 else if x = y then 1 else 0
def bestBy (lt : List Int → List Int → Bool) (ll : List (List Int)) : List Int := (ll.drop 1).foldl (fun o x => if lt x o then x else o) (ll.getD 0 [])
theorem bestBy_one (lt : List Int → List Int → Bool) (ll : List (List Int)) : bestBy lt (ll.take 1) = ll.getD 0 [] := by
  cases ll <;> rfl
theorem bestBy_succ (lt : List Int → List Int → Bool) (ll : List (List Int)) (k : Nat) (h0 : 0 < k) (h : k < ll.length) : bestBy lt (ll.take (k + 1)) = if lt (ll.getD k []) (bestBy lt (ll.take k)) then ll.getD k [] else bestBy lt (ll.take k) := by
  have e : ∀ k, 0 < k → (ll.take k).getD 0 [] = ll.getD 0 [] := fun k hk => by
    rw [List.getD_eq_getElem?_getD, List.getD_eq_getElem?_getD, List.getElem?_take, if_pos hk]
  unfold bestBy
  rw [e (k + 1) (by omega), e k h0, take_snocL ll k h, List.drop_append_of_le_length (by rw [List.length_take]; omega), List.foldl_append]; rfl
theorem bestBy_mem (lt : List Int → List Int → Bool) (ll : List (List Int)) (h : 0 < ll.length) : bestBy lt ll ∈ ll := by
  have gen : ∀ (r : List (List Int)) (o : List Int), o ∈ ll → (∀ x ∈ r, x ∈ ll) → r.foldl (fun o x => if lt x o then x else o) o ∈ ll := by
    intro r
    induction r with
    | nil => exact fun o ho _ => ho
    | cons x r ih =>
      intro o ho hr
      refine ih _ ?_ fun y hy => hr y (List.mem_cons_of_mem _ hy)
      show (if lt x o then x else o) ∈ ll
      split
      · exact hr x List.mem_cons_self
      · exact ho
  exact gen _ _ (mem_getDR.2 ⟨0, h, rfl⟩) fun x hx => List.mem_of_mem_drop hx
def ltStrain (x o : List Int) : Bool := decide (strain x < strain o)
def RdI (B : Array Obj) (h : Hp) (w : Value) (xs : List Int) : Prop := ∃ p c, w = .slice p xs.length c ∧ RdS B h 1 (.slice p xs.length c) xs.length (ints xs)
theorem RdI.nil {h : Hp} : RdI B h (.slice none 0 0) [] := ⟨none, 0, rfl, none, 0, rfl, rfl, .inl ⟨rfl, rfl⟩⟩
theorem OwnS.rdI {t : Nat} {w : Value} {n : Nat} {xs : List Int} {new : Hp} (o : OwnS t 1 w n (ints xs) new) : RdI B new w xs := by
  obtain ⟨p, c, rfl, hl⟩ := o.len
  obtain rfl : n = xs.length := by simpa using hl.symm
  exact ⟨p, c, rfl, o.rd'⟩
def straightL (b : Bk) : List Int := if openS b 0 ≠ 0 then [] else bestBy ltStrain (boatsOf b)
theorem lineS_zero {many : Nat} {xs : List Int} (h : lineS many xs = 0) : xs.length = many ∧ ∀ x ∈ xs, 0 ≤ x ∧ x ≤ 959 := by
  unfold lineS at h
  split at h
  · omega
  · split at h
    · exact ⟨by omega, by assumption⟩
    · omega
theorem lineS_small {many : Nat} {xs : List Int} (h : lineS many xs = 0) : Small 959 xs := fun j => by
  by_cases hj : j < xs.length
  · have := (lineS_zero h).2 _ (mem_getD.2 ⟨j, hj, rfl⟩)
    omega
  · rw [getD_out _ _ (by omega)]; omega
def ltFar (xs x o : List Int) : Bool := decide (sumL (gaps x xs) < sumL (gaps o xs) ∨ (sumL (gaps x xs) = sumL (gaps o xs) ∧ mostL (gaps x xs) < mostL (gaps o xs)))
def lineO (b : Bk) (xs : List Int) : Int := openS b (lineS b.marks.length xs)
def nearL (b : Bk) (xs : List Int) : List Int := if lineO b xs ≠ 0 then [] else bestBy (ltFar xs) (boatsOf b)
def nearN (b : Bk) (xs : List Int) : Int := if lineO b xs ≠ 0 then 0 else sumL (gaps (bestBy (ltFar xs) (boatsOf b)) xs)
def ltFewer (x o : List Int) : Bool := decide (fewer x o)
def pulledL (b : Bk) (xs : List Int) : List Int := if lineO b xs ≠ 0 then [] else bestBy ltFewer ((boatsOf b).map fun l => unlike l xs)
def straightN (b : Bk) : Int := if openS b 0 ≠ 0 then 0 else strain (bestBy ltStrain (boatsOf b))
theorem map_getD (ll : List (List Int)) (f : List Int → List Int) (k : Nat) (h : k < ll.length) : (ll.map f).getD k [] = f (ll.getD k []) := by
  rw [List.getD_eq_getElem?_getD, List.getD_eq_getElem?_getD, List.getElem?_map, List.getElem?_eq_getElem h]; rfl
theorem unlike_length (xs ys : List Int) : (unlike xs ys).length ≤ xs.length := unlikeF_length _ _ _
def mustF (ll : List (List Int)) (xs : List Int) (k : Nat) : List Int := (firsts k).filter fun i => decide (∀ l ∈ ll, l.getD i.toNat 0 ≠ xs.getD i.toNat 0)
def mustL (b : Bk) (xs : List Int) : List Int := if lineO b xs ≠ 0 then [] else mustF (boatsOf b) xs xs.length
theorem mustF_yes (ll : List (List Int)) (xs : List Int) (k : Nat) (h : ∀ l ∈ ll, l.getD k 0 ≠ xs.getD k 0) : mustF ll xs (k + 1) = mustF ll xs k ++ [(k : Int)] := by
  rw [mustF, firsts_succ, List.filter_append, ← mustF]; congr 1
  rw [List.filter_cons, Int.toNat_natCast, if_pos (decide_eq_true h)]; rfl
theorem mustF_no (ll : List (List Int)) (xs : List Int) (k : Nat) (h : ¬ ∀ l ∈ ll, l.getD k 0 ≠ xs.getD k 0) : mustF ll xs (k + 1) = mustF ll xs k := by
  rw [mustF, firsts_succ, List.filter_append, ← mustF, List.filter_cons, Int.toNat_natCast, if_neg (by rw [decide_eq_true_iff]; exact h)]; simp
theorem mustF_length (ll : List (List Int)) (xs : List Int) (k : Nat) : (mustF ll xs k).length ≤ k := by
  have := List.length_filter_le (fun i : Int => decide (∀ l ∈ ll, l.getD i.toNat 0 ≠ xs.getD i.toNat 0)) (firsts k)
  rw [firsts_length] at this
  exact this
def handedS (b : Bk) (xs : List Int) : Int := if bookS b ≠ 0 then bookS b else lineS b.marks.length xs
theorem handedS_zero {b : Bk} {xs : List Int} (h : handedS b xs = 0) : bookS b = 0 ∧ lineS b.marks.length xs = 0 := by
  unfold handedS at h
  split at h
  · contradiction
  · exact ⟨by omega, h⟩
theorem RdI.owned {t : Nat} {w : Value} {n : Nat} {xs : List Int} {new : Hp} (o : OwnS t 1 w n (ints xs) new) : RdI B new w xs := OwnS.rdI o
def countAt (ll : List (List Int)) (s : Nat) (x : Int) : Nat := (ll.filter fun l => decide (l.getD s 0 = x)).length
theorem countAt_yes (ll : List (List Int)) (s : Nat) (x : Int) (k : Nat) (h : k < ll.length) (hp : (ll.getD k []).getD s 0 = x) : countAt (ll.take (k + 1)) s x = countAt (ll.take k) s x + 1 := by
  rw [take_snocL ll k h, countAt, List.filter_append, List.filter_cons, if_pos (decide_eq_true hp), List.length_append]; rfl
theorem countAt_no (ll : List (List Int)) (s : Nat) (x : Int) (k : Nat) (h : k < ll.length) (hp : (ll.getD k []).getD s 0 ≠ x) : countAt (ll.take (k + 1)) s x = countAt (ll.take k) s x := by
  rw [take_snocL ll k h, countAt, List.filter_append, List.filter_cons, if_neg (by rw [decide_eq_true_iff]; exact hp), List.filter_nil, List.append_nil]; rfl
def lefts (ll : List (List Int)) (s : Nat) : List Int := ll.map fun l => (countAt ll s (l.getD s 0) : Int)
def leftOf (ll : List (List Int)) (s : Nat) : Int := mostL (lefts ll s)
theorem st_ne {p : Prop} [Decidable p] (h : (if p then (0 : Int) else 6) ≠ 0) : ¬ p := fun e => h (if_pos e)
theorem st_eq {p : Prop} [Decidable p] (h : (if p then (0 : Int) else 6) = 0) : p := Classical.byContradiction fun e => by rw [if_neg e] at h; cases h
class Laid (B : Array Obj) : Prop where
  eq : ∃ t f, B[0]? = some (.cells [.func (.func 199) #[] #[], .func (.func 200) #[] #[], .func (.func 201) #[] #[]].toArray t f)
variable [Laid B]
theorem laid_rdN {h : Hp} [x : Laid B] : RdN B h 0 0 [.func (.func 199) #[] #[], .func (.func 200) #[] #[], .func (.func 201) #[] #[]] := fun j hj => by
  obtain ⟨t, f, e⟩ := x.eq
  refine Rd.base rfl e ?_
  rw [Nat.zero_add, List.getElem?_toArray, List.getD_eq_getElem?_getD, List.getElem?_eq_getElem hj]; rfl
theorem f204_c (m : Md Tryz.prog B) (h : Hp) {p : Option Addr} {n c : Nat} {xs : List Sp} (rd : RdS B h 2 (.slice p n c) n (encs xs)) (hn : n ≤ 100000) {fid : Nat} {fc cp : Array Value} {pr : Nat → Prop} (hcall : callB Tryz.prog fid = true) (hf : ∀ i, i < n → ∀ H' : Hp, h.Sublist H' → FnC m fid (fc ++ [spV (xs.getD i default)].toArray ++ cp) H' fun v h' => h' = H' ∧ IsB (pr i) v) : FnC m 204 #[.slice p n c, .func (.func fid) fc cp] h fun v h' => h' = h ∧ ∃ j : Int, v = .int .i64 j ∧ (0 ≤ j ↔ ∃ i, i < n ∧ pr i) := by
  refine fn_enter Tryz.func204 rfl rfl (l := (.slice p n c) :: (.func (.func fid) fc cp) :: uu17) rfl ?_
  intro cf cs K hK
  refine rs1 (by kernel_rfl) ?_; refine aq rfl ?_; refine run_seq ?_; refine rs3 (by kernel_rfl) ?_; refine mq rfl ?_; refine k_len rfl zq ?_; refine mq rfl ?_; refine k_nil ?_; refine run_block ?_; refine run_loop (fun nn l h' => ∃ (k : Nat), nn = n - k ∧ (k ≤ n) ∧ (∀ i, i < k → ¬ pr i) ∧ (∃ U : Nat → Value, l = [.slice p n c, .func (.func fid) fc cp, U 2, U 3, U 4, U 5, U 6, .int .i64 (n : Int), .int .i64 (k : Int), U 9, U 10, U 11, U 12, U 13, U 14, U 15, U 16, U 17, U 18]) ∧ h = h') _ ⟨0, rfl, by omega, fun i hi => by omega, exU rfl, rfl⟩ ?_; rintro nn l h' ⟨k, rfl, hk, he, ⟨U, rfl⟩, rfl⟩ hnext; refine rs1 (by kernel_rfl) ?_; refine k_lssS rfl zq (fun hc => ?_) (fun hc => ?_)
  · refine k_nil ?_; refine run_seq ?_; refine run_yes ?_; refine run_skip ?_; refine run_seq ?_; refine run_block ?_; refine rs2 (by kernel_rfl) ?_; refine mq rfl ?_; refine aq rfl ?_; refine rs6 (by kernel_rfl) ?_; refine mq rfl ?_; refine mq rfl ?_; refine mq rfl ?_; obtain ⟨rd_b, rd_o, rfl⟩ := rd.ptr (by omega)
    refine k_ixs rfl zq (by first | rfl | assumption) (by omega) (by omega) ?_; refine k_ldN (vs := spL (xs.getD k default)) rfl zq rfl (rd.eat k (by omega) (by omega)) ?_; refine k_valP (Post := fun v => IsB _ v) rfl zq hcall (fun H' hH => hf k (by omega) H' hH) ?_; rintro v (⟨hc, rfl⟩ | ⟨hc, rfl⟩)
    · refine k_put ?_; refine k_nil ?_; refine run_yes ?_; refine rs2 (by kernel_rfl) ?_; refine mq rfl ?_; refine aq rfl ?_; refine run_ret rfl ?_; refine run_res (h) rfl Tryz.func204 rfl weakSub ?_; refine hK _ _ ?_
      first
        | exact ⟨rfl, _, rfl, fun _ => ⟨k, by omega, hc⟩, fun _ => by omega⟩
        | (refine ⟨rfl, _, rfl, fun e => absurd e (by decide), ?_⟩; rintro ⟨i, h1, h2⟩; exact absurd h2 (he i (by omega)))
    · refine k_put ?_; refine k_nil ?_; refine run_no ?_; refine run_skip ?_; refine run_inBlock ?_; refine rr2 (by kernel_rfl) ?_; refine k_add rfl zq (by unfold In64; omega) ?_; refine mq rfl ?_; refine k_nil ?_; exact m.weak weakSub (hnext _ _ _ (by omega) ⟨k + 1, rfl, by omega, fun i hi => by
        rcases Nat.lt_or_ge i k with h1 | h1
        · exact he i h1
        · obtain rfl : i = k := by omega
          exact hc, exU rfl, rfl⟩)
  · refine k_nil ?_; refine run_seq ?_; refine run_no ?_; refine run_exit rfl ?_; refine rs1 (by kernel_rfl) ?_; refine aq rfl ?_; refine run_ret rfl ?_; refine run_res (h) rfl Tryz.func204 rfl weakSub ?_; refine hK _ _ ?_
    first
      | exact ⟨rfl, _, rfl, fun _ => ⟨k, by omega, hc⟩, fun _ => by omega⟩
      | (refine ⟨rfl, _, rfl, fun e => absurd e (by decide), ?_⟩; rintro ⟨i, h1, h2⟩; exact absurd h2 (he i (by omega)))
theorem f202_c (m : Md Tryz.prog B) (h : Hp) {p : Option Addr} {n c : Nat} {xs : List Sp} (rd : RdS B h 2 (.slice p n c) n (encs xs)) (hn : n ≤ 100000) {fid : Nat} {fc cp : Array Value} {pr : Nat → Prop} (hcall : callB Tryz.prog fid = true) (hf : ∀ i, i < n → ∀ H' : Hp, h.Sublist H' → FnC m fid (fc ++ [spV (xs.getD i default)].toArray ++ cp) H' fun v h' => h' = H' ∧ IsB (pr i) v) : FnC m 202 #[.slice p n c, .func (.func fid) fc cp] h fun v h' => h' = h ∧ IsB (∃ i, i < n ∧ pr i) v := by
  refine fn_enter Tryz.func202 rfl rfl (l := (.slice p n c) :: (.func (.func fid) fc cp) :: uu7) rfl ?_
  intro cf cs K hK
  refine rs1 (by kernel_rfl) ?_; refine aq rfl ?_; refine rs5 (by kernel_rfl) ?_; refine mq rfl ?_; refine mq rfl ?_; refine k_calP (Post := fun v => ∃ j : Int, v = .int .i64 j ∧ (0 ≤ j ↔ ∃ i, i < n ∧ pr i)) rfl zq (by kernel_rfl) (fun H' hH => f204_c m H' (rd.keeps (sq hH)) hn hcall (fun i hi K hK => hf i hi K (SubH.sub.trans (hH.trans hK)))) ?_; rintro v ⟨j, rfl, hj⟩; refine k_put ?_; refine k_geqS rfl zq (fun hc => ?_) (fun hc => ?_)
  · refine aq rfl ?_; refine run_ret rfl ?_; refine run_res (h) rfl Tryz.func202 rfl weakSub ?_; refine hK _ _ ?_
    first | exact ⟨rfl, IsB.yes (hj.1 (by assumption))⟩ | exact ⟨rfl, IsB.no (fun e => absurd (hj.2 e) (by omega))⟩
  · refine aq rfl ?_; refine run_ret rfl ?_; refine run_res (h) rfl Tryz.func202 rfl weakSub ?_; refine hK _ _ ?_
    first | exact ⟨rfl, IsB.yes (hj.1 (by assumption))⟩ | exact ⟨rfl, IsB.no (fun e => absurd (hj.2 e) (by omega))⟩
theorem f159_c (m : Md Tryz.prog B) (h : Hp) {p : Option Addr} {n c : Nat} {xs : List Int} (rd : RdS B h 1 (.slice p n c) n (ints xs)) (hn : n ≤ 100000) {fid : Nat} {fc cp : Array Value} {pr : Nat → Prop} (hcall : callB Tryz.prog fid = true) (hf : ∀ i, i < n → ∀ H' : Hp, h.Sublist H' → FnC m fid (fc ++ [Value.int .i64 (xs.getD i 0)].toArray ++ cp) H' fun v h' => h' = H' ∧ IsB (pr i) v) : FnC m 159 #[.slice p n c, .func (.func fid) fc cp] h fun v h' => h' = h ∧ ∃ j : Int, v = .int .i64 j ∧ (0 ≤ j ↔ ∃ i, i < n ∧ pr i) := by
  refine fn_enter Tryz.func159 rfl rfl (l := (.slice p n c) :: (.func (.func fid) fc cp) :: uu17) rfl ?_
  intro cf cs K hK
  refine rs1 (by kernel_rfl) ?_; refine aq rfl ?_; refine run_seq ?_; refine rs3 (by kernel_rfl) ?_; refine mq rfl ?_; refine k_len rfl zq ?_; refine mq rfl ?_; refine k_nil ?_; refine run_block ?_; refine run_loop (fun nn l h' => ∃ (k : Nat), nn = n - k ∧ (k ≤ n) ∧ (∀ i, i < k → ¬ pr i) ∧ (∃ U : Nat → Value, l = [.slice p n c, .func (.func fid) fc cp, U 2, U 3, U 4, U 5, U 6, .int .i64 (n : Int), .int .i64 (k : Int), U 9, U 10, U 11, U 12, U 13, U 14, U 15, U 16, U 17, U 18]) ∧ h = h') _ ⟨0, rfl, by omega, fun i hi => by omega, exU rfl, rfl⟩ ?_; rintro nn l h' ⟨k, rfl, hk, he, ⟨U, rfl⟩, rfl⟩ hnext; refine rs1 (by kernel_rfl) ?_; refine k_lssS rfl zq (fun hc => ?_) (fun hc => ?_)
  · refine k_nil ?_; refine run_seq ?_; refine run_yes ?_; refine run_skip ?_; refine run_seq ?_; refine run_block ?_; refine rs2 (by kernel_rfl) ?_; refine mq rfl ?_; refine aq rfl ?_; refine rs6 (by kernel_rfl) ?_; refine mq rfl ?_; refine mq rfl ?_; refine mq rfl ?_; obtain ⟨rd_b, rd_o, rfl⟩ := rd.ptr (by omega)
    refine k_ixs rfl zq (by first | rfl | assumption) (by omega) (by omega) ?_; refine k_ld rfl zq (rd.iat k (by omega) (by omega)) ?_; refine k_valP (Post := fun v => IsB _ v) rfl zq hcall (fun H' hH => hf k (by omega) H' hH) ?_; rintro v (⟨hc, rfl⟩ | ⟨hc, rfl⟩)
    · refine k_put ?_; refine k_nil ?_; refine run_yes ?_; refine rs2 (by kernel_rfl) ?_; refine mq rfl ?_; refine aq rfl ?_; refine run_ret rfl ?_; refine run_res (h) rfl Tryz.func159 rfl weakSub ?_; refine hK _ _ ?_
      first
        | exact ⟨rfl, _, rfl, fun _ => ⟨k, by omega, hc⟩, fun _ => by omega⟩
        | (refine ⟨rfl, _, rfl, fun e => absurd e (by decide), ?_⟩; rintro ⟨i, h1, h2⟩; exact absurd h2 (he i (by omega)))
    · refine k_put ?_; refine k_nil ?_; refine run_no ?_; refine run_skip ?_; refine run_inBlock ?_; refine rr2 (by kernel_rfl) ?_; refine k_add rfl zq (by unfold In64; omega) ?_; refine mq rfl ?_; refine k_nil ?_; exact m.weak weakSub (hnext _ _ _ (by omega) ⟨k + 1, rfl, by omega, fun i hi => by
        rcases Nat.lt_or_ge i k with h1 | h1
        · exact he i h1
        · obtain rfl : i = k := by omega
          exact hc, exU rfl, rfl⟩)
  · refine k_nil ?_; refine run_seq ?_; refine run_no ?_; refine run_exit rfl ?_; refine rs1 (by kernel_rfl) ?_; refine aq rfl ?_; refine run_ret rfl ?_; refine run_res (h) rfl Tryz.func159 rfl weakSub ?_; refine hK _ _ ?_
    first
      | exact ⟨rfl, _, rfl, fun _ => ⟨k, by omega, hc⟩, fun _ => by omega⟩
      | (refine ⟨rfl, _, rfl, fun e => absurd e (by decide), ?_⟩; rintro ⟨i, h1, h2⟩; exact absurd h2 (he i (by omega)))
theorem f147_c (m : Md Tryz.prog B) (h : Hp) {p : Option Addr} {n c : Nat} {xs : List Int} (rd : RdS B h 1 (.slice p n c) n (ints xs)) (hn : n ≤ 100000) {fid : Nat} {fc cp : Array Value} {pr : Nat → Prop} (hcall : callB Tryz.prog fid = true) (hf : ∀ i, i < n → ∀ H' : Hp, h.Sublist H' → FnC m fid (fc ++ [Value.int .i64 (xs.getD i 0)].toArray ++ cp) H' fun v h' => h' = H' ∧ IsB (pr i) v) : FnC m 147 #[.slice p n c, .func (.func fid) fc cp] h fun v h' => h' = h ∧ IsB (∃ i, i < n ∧ pr i) v := by
  refine fn_enter Tryz.func147 rfl rfl (l := (.slice p n c) :: (.func (.func fid) fc cp) :: uu7) rfl ?_
  intro cf cs K hK
  refine rs1 (by kernel_rfl) ?_; refine aq rfl ?_; refine rs5 (by kernel_rfl) ?_; refine mq rfl ?_; refine mq rfl ?_; refine k_calP (Post := fun v => ∃ j : Int, v = .int .i64 j ∧ (0 ≤ j ↔ ∃ i, i < n ∧ pr i)) rfl zq (by kernel_rfl) (fun H' hH => f159_c m H' (rd.keeps (sq hH)) hn hcall (fun i hi K hK => hf i hi K (SubH.sub.trans (hH.trans hK)))) ?_; rintro v ⟨j, rfl, hj⟩; refine k_put ?_; refine k_geqS rfl zq (fun hc => ?_) (fun hc => ?_)
  · refine aq rfl ?_; refine run_ret rfl ?_; refine run_res (h) rfl Tryz.func147 rfl weakSub ?_; refine hK _ _ ?_
    first | exact ⟨rfl, IsB.yes (hj.1 (by assumption))⟩ | exact ⟨rfl, IsB.no (fun e => absurd (hj.2 e) (by omega))⟩
  · refine aq rfl ?_; refine run_ret rfl ?_; refine run_res (h) rfl Tryz.func147 rfl weakSub ?_; refine hK _ _ ?_
    first | exact ⟨rfl, IsB.yes (hj.1 (by assumption))⟩ | exact ⟨rfl, IsB.no (fun e => absurd (hj.2 e) (by omega))⟩
theorem f149_c (m : Md Tryz.prog B) (h : Hp) {p : Option Addr} {n c : Nat} {xs : List (List Int)} (rd : RdS B h 7 (.slice p n c) n (encs xs)) (hn : n ≤ 100000) {fid : Nat} {fc cp : Array Value} {pr : Nat → Prop} (hcall : callB Tryz.prog fid = true) (hf : ∀ i, i < n → ∀ H' : Hp, h.Sublist H' → FnC m fid (fc ++ [htV (xs.getD i default)].toArray ++ cp) H' fun v h' => h' = H' ∧ IsB (pr i) v) : FnC m 149 #[.slice p n c, .func (.func fid) fc cp] h fun v h' => h' = h ∧ ∃ j : Int, v = .int .i64 j ∧ (0 ≤ j ↔ ∃ i, i < n ∧ pr i) := by
  refine fn_enter Tryz.func149 rfl rfl (l := (.slice p n c) :: (.func (.func fid) fc cp) :: uu17) rfl ?_
  intro cf cs K hK
  refine rs1 (by kernel_rfl) ?_; refine aq rfl ?_; refine run_seq ?_; refine rs3 (by kernel_rfl) ?_; refine mq rfl ?_; refine k_len rfl zq ?_; refine mq rfl ?_; refine k_nil ?_; refine run_block ?_; refine run_loop (fun nn l h' => ∃ (k : Nat), nn = n - k ∧ (k ≤ n) ∧ (∀ i, i < k → ¬ pr i) ∧ (∃ U : Nat → Value, l = [.slice p n c, .func (.func fid) fc cp, U 2, U 3, U 4, U 5, U 6, .int .i64 (n : Int), .int .i64 (k : Int), U 9, U 10, U 11, U 12, U 13, U 14, U 15, U 16, U 17, U 18]) ∧ h = h') _ ⟨0, rfl, by omega, fun i hi => by omega, exU rfl, rfl⟩ ?_; rintro nn l h' ⟨k, rfl, hk, he, ⟨U, rfl⟩, rfl⟩ hnext; refine rs1 (by kernel_rfl) ?_; refine k_lssS rfl zq (fun hc => ?_) (fun hc => ?_)
  · refine k_nil ?_; refine run_seq ?_; refine run_yes ?_; refine run_skip ?_; refine run_seq ?_; refine run_block ?_; refine rs2 (by kernel_rfl) ?_; refine mq rfl ?_; refine aq rfl ?_; refine rs6 (by kernel_rfl) ?_; refine mq rfl ?_; refine mq rfl ?_; refine mq rfl ?_; obtain ⟨rd_b, rd_o, rfl⟩ := rd.ptr (by omega)
    refine k_ixs rfl zq (by first | rfl | assumption) (by omega) (by omega) ?_; refine k_ldN (vs := hts (xs.getD k default)) rfl zq (hts_length _) (rd.eat k (by omega) (by omega)) ?_; refine k_valP (Post := fun v => IsB _ v) rfl zq hcall (fun H' hH => hf k (by omega) H' hH) ?_; rintro v (⟨hc, rfl⟩ | ⟨hc, rfl⟩)
    · refine k_put ?_; refine k_nil ?_; refine run_yes ?_; refine rs2 (by kernel_rfl) ?_; refine mq rfl ?_; refine aq rfl ?_; refine run_ret rfl ?_; refine run_res (h) rfl Tryz.func149 rfl weakSub ?_; refine hK _ _ ?_
      first
        | exact ⟨rfl, _, rfl, fun _ => ⟨k, by omega, hc⟩, fun _ => by omega⟩
        | (refine ⟨rfl, _, rfl, fun e => absurd e (by decide), ?_⟩; rintro ⟨i, h1, h2⟩; exact absurd h2 (he i (by omega)))
    · refine k_put ?_; refine k_nil ?_; refine run_no ?_; refine run_skip ?_; refine run_inBlock ?_; refine rr2 (by kernel_rfl) ?_; refine k_add rfl zq (by unfold In64; omega) ?_; refine mq rfl ?_; refine k_nil ?_; exact m.weak weakSub (hnext _ _ _ (by omega) ⟨k + 1, rfl, by omega, fun i hi => by
        rcases Nat.lt_or_ge i k with h1 | h1
        · exact he i h1
        · obtain rfl : i = k := by omega
          exact hc, exU rfl, rfl⟩)
  · refine k_nil ?_; refine run_seq ?_; refine run_no ?_; refine run_exit rfl ?_; refine rs1 (by kernel_rfl) ?_; refine aq rfl ?_; refine run_ret rfl ?_; refine run_res (h) rfl Tryz.func149 rfl weakSub ?_; refine hK _ _ ?_
    first
      | exact ⟨rfl, _, rfl, fun _ => ⟨k, by omega, hc⟩, fun _ => by omega⟩
      | (refine ⟨rfl, _, rfl, fun e => absurd e (by decide), ?_⟩; rintro ⟨i, h1, h2⟩; exact absurd h2 (he i (by omega)))
theorem f103_c (m : Md Tryz.prog B) (h : Hp) {p : Option Addr} {n c : Nat} {xs : List (List Int)} (rd : RdS B h 7 (.slice p n c) n (encs xs)) (hn : n ≤ 100000) {fid : Nat} {fc cp : Array Value} {pr : Nat → Prop} (hcall : callB Tryz.prog fid = true) (hf : ∀ i, i < n → ∀ H' : Hp, h.Sublist H' → FnC m fid (fc ++ [htV (xs.getD i default)].toArray ++ cp) H' fun v h' => h' = H' ∧ IsB (pr i) v) : FnC m 103 #[.slice p n c, .func (.func fid) fc cp] h fun v h' => h' = h ∧ IsB (∃ i, i < n ∧ pr i) v := by
  refine fn_enter Tryz.func103 rfl rfl (l := (.slice p n c) :: (.func (.func fid) fc cp) :: uu7) rfl ?_
  intro cf cs K hK
  refine rs1 (by kernel_rfl) ?_; refine aq rfl ?_; refine rs5 (by kernel_rfl) ?_; refine mq rfl ?_; refine mq rfl ?_; refine k_calP (Post := fun v => ∃ j : Int, v = .int .i64 j ∧ (0 ≤ j ↔ ∃ i, i < n ∧ pr i)) rfl zq (by kernel_rfl) (fun H' hH => f149_c m H' (rd.keeps (sq hH)) hn hcall (fun i hi K hK => hf i hi K (SubH.sub.trans (hH.trans hK)))) ?_; rintro v ⟨j, rfl, hj⟩; refine k_put ?_; refine k_geqS rfl zq (fun hc => ?_) (fun hc => ?_)
  · refine aq rfl ?_; refine run_ret rfl ?_; refine run_res (h) rfl Tryz.func103 rfl weakSub ?_; refine hK _ _ ?_
    first | exact ⟨rfl, IsB.yes (hj.1 (by assumption))⟩ | exact ⟨rfl, IsB.no (fun e => absurd (hj.2 e) (by omega))⟩
  · refine aq rfl ?_; refine run_ret rfl ?_; refine run_res (h) rfl Tryz.func103 rfl weakSub ?_; refine hK _ _ ?_
    first | exact ⟨rfl, IsB.yes (hj.1 (by assumption))⟩ | exact ⟨rfl, IsB.no (fun e => absurd (hj.2 e) (by omega))⟩
theorem f175_c (m : Md Tryz.prog B) (h : Hp) {p : Option Addr} {n c : Nat} {xs : List Ru} (rd : RdS B h 4 (.slice p n c) n (encs xs)) (hn : n ≤ 100000) {fid : Nat} {fc cp : Array Value} {pr : Nat → Prop} (hcall : callB Tryz.prog fid = true) (hf : ∀ i, i < n → ∀ H' : Hp, h.Sublist H' → FnC m fid (fc ++ [ruV (xs.getD i default)].toArray ++ cp) H' fun v h' => h' = H' ∧ IsB (pr i) v) : FnC m 175 #[.slice p n c, .func (.func fid) fc cp] h fun v h' => h' = h ∧ ∃ j : Int, v = .int .i64 j ∧ (0 ≤ j ↔ ∃ i, i < n ∧ pr i) := by
  refine fn_enter Tryz.func175 rfl rfl (l := (.slice p n c) :: (.func (.func fid) fc cp) :: uu17) rfl ?_
  intro cf cs K hK
  refine rs1 (by kernel_rfl) ?_; refine aq rfl ?_; refine run_seq ?_; refine rs3 (by kernel_rfl) ?_; refine mq rfl ?_; refine k_len rfl zq ?_; refine mq rfl ?_; refine k_nil ?_; refine run_block ?_; refine run_loop (fun nn l h' => ∃ (k : Nat), nn = n - k ∧ (k ≤ n) ∧ (∀ i, i < k → ¬ pr i) ∧ (∃ U : Nat → Value, l = [.slice p n c, .func (.func fid) fc cp, U 2, U 3, U 4, U 5, U 6, .int .i64 (n : Int), .int .i64 (k : Int), U 9, U 10, U 11, U 12, U 13, U 14, U 15, U 16, U 17, U 18]) ∧ h = h') _ ⟨0, rfl, by omega, fun i hi => by omega, exU rfl, rfl⟩ ?_; rintro nn l h' ⟨k, rfl, hk, he, ⟨U, rfl⟩, rfl⟩ hnext; refine rs1 (by kernel_rfl) ?_; refine k_lssS rfl zq (fun hc => ?_) (fun hc => ?_)
  · refine k_nil ?_; refine run_seq ?_; refine run_yes ?_; refine run_skip ?_; refine run_seq ?_; refine run_block ?_; refine rs2 (by kernel_rfl) ?_; refine mq rfl ?_; refine aq rfl ?_; refine rs6 (by kernel_rfl) ?_; refine mq rfl ?_; refine mq rfl ?_; refine mq rfl ?_; obtain ⟨rd_b, rd_o, rfl⟩ := rd.ptr (by omega)
    refine k_ixs rfl zq (by first | rfl | assumption) (by omega) (by omega) ?_; refine k_ldN (vs := ruL (xs.getD k default)) rfl zq rfl (rd.eat k (by omega) (by omega)) ?_; refine k_valP (Post := fun v => IsB _ v) rfl zq hcall (fun H' hH => hf k (by omega) H' hH) ?_; rintro v (⟨hc, rfl⟩ | ⟨hc, rfl⟩)
    · refine k_put ?_; refine k_nil ?_; refine run_yes ?_; refine rs2 (by kernel_rfl) ?_; refine mq rfl ?_; refine aq rfl ?_; refine run_ret rfl ?_; refine run_res (h) rfl Tryz.func175 rfl weakSub ?_; refine hK _ _ ?_
      first
        | exact ⟨rfl, _, rfl, fun _ => ⟨k, by omega, hc⟩, fun _ => by omega⟩
        | (refine ⟨rfl, _, rfl, fun e => absurd e (by decide), ?_⟩; rintro ⟨i, h1, h2⟩; exact absurd h2 (he i (by omega)))
    · refine k_put ?_; refine k_nil ?_; refine run_no ?_; refine run_skip ?_; refine run_inBlock ?_; refine rr2 (by kernel_rfl) ?_; refine k_add rfl zq (by unfold In64; omega) ?_; refine mq rfl ?_; refine k_nil ?_; exact m.weak weakSub (hnext _ _ _ (by omega) ⟨k + 1, rfl, by omega, fun i hi => by
        rcases Nat.lt_or_ge i k with h1 | h1
        · exact he i h1
        · obtain rfl : i = k := by omega
          exact hc, exU rfl, rfl⟩)
  · refine k_nil ?_; refine run_seq ?_; refine run_no ?_; refine run_exit rfl ?_; refine rs1 (by kernel_rfl) ?_; refine aq rfl ?_; refine run_ret rfl ?_; refine run_res (h) rfl Tryz.func175 rfl weakSub ?_; refine hK _ _ ?_
    first
      | exact ⟨rfl, _, rfl, fun _ => ⟨k, by omega, hc⟩, fun _ => by omega⟩
      | (refine ⟨rfl, _, rfl, fun e => absurd e (by decide), ?_⟩; rintro ⟨i, h1, h2⟩; exact absurd h2 (he i (by omega)))
theorem f161_c (m : Md Tryz.prog B) (h : Hp) {p : Option Addr} {n c : Nat} {xs : List Ru} (rd : RdS B h 4 (.slice p n c) n (encs xs)) (hn : n ≤ 100000) {fid : Nat} {fc cp : Array Value} {pr : Nat → Prop} (hcall : callB Tryz.prog fid = true) (hf : ∀ i, i < n → ∀ H' : Hp, h.Sublist H' → FnC m fid (fc ++ [ruV (xs.getD i default)].toArray ++ cp) H' fun v h' => h' = H' ∧ IsB (pr i) v) : FnC m 161 #[.slice p n c, .func (.func fid) fc cp] h fun v h' => h' = h ∧ IsB (∃ i, i < n ∧ pr i) v := by
  refine fn_enter Tryz.func161 rfl rfl (l := (.slice p n c) :: (.func (.func fid) fc cp) :: uu7) rfl ?_
  intro cf cs K hK
  refine rs1 (by kernel_rfl) ?_; refine aq rfl ?_; refine rs5 (by kernel_rfl) ?_; refine mq rfl ?_; refine mq rfl ?_; refine k_calP (Post := fun v => ∃ j : Int, v = .int .i64 j ∧ (0 ≤ j ↔ ∃ i, i < n ∧ pr i)) rfl zq (by kernel_rfl) (fun H' hH => f175_c m H' (rd.keeps (sq hH)) hn hcall (fun i hi K hK => hf i hi K (SubH.sub.trans (hH.trans hK)))) ?_; rintro v ⟨j, rfl, hj⟩; refine k_put ?_; refine k_geqS rfl zq (fun hc => ?_) (fun hc => ?_)
  · refine aq rfl ?_; refine run_ret rfl ?_; refine run_res (h) rfl Tryz.func161 rfl weakSub ?_; refine hK _ _ ?_
    first | exact ⟨rfl, IsB.yes (hj.1 (by assumption))⟩ | exact ⟨rfl, IsB.no (fun e => absurd (hj.2 e) (by omega))⟩
  · refine aq rfl ?_; refine run_ret rfl ?_; refine run_res (h) rfl Tryz.func161 rfl weakSub ?_; refine hK _ _ ?_
    first | exact ⟨rfl, IsB.yes (hj.1 (by assumption))⟩ | exact ⟨rfl, IsB.no (fun e => absurd (hj.2 e) (by omega))⟩
theorem f203_c (m : Md Tryz.prog B) (h : Hp) (x : Sp) : FnC m 203 #[spV x] h fun v h' => h' = h ∧ IsB (¬ okM x) v := by
  refine fn_enter Tryz.func203 rfl rfl (l := [spV x, undef, undef, undef, undef, undef]) rfl ?_
  intro cf cs K hK
  refine rs2 (by kernel_rfl) ?_; refine k_box rfl zq (fun q1 => k_hp (k_put ?_)); refine aq rfl ?_; refine rs4 (by kernel_rfl) ?_; refine k_ldA rfl zq ?_; refine k_calP (Post := fun v => IsB _ v) rfl zq (by kernel_rfl) (fun H' hH => f140_c m H' _ _ _ _ _ (by decide) (by decide)) ?_; rintro v (⟨hc, rfl⟩ | ⟨hc, rfl⟩)
  · refine k_put ?_; refine k_notT rfl zq ?_; refine aq rfl ?_; refine run_ret rfl ?_; refine run_res (h) rfl Tryz.func203 rfl weakSub ?_; refine hK _ _ ?_
    first | exact ⟨rfl, IsB.yes (by unfold okM; omega)⟩ | exact ⟨rfl, IsB.no (by unfold okM; omega)⟩
  · refine k_put ?_; refine k_notF rfl zq ?_; refine aq rfl ?_; refine run_ret rfl ?_; refine run_res (h) rfl Tryz.func203 rfl weakSub ?_; refine hK _ _ ?_
    first | exact ⟨rfl, IsB.yes (by unfold okM; omega)⟩ | exact ⟨rfl, IsB.no (by unfold okM; omega)⟩
theorem f158_c (m : Md Tryz.prog B) (h : Hp) (x : Int) : FnC m 158 #[.int .i64 x] h fun v h' => h' = h ∧ IsB (¬ (0 ≤ x ∧ x ≤ 959)) v := by
  refine fn_enter Tryz.func158 rfl rfl (l := [.int .i64 x, undef, undef, undef, undef, undef]) rfl ?_
  intro cf cs K hK
  refine rs1 (by kernel_rfl) ?_; refine aq rfl ?_; refine rs4 (by kernel_rfl) ?_; refine mq rfl ?_; refine k_calP (Post := fun v => IsB _ v) rfl zq (by kernel_rfl) (fun H' hH => f117_c m H' _ _ _) ?_; rintro v (⟨hc, rfl⟩ | ⟨hc, rfl⟩)
  · refine k_put ?_; refine k_notT rfl zq ?_; refine aq rfl ?_; refine run_ret rfl ?_; refine run_res (h) rfl Tryz.func158 rfl weakSub ?_; refine hK _ _ ?_
    first | exact ⟨rfl, IsB.yes (by omega)⟩ | exact ⟨rfl, IsB.no (by omega)⟩
  · refine k_put ?_; refine k_notF rfl zq ?_; refine aq rfl ?_; refine run_ret rfl ?_; refine run_res (h) rfl Tryz.func158 rfl weakSub ?_; refine hK _ _ ?_
    first | exact ⟨rfl, IsB.yes (by omega)⟩ | exact ⟨rfl, IsB.no (by omega)⟩
theorem f199_c (m : Md Tryz.prog B) (h : Hp) {b : Bk} {pm : Option Addr} {nm cm : Nat} {pr : Option Addr} {nr cr : Nat} : FnC m 199 #[bkV b pm nm cm pr nr cr] h fun v h' => h' = h ∧ v = .int .i64 (if ¬ (0 ≤ b.bend ∧ b.bend ≤ 99) ∨ ¬ (0 ≤ b.twist ∧ b.twist ≤ 99) ∨ ¬ (0 ≤ b.turns ∧ b.turns ≤ 5) then 1 else 0) := by
  refine fn_enter Tryz.func199 rfl rfl (l := (bkV b pm nm cm pr nr cr) :: uu21) rfl ?_
  intro cf cs K hK
  refine rs2 (by kernel_rfl) ?_; refine k_box rfl zq (fun q1 => k_hp (k_put ?_)); refine aq rfl ?_; refine run_seq ?_; refine run_seq ?_; refine run_region [(0, .free), (1, .free), (2, .free), (3, .free), (4, .free), (5, .free), (6, .free), (7, .free), (8, .free), (9, .free), (10, .free), (11, .free), (12, .free), (13, .free), (14, .free), (15, .free), (16, .free), (17, .free), (18, .free)] (by kernel_rfl) (by kernel_rfl) ?_; first | refine k_fa0 rfl zq ?_ | refine k_fa rfl zq ?_
  first | refine k_fa0 rfl zq ?_ | refine k_fa rfl zq ?_
  refine k_ldh rfl zq ?_; refine k_calP (Post := fun v => IsB _ v) rfl zq (by kernel_rfl) (fun H' hH => f117_c m H' _ _ _) ?_; rintro v (⟨hc, rfl⟩ | ⟨hc, rfl⟩)
  · refine k_put ?_; refine k_notT rfl zq ?_; refine mq rfl ?_; first | refine k_fa0 rfl rfl ?_ | refine k_fa rfl rfl ?_
    first | refine k_fa0 rfl rfl ?_ | refine k_fa rfl rfl ?_
    refine k_ldh rfl rfl ?_; refine k_calP (Post := fun v => IsB _ v) rfl rfl (by kernel_rfl) (fun H' hH => f117_c m H' _ _ _) ?_; rintro v (⟨hc, rfl⟩ | ⟨hc, rfl⟩)
    · refine k_put ?_; refine k_notT rfl rfl ?_; refine k_pickF rfl zq ?_; refine mq rfl ?_; first | refine k_fa0 rfl rfl ?_ | refine k_fa rfl rfl ?_
      first | refine k_fa0 rfl rfl ?_ | refine k_fa rfl rfl ?_
      refine k_ldh rfl rfl ?_; refine k_calP (Post := fun v => IsB _ v) rfl rfl (by kernel_rfl) (fun H' hH => f117_c m H' _ _ _) ?_; rintro v (⟨hc, rfl⟩ | ⟨hc, rfl⟩)
      · refine k_put ?_; refine k_notT rfl rfl ?_; refine k_pickF rfl zq ?_; refine k_nil ?_; refine run_no ?_; refine run_skip ?_; refine rs1 (by kernel_rfl) ?_; refine aq rfl ?_; refine run_ret rfl ?_; refine run_res (h) rfl Tryz.func199 rfl weakSub ?_; refine hK _ _ ?_
        refine ⟨rfl, ?_⟩
        first | (rw [if_pos (by omega)]; done) | (rw [if_neg (by omega)]; done)
      · refine k_put ?_; refine k_notF rfl rfl ?_; refine k_pickF rfl zq ?_; refine k_nil ?_; refine run_yes ?_; refine rs1 (by kernel_rfl) ?_; refine aq rfl ?_; refine run_ret rfl ?_; refine run_res (h) rfl Tryz.func199 rfl weakSub ?_; refine hK _ _ ?_
        refine ⟨rfl, ?_⟩
        first | (rw [if_pos (by omega)]; done) | (rw [if_neg (by omega)]; done)
    · refine k_put ?_; refine k_notF rfl rfl ?_; refine k_pickF rfl zq ?_; refine mq rfl ?_; refine k_off rfl rfl ?_; refine k_off rfl rfl ?_; refine k_off rfl rfl ?_; refine k_off rfl rfl ?_; refine k_off rfl rfl ?_; refine k_pickT rfl zq ?_; refine k_nil ?_; refine run_yes ?_; refine rs1 (by kernel_rfl) ?_; refine aq rfl ?_; refine run_ret rfl ?_; refine run_res (h) rfl Tryz.func199 rfl weakSub ?_; refine hK _ _ ?_
      refine ⟨rfl, ?_⟩
      first | (rw [if_pos (by omega)]; done) | (rw [if_neg (by omega)]; done)
  · refine k_put ?_; refine k_notF rfl zq ?_; refine mq rfl ?_; refine k_off rfl rfl ?_; refine k_off rfl rfl ?_; refine k_off rfl rfl ?_; refine k_off rfl rfl ?_; refine k_off rfl rfl ?_; refine k_pickT rfl zq ?_; refine mq rfl ?_; refine k_off rfl rfl ?_; refine k_off rfl rfl ?_; refine k_off rfl rfl ?_; refine k_off rfl rfl ?_; refine k_off rfl rfl ?_; refine k_pickT rfl zq ?_; refine k_nil ?_; refine run_yes ?_; refine rs1 (by kernel_rfl) ?_; refine aq rfl ?_; refine run_ret rfl ?_; refine run_res (h) rfl Tryz.func199 rfl weakSub ?_; refine hK _ _ ?_
    refine ⟨rfl, ?_⟩
    first | (rw [if_pos (by omega)]; done) | (rw [if_neg (by omega)]; done)
theorem f200_c (m : Md Tryz.prog B) (h : Hp) {b : Bk} {pm : Option Addr} {nm cm : Nat} {pr : Option Addr} {nr cr : Nat} (rdm : RdS B h 2 (.slice pm nm cm) nm (encs b.marks)) (hm : nm ≤ 1000) : FnC m 200 #[bkV b pm nm cm pr nr cr] h fun v h' => h' = h ∧ v = .int .i64 (marksS b.marks) := by
  have hml := rdm.elen (by decide)
  refine fn_enter Tryz.func200 rfl rfl (l := (bkV b pm nm cm pr nr cr) :: uu12) rfl ?_
  intro cf cs K hK
  refine rs2 (by kernel_rfl) ?_; refine k_box rfl zq (fun q1 => k_hp (k_put ?_)); refine aq rfl ?_; refine run_seq ?_; refine run_block ?_; refine rs5 (by kernel_rfl) ?_; refine k_ldA rfl zq ?_; refine k_calP (Post := fun v => v = _) rfl zq (by kernel_rfl) (fun H' hH => f118_c m H' _ _ _ _ _ _ _ _ _) ?_; rintro v rfl; refine k_put ?_; refine k_calP (Post := fun v => IsB _ v) rfl zq (by kernel_rfl) (fun H' hH => f117_c m H' _ _ _) ?_; rintro v (⟨hc, rfl⟩ | ⟨hc, rfl⟩)
  · refine k_put ?_; refine k_notT rfl zq ?_; refine aq rfl ?_; refine run_no ?_; refine rs5 (by kernel_rfl) ?_; first | refine k_fa0 rfl zq ?_ | refine k_fa rfl zq ?_
    first | refine k_fa0 rfl zq ?_ | refine k_fa rfl zq ?_
    refine k_ldh rfl zq ?_; refine k_calP (Post := fun v => IsB _ v) rfl zq (by kernel_rfl) (fun H' hH => f202_c m H' (pr := fun i => ¬ okM (b.marks.getD i default)) (rdm.keeps (sq hH)) (by omega) (by kernel_rfl) (fun i hi K hK => f203_c m K _)) ?_; rintro v (⟨hc, rfl⟩ | ⟨hc, rfl⟩)
    · refine k_put ?_; refine aq rfl ?_; refine run_yes ?_; refine rs1 (by kernel_rfl) ?_; refine aq rfl ?_; refine run_ret rfl ?_; refine run_res (h) rfl Tryz.func200 rfl weakSub ?_; refine hK _ _ ?_
      refine ⟨rfl, ?_⟩
      first
        | (rw [marksS, if_pos (by omega)]; done)
        | (rw [marksS, if_neg (by omega), if_neg (fun e => by obtain ⟨i, h1, h2⟩ := hc; exact h2 (e _ (mem_getDR.2 ⟨i, by omega, rfl⟩)))]; done)
        | (rw [marksS, if_neg (by omega), if_pos (fun x hx => by obtain ⟨i, h1, rfl⟩ := mem_getDR.1 hx; exact Classical.byContradiction fun e => hc ⟨i, by omega, e⟩)]; done)
    · refine k_put ?_; refine aq rfl ?_; refine run_no ?_; refine run_skip ?_; refine run_inBlock ?_; refine rs1 (by kernel_rfl) ?_; refine aq rfl ?_; refine run_ret rfl ?_; refine run_res (h) rfl Tryz.func200 rfl weakSub ?_; refine hK _ _ ?_
      refine ⟨rfl, ?_⟩
      first
        | (rw [marksS, if_pos (by omega)]; done)
        | (rw [marksS, if_neg (by omega), if_neg (fun e => by obtain ⟨i, h1, h2⟩ := hc; exact h2 (e _ (mem_getDR.2 ⟨i, by omega, rfl⟩)))]; done)
        | (rw [marksS, if_neg (by omega), if_pos (fun x hx => by obtain ⟨i, h1, rfl⟩ := mem_getDR.1 hx; exact Classical.byContradiction fun e => hc ⟨i, by omega, e⟩)]; done)
  · refine k_put ?_; refine k_notF rfl zq ?_; refine aq rfl ?_; refine run_yes ?_; refine rs1 (by kernel_rfl) ?_; refine aq rfl ?_; refine run_ret rfl ?_; refine run_res (h) rfl Tryz.func200 rfl weakSub ?_; refine hK _ _ ?_
    refine ⟨rfl, ?_⟩
    first
      | (rw [marksS, if_pos (by omega)]; done)
      | (rw [marksS, if_neg (by omega), if_neg (fun e => by obtain ⟨i, h1, h2⟩ := hc; exact h2 (e _ (mem_getDR.2 ⟨i, by omega, rfl⟩)))]; done)
      | (rw [marksS, if_neg (by omega), if_pos (fun x hx => by obtain ⟨i, h1, rfl⟩ := mem_getDR.1 hx; exact Classical.byContradiction fun e => hc ⟨i, by omega, e⟩)]; done)
theorem f201_c (m : Md Tryz.prog B) (h : Hp) {b : Bk} {pm : Option Addr} {nm cm : Nat} {pr : Option Addr} {nr cr : Nat} (rdm : RdS B h 2 (.slice pm nm cm) nm (encs b.marks)) (hm : nm ≤ 1000) (rdr : RdS B h 4 (.slice pr nr cr) nr (encs b.rules)) (hr : nr ≤ 1000) : FnC m 201 #[bkV b pm nm cm pr nr cr] h fun v h' => h' = h ∧ v = .int .i64 (rulesS b.marks.length b.rules) := by
  have hml := rdm.elen (by decide)
  have hrl := rdr.elen (by decide)
  refine fn_enter Tryz.func201 rfl rfl (l := (bkV b pm nm cm pr nr cr) :: uu42) rfl ?_
  intro cf cs K hK
  refine rs2 (by kernel_rfl) ?_; refine k_box rfl zq (fun q1 => k_hp (k_put ?_)); refine aq rfl ?_; refine run_seq ?_; refine rs5 (by kernel_rfl) ?_; first | refine k_fa0 rfl zq ?_ | refine k_fa rfl zq ?_
  first | refine k_fa0 rfl zq ?_ | refine k_fa rfl zq ?_
  refine k_ldh rfl zq ?_; refine k_len rfl zq ?_; refine k_gtrS rfl zq (fun hc => ?_) (fun hc => ?_)
  · refine k_nil ?_; refine run_yes ?_; refine rs1 (by kernel_rfl) ?_; refine aq rfl ?_; refine run_ret rfl ?_; refine run_res (h) rfl Tryz.func201 rfl weakSub ?_; refine hK _ _ ?_
    refine ⟨rfl, ?_⟩
    first
      | (rw [rulesS, if_pos (by omega)]; done)
      | (rw [rulesS, if_neg (by omega), he, List.drop_eq_nil_of_le (by omega)]; rfl)
      | (rw [rulesS, if_neg (by omega), he, getD_dropR b.rules k (by omega), rules1, if_pos (by omega)]; done)
      | (rw [rulesS, if_neg (by omega), he, getD_dropR b.rules k (by omega), rules1, if_neg (by omega), if_pos (by omega)]; done)
      | (rw [rulesS, if_neg (by omega), he, getD_dropR b.rules k (by omega), rules1, if_neg (by omega), if_neg (by omega), if_pos (by omega)]; done)
  · refine k_nil ?_; refine run_no ?_; refine run_skip ?_; refine run_seq ?_; refine rs5 (by kernel_rfl) ?_; first | refine k_fa0 rfl zq ?_ | refine k_fa rfl zq ?_
    first | refine k_fa0 rfl zq ?_ | refine k_fa rfl zq ?_
    refine k_ldh rfl zq ?_; refine k_len rfl zq ?_; refine mq rfl ?_; refine k_nil ?_; refine run_block ?_; refine run_loop (fun nn l h' => ∃ (k : Nat), nn = nr - k ∧ (k ≤ nr) ∧ (rules1 b.marks.length b.rules = rules1 b.marks.length (b.rules.drop k)) ∧ (∃ U : Nat → Value, l = [bkV b pm nm cm pr nr cr, .pointer (some ⟨q1, 0, none⟩), U 2, U 3, U 4, U 5, U 6, U 7, U 8, U 9, U 10, U 11, .slice pr nr cr, .int .i64 (nr : Int), .int .i64 (k : Int), U 15, U 16, U 17, U 18, U 19, U 20, U 21, U 22, U 23, U 24, U 25, U 26, U 27, U 28, U 29, U 30, U 31, U 32, U 33, U 34, U 35, U 36, U 37, U 38, U 39, U 40, U 41, U 42]) ∧ h ++ [⟨true, q1, .cells (bkL b pm nm cm pr nr cr).toArray 109 (0, 0)⟩] = h') _ ⟨0, rfl, by omega, rfl, exU rfl, rfl⟩ ?_; rintro nn l h' ⟨k, rfl, hk, he, ⟨U, rfl⟩, rfl⟩ hnext; refine rs1 (by kernel_rfl) ?_; refine k_lssS rfl zq (fun hc => ?_) (fun hc => ?_)
    · refine k_nil ?_; refine run_seq ?_; refine run_yes ?_; refine run_skip ?_; refine run_seq ?_; refine run_block ?_; refine rs4 (by kernel_rfl) ?_; obtain ⟨rdr_b, rdr_o, rfl⟩ := rdr.ptr (by omega)
      refine k_ixs rfl zq (by first | rfl | assumption) (by omega) (by omega) ?_; refine k_ldN (vs := [.int .i64 (b.rules.getD k default).a, .int .i64 (b.rules.getD k default).b, .int .i64 (b.rules.getD k default).lo, .int .i64 (b.rules.getD k default).hi]) rfl zq rfl (rdr.eat k (by omega) (by omega)) ?_; refine k_new rfl zq (fun q4 => k_hp (k_put ?_)); refine k_stA rfl zq rfl ?_; refine k_nil ?_; refine run_block ?_; refine run_seq ?_; refine run_region [(0, .free), (1, .free), (2, .free), (3, .free), (4, .free), (5, .free), (6, .free), (7, .free), (8, .free), (9, .free), (10, .free), (11, .free), (12, .free)] (by kernel_rfl) (by kernel_rfl) ?_; refine k_ldA rfl zq ?_; first | refine k_fa0 rfl zq ?_ | refine k_fa rfl zq ?_
      refine k_ldh rfl zq ?_; refine k_calP (Post := fun v => v = _) rfl zq (by kernel_rfl) (fun H' hH => f109_c m H' _ _ _ _ _ _ _ _ _ _ (by omega)) ?_; rintro v rfl; refine k_put ?_; refine k_neqS rfl zq (fun hc => ?_) (fun hc => ?_)
      · replace hc := st_ne hc
        refine mq rfl ?_; refine k_off rfl rfl ?_; refine k_off rfl rfl ?_; refine k_off rfl rfl ?_; refine k_off rfl rfl ?_; refine k_off rfl rfl ?_; refine k_pickT rfl zq ?_; refine aq rfl ?_; refine run_yes ?_; refine rs1 (by kernel_rfl) ?_; refine aq rfl ?_; refine run_ret rfl ?_; refine run_res (h) rfl Tryz.func201 rfl weakSub ?_; refine hK _ _ ?_
        refine ⟨rfl, ?_⟩
        first
          | (rw [rulesS, if_pos (by omega)]; done)
          | (rw [rulesS, if_neg (by omega), he, List.drop_eq_nil_of_le (by omega)]; rfl)
          | (rw [rulesS, if_neg (by omega), he, getD_dropR b.rules k (by omega), rules1, if_pos (by omega)]; done)
          | (rw [rulesS, if_neg (by omega), he, getD_dropR b.rules k (by omega), rules1, if_neg (by omega), if_pos (by omega)]; done)
          | (rw [rulesS, if_neg (by omega), he, getD_dropR b.rules k (by omega), rules1, if_neg (by omega), if_neg (by omega), if_pos (by omega)]; done)
      · replace hc := st_eq hc
        refine mq rfl ?_; refine k_ldA rfl rfl ?_; first | refine k_fa0 rfl rfl ?_ | refine k_fa rfl rfl ?_
        refine k_ldh rfl rfl ?_; refine k_calP (Post := fun v => v = _) rfl rfl (by kernel_rfl) (fun H' hH => f109_c m H' _ _ _ _ _ _ _ _ _ _ (by omega)) ?_; rintro v rfl; refine k_put ?_; refine k_neqS rfl rfl (fun hc => ?_) (fun hc => ?_)
        · replace hc := st_ne hc
          refine k_pickF rfl zq ?_; refine aq rfl ?_; refine run_yes ?_; refine rs1 (by kernel_rfl) ?_; refine aq rfl ?_; refine run_ret rfl ?_; refine run_res (h) rfl Tryz.func201 rfl weakSub ?_; refine hK _ _ ?_
          refine ⟨rfl, ?_⟩
          first
            | (rw [rulesS, if_pos (by omega)]; done)
            | (rw [rulesS, if_neg (by omega), he, List.drop_eq_nil_of_le (by omega)]; rfl)
            | (rw [rulesS, if_neg (by omega), he, getD_dropR b.rules k (by omega), rules1, if_pos (by omega)]; done)
            | (rw [rulesS, if_neg (by omega), he, getD_dropR b.rules k (by omega), rules1, if_neg (by omega), if_pos (by omega)]; done)
            | (rw [rulesS, if_neg (by omega), he, getD_dropR b.rules k (by omega), rules1, if_neg (by omega), if_neg (by omega), if_pos (by omega)]; done)
        · replace hc := st_eq hc
          refine k_pickF rfl zq ?_; refine aq rfl ?_; refine run_no ?_; refine rs6 (by kernel_rfl) ?_; first | refine k_fa0 rfl zq ?_ | refine k_fa rfl zq ?_
          refine k_ldh rfl zq ?_; first | refine k_fa0 rfl zq ?_ | refine k_fa rfl zq ?_
          refine k_ldh rfl zq ?_; refine k_geqS rfl zq (fun hc => ?_) (fun hc => ?_)
          · refine aq rfl ?_; refine run_yes ?_; refine rs1 (by kernel_rfl) ?_; refine aq rfl ?_; refine run_ret rfl ?_; refine run_res (h) rfl Tryz.func201 rfl weakSub ?_; refine hK _ _ ?_
            refine ⟨rfl, ?_⟩
            first
              | (rw [rulesS, if_pos (by omega)]; done)
              | (rw [rulesS, if_neg (by omega), he, List.drop_eq_nil_of_le (by omega)]; rfl)
              | (rw [rulesS, if_neg (by omega), he, getD_dropR b.rules k (by omega), rules1, if_pos (by omega)]; done)
              | (rw [rulesS, if_neg (by omega), he, getD_dropR b.rules k (by omega), rules1, if_neg (by omega), if_pos (by omega)]; done)
              | (rw [rulesS, if_neg (by omega), he, getD_dropR b.rules k (by omega), rules1, if_neg (by omega), if_neg (by omega), if_pos (by omega)]; done)
          · refine aq rfl ?_; refine run_no ?_; refine rs5 (by kernel_rfl) ?_; first | refine k_fa0 rfl zq ?_ | refine k_fa rfl zq ?_
            refine k_ldA rfl zq ?_; refine k_calP (Post := fun v => IsB _ v) rfl zq (by kernel_rfl) (fun H' hH => f140_c m H' _ _ _ _ _ (by decide) (by decide)) ?_; rintro v (⟨hc, rfl⟩ | ⟨hc, rfl⟩)
            · refine k_put ?_; refine k_notT rfl zq ?_; refine aq rfl ?_; refine run_no ?_; refine run_skip ?_; refine run_inBlock ?_; refine run_inBlock ?_; refine rr2 (by kernel_rfl) ?_; refine k_add rfl zq (by unfold In64; omega) ?_; refine mq rfl ?_; refine k_nil ?_; exact m.weak weakSub (hnext _ _ _ (by omega) ⟨k + 1, rfl, by omega, by rw [he, getD_dropR b.rules k (by omega), rules1, if_neg (by omega), if_neg (by omega), if_neg (by omega)], exU rfl, rfl⟩)
            · refine k_put ?_; refine k_notF rfl zq ?_; refine aq rfl ?_; refine run_yes ?_; refine rs1 (by kernel_rfl) ?_; refine aq rfl ?_; refine run_ret rfl ?_; refine run_res (h) rfl Tryz.func201 rfl weakSub ?_; refine hK _ _ ?_
              refine ⟨rfl, ?_⟩
              first
                | (rw [rulesS, if_pos (by omega)]; done)
                | (rw [rulesS, if_neg (by omega), he, List.drop_eq_nil_of_le (by omega)]; rfl)
                | (rw [rulesS, if_neg (by omega), he, getD_dropR b.rules k (by omega), rules1, if_pos (by omega)]; done)
                | (rw [rulesS, if_neg (by omega), he, getD_dropR b.rules k (by omega), rules1, if_neg (by omega), if_pos (by omega)]; done)
                | (rw [rulesS, if_neg (by omega), he, getD_dropR b.rules k (by omega), rules1, if_neg (by omega), if_neg (by omega), if_pos (by omega)]; done)
    · refine k_nil ?_; refine run_seq ?_; refine run_no ?_; refine run_exit rfl ?_; refine rs1 (by kernel_rfl) ?_; refine aq rfl ?_; refine run_ret rfl ?_; refine run_res (h) rfl Tryz.func201 rfl weakSub ?_; refine hK _ _ ?_
      refine ⟨rfl, ?_⟩
      first
        | (rw [rulesS, if_pos (by omega)]; done)
        | (rw [rulesS, if_neg (by omega), he, List.drop_eq_nil_of_le (by omega)]; rfl)
        | (rw [rulesS, if_neg (by omega), he, getD_dropR b.rules k (by omega), rules1, if_pos (by omega)]; done)
        | (rw [rulesS, if_neg (by omega), he, getD_dropR b.rules k (by omega), rules1, if_neg (by omega), if_pos (by omega)]; done)
        | (rw [rulesS, if_neg (by omega), he, getD_dropR b.rules k (by omega), rules1, if_neg (by omega), if_neg (by omega), if_pos (by omega)]; done)
end Go.Proofs
namespace Go.Proofs
open Go.Lo
open Go.Conc (G)
set_option maxRecDepth 100000
set_option synthInstance.maxSize 100000
set_option synthInstance.maxHeartbeats 1000000
set_option maxHeartbeats 4000000
variable {B : Array Obj}
variable [Laid B]
def chkS (b : Bk) (k : Nat) : Int := if k = 0 then (if ¬ (0 ≤ b.bend ∧ b.bend ≤ 99) ∨ ¬ (0 ≤ b.twist ∧ b.twist ≤ 99) ∨ ¬ (0 ≤ b.turns ∧ b.turns ≤ 5) then 1 else 0) else if k = 1 then marksS b.marks else rulesS b.marks.length b.rules
theorem chk_book {b : Bk} {k : Nat} (hk : k < 3) (h : ∀ i, i < k → chkS b i = 0) (hs : chkS b k ≠ 0) : bookS b = chkS b k := by
  unfold bookS
  rcases (by omega : k = 0 ∨ k = 1 ∨ k = 2) with rfl | rfl | rfl
  · simp only [chkS, if_true] at hs ⊢
    by_cases e : ¬ (0 ≤ b.bend ∧ b.bend ≤ 99) ∨ ¬ (0 ≤ b.twist ∧ b.twist ≤ 99) ∨ ¬ (0 ≤ b.turns ∧ b.turns ≤ 5)
    · rw [if_pos e, if_pos e]
    · rw [if_neg e] at hs; exact absurd rfl hs
  · have h0 := h 0 (by omega)
    simp only [chkS, if_true] at h0
    have hs' : marksS b.marks ≠ 0 := hs
    by_cases e : ¬ (0 ≤ b.bend ∧ b.bend ≤ 99) ∨ ¬ (0 ≤ b.twist ∧ b.twist ≤ 99) ∨ ¬ (0 ≤ b.turns ∧ b.turns ≤ 5)
    · rw [if_pos e] at h0; cases h0
    · rw [if_neg e, if_pos hs']; rfl
  · have h0 := h 0 (by omega)
    simp only [chkS, if_true] at h0
    have h1 : marksS b.marks = 0 := h 1 (by omega)
    by_cases e : ¬ (0 ≤ b.bend ∧ b.bend ≤ 99) ∨ ¬ (0 ≤ b.twist ∧ b.twist ≤ 99) ∨ ¬ (0 ≤ b.turns ∧ b.turns ≤ 5)
    · rw [if_pos e] at h0; cases h0
    · rw [if_neg e, if_neg (by omega)]; rfl
theorem chk_clear {b : Bk} (h : ∀ i, i < 3 → chkS b i = 0) : bookS b = 0 := by
  unfold bookS
  have h0 := h 0 (by omega)
  simp only [chkS, if_true] at h0
  have h1 : marksS b.marks = 0 := h 1 (by omega)
  by_cases e : ¬ (0 ≤ b.bend ∧ b.bend ≤ 99) ∨ ¬ (0 ≤ b.twist ∧ b.twist ≤ 99) ∨ ¬ (0 ≤ b.turns ∧ b.turns ≤ 5)
  · rw [if_pos e] at h0; cases h0
  · rw [if_neg e, if_neg (by omega)]; exact h 2 (by omega)
theorem chk_get (k : Nat) (hk : k < 3) : ([Value.func (.func 199) #[] #[], .func (.func 200) #[] #[], .func (.func 201) #[] #[]].toArray)[(k : Int).toNat * 1]? = some (.func (.func (199 + k)) #[] #[]) := by
  rcases (by omega : k = 0 ∨ k = 1 ∨ k = 2) with rfl | rfl | rfl <;> rfl
theorem chk_call (k : Nat) (hk : k < 3) : callB Tryz.prog (199 + k) = true := by
  rcases (by omega : k = 0 ∨ k = 1 ∨ k = 2) with rfl | rfl | rfl <;> kernel_rfl
theorem chk_c (m : Md Tryz.prog B) (h : Hp) {b : Bk} {pm : Option Addr} {nm cm : Nat} {pr : Option Addr} {nr cr : Nat} (rdm : RdS B h 2 (.slice pm nm cm) nm (encs b.marks)) (hm : nm ≤ 1000) (rdr : RdS B h 4 (.slice pr nr cr) nr (encs b.rules)) (hr : nr ≤ 1000) (k : Nat) (hk : k < 3) : FnC m (199 + k) #[bkV b pm nm cm pr nr cr] h fun v h' => h' = h ∧ v = .int .i64 (chkS b k) := by
  rcases (by omega : k = 0 ∨ k = 1 ∨ k = 2) with rfl | rfl | rfl
  · exact f199_c m h
  · exact f200_c m h rdm hm
  · exact f201_c m h rdm hm rdr hr
theorem f21_c (m : Md Tryz.prog B) (h : Hp) {b : Bk} {pm : Option Addr} {nm cm : Nat} {pr : Option Addr} {nr cr : Nat} (rdm : RdS B h 2 (.slice pm nm cm) nm (encs b.marks)) (hm : nm ≤ 1000) (rdr : RdS B h 4 (.slice pr nr cr) nr (encs b.rules)) (hr : nr ≤ 1000) : FnC m 21 #[bkV b pm nm cm pr nr cr] h fun v h' => h' = h ∧ v = .int .i64 (bookS b) := by
  refine fn_enter Tryz.func21 rfl rfl (l := (bkV b pm nm cm pr nr cr) :: uu17) rfl ?_
  intro cf cs K hK
  refine rs2 (by kernel_rfl) ?_; refine k_box rfl zq (fun q1 => k_hp (k_put ?_)); refine aq rfl ?_; refine run_seq ?_; refine rs2 (by kernel_rfl) ?_; refine k_ldN (vs := [.func (.func 199) #[] #[], .func (.func 200) #[] #[], .func (.func 201) #[] #[]]) rfl zq rfl laid_rdN ?_; refine mq rfl ?_; refine k_nil ?_; refine run_block ?_; refine run_loop (fun nn l h' => ∃ (k : Nat), nn = 3 - k ∧ (k ≤ 3) ∧ (∀ i, i < k → chkS b i = 0) ∧ (∃ U : Nat → Value, l = [bkV b pm nm cm pr nr cr, .pointer (some ⟨q1, 0, none⟩), U 2, U 3, U 4, U 5, .agg [.func (.func 199) #[] #[], .func (.func 200) #[] #[], .func (.func 201) #[] #[]].toArray, .int .i64 (k : Int), U 8, U 9, U 10, U 11, U 12, U 13, U 14, U 15, U 16, U 17]) ∧ h ++ [⟨true, q1, .cells (bkL b pm nm cm pr nr cr).toArray 25 (0, 0)⟩] = h') _ ⟨0, rfl, by omega, fun i hi => by omega, exU rfl, rfl⟩ ?_; rintro nn l h' ⟨k, rfl, hk, he, ⟨U, rfl⟩, rfl⟩ hnext; refine rs1 (by kernel_rfl) ?_; refine k_lssS rfl zq (fun hc => ?_) (fun hc => ?_)
  · refine k_nil ?_; refine run_seq ?_; refine run_yes ?_; refine run_skip ?_; refine run_seq ?_; refine run_block ?_; refine rs2 (by kernel_rfl) ?_; refine k_ixv rfl zq (by omega) (by omega) (chk_get k (by omega)) ?_; refine aq rfl ?_; refine rs5 (by kernel_rfl) ?_; refine mq rfl ?_; refine k_ldA rfl zq ?_; refine k_bld rfl zq ?_; refine k_valP (Post := fun v => v = _) rfl zq (chk_call k (by omega)) (fun H' hH => chk_c m H' (rdm.keeps (sq hH)) hm (rdr.keeps (sq hH)) hr k (by omega)) ?_; rintro v rfl; refine k_put ?_; refine aq rfl ?_; refine rs2 (by kernel_rfl) ?_; refine mq rfl ?_; refine k_neqS rfl zq (fun hc => ?_) (fun hc => ?_)
    · refine k_nil ?_; refine run_yes ?_; refine rs2 (by kernel_rfl) ?_; refine mq rfl ?_; refine aq rfl ?_; refine run_ret rfl ?_; refine run_res (h) rfl Tryz.func21 rfl weakSub ?_; refine hK _ _ ?_
      first
        | exact ⟨rfl, by rw [chk_book (by omega) he (by assumption)]⟩
        | exact ⟨rfl, by rw [chk_clear (fun i hi => he i (by omega))]⟩
    · refine k_nil ?_; refine run_no ?_; refine run_skip ?_; refine run_inBlock ?_; refine rr2 (by kernel_rfl) ?_; refine k_add rfl zq (by unfold In64; omega) ?_; refine mq rfl ?_; refine k_nil ?_; exact m.weak weakSub (hnext _ _ _ (by omega) ⟨k + 1, rfl, by omega, fun i hi => by
        rcases Nat.lt_or_ge i k with h1 | h1
        · exact he i h1
        · obtain rfl : i = k := by omega
          first | exact hc | exact Classical.byContradiction hc, exU rfl, rfl⟩)
  · refine k_nil ?_; refine run_seq ?_; refine run_no ?_; refine run_exit rfl ?_; refine rs1 (by kernel_rfl) ?_; refine aq rfl ?_; refine run_ret rfl ?_; refine run_res (h) rfl Tryz.func21 rfl weakSub ?_; refine hK _ _ ?_
    first
      | exact ⟨rfl, by rw [chk_book (by omega) he (by assumption)]⟩
      | exact ⟨rfl, by rw [chk_clear (fun i hi => he i (by omega))]⟩
theorem f142_c (m : Md Tryz.prog B) (h : Hp) {b : Bk} {pm : Option Addr} {nm cm : Nat} {pr : Option Addr} {nr cr : Nat} (rdm : RdS B h 2 (.slice pm nm cm) nm (encs b.marks)) (hm : nm ≤ 1000) {p : Option Addr} {n c : Nat} {xs : List Int} (rd : RdS B h 1 (.slice p n c) n (ints xs)) (hn : n ≤ 1000) : FnC m 142 #[bkV b pm nm cm pr nr cr, .slice p n c] h fun v h' => h' = h ∧ v = .int .i64 (lineS b.marks.length xs) := by
  have hml := rdm.elen (by decide)
  have hl := rd.ilen
  refine fn_enter Tryz.func142 rfl rfl (l := (bkV b pm nm cm pr nr cr) :: (.slice p n c) :: uu12) rfl ?_
  intro cf cs K hK
  refine rs2 (by kernel_rfl) ?_; refine k_box rfl zq (fun q2 => k_hp (k_put ?_)); refine aq rfl ?_; refine run_seq ?_; refine run_block ?_; refine rs6 (by kernel_rfl) ?_; refine mq rfl ?_; refine k_len rfl zq ?_; refine k_ldA rfl zq ?_; refine k_calP (Post := fun v => v = _) rfl zq (by kernel_rfl) (fun H' hH => f118_c m H' _ _ _ _ _ _ _ _ _) ?_; rintro v rfl; refine k_put ?_; refine k_neqS rfl zq (fun hc => ?_) (fun hc => ?_)
  · refine aq rfl ?_; refine run_yes ?_; refine rs1 (by kernel_rfl) ?_; refine aq rfl ?_; refine run_ret rfl ?_; refine run_res (h) rfl Tryz.func142 rfl weakSub ?_; refine hK _ _ ?_
    refine ⟨rfl, ?_⟩
    first
      | (rw [lineS, if_pos (by omega)]; done)
      | (rw [lineS, if_neg (by omega), if_neg (fun e => by obtain ⟨i, h1, h2⟩ := hc; exact h2 (e _ (mem_getD.2 ⟨i, by omega, rfl⟩)))]; done)
      | (rw [lineS, if_neg (by omega), if_pos (fun x hx => by obtain ⟨i, h1, rfl⟩ := mem_getD.1 hx; exact Classical.byContradiction fun e => hc ⟨i, by omega, e⟩)]; done)
  · refine aq rfl ?_; refine run_no ?_; refine rs3 (by kernel_rfl) ?_; refine mq rfl ?_; refine k_calP (Post := fun v => IsB _ v) rfl zq (by kernel_rfl) (fun H' hH => f147_c m H' (pr := fun i => ¬ (0 ≤ xs.getD i 0 ∧ xs.getD i 0 ≤ 959)) (rd.keeps (sq hH)) (by omega) (by kernel_rfl) (fun i hi K hK => f158_c m K _)) ?_; rintro v (⟨hc, rfl⟩ | ⟨hc, rfl⟩)
    · refine k_put ?_; refine aq rfl ?_; refine run_yes ?_; refine rs1 (by kernel_rfl) ?_; refine aq rfl ?_; refine run_ret rfl ?_; refine run_res (h) rfl Tryz.func142 rfl weakSub ?_; refine hK _ _ ?_
      refine ⟨rfl, ?_⟩
      first
        | (rw [lineS, if_pos (by omega)]; done)
        | (rw [lineS, if_neg (by omega), if_neg (fun e => by obtain ⟨i, h1, h2⟩ := hc; exact h2 (e _ (mem_getD.2 ⟨i, by omega, rfl⟩)))]; done)
        | (rw [lineS, if_neg (by omega), if_pos (fun x hx => by obtain ⟨i, h1, rfl⟩ := mem_getD.1 hx; exact Classical.byContradiction fun e => hc ⟨i, by omega, e⟩)]; done)
    · refine k_put ?_; refine aq rfl ?_; refine run_no ?_; refine run_skip ?_; refine run_inBlock ?_; refine rs1 (by kernel_rfl) ?_; refine aq rfl ?_; refine run_ret rfl ?_; refine run_res (h) rfl Tryz.func142 rfl weakSub ?_; refine hK _ _ ?_
      refine ⟨rfl, ?_⟩
      first
        | (rw [lineS, if_pos (by omega)]; done)
        | (rw [lineS, if_neg (by omega), if_neg (fun e => by obtain ⟨i, h1, h2⟩ := hc; exact h2 (e _ (mem_getD.2 ⟨i, by omega, rfl⟩)))]; done)
        | (rw [lineS, if_neg (by omega), if_pos (fun x hx => by obtain ⟨i, h1, rfl⟩ := mem_getD.1 hx; exact Classical.byContradiction fun e => hc ⟨i, by omega, e⟩)]; done)
theorem f143_c (m : Md Tryz.prog B) (h : Hp) {p : Option Addr} {n c : Nat} {xs : List Int} (rd : RdS B h 1 (.slice p n c) n (ints xs)) (hn : n ≤ 1000) : FnC m 143 #[.slice p n c] h fun v h' => h' = h ∧ v = htV xs := by
  refine fn_enter Tryz.func143 rfl rfl (l := (.slice p n c) :: uu7) rfl ?_
  intro cf cs K hK
  refine rs1 (by kernel_rfl) ?_; refine k_new rfl zq (fun q2 => k_hp (k_put ?_)); refine k_nil ?_; refine rs1 (by kernel_rfl) ?_; refine k_new rfl zq (fun q3 => k_hp (k_put ?_)); refine k_nil ?_; refine rs3 (by kernel_rfl) ?_; refine k_slAA rfl zq ?_; refine mq rfl ?_; refine k_copy (hts xs) rfl zq rd.up (ints_one _) (by decide) (by rw [hts_copy xs rd.ilen, hts_nil]) (k_put ?_); refine k_nil ?_; refine rs2 (by kernel_rfl) ?_; refine k_ldA rfl zq ?_; refine k_stA rfl zq (by first | rfl | exact hts_length _) ?_; refine k_nil ?_; refine run_ret rfl ?_; refine run_res (h) rfl Tryz.func143 rfl weakSub ?_; refine hK _ _ ?_
  exact ⟨rfl, rfl⟩
def Handed (s : Int) (bv : Value) (xs : List Int) (v : Value) : Prop := ∃ x y z p1 n1 c1 p2 n2 c2 yl, v = .tuple [bookV x y z (.slice p1 n1 c1) (.slice p2 n2 c2), htV yl, .int .i64 s].toArray ∧ (s = 0 → bookV x y z (.slice p1 n1 c1) (.slice p2 n2 c2) = bv ∧ yl = xs)
theorem handed_no {s : Int} {bv : Value} {xs : List Int} (h : s ≠ 0) : Handed s bv xs (.tuple [bookV 0 0 0 (.slice none 0 0) (.slice none 0 0), .agg [.int .i64 0, .int .i64 0, .int .i64 0, .int .i64 0, .int .i64 0, .int .i64 0, .int .i64 0].toArray, .int .i64 s].toArray) :=
  ⟨0, 0, 0, none, 0, 0, none, 0, 0, [], by rw [htV, hts_nil], fun e => absurd e h⟩
theorem f93_c (m : Md Tryz.prog B) (h : Hp) {b : Bk} {pm : Option Addr} {nm cm : Nat} {pr : Option Addr} {nr cr : Nat} (rdm : RdS B h 2 (.slice pm nm cm) nm (encs b.marks)) (hm : nm ≤ 1000) (rdr : RdS B h 4 (.slice pr nr cr) nr (encs b.rules)) (hr : nr ≤ 1000) {p : Option Addr} {n c : Nat} {xs : List Int} (rd : RdS B h 1 (.slice p n c) n (ints xs)) (hn : n ≤ 1000) : FnC m 93 #[bkV b pm nm cm pr nr cr, .slice p n c] h fun v h' => h' = h ∧ Handed (handedS b xs) (bkV b pm nm cm pr nr cr) xs v := by
  refine fn_enter Tryz.func93 rfl rfl (l := (bkV b pm nm cm pr nr cr) :: (.slice p n c) :: uu28) rfl ?_
  intro cf cs K hK
  refine rs4 (by kernel_rfl) ?_; refine k_box rfl zq (fun q2 => k_hp (k_put ?_)); refine k_new rfl zq (fun q4 => k_hp (k_put ?_)); refine k_new rfl zq (fun q5 => k_hp (k_put ?_)); refine aq rfl ?_; refine run_seq ?_; refine rs3 (by kernel_rfl) ?_; refine k_ldA rfl zq ?_; refine k_calP (Post := fun v => v = _) rfl zq (by kernel_rfl) (fun H' hH => f21_c m H' (rdm.keeps (sq hH)) hm (rdr.keeps (sq hH)) hr) ?_; rintro v rfl; refine k_put ?_; refine aq rfl ?_; refine rs2 (by kernel_rfl) ?_; refine mq rfl ?_; refine k_neqS rfl zq (fun hc => ?_) (fun hc => ?_)
  · refine k_nil ?_; refine run_yes ?_; refine rs6 (by kernel_rfl) ?_; refine k_bld rfl zq ?_; refine k_bldZ rfl zq ?_; refine mq rfl ?_; refine k_stA rfl zq rfl ?_; refine k_stA rfl zq (by first | rfl | exact hts_length _) ?_; refine aq rfl ?_; refine run_ret rfl ?_; refine run_res (h) rfl Tryz.func93 rfl weakSub ?_; refine hK _ _ ?_
    have e : handedS b xs = bookS b := by rw [handedS, if_pos (by assumption)]
    exact ⟨rfl, by rw [e]; exact handed_no (by assumption)⟩
  · refine k_nil ?_; refine run_no ?_; refine run_skip ?_; refine rs4 (by kernel_rfl) ?_; refine k_ldA rfl zq ?_; refine k_bld rfl zq ?_; refine k_new rfl zq (fun q8 => k_hp (k_put ?_)); refine k_stA rfl zq rfl ?_; refine k_nil ?_; refine run_seq ?_; refine rs4 (by kernel_rfl) ?_; refine k_ldA rfl zq ?_; refine mq rfl ?_; refine k_calP (Post := fun v => v = _) rfl zq (by kernel_rfl) (fun H' hH => f142_c m H' (rdm.keeps (sq hH)) hm (rd.keeps (sq hH)) hn) ?_; rintro v rfl; refine k_put ?_; refine aq rfl ?_; refine rs2 (by kernel_rfl) ?_; refine mq rfl ?_; refine k_neqS rfl zq (fun hc => ?_) (fun hc => ?_)
    · refine k_nil ?_; refine run_yes ?_; refine rs6 (by kernel_rfl) ?_; refine k_bld rfl zq ?_; refine k_bldZ rfl zq ?_; refine mq rfl ?_; refine k_stA rfl zq rfl ?_; refine k_stA rfl zq (by first | rfl | exact hts_length _) ?_; refine aq rfl ?_; refine run_ret rfl ?_; refine run_res (h) rfl Tryz.func93 rfl weakSub ?_; refine hK _ _ ?_
      have e : handedS b xs = lineS b.marks.length xs := by rw [handedS, if_neg (by omega)]
      exact ⟨rfl, by rw [e]; exact handed_no (by assumption)⟩
    · refine k_nil ?_; refine run_no ?_; refine run_skip ?_; refine run_seq ?_; refine run_draw [(1, .pure), (0, .read), (2, .keep), (3, .free), (4, .free), (5, .pure)] (by kernel_rfl) (by kernel_rfl) (List.Sublist.refl _) ?_; refine mq rfl ?_; refine k_ldA rfl zq ?_; refine k_calP (Post := fun v => v = _) rfl zq (by kernel_rfl) (fun H' hH => f143_c m H' (rd.keeps (sq hH)) hn) ?_; rintro v rfl; refine k_put ?_; refine k_stA rfl zq rfl ?_; refine k_stA rfl zq (by first | rfl | exact hts_length _) ?_; refine aq rfl ?_; refine run_ret rfl ?_; refine run_res (h) rfl Tryz.func93 rfl weakSub ?_; refine hK _ _ ?_
      have e : handedS b xs = 0 := by rw [handedS, if_neg (by omega)]; omega
      exact ⟨rfl, _, _, _, _, _, _, _, _, _, xs, by rw [e], fun _ => ⟨rfl, rfl⟩⟩
theorem f94_c (m : Md Tryz.prog B) (h : Hp) {b : Bk} {pm : Option Addr} {nm cm : Nat} {pr : Option Addr} {nr cr : Nat} {l : List Int} (hl : l.length = nm) (h7 : nm ≤ 7) (hs : Small 959 l) : FnC m 94 #[bkV b pm nm cm pr nr cr, htV l] h fun v h' => ∃ nw, h' = h ++ nw ∧ OwnS 3 1 v (nm - 2) (ints (bends l)) nw := by
  refine fn_enter Tryz.func94 rfl rfl (l := (bkV b pm nm cm pr nr cr) :: (htV l) :: uu8) rfl ?_
  intro cf cs K hK
  refine rs3 (by kernel_rfl) ?_; refine k_box rfl zq (fun q2 => k_hp (k_put ?_)); refine k_box rfl zq (fun q3 => k_hp (k_put ?_)); refine aq rfl ?_; refine rs6 (by kernel_rfl) ?_; refine k_ldA rfl zq ?_; refine k_calP (Post := fun v => v = _) rfl zq (by kernel_rfl) (fun H' hH => f118_c m H' _ _ _ _ _ _ _ _ _) ?_; rintro v rfl; refine k_put ?_; refine k_slA (c := nm) rfl zq rfl (by omega) ?_; refine k_calC rfl zq (by kernel_rfl) (Post := fun v nw => OwnS 3 1 v (nm - 1) (ints (diffs l)) nw) (fun H' hH => f144_c m H' _ l nm hl.symm (by omega) (hs.le (by omega)) ((rdS_hts (q := q3) hl (by omega) 7).keeps hH)) ?_; rintro v1 w1 o1; refine k_hpA (k_put ?_); have hsd := hs.diffs
  refine k_calC rfl zq (by kernel_rfl) (Post := fun v nw => OwnS 3 1 v (nm - 2) (ints (bends l)) nw) (fun H' hH => f144_c m H' v1 (diffs l) (nm - 1) (by rw [diffs_length]; omega) (by omega) (hsd.le (by omega)) (o1.rd'.keeps hH)) ?_; rintro v2 w2 o2; refine k_hpA (k_put ?_); refine aq rfl ?_; refine run_ret rfl ?_; refine run_res (h ++ w2) rfl Tryz.func94 rfl weakSub ?_; refine hK _ _ ?_
  exact ⟨w2, rfl, o2⟩
theorem f97_c (m : Md Tryz.prog B) (h : Hp) {b : Bk} {pm : Option Addr} {nm cm : Nat} {pr : Option Addr} {nr cr : Nat} {l : List Int} (hl : l.length = nm) (h7 : nm ≤ 7) (hs : Small 959 l) : FnC m 97 #[bkV b pm nm cm pr nr cr, htV l] h fun v h' => ∃ nw, h' = h ++ nw ∧ OwnS 3 1 v (nm - 3) (ints (diffs (bends l))) nw := by
  refine fn_enter Tryz.func97 rfl rfl (l := (bkV b pm nm cm pr nr cr) :: (htV l) :: uu7) rfl ?_
  intro cf cs K hK
  refine rs3 (by kernel_rfl) ?_; refine k_box rfl zq (fun q2 => k_hp (k_put ?_)); refine k_box rfl zq (fun q3 => k_hp (k_put ?_)); refine aq rfl ?_; refine rs5 (by kernel_rfl) ?_; refine k_ldA rfl zq ?_; refine k_ldA rfl zq ?_; refine k_calC rfl zq (by kernel_rfl) (fun H' hH => f94_c m H' hl h7 hs) ?_; rintro v1 w1 o1; refine k_hpA (k_put ?_); have hsb := hs.bends
  refine k_calC rfl zq (by kernel_rfl) (Post := fun v nw => OwnS 3 1 v (nm - 3) (ints (diffs (bends l))) nw) (fun H' hH => f144_c m H' v1 (bends l) (nm - 2) (by rw [bends_length]; omega) (by omega) (hsb.le (by omega)) (o1.rd'.keeps hH)) ?_; rintro v2 w2 o2; refine k_hpA (k_put ?_); refine aq rfl ?_; refine run_ret rfl ?_; refine run_res (h ++ w2) rfl Tryz.func97 rfl weakSub ?_; refine hK _ _ ?_
  exact ⟨w2, rfl, o2⟩
end Go.Proofs
