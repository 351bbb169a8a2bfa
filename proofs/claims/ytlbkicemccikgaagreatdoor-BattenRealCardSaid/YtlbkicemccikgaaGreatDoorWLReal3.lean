/- A part of the proof of a law: my own separation logic over the machine, and walks of the program. Condition of each theorem: as its statement says. -/
import Derived.Test.YtlbkicemccikgaaGreatDoorWLReal2
set_option linter.all false
namespace Go.Proofs
open Go.Lo
open Go.Conc (G)
set_option maxRecDepth 100000
set_option synthInstance.maxSize 100000
set_option synthInstance.maxHeartbeats 1000000
set_option maxHeartbeats 4000000
variable {B : Array Obj}
def diffs : List Int → List Int
  | a :: b :: r => (b - a) :: diffs (b :: r)
  | _ => []
theorem diffs_length : ∀ (l : List Int), (diffs l).length = l.length - 1
  | [] => rfl
  | [_] => rfl
  | a :: b :: r => by simp [diffs, diffs_length (b :: r)]
theorem diffs_get : ∀ (l : List Int) (k : Nat), k + 1 < l.length → (diffs l)[k]? = some (l.getD (k + 1) 0 - l.getD k 0)
  | [], k, h => by simp at h
  | [_], k, h => by simp at h
  | a :: b :: r, 0, _ => by simp [diffs]
  | a :: b :: r, k + 1, h => by
    have := diffs_get (b :: r) k (by simpa using h)
    simpa [diffs] using this
theorem diffs_take (l : List Int) (k : Nat) (h : k + 1 < l.length) : (diffs l).take (k + 1) = (diffs l).take k ++ [l.getD (k + 1) 0 - l.getD k 0] := by
  rw [List.take_add_one, diffs_get l k h]; rfl
theorem f144_c (m : Md Tryz.prog B) (h : Hp) (v : Value) (xs : List Int) (n : Nat) (hn : n = xs.length) (hmax : n ≤ 1000) (hb : ∀ j, -100000 ≤ xs.getD j 0 ∧ xs.getD j 0 ≤ 100000) (rd : RdS B h 1 v n (ints xs)) :
    FnC m 144 #[v] h fun v' h' => ∃ new, h' = h ++ new ∧ OwnS 3 1 v' (n - 1) (ints (diffs xs)) new := by
  obtain ⟨p, c, rfl, hl, hp⟩ := id rd
  refine fn_enter Tryz.func144 rfl rfl (l := (.slice p n c) :: uu24) rfl ?_
  intro cf cs K hK
  refine rs1 (by kernel_rfl) ?_; refine aq rfl ?_; refine rs1 (by kernel_rfl) ?_; refine aq rfl ?_; refine run_seq ?_; refine rs1 (by kernel_rfl) ?_; refine aq rfl ?_; refine run_block ?_; refine run_loop (fun nn l h' => ∃ (k : Nat) (w : Value) (new : Hp), nn = n - k ∧ (k + 1 ≤ max n 1) ∧ (OwnS 3 1 w k (ints ((diffs xs).take k)) new) ∧ (∃ U : Nat → Value, l = [.slice p n c, U 1, U 2, w, .int .i64 ((k : Int) + 1), U 5, U 6, U 7, U 8, U 9, U 10, U 11, U 12, U 13, U 14, U 15, U 16, U 17, U 18, U 19, U 20, U 21, U 22, U 23, U 24]) ∧ h ++ new = h') _ ⟨0, _, [], rfl, by omega, OwnS.nil, exU rfl, (by simp)⟩ ?_; rintro nn l h' ⟨k, w, new, rfl, hk, ho, ⟨U, rfl⟩, rfl⟩ hnext; subst hn
  refine run_seq ?_; refine rs4 (by kernel_rfl) ?_; refine mq rfl ?_; refine mq rfl ?_; refine k_len rfl zq ?_; refine k_lssS rfl zq (fun hc => ?_) (fun hc => ?_)
  · refine k_nil ?_; refine run_yes ?_; refine run_skip ?_; refine run_seq ?_; refine run_block ?_; refine run_draw [(0, .pure), (1, .pure), (2, .pure), (3, .pure), (5, .pure), (6, .pure), (7, .pure), (8, .pure), (4, .read), (9, .read), (10, .pure), (11, .keep), (12, .free), (13, .pure)] (by kernel_rfl) (by kernel_rfl) (List.Sublist.refl _) ?_; obtain ⟨b, o, rfl⟩ := rd.ptr (by omega)
    have hb1 := hb (k + 1)
    have hb0 := hb k
    have e1 : ((k : Int) + 1).toNat = k + 1 := by omega
    have e0 : ((k : Int) + 1 - 1).toNat = k := by omega
    refine mq rfl ?_; refine mq rfl ?_; refine mq rfl ?_; refine k_ixs rfl zq (by first | rfl | assumption) (by omega) (by omega) ?_; refine mq rfl ?_; refine mq rfl ?_; refine k_sub rfl zq (by unfold In64; omega) ?_; refine k_ixs rfl zq (by first | rfl | assumption) (by omega) (by omega) ?_; refine k_ld rfl zq ((rd.int rfl (by omega) (by omega)).app _) ?_; refine k_ld rfl zq ((rd.int rfl (by omega) (by omega)).app _) ?_; rw [e1, e0]; refine k_sub rfl zq (by unfold In64; omega) ?_; refine k_bs kdq rfl zq (by decide) (by decide) rfl (fun q22 => k_hp (k_put ?_)); refine k_app1 (F := h) rfl zq rfl ho kdq (by omega) (by omega) (fun w2 new2 ho2 => k_put ?_); rw [show ints ((diffs xs).take k) ++ [Value.int .i64 (xs.getD (k + 1) 0 - xs.getD k 0)] = ints ((diffs xs).take (k + 1)) by rw [diffs_take xs k (by omega)]; simp] at ho2
    refine aq rfl ?_; refine run_inBlock ?_; refine rr3 (by kernel_rfl) ?_; refine mq rfl ?_; refine k_add rfl zq (by unfold In64; omega) ?_; refine aq rfl ?_; exact m.weak weakSub (hnext _ _ _ (by omega) ⟨k + 1, _, _, rfl, by omega, ho2, exU rfl, rfl⟩)
  · refine k_nil ?_; refine run_no ?_; refine run_exit rfl ?_; refine rs2 (by kernel_rfl) ?_; refine mq rfl ?_; refine aq rfl ?_; refine run_ret rfl ?_; refine run_res (h ++ new) rfl Tryz.func144 rfl weakSub ?_; refine hK _ _ ?_
    obtain rfl : k = xs.length - 1 := by omega
    rw [List.take_of_length_le (by rw [diffs_length]; exact Nat.le_refl _)] at ho
    exact ⟨_, rfl, ho⟩
theorem f117_c (m : Md Tryz.prog B) (h : Hp) (x lo hi : Int) : FnC m 117 #[.int .i64 x, .int .i64 lo, .int .i64 hi] h fun v h' => h' = h ∧ IsB (lo ≤ x ∧ x ≤ hi) v := by
  refine fn_enter Tryz.func117 rfl rfl (l := (.int .i64 x) :: (.int .i64 lo) :: (.int .i64 hi) :: uu12) rfl ?_
  intro cf cs K hK
  refine rs1 (by kernel_rfl) ?_; refine aq rfl ?_; refine rs9 (by kernel_rfl) ?_; refine mq rfl ?_; refine mq rfl ?_; refine k_leqS rfl zq (fun hc => ?_) (fun hc => ?_)
  · refine mq rfl ?_; refine k_mv rfl rfl ?_; refine k_mv rfl rfl ?_; refine k_leqS rfl rfl (fun hc => ?_) (fun hc => ?_)
    · refine k_pickT rfl zq ?_; refine aq rfl ?_; refine run_ret rfl ?_; refine run_res (h) rfl Tryz.func117 rfl weakSub ?_; refine hK _ _ ?_
      first | exact ⟨rfl, IsB.yes (by omega)⟩ | exact ⟨rfl, IsB.no (by omega)⟩
    · refine k_pickT rfl zq ?_; refine aq rfl ?_; refine run_ret rfl ?_; refine run_res (h) rfl Tryz.func117 rfl weakSub ?_; refine hK _ _ ?_
      first | exact ⟨rfl, IsB.yes (by omega)⟩ | exact ⟨rfl, IsB.no (by omega)⟩
  · refine mq rfl ?_; refine k_off rfl rfl ?_; refine k_off rfl rfl ?_; refine k_off rfl rfl ?_; refine k_pickF rfl zq ?_; refine aq rfl ?_; refine run_ret rfl ?_; refine run_res (h) rfl Tryz.func117 rfl weakSub ?_; refine hK _ _ ?_
    first | exact ⟨rfl, IsB.yes (by omega)⟩ | exact ⟨rfl, IsB.no (by omega)⟩
theorem f72_c (m : Md Tryz.prog B) (h : Hp) (x lo hi : Int) : FnC m 72 #[.int .i64 x, .int .i64 lo, .int .i64 hi] h fun v h' => h' = h ∧ IsB (lo ≤ x ∧ x ≤ hi) v := by
  refine fn_enter Tryz.func72 rfl rfl (l := (.int .i64 x) :: (.int .i64 lo) :: (.int .i64 hi) :: uu12) rfl ?_
  intro cf cs K hK
  refine rs1 (by kernel_rfl) ?_; refine aq rfl ?_; refine rs9 (by kernel_rfl) ?_; refine mq rfl ?_; refine mq rfl ?_; refine k_leqS rfl zq (fun hc => ?_) (fun hc => ?_)
  · refine mq rfl ?_; refine k_mv rfl rfl ?_; refine k_mv rfl rfl ?_; refine k_leqS rfl rfl (fun hc => ?_) (fun hc => ?_)
    · refine k_pickT rfl zq ?_; refine aq rfl ?_; refine run_ret rfl ?_; refine run_res (h) rfl Tryz.func72 rfl weakSub ?_; refine hK _ _ ?_
      first | exact ⟨rfl, IsB.yes (by omega)⟩ | exact ⟨rfl, IsB.no (by omega)⟩
    · refine k_pickT rfl zq ?_; refine aq rfl ?_; refine run_ret rfl ?_; refine run_res (h) rfl Tryz.func72 rfl weakSub ?_; refine hK _ _ ?_
      first | exact ⟨rfl, IsB.yes (by omega)⟩ | exact ⟨rfl, IsB.no (by omega)⟩
  · refine mq rfl ?_; refine k_off rfl rfl ?_; refine k_off rfl rfl ?_; refine k_off rfl rfl ?_; refine k_pickF rfl zq ?_; refine aq rfl ?_; refine run_ret rfl ?_; refine run_res (h) rfl Tryz.func72 rfl weakSub ?_; refine hK _ _ ?_
    first | exact ⟨rfl, IsB.yes (by omega)⟩ | exact ⟨rfl, IsB.no (by omega)⟩
theorem f132_c (m : Md Tryz.prog B) (h : Hp) (a b lo hi : Int) : FnC m 132 #[.agg [.int .i64 a, .int .i64 b].toArray, .int .i64 lo, .int .i64 hi] h fun v h' => h' = h ∧ IsB (lo ≤ a ∧ a ≤ b ∧ b ≤ hi) v := by
  refine fn_enter Tryz.func132 rfl rfl (l := (.agg [.int .i64 a, .int .i64 b].toArray) :: (.int .i64 lo) :: (.int .i64 hi) :: uu21) rfl ?_
  intro cf cs K hK
  refine rs2 (by kernel_rfl) ?_; refine k_box rfl zq (fun q3 => k_hp (k_put ?_)); refine aq rfl ?_; refine run_seq ?_; refine run_region [(0, .free), (1, .free), (2, .free), (3, .free), (4, .free), (5, .free), (6, .free), (7, .free), (8, .free), (9, .free), (10, .free), (11, .free), (12, .free), (13, .free), (14, .free), (15, .free), (16, .free), (17, .free)] (by kernel_rfl) (by kernel_rfl) ?_; refine mq rfl ?_; first | refine k_fa0 rfl zq ?_ | refine k_fa rfl zq ?_
  refine k_ldh rfl zq ?_; refine k_leqS rfl zq (fun hc => ?_) (fun hc => ?_)
  · refine mq rfl ?_; first | refine k_fa0 rfl rfl ?_ | refine k_fa rfl rfl ?_
    refine k_ldh rfl rfl ?_; first | refine k_fa0 rfl rfl ?_ | refine k_fa rfl rfl ?_
    refine k_ldh rfl rfl ?_; refine k_leqS rfl rfl (fun hc => ?_) (fun hc => ?_)
    · refine k_pickT rfl zq ?_; refine mq rfl ?_; first | refine k_fa0 rfl rfl ?_ | refine k_fa rfl rfl ?_
      refine k_ldh rfl rfl ?_; refine k_mv rfl rfl ?_; refine k_leqS rfl rfl (fun hc => ?_) (fun hc => ?_)
      · refine k_pickT rfl zq ?_; refine aq rfl ?_; refine run_ret rfl ?_; refine run_res (h) rfl Tryz.func132 rfl weakSub ?_; refine hK _ _ ?_
        first | exact ⟨rfl, IsB.yes (by omega)⟩ | exact ⟨rfl, IsB.no (by omega)⟩
      · refine k_pickT rfl zq ?_; refine aq rfl ?_; refine run_ret rfl ?_; refine run_res (h) rfl Tryz.func132 rfl weakSub ?_; refine hK _ _ ?_
        first | exact ⟨rfl, IsB.yes (by omega)⟩ | exact ⟨rfl, IsB.no (by omega)⟩
    · refine k_pickT rfl zq ?_; refine mq rfl ?_; refine k_off rfl rfl ?_; refine k_off rfl rfl ?_; refine k_off rfl rfl ?_; refine k_off rfl rfl ?_; refine k_pickF rfl zq ?_; refine aq rfl ?_; refine run_ret rfl ?_; refine run_res (h) rfl Tryz.func132 rfl weakSub ?_; refine hK _ _ ?_
      first | exact ⟨rfl, IsB.yes (by omega)⟩ | exact ⟨rfl, IsB.no (by omega)⟩
  · refine mq rfl ?_; refine k_off rfl rfl ?_; refine k_off rfl rfl ?_; refine k_off rfl rfl ?_; refine k_off rfl rfl ?_; refine k_off rfl rfl ?_; refine k_pickF rfl zq ?_; refine mq rfl ?_; refine k_off rfl rfl ?_; refine k_off rfl rfl ?_; refine k_off rfl rfl ?_; refine k_off rfl rfl ?_; refine k_pickF rfl zq ?_; refine aq rfl ?_; refine run_ret rfl ?_; refine run_res (h) rfl Tryz.func132 rfl weakSub ?_; refine hK _ _ ?_
    first | exact ⟨rfl, IsB.yes (by omega)⟩ | exact ⟨rfl, IsB.no (by omega)⟩
theorem f140_c (m : Md Tryz.prog B) (h : Hp) (a b lo hi n : Int) (h0 : -10000 ≤ lo) (h1 : hi ≤ 10000) : FnC m 140 #[.agg [.int .i64 a, .int .i64 b].toArray, .int .i64 lo, .int .i64 hi, .int .i64 n] h fun v h' => h' = h ∧ IsB (lo ≤ a ∧ a ≤ b ∧ b ≤ hi ∧ b - a < n) v := by
  refine fn_enter Tryz.func140 rfl rfl (l := (.agg [.int .i64 a, .int .i64 b].toArray) :: (.int .i64 lo) :: (.int .i64 hi) :: (.int .i64 n) :: uu31) rfl ?_
  intro cf cs K hK
  refine rs2 (by kernel_rfl) ?_; refine k_box rfl zq (fun q4 => k_hp (k_put ?_)); refine aq rfl ?_; refine run_seq ?_; refine run_region [(0, .free), (1, .free), (2, .free), (3, .free), (4, .free), (5, .free), (6, .free), (7, .free), (8, .free), (9, .free), (10, .free), (11, .free), (12, .free), (13, .free), (14, .free), (15, .free), (16, .free), (17, .free), (18, .free), (19, .free), (20, .free), (21, .free), (22, .free), (23, .free), (24, .free), (25, .free), (26, .free)] (by kernel_rfl) (by kernel_rfl) ?_; refine mq rfl ?_; first | refine k_fa0 rfl zq ?_ | refine k_fa rfl zq ?_
  refine k_ldh rfl zq ?_; refine k_leqS rfl zq (fun hc => ?_) (fun hc => ?_)
  · refine mq rfl ?_; first | refine k_fa0 rfl rfl ?_ | refine k_fa rfl rfl ?_
    refine k_ldh rfl rfl ?_; first | refine k_fa0 rfl rfl ?_ | refine k_fa rfl rfl ?_
    refine k_ldh rfl rfl ?_; refine k_leqS rfl rfl (fun hc => ?_) (fun hc => ?_)
    · refine k_pickT rfl zq ?_; refine mq rfl ?_; first | refine k_fa0 rfl rfl ?_ | refine k_fa rfl rfl ?_
      refine k_ldh rfl rfl ?_; refine k_mv rfl rfl ?_; refine k_leqS rfl rfl (fun hc => ?_) (fun hc => ?_)
      · refine k_pickT rfl zq ?_; refine mq rfl ?_; first | refine k_fa0 rfl rfl ?_ | refine k_fa rfl rfl ?_
        refine k_ldh rfl rfl ?_; first | refine k_fa0 rfl rfl ?_ | refine k_fa rfl rfl ?_
        refine k_ldh rfl rfl ?_; refine k_sub rfl rfl (by unfold In64; omega) ?_; refine k_mv rfl rfl ?_; refine k_lssS rfl rfl (fun hc => ?_) (fun hc => ?_)
        · refine k_pickT rfl zq ?_; refine aq rfl ?_; refine run_ret rfl ?_; refine run_res (h) rfl Tryz.func140 rfl weakSub ?_; refine hK _ _ ?_
          first | exact ⟨rfl, IsB.yes (by omega)⟩ | exact ⟨rfl, IsB.no (by omega)⟩
        · refine k_pickT rfl zq ?_; refine aq rfl ?_; refine run_ret rfl ?_; refine run_res (h) rfl Tryz.func140 rfl weakSub ?_; refine hK _ _ ?_
          first | exact ⟨rfl, IsB.yes (by omega)⟩ | exact ⟨rfl, IsB.no (by omega)⟩
      · refine k_pickT rfl zq ?_; refine mq rfl ?_; refine k_off rfl rfl ?_; refine k_off rfl rfl ?_; refine k_off rfl rfl ?_; refine k_off rfl rfl ?_; refine k_off rfl rfl ?_; refine k_off rfl rfl ?_; refine k_off rfl rfl ?_; refine k_pickF rfl zq ?_; refine aq rfl ?_; refine run_ret rfl ?_; refine run_res (h) rfl Tryz.func140 rfl weakSub ?_; refine hK _ _ ?_
        first | exact ⟨rfl, IsB.yes (by omega)⟩ | exact ⟨rfl, IsB.no (by omega)⟩
    · refine k_pickT rfl zq ?_; refine mq rfl ?_; refine k_off rfl rfl ?_; refine k_off rfl rfl ?_; refine k_off rfl rfl ?_; refine k_off rfl rfl ?_; refine k_pickF rfl zq ?_; refine mq rfl ?_; refine k_off rfl rfl ?_; refine k_off rfl rfl ?_; refine k_off rfl rfl ?_; refine k_off rfl rfl ?_; refine k_off rfl rfl ?_; refine k_off rfl rfl ?_; refine k_off rfl rfl ?_; refine k_pickF rfl zq ?_; refine aq rfl ?_; refine run_ret rfl ?_; refine run_res (h) rfl Tryz.func140 rfl weakSub ?_; refine hK _ _ ?_
      first | exact ⟨rfl, IsB.yes (by omega)⟩ | exact ⟨rfl, IsB.no (by omega)⟩
  · refine mq rfl ?_; refine k_off rfl rfl ?_; refine k_off rfl rfl ?_; refine k_off rfl rfl ?_; refine k_off rfl rfl ?_; refine k_off rfl rfl ?_; refine k_pickF rfl zq ?_; refine mq rfl ?_; refine k_off rfl rfl ?_; refine k_off rfl rfl ?_; refine k_off rfl rfl ?_; refine k_off rfl rfl ?_; refine k_pickF rfl zq ?_; refine mq rfl ?_; refine k_off rfl rfl ?_; refine k_off rfl rfl ?_; refine k_off rfl rfl ?_; refine k_off rfl rfl ?_; refine k_off rfl rfl ?_; refine k_off rfl rfl ?_; refine k_off rfl rfl ?_; refine k_pickF rfl zq ?_; refine aq rfl ?_; refine run_ret rfl ?_; refine run_res (h) rfl Tryz.func140 rfl weakSub ?_; refine hK _ _ ?_
    first | exact ⟨rfl, IsB.yes (by omega)⟩ | exact ⟨rfl, IsB.no (by omega)⟩
theorem f136_c (m : Md Tryz.prog B) (h : Hp) (a b c d : Int) : FnC m 136 #[.agg [.int .i64 a, .int .i64 b].toArray, .agg [.int .i64 c, .int .i64 d].toArray] h fun v h' => h' = h ∧ v = .tuple [.agg [.int .i64 (max a c), .int .i64 (min b d)].toArray, .bool (decide (max a c ≤ min b d))].toArray := by
  refine fn_enter Tryz.func136 rfl rfl (l := (.agg [.int .i64 a, .int .i64 b].toArray) :: (.agg [.int .i64 c, .int .i64 d].toArray) :: uu22) rfl ?_
  intro cf cs K hK
  refine rs4 (by kernel_rfl) ?_; refine k_box rfl zq (fun q2 => k_hp (k_put ?_)); refine k_box rfl zq (fun q3 => k_hp (k_put ?_)); refine k_new rfl zq (fun q4 => k_hp (k_put ?_)); refine aq rfl ?_; refine rs13 (by kernel_rfl) ?_; first | refine k_fa0 rfl zq ?_ | refine k_fa rfl zq ?_
  refine k_ldh rfl zq ?_; first | refine k_fa0 rfl zq ?_ | refine k_fa rfl zq ?_
  refine k_ldh rfl zq ?_; refine k_max rfl zq ?_; first | refine k_fa0 rfl zq ?_ | refine k_fa rfl zq ?_
  refine k_ldh rfl zq ?_; first | refine k_fa0 rfl zq ?_ | refine k_fa rfl zq ?_
  refine k_ldh rfl zq ?_; refine k_min rfl zq ?_; refine k_bld rfl zq ?_; refine k_new rfl zq (fun q6 => k_hp (k_put ?_)); refine k_stA rfl zq rfl ?_; refine k_nil ?_; refine run_seq ?_; refine run_draw (S := h ++ [⟨true, q6, .cells [.int .i64 (max a c), .int .i64 (min b d)].toArray 92 (0, 0)⟩]) [(1, .pure), (3, .pure), (0, .read), (2, .read), (4, .read), (5, .pure), (6, .keep), (7, .pure)] (by kernel_rfl) (by kernel_rfl) SubH.sub ?_; first | refine k_fa0 rfl zq ?_ | refine k_fa rfl zq ?_
  first | refine k_fa0 rfl zq ?_ | refine k_fa rfl zq ?_
  refine k_ldA rfl zq ?_; refine k_ldh rfl zq ?_; refine k_ldh rfl zq ?_; refine k_leq rfl zq ?_; refine k_stA rfl zq rfl ?_; refine aq rfl ?_; refine run_ret rfl ?_; refine run_res (h) rfl Tryz.func136 rfl weakSub ?_; refine hK _ _ ?_
  exact ⟨rfl, rfl⟩
theorem f118_c (m : Md Tryz.prog B) (h : Hp) (x y z : Int) (p : Option Addr) (n c : Nat) (q : Option Addr) (k e : Nat) : FnC m 118 #[bookV x y z (.slice p n c) (.slice q k e)] h fun v h' => h' = h ∧ v = .int .i64 n := by
  refine fn_enter Tryz.func118 rfl rfl (l := (bookV x y z (.slice p n c) (.slice q k e)) :: uu6) rfl ?_
  intro cf cs K hK
  refine rs2 (by kernel_rfl) ?_; refine k_box rfl zq (fun q1 => k_hp (k_put ?_)); refine aq rfl ?_; refine rs5 (by kernel_rfl) ?_; first | refine k_fa0 rfl zq ?_ | refine k_fa rfl zq ?_
  first | refine k_fa0 rfl zq ?_ | refine k_fa rfl zq ?_
  refine k_ldh rfl zq ?_; refine k_len rfl zq ?_; refine aq rfl ?_; refine run_ret rfl ?_; refine run_res (h) rfl Tryz.func118 rfl weakSub ?_; refine hK _ _ ?_
  exact ⟨rfl, rfl⟩
theorem f114_c (m : Md Tryz.prog B) (h : Hp) (x y z : Int) (p : Option Addr) (n c : Nat) (q : Option Addr) (k e : Nat) (i : Int) (hn : n ≤ 1000) : FnC m 114 #[bookV x y z (.slice p n c) (.slice q k e), .int .i64 i] h fun v h' => h' = h ∧ IsB (0 ≤ i ∧ i ≤ n - 1) v := by
  refine fn_enter Tryz.func114 rfl rfl (l := (bookV x y z (.slice p n c) (.slice q k e)) :: (.int .i64 i) :: uu9) rfl ?_
  intro cf cs K hK
  refine rs2 (by kernel_rfl) ?_; refine k_box rfl zq (fun q2 => k_hp (k_put ?_)); refine aq rfl ?_; refine rs7 (by kernel_rfl) ?_; refine mq rfl ?_; first | refine k_fa0 rfl zq ?_ | refine k_fa rfl zq ?_
  refine k_ldh rfl zq ?_; refine k_len rfl zq ?_; refine k_sub rfl zq (by unfold In64; omega) ?_; refine k_calP (Post := fun v => IsB _ v) rfl zq (by kernel_rfl) (fun H' hH => f72_c m _ _ _ _) ?_; rintro v (⟨hc, rfl⟩ | ⟨hc, rfl⟩)
  · refine k_put ?_; refine aq rfl ?_; refine run_ret rfl ?_; refine run_res (h) rfl Tryz.func114 rfl weakSub ?_; refine hK _ _ ?_
    first | exact ⟨rfl, IsB.yes (by omega)⟩ | exact ⟨rfl, IsB.no (by omega)⟩
  · refine k_put ?_; refine aq rfl ?_; refine run_ret rfl ?_; refine run_res (h) rfl Tryz.func114 rfl weakSub ?_; refine hK _ _ ?_
    first | exact ⟨rfl, IsB.yes (by omega)⟩ | exact ⟨rfl, IsB.no (by omega)⟩
theorem f109_c (m : Md Tryz.prog B) (h : Hp) (x y z : Int) (p : Option Addr) (n c : Nat) (q : Option Addr) (k e : Nat) (i : Int) (hn : n ≤ 1000) : FnC m 109 #[bookV x y z (.slice p n c) (.slice q k e), .int .i64 i] h fun v h' => h' = h ∧ v = .int .i64 (if 0 ≤ i ∧ i ≤ n - 1 then 0 else 6) := by
  refine fn_enter Tryz.func109 rfl rfl (l := (bookV x y z (.slice p n c) (.slice q k e)) :: (.int .i64 i) :: uu9) rfl ?_
  intro cf cs K hK
  refine rs2 (by kernel_rfl) ?_; refine k_box rfl zq (fun q2 => k_hp (k_put ?_)); refine aq rfl ?_; refine run_seq ?_; refine rs6 (by kernel_rfl) ?_; refine mq rfl ?_; refine k_ldA rfl zq ?_; refine k_calP (Post := fun v => v = _) rfl zq (by kernel_rfl) (fun H' hH => f118_c m _ _ _ _ _ _ _ _ _ _) ?_; rintro v rfl; refine k_put ?_; refine k_sub rfl zq (by unfold In64; omega) ?_; refine k_calP (Post := fun v => IsB _ v) rfl zq (by kernel_rfl) (fun H' hH => f117_c m _ _ _ _) ?_; rintro v (⟨hc, rfl⟩ | ⟨hc, rfl⟩)
  · refine k_put ?_; refine k_notT rfl zq ?_; refine k_nil ?_; refine run_no ?_; refine run_skip ?_; refine rs1 (by kernel_rfl) ?_; refine aq rfl ?_; refine run_ret rfl ?_; refine run_res (h) rfl Tryz.func109 rfl weakSub ?_; refine hK _ _ ?_
    first | exact ⟨rfl, by rw [if_pos (by assumption)]⟩ | exact ⟨rfl, by rw [if_neg (by assumption)]⟩
  · refine k_put ?_; refine k_notF rfl zq ?_; refine k_nil ?_; refine run_yes ?_; refine rs1 (by kernel_rfl) ?_; refine aq rfl ?_; refine run_ret rfl ?_; refine run_res (h) rfl Tryz.func109 rfl weakSub ?_; refine hK _ _ ?_
    first | exact ⟨rfl, by rw [if_pos (by assumption)]⟩ | exact ⟨rfl, by rw [if_neg (by assumption)]⟩
theorem ext_getD {xs ys : List Int} (hl : xs.length = ys.length) (he : ∀ i, i < xs.length → xs.getD i 0 = ys.getD i 0) : xs = ys := by
  apply List.ext_getElem hl
  intro i h1 h2
  have := he i h1
  rw [List.getD_eq_getElem?_getD, List.getElem?_eq_getElem h1, List.getD_eq_getElem?_getD, List.getElem?_eq_getElem h2] at this
  exact this
theorem mem_getD {xs : List Int} {x : Int} : x ∈ xs ↔ ∃ i, i < xs.length ∧ xs.getD i 0 = x := by
  rw [List.mem_iff_getElem]; constructor
  · rintro ⟨i, h, e⟩; exact ⟨i, h, by rw [List.getD_eq_getElem?_getD, List.getElem?_eq_getElem h]; exact e⟩
  · rintro ⟨i, h, e⟩; exact ⟨i, h, by rw [List.getD_eq_getElem?_getD, List.getElem?_eq_getElem h] at e; exact e⟩
def before : List Int → List Int → Bool
  | a :: r, b :: s => if a = b then before r s else decide (a < b)
  | [], _ :: _ => true
  | _, [] => false
def fewer (xs ys : List Int) : Prop := xs.length < ys.length ∨ (xs.length = ys.length ∧ before xs ys = true)
instance (xs ys : List Int) : Decidable (fewer xs ys) := by unfold fewer; infer_instance
def rising (many : Int) : Int → List Int → Int
  | _, [] => 0
  | prev, a :: r => if ¬ (0 ≤ a ∧ a ≤ many - 1) then 6 else if a ≤ prev then 7 else rising many a r
def firsts (n : Nat) : List Int := (List.range n).map fun i : Nat => (i : Int)
theorem firsts_succ (n : Nat) : firsts (n + 1) = firsts n ++ [(n : Int)] := by simp [firsts, List.range_succ]
theorem firsts_length (n : Nat) : (firsts n).length = n := by simp [firsts]
theorem f31_c (m : Md Tryz.prog B) (h : Hp) {p p2 : Option Addr} {n c n2 c2 : Nat} {xs ys : List Int} (rd : RdS B h 1 (.slice p n c) n (ints xs)) (hn : n ≤ 1000000) (rd2 : RdS B h 1 (.slice p2 n2 c2) n2 (ints ys)) : FnC m 31 #[.slice p n c, .slice p2 n2 c2] h fun v h' => h' = h ∧ IsB (xs = ys) v := by
  have hl := rd.ilen
  have hl2 := rd2.ilen
  refine fn_enter Tryz.func31 rfl rfl (l := (.slice p n c) :: (.slice p2 n2 c2) :: uu24) rfl ?_
  intro cf cs K hK
  refine rs1 (by kernel_rfl) ?_; refine aq rfl ?_; refine run_seq ?_; refine rs5 (by kernel_rfl) ?_; refine mq rfl ?_; refine k_len rfl zq ?_; refine mq rfl ?_; refine k_len rfl zq ?_; refine k_neqS rfl zq (fun hc => ?_) (fun hc => ?_)
  · refine k_nil ?_; refine run_yes ?_; refine rs1 (by kernel_rfl) ?_; refine aq rfl ?_; refine run_ret rfl ?_; refine run_res (h) rfl Tryz.func31 rfl weakSub ?_; refine hK _ _ ?_
    exact ⟨rfl, IsB.no fun e => by subst e; omega⟩
  · refine k_nil ?_; refine run_no ?_; refine run_skip ?_; refine run_seq ?_; refine rs1 (by kernel_rfl) ?_; refine aq rfl ?_; refine run_block ?_; refine run_loop (fun nn l h' => ∃ (k : Nat), nn = n - k ∧ (k ≤ n) ∧ (∀ i, i < k → xs.getD i 0 = ys.getD i 0) ∧ (∃ U : Nat → Value, l = [.slice p n c, .slice p2 n2 c2, U 2, U 3, U 4, .int .i64 (k : Int), U 6, U 7, U 8, U 9, U 10, U 11, U 12, U 13, U 14, U 15, U 16, U 17, U 18, U 19, U 20, U 21, U 22, U 23, U 24, U 25]) ∧ h = h') _ ⟨0, rfl, by omega, by omega, exU rfl, rfl⟩ ?_; rintro nn l h' ⟨k, rfl, hk, he, ⟨U, rfl⟩, rfl⟩ hnext; refine run_seq ?_; refine rs4 (by kernel_rfl) ?_; refine mq rfl ?_; refine mq rfl ?_; refine k_len rfl zq ?_; refine k_lssS rfl zq (fun hc => ?_) (fun hc => ?_)
    · refine k_nil ?_; refine run_yes ?_; refine run_skip ?_; refine run_seq ?_; refine run_block ?_; refine run_seq ?_; refine run_draw [(0, .pure), (1, .pure), (2, .pure), (4, .pure), (5, .pure), (6, .pure), (3, .read), (7, .read), (8, .pure)] (by kernel_rfl) (by kernel_rfl) (List.Sublist.refl _) ?_; refine mq rfl ?_; refine mq rfl ?_; obtain ⟨rd_b, rd_o, rfl⟩ := rd.ptr (by omega)
      refine k_ixs rfl zq (by first | rfl | assumption) (by omega) (by omega) ?_; refine mq rfl ?_; refine mq rfl ?_; obtain ⟨rd2_b, rd2_o, rfl⟩ := rd2.ptr (by omega)
      refine k_ixs rfl zq (by first | rfl | assumption) (by omega) (by omega) ?_; refine k_ld rfl zq (rd.iat k (by omega) (by omega)) ?_; refine k_ld rfl zq (rd2.iat k (by omega) (by omega)) ?_; refine k_neqS rfl zq (fun hc => ?_) (fun hc => ?_)
      · refine k_nil ?_; refine run_yes ?_; refine rs1 (by kernel_rfl) ?_; refine aq rfl ?_; refine run_ret rfl ?_; refine run_res (h) rfl Tryz.func31 rfl weakSub ?_; refine hK _ _ ?_
        exact ⟨rfl, IsB.no fun e => by subst e; contradiction⟩
      · refine k_nil ?_; refine run_no ?_; refine run_skip ?_; refine run_inBlock ?_; refine rr3 (by kernel_rfl) ?_; refine mq rfl ?_; refine k_add rfl zq (by unfold In64; omega) ?_; refine aq rfl ?_; exact m.weak weakSub (hnext _ _ _ (by omega) ⟨k + 1, rfl, by omega, fun i hi => by
          rcases Nat.lt_or_ge i k with h1 | h1
          · exact he i h1
          · obtain rfl : i = k := by omega
            assumption, exU rfl, rfl⟩)
    · refine k_nil ?_; refine run_no ?_; refine run_exit rfl ?_; refine rs1 (by kernel_rfl) ?_; refine aq rfl ?_; refine run_ret rfl ?_; refine run_res (h) rfl Tryz.func31 rfl weakSub ?_; refine hK _ _ ?_
      exact ⟨rfl, IsB.yes (ext_getD (by omega) fun i hi => he i (by omega))⟩
theorem f52_c (m : Md Tryz.prog B) (h : Hp) {p : Option Addr} {n c : Nat} {xs : List Int} (x : Int) (rd : RdS B h 1 (.slice p n c) n (ints xs)) (hn : n ≤ 1000000) : FnC m 52 #[.slice p n c, .int .i64 x] h fun v h' => h' = h ∧ IsB (x ∈ xs) v := by
  have hl := rd.ilen
  refine fn_enter Tryz.func52 rfl rfl (l := (.slice p n c) :: (.int .i64 x) :: uu16) rfl ?_
  intro cf cs K hK
  refine rs1 (by kernel_rfl) ?_; refine aq rfl ?_; refine run_seq ?_; refine rs1 (by kernel_rfl) ?_; refine aq rfl ?_; refine run_block ?_; refine run_loop (fun nn l h' => ∃ (k : Nat), nn = n - k ∧ (k ≤ n) ∧ (∀ i, i < k → xs.getD i 0 ≠ x) ∧ (∃ U : Nat → Value, l = [.slice p n c, .int .i64 x, U 2, U 3, U 4, .int .i64 (k : Int), U 6, U 7, U 8, U 9, U 10, U 11, U 12, U 13, U 14, U 15, U 16, U 17]) ∧ h = h') _ ⟨0, rfl, by omega, by omega, exU rfl, rfl⟩ ?_; rintro nn l h' ⟨k, rfl, hk, he, ⟨U, rfl⟩, rfl⟩ hnext; refine run_seq ?_; refine rs4 (by kernel_rfl) ?_; refine mq rfl ?_; refine mq rfl ?_; refine k_len rfl zq ?_; refine k_lssS rfl zq (fun hc => ?_) (fun hc => ?_)
  · refine k_nil ?_; refine run_yes ?_; refine run_skip ?_; refine run_seq ?_; refine run_block ?_; refine rs6 (by kernel_rfl) ?_; refine mq rfl ?_; refine mq rfl ?_; obtain ⟨rd_b, rd_o, rfl⟩ := rd.ptr (by omega)
    refine k_ixs rfl zq (by first | rfl | assumption) (by omega) (by omega) ?_; refine k_ld rfl zq (rd.iat k (by omega) (by omega)) ?_; refine mq rfl ?_; refine k_eqlS rfl zq (fun hc => ?_) (fun hc => ?_)
    · refine k_nil ?_; refine run_yes ?_; refine rs1 (by kernel_rfl) ?_; refine aq rfl ?_; refine run_ret rfl ?_; refine run_res (h) rfl Tryz.func52 rfl weakSub ?_; refine hK _ _ ?_
      exact ⟨rfl, IsB.yes (mem_getD.2 ⟨k, by omega, by assumption⟩)⟩
    · refine k_nil ?_; refine run_no ?_; refine run_skip ?_; refine run_inBlock ?_; refine rr3 (by kernel_rfl) ?_; refine mq rfl ?_; refine k_add rfl zq (by unfold In64; omega) ?_; refine aq rfl ?_; exact m.weak weakSub (hnext _ _ _ (by omega) ⟨k + 1, rfl, by omega, fun i hi => by
        rcases Nat.lt_or_ge i k with h1 | h1
        · exact he i h1
        · obtain rfl : i = k := by omega
          assumption, exU rfl, rfl⟩)
  · refine k_nil ?_; refine run_no ?_; refine run_exit rfl ?_; refine rs1 (by kernel_rfl) ?_; refine aq rfl ?_; refine run_ret rfl ?_; refine run_res (h) rfl Tryz.func52 rfl weakSub ?_; refine hK _ _ ?_
    exact ⟨rfl, IsB.no fun e => by
      obtain ⟨i, h1, h2⟩ := mem_getD.1 e
      exact he i (by omega) h2⟩
def bends (xs : List Int) : List Int := diffs (diffs xs)
theorem bends_length (xs : List Int) : (bends xs).length = xs.length - 2 := by simp [bends, diffs_length]; omega
theorem diffs_getD (l : List Int) (k : Nat) (h : k + 1 < l.length) : (diffs l).getD k 0 = l.getD (k + 1) 0 - l.getD k 0 := by
  rw [List.getD_eq_getElem?_getD, diffs_get l k h]; rfl
theorem bends_getD (xs : List Int) (k : Nat) (h : k + 2 < xs.length) : (bends xs).getD k 0 = xs.getD k 0 + xs.getD (k + 2) 0 - 2 * xs.getD (k + 1) 0 := by
  unfold bends
  rw [diffs_getD _ _ (by rw [diffs_length]; omega), diffs_getD _ _ (by omega), diffs_getD _ _ (by omega), show k + 1 + 1 = k + 2 from rfl]; omega
theorem getD_out (l : List Int) (k : Nat) (h : l.length ≤ k) : l.getD k 0 = 0 := by
  rw [List.getD_eq_getElem?_getD, List.getElem?_eq_none (by omega)]; rfl
def Small (m : Int) (xs : List Int) : Prop := ∀ j, -m ≤ xs.getD j 0 ∧ xs.getD j 0 ≤ m
theorem Small.diffs {m : Int} {xs : List Int} (hb : Small m xs) : Small (2 * m) (diffs xs) := fun j => by
  have h1 := hb j
  have h2 := hb (j + 1)
  by_cases h : j + 1 < xs.length
  · rw [diffs_getD xs j h]; omega
  · rw [getD_out _ _ (by rw [diffs_length]; omega)]; omega
theorem Small.bends {m : Int} {xs : List Int} (hb : Small m xs) : Small (4 * m) (bends xs) := fun j => by
  have := hb.diffs.diffs j
  unfold Go.Proofs.bends
  omega
def turnSt (s : Int × Int) (k : Int) : Int × Int := (if (k > 0 ∧ s.2 < 0) ∨ (k < 0 ∧ s.2 > 0) then s.1 + 1 else s.1, if k ≠ 0 then k else s.2)
def turnF (l : List Int) : Int × Int := l.foldl turnSt (0, 0)
def turns (xs : List Int) : Int := (turnF (bends xs)).1
theorem turnF_take (l : List Int) (k : Nat) (h : k < l.length) : turnF (l.take (k + 1)) = turnSt (turnF (l.take k)) (l.getD k 0) := by
  rw [take_snoc' l k h, turnF, List.foldl_append]; rfl
def sqs (l : List Int) : Int := l.foldl (fun n k => n + k * k) 0
def strain (xs : List Int) : Int := sqs (bends xs)
theorem sqs_take (l : List Int) (k : Nat) (h : k < l.length) : sqs (l.take (k + 1)) = sqs (l.take k) + l.getD k 0 * l.getD k 0 := by
  rw [take_snoc' l k h, sqs, List.foldl_append]; rfl
theorem sq_bound {x m : Int} (h : -m ≤ x ∧ x ≤ m) : 0 ≤ x * x ∧ x * x ≤ m * m := by
  have h0 : 0 ≤ m := by omega
  rcases Int.le_total 0 x with hx | hx
  · exact ⟨Int.mul_nonneg hx hx, Int.mul_le_mul h.2 h.2 hx h0⟩
  · refine ⟨Int.mul_nonneg_of_nonpos_of_nonpos hx hx, ?_⟩
    have := Int.mul_le_mul (a := -x) (b := -x) (c := m) (d := m) (by omega) (by omega) (by omega) h0
    rwa [Int.neg_mul_neg] at this
def withinL (l : List Int) (m : Int) : Prop := ∀ x ∈ l, -m ≤ x ∧ x ≤ m
def fair (be tw tu : Int) (xs : List Int) : Prop := withinL (bends xs) be ∧ withinL (diffs (bends xs)) tw ∧ turns xs ≤ tu
def gaps (xs ys : List Int) : List Int := List.zipWith (fun a b => max (a - b) (b - a)) xs ys
theorem gaps_length (xs ys : List Int) (h : xs.length ≤ ys.length) : (gaps xs ys).length = xs.length := by simp [gaps]; omega
theorem gaps_getD : ∀ (xs ys : List Int) (k : Nat), k < xs.length → k < ys.length → (gaps xs ys).getD k 0 = max (xs.getD k 0 - ys.getD k 0) (ys.getD k 0 - xs.getD k 0)
  | [], _, k, h, _ => by simp at h
  | a :: r, [], k, _, h => by simp at h
  | a :: r, b :: s, 0, _, _ => rfl
  | a :: r, b :: s, k + 1, h1, h2 => gaps_getD r s k (by simpa using h1) (by simpa using h2)
def sumL (l : List Int) : Int := l.foldl (· + ·) 0
def mostL (l : List Int) : Int := l.foldl max 0
theorem sumL_take (l : List Int) (k : Nat) (h : k < l.length) : sumL (l.take (k + 1)) = sumL (l.take k) + l.getD k 0 := by
  rw [take_snoc' l k h, sumL, List.foldl_append]; rfl
theorem mostL_take (l : List Int) (k : Nat) (h : k < l.length) : mostL (l.take (k + 1)) = max (mostL (l.take k)) (l.getD k 0) := by
  rw [take_snoc' l k h, mostL, List.foldl_append]; rfl
def unlikeF (xs ys : List Int) (k : Nat) : List Int := (firsts k).filter fun i => decide (xs.getD i.toNat 0 ≠ ys.getD i.toNat 0)
def unlike (xs ys : List Int) : List Int := unlikeF xs ys xs.length
theorem unlikeF_yes (xs ys : List Int) (k : Nat) (h : xs.getD k 0 ≠ ys.getD k 0) : unlikeF xs ys (k + 1) = unlikeF xs ys k ++ [(k : Int)] := by
  rw [unlikeF, firsts_succ, List.filter_append, ← unlikeF]; congr 1
  simp only [List.filter_cons, List.filter_nil, Int.toNat_natCast, ne_eq, h, not_false_eq_true, decide_true, if_true]
theorem unlikeF_no (xs ys : List Int) (k : Nat) (h : xs.getD k 0 = ys.getD k 0) : unlikeF xs ys (k + 1) = unlikeF xs ys k := by
  rw [unlikeF, firsts_succ, List.filter_append, ← unlikeF]; simp only [List.filter_cons, List.filter_nil, Int.toNat_natCast, ne_eq, h, not_true_eq_false, decide_false, Bool.false_eq_true, if_false, List.append_nil]
theorem unlikeF_length (xs ys : List Int) (k : Nat) : (unlikeF xs ys k).length ≤ k := by
  have := List.length_filter_le (fun i => decide (xs.getD i.toNat 0 ≠ ys.getD i.toNat 0)) (firsts k)
  rw [firsts_length] at this
  exact this
theorem f96_c (m : Md Tryz.prog B) (h : Hp) {p : Option Addr} {n c : Nat} {xs : List Int} (rd : RdS B h 1 (.slice p n c) n (ints xs)) (hn : n ≤ 1000) (hb : Small 100000 xs) : FnC m 96 #[.slice p n c] h fun v h' => ∃ new, h' = h ++ new ∧ OwnS 3 1 v (n - 2) (ints (bends xs)) new := by
  have hl := rd.ilen
  refine fn_enter Tryz.func96 rfl rfl (l := (.slice p n c) :: uu32) rfl ?_
  intro cf cs K hK
  refine rs1 (by kernel_rfl) ?_; refine aq rfl ?_; refine rs1 (by kernel_rfl) ?_; refine aq rfl ?_; refine run_seq ?_; refine rs1 (by kernel_rfl) ?_; refine aq rfl ?_; refine run_block ?_; refine run_loop (fun nn l h' => ∃ (k : Nat) (w : Value) (new : Hp), nn = n - k ∧ (k ≤ n - 2) ∧ (OwnS 3 1 w k (ints ((bends xs).take k)) new) ∧ (∃ U : Nat → Value, l = [.slice p n c, U 1, U 2, w, .int .i64 ((k : Int) + 1), U 5, U 6, U 7, U 8, U 9, U 10, U 11, U 12, U 13, U 14, U 15, U 16, U 17, U 18, U 19, U 20, U 21, U 22, U 23, U 24, U 25, U 26, U 27, U 28, U 29, U 30, U 31, U 32]) ∧ h ++ new = h') _ ⟨0, _, [], rfl, by omega, OwnS.nil, exU rfl, (by simp)⟩ ?_; rintro nn l h' ⟨k, w, new, rfl, hk, ho, ⟨U, rfl⟩, rfl⟩ hnext; have hb0 := hb k
  have hb1 := hb (k + 1)
  have hb2 := hb (k + 2)
  refine run_seq ?_; refine rs5 (by kernel_rfl) ?_; refine mq rfl ?_; refine k_add rfl zq (by unfold In64; omega) ?_; refine mq rfl ?_; refine k_len rfl zq ?_; refine k_lssS rfl zq (fun hc => ?_) (fun hc => ?_)
  · refine k_nil ?_; refine run_yes ?_; refine run_skip ?_; refine run_seq ?_; refine run_block ?_; refine run_draw [(0, .pure), (1, .pure), (2, .pure), (3, .pure), (4, .pure), (6, .pure), (7, .pure), (8, .pure), (9, .pure), (12, .pure), (13, .pure), (14, .pure), (5, .read), (10, .read), (11, .pure), (15, .read), (16, .pure), (17, .pure), (18, .keep), (19, .free), (20, .pure)] (by kernel_rfl) (by kernel_rfl) (List.Sublist.refl _) ?_; refine mq rfl ?_; refine mq rfl ?_; refine mq rfl ?_; refine k_sub rfl zq (by unfold In64; omega) ?_; obtain ⟨rd_b, rd_o, rfl⟩ := rd.ptr (by omega)
    refine k_ixs rfl zq (by first | rfl | assumption) (by omega) (by omega) ?_; refine mq rfl ?_; refine mq rfl ?_; refine k_add rfl zq (by unfold In64; omega) ?_; refine k_ixs rfl zq (by first | rfl | assumption) (by omega) (by omega) ?_; refine mq rfl ?_; refine mq rfl ?_; refine k_ixs rfl zq (by first | rfl | assumption) (by omega) (by omega) ?_; refine k_ld rfl zq (rd.iat k (by omega) (by omega)) ?_; refine k_ld rfl zq (rd.iat (k + 2) (by omega) (by omega)) ?_; refine k_add rfl zq (by unfold In64; omega) ?_; refine k_ld rfl zq (rd.iat (k + 1) (by omega) (by omega)) ?_; refine k_mul rfl zq (by unfold In64; omega) ?_; refine k_sub rfl zq (by unfold In64; omega) ?_; refine k_bs kdq rfl zq (by decide) (by decide) rfl (fun q30 => k_hp (k_put ?_)); refine k_app1 (F := h) rfl zq rfl ho kdq (by omega) (by omega) (fun w2 new2 ho2 => k_put ?_); rw [show ints ((bends xs).take k) ++ [Value.int .i64 (xs.getD k 0 + xs.getD (k + 2) 0 - 2 * xs.getD (k + 1) 0)] = ints ((bends xs).take (k + 1)) by rw [take_snoc' _ k (by rw [bends_length]; omega), bends_getD xs k (by omega)]; simp] at ho2
    refine aq rfl ?_; refine run_inBlock ?_; refine rr3 (by kernel_rfl) ?_; refine mq rfl ?_; refine k_add rfl zq (by unfold In64; omega) ?_; refine aq rfl ?_; exact m.weak weakSub (hnext _ _ _ (by omega) ⟨k + 1, _, _, rfl, by omega, ho2, exU rfl, rfl⟩)
  · refine k_nil ?_; refine run_no ?_; refine run_exit rfl ?_; refine rs2 (by kernel_rfl) ?_; refine mq rfl ?_; refine aq rfl ?_; refine run_ret rfl ?_; refine run_res (h ++ new) rfl Tryz.func96 rfl weakSub ?_; refine hK _ _ ?_
    obtain rfl : k = n - 2 := by omega
    rw [List.take_of_length_le (by rw [bends_length]; omega)] at ho
    exact ⟨_, rfl, ho⟩
theorem f98_c (m : Md Tryz.prog B) (h : Hp) {p : Option Addr} {n c : Nat} {xs : List Int} (rd : RdS B h 1 (.slice p n c) n (ints xs)) (hn : n ≤ 1000) (hb : Small 100000 xs) : FnC m 98 #[.slice p n c] h fun v h' => ∃ new, h' = h ++ new ∧ OwnS 3 1 v (n - 3) (ints (diffs (bends xs))) new := by
  have hl := rd.ilen
  refine fn_enter Tryz.func98 rfl rfl (l := (.slice p n c) :: uu27) rfl ?_
  intro cf cs K hK
  refine rs1 (by kernel_rfl) ?_; refine aq rfl ?_; refine rs3 (by kernel_rfl) ?_; refine mq rfl ?_; refine k_calC rfl zq (by kernel_rfl) (Post := fun v new => OwnS 3 1 v (n - 2) (ints (bends xs)) new) (fun H' hH => f96_c m H' (rd.keeps hH) hn hb) ?_; intro bv bnew hob
  refine k_hpA (k_put ?_); obtain ⟨bp, bc, rfl, hbl⟩ := hob.len
  have rdb : RdS B (h ++ bnew) 1 (.slice bp (n - 2) bc) (n - 2) (ints (bends xs)) := hob.rd'
  have hbl := rdb.ilen
  have hbb := hb.bends
  refine aq rfl ?_; refine rs1 (by kernel_rfl) ?_; refine aq rfl ?_; refine run_seq ?_; refine rs1 (by kernel_rfl) ?_; refine aq rfl ?_; refine run_block ?_; refine run_loop (fun nn l h' => ∃ (k : Nat) (w : Value) (new : Hp), nn = n - k ∧ (k ≤ n - 3) ∧ (OwnS 3 1 w k (ints ((diffs (bends xs)).take k)) new) ∧ (∃ U : Nat → Value, l = [.slice p n c, U 1, U 2, .slice bp (n - 2) bc, w, .int .i64 ((k : Int) + 1), U 6, U 7, U 8, U 9, U 10, U 11, U 12, U 13, U 14, U 15, U 16, U 17, U 18, U 19, U 20, U 21, U 22, U 23, U 24, U 25, U 26, U 27]) ∧ (h ++ bnew) ++ new = h') _ ⟨0, _, [], rfl, by omega, OwnS.nil, exU rfl, (by simp)⟩ ?_; rintro nn l h' ⟨k, w, new, rfl, hk, ho, ⟨U, rfl⟩, rfl⟩ hnext; have hb0 := hbb k
  have hb1 := hbb (k + 1)
  refine run_seq ?_; refine rs4 (by kernel_rfl) ?_; refine mq rfl ?_; refine mq rfl ?_; refine k_len rfl zq ?_; refine k_lssS rfl zq (fun hc => ?_) (fun hc => ?_)
  · refine k_nil ?_; refine run_yes ?_; refine run_skip ?_; refine run_seq ?_; refine run_block ?_; refine run_draw [(0, .pure), (1, .pure), (2, .pure), (3, .pure), (5, .pure), (6, .pure), (7, .pure), (8, .pure), (4, .read), (9, .read), (10, .pure), (11, .keep), (12, .free), (13, .pure)] (by kernel_rfl) (by kernel_rfl) (List.Sublist.refl _) ?_; refine mq rfl ?_; refine mq rfl ?_; refine mq rfl ?_; obtain ⟨rdb_b, rdb_o, rfl⟩ := rdb.ptr (by omega)
    refine k_ixs rfl zq (by first | rfl | assumption) (by omega) (by omega) ?_; refine mq rfl ?_; refine mq rfl ?_; refine k_sub rfl zq (by unfold In64; omega) ?_; refine k_ixs rfl zq (by first | rfl | assumption) (by omega) (by omega) ?_; refine k_ld rfl zq (rdb.iat (k + 1) (by omega) (by omega)) ?_; refine k_ld rfl zq (rdb.iat k (by omega) (by omega)) ?_; refine k_sub rfl zq (by unfold In64; omega) ?_; refine k_bs kdq rfl zq (by decide) (by decide) rfl (fun q25 => k_hp (k_put ?_)); refine k_app1 (F := h ++ bnew) rfl zq rfl ho kdq (by omega) (by omega) (fun w2 new2 ho2 => k_put ?_); rw [show ints ((diffs (bends xs)).take k) ++ [Value.int .i64 ((bends xs).getD (k + 1) 0 - (bends xs).getD k 0)] = ints ((diffs (bends xs)).take (k + 1)) by rw [take_snoc' _ k (by rw [diffs_length]; omega), diffs_getD (bends xs) k (by omega)]; simp] at ho2
    refine aq rfl ?_; refine run_inBlock ?_; refine rr3 (by kernel_rfl) ?_; refine mq rfl ?_; refine k_add rfl zq (by unfold In64; omega) ?_; refine aq rfl ?_; exact m.weak weakSub (hnext _ _ _ (by omega) ⟨k + 1, _, _, rfl, by omega, ho2, exU rfl, rfl⟩)
  · refine k_nil ?_; refine run_no ?_; refine run_exit rfl ?_; refine rs2 (by kernel_rfl) ?_; refine mq rfl ?_; refine aq rfl ?_; refine run_ret rfl ?_; refine run_res (h ++ new) rfl Tryz.func98 rfl weakSub ?_; refine hK _ _ ?_
    obtain rfl : k = n - 3 := by omega
    rw [List.take_of_length_le (by rw [diffs_length]; omega)] at ho
    exact ⟨_, rfl, ho⟩
theorem f100_c (m : Md Tryz.prog B) (h : Hp) {p : Option Addr} {n c : Nat} {xs : List Int} (rd : RdS B h 1 (.slice p n c) n (ints xs)) (hn : n ≤ 1000) (hb : Small 100000 xs) : FnC m 100 #[.slice p n c] h fun v h' => h' = h ∧ v = .int .i64 (turns xs) := by
  have hl := rd.ilen
  refine fn_enter Tryz.func100 rfl rfl (l := (.slice p n c) :: uu46) rfl ?_
  intro cf cs K hK
  refine rs1 (by kernel_rfl) ?_; refine aq rfl ?_; refine rs3 (by kernel_rfl) ?_; refine mq rfl ?_; refine k_calC rfl zq (by kernel_rfl) (Post := fun v new => OwnS 3 1 v (n - 2) (ints (bends xs)) new) (fun H' hH => f96_c m H' (rd.keeps hH) hn hb) ?_; intro bv bnew hob
  refine k_hpA (k_put ?_); obtain ⟨bp, bc, rfl, hbl⟩ := hob.len
  have rdb : RdS B (h ++ bnew) 1 (.slice bp (n - 2) bc) (n - 2) (ints (bends xs)) := hob.rd'
  have hbl := rdb.ilen
  have hbb := hb.bends
  refine aq rfl ?_; refine rs2 (by kernel_rfl) ?_; refine k_as rfl zq ?_; refine aq rfl ?_; refine run_seq ?_; refine rs1 (by kernel_rfl) ?_; refine aq rfl ?_; refine run_block ?_; refine run_loop (fun nn l h' => ∃ (k : Nat) (s : Int) (t : Int), nn = n - k ∧ (k ≤ n - 2) ∧ (turnF ((bends xs).take k) = (s, t)) ∧ (0 ≤ s) ∧ (s ≤ k) ∧ (∃ U : Nat → Value, l = [.slice p n c, U 1, U 2, .slice bp (n - 2) bc, .int .i64 s, .int .i64 t, .int .i64 (k : Int), U 7, U 8, U 9, U 10, U 11, U 12, U 13, U 14, U 15, U 16, U 17, U 18, U 19, U 20, U 21, U 22, U 23, U 24, U 25, U 26, U 27, U 28, U 29, U 30, U 31, U 32, U 33, U 34, U 35, U 36, U 37, U 38, U 39, U 40, U 41, U 42, U 43, U 44, U 45, U 46]) ∧ h ++ bnew = h') _ ⟨0, 0, 0, rfl, by omega, rfl, by omega, by omega, exU rfl, rfl⟩ ?_; rintro nn l h' ⟨k, s, t, rfl, hk, hs, hs0, hs1, ⟨U, rfl⟩, rfl⟩ hnext; refine run_seq ?_; refine rs4 (by kernel_rfl) ?_; refine mq rfl ?_; refine mq rfl ?_; refine k_len rfl zq ?_; refine k_lssS rfl zq (fun hc => ?_) (fun hc => ?_)
  · refine k_nil ?_; refine run_yes ?_; refine run_skip ?_; refine run_seq ?_; refine run_block ?_; refine run_seq ?_; refine run_seq ?_; refine run_region [(0, .free), (1, .free), (2, .free), (3, .free), (4, .free), (5, .free), (6, .free), (7, .free), (8, .free), (9, .free), (10, .free), (11, .free), (12, .free), (13, .free), (14, .free), (15, .free), (16, .free), (17, .free), (18, .free), (19, .free)] (by kernel_rfl) (by kernel_rfl) ?_; refine mq rfl ?_; refine mq rfl ?_; obtain ⟨rdb_b, rdb_o, rfl⟩ := rdb.ptr (by omega)
    refine k_ixs rfl zq (by first | rfl | assumption) (by omega) (by omega) ?_; refine k_ld rfl zq (rdb.iat k (by omega) (by omega)) ?_; refine k_gtrS rfl zq (fun hc => ?_) (fun hc => ?_)
    · refine mq rfl ?_; refine k_mv rfl rfl ?_; refine k_lssS rfl rfl (fun hc => ?_) (fun hc => ?_)
      · refine k_pickT rfl zq ?_; refine mq rfl ?_; refine k_off rfl rfl ?_; refine k_off rfl rfl ?_; refine k_off rfl rfl ?_; refine k_off rfl rfl ?_; refine k_off rfl rfl ?_; refine k_off rfl rfl ?_; refine k_off rfl rfl ?_; refine k_off rfl rfl ?_; refine k_off rfl rfl ?_; refine k_pickT rfl zq ?_; refine k_nil ?_; refine run_yes ?_; refine rr3 (by kernel_rfl) ?_; refine mq rfl ?_; refine k_add rfl zq (by unfold In64; omega) ?_; refine aq rfl ?_; refine rs5 (by kernel_rfl) ?_; refine mq rfl ?_; refine mq rfl ?_; refine k_ixs rfl zq (by first | rfl | assumption) (by omega) (by omega) ?_; refine k_ld rfl zq (rdb.iat k (by omega) (by omega)) ?_; refine k_neqS rfl zq (fun hc => ?_) (fun hc => ?_)
        · refine k_nil ?_; refine run_yes ?_; refine rr5 (by kernel_rfl) ?_; refine mq rfl ?_; refine mq rfl ?_; refine k_ixs rfl zq (by first | rfl | assumption) (by omega) (by omega) ?_; refine k_ld rfl zq (rdb.iat k (by omega) (by omega)) ?_; refine aq rfl ?_; refine run_inBlock ?_; refine rr3 (by kernel_rfl) ?_; refine mq rfl ?_; refine k_add rfl zq (by unfold In64; omega) ?_; refine aq rfl ?_; have ht := turnF_take (bends xs) k (by omega)
          rw [hs] at ht
          simp only [turnSt] at ht
          exact m.weak weakSub (hnext _ _ _ (by omega) ⟨k + 1, _, _, rfl, by omega, by first | (exfalso; omega) | (rw [ht]; repeat first | rw [if_pos (by omega)] | rw [if_neg (by omega)]), by omega, by omega, exU rfl, rfl⟩)
        · refine k_nil ?_; refine run_no ?_; refine run_skip ?_; refine run_inBlock ?_; refine rr3 (by kernel_rfl) ?_; refine mq rfl ?_; refine k_add rfl zq (by unfold In64; omega) ?_; refine aq rfl ?_; have ht := turnF_take (bends xs) k (by omega)
          rw [hs] at ht
          simp only [turnSt] at ht
          exact m.weak weakSub (hnext _ _ _ (by omega) ⟨k + 1, _, _, rfl, by omega, by first | (exfalso; omega) | (rw [ht]; repeat first | rw [if_pos (by omega)] | rw [if_neg (by omega)]), by omega, by omega, exU rfl, rfl⟩)
      · refine k_pickT rfl zq ?_; refine mq rfl ?_; refine k_mv rfl rfl ?_; refine k_mv rfl rfl ?_; refine k_ixs rfl rfl (by first | rfl | assumption) (by omega) (by omega) ?_; refine k_ld rfl rfl (rdb.iat k (by omega) (by omega)) ?_; refine k_lssS rfl rfl (fun hc => ?_) (fun hc => ?_)
        · refine k_mv rfl rfl ?_; refine k_mv rfl rfl ?_; refine k_gtrS rfl rfl (fun hc => ?_) (fun hc => ?_)
          · refine k_pickT rfl rfl ?_; refine k_pickF rfl zq ?_; refine k_nil ?_; refine run_yes ?_; refine rr3 (by kernel_rfl) ?_; refine mq rfl ?_; refine k_add rfl zq (by unfold In64; omega) ?_; refine aq rfl ?_; refine rs5 (by kernel_rfl) ?_; refine mq rfl ?_; refine mq rfl ?_; refine k_ixs rfl zq (by first | rfl | assumption) (by omega) (by omega) ?_; refine k_ld rfl zq (rdb.iat k (by omega) (by omega)) ?_; refine k_neqS rfl zq (fun hc => ?_) (fun hc => ?_)
            · refine k_nil ?_; refine run_yes ?_; refine rr5 (by kernel_rfl) ?_; refine mq rfl ?_; refine mq rfl ?_; refine k_ixs rfl zq (by first | rfl | assumption) (by omega) (by omega) ?_; refine k_ld rfl zq (rdb.iat k (by omega) (by omega)) ?_; refine aq rfl ?_; refine run_inBlock ?_; refine rr3 (by kernel_rfl) ?_; refine mq rfl ?_; refine k_add rfl zq (by unfold In64; omega) ?_; refine aq rfl ?_; have ht := turnF_take (bends xs) k (by omega)
              rw [hs] at ht
              simp only [turnSt] at ht
              exact m.weak weakSub (hnext _ _ _ (by omega) ⟨k + 1, _, _, rfl, by omega, by first | (exfalso; omega) | (rw [ht]; repeat first | rw [if_pos (by omega)] | rw [if_neg (by omega)]), by omega, by omega, exU rfl, rfl⟩)
            · refine k_nil ?_; refine run_no ?_; refine run_skip ?_; refine run_inBlock ?_; refine rr3 (by kernel_rfl) ?_; refine mq rfl ?_; refine k_add rfl zq (by unfold In64; omega) ?_; refine aq rfl ?_; have ht := turnF_take (bends xs) k (by omega)
              rw [hs] at ht
              simp only [turnSt] at ht
              exact m.weak weakSub (hnext _ _ _ (by omega) ⟨k + 1, _, _, rfl, by omega, by first | (exfalso; omega) | (rw [ht]; repeat first | rw [if_pos (by omega)] | rw [if_neg (by omega)]), by omega, by omega, exU rfl, rfl⟩)
          · refine k_pickT rfl rfl ?_; refine k_pickF rfl zq ?_; refine k_nil ?_; refine run_no ?_; refine run_skip ?_; refine rs5 (by kernel_rfl) ?_; refine mq rfl ?_; refine mq rfl ?_; refine k_ixs rfl zq (by first | rfl | assumption) (by omega) (by omega) ?_; refine k_ld rfl zq (rdb.iat k (by omega) (by omega)) ?_; refine k_neqS rfl zq (fun hc => ?_) (fun hc => ?_)
            · refine k_nil ?_; refine run_yes ?_; refine rr5 (by kernel_rfl) ?_; refine mq rfl ?_; refine mq rfl ?_; refine k_ixs rfl zq (by first | rfl | assumption) (by omega) (by omega) ?_; refine k_ld rfl zq (rdb.iat k (by omega) (by omega)) ?_; refine aq rfl ?_; refine run_inBlock ?_; refine rr3 (by kernel_rfl) ?_; refine mq rfl ?_; refine k_add rfl zq (by unfold In64; omega) ?_; refine aq rfl ?_; have ht := turnF_take (bends xs) k (by omega)
              rw [hs] at ht
              simp only [turnSt] at ht
              exact m.weak weakSub (hnext _ _ _ (by omega) ⟨k + 1, _, _, rfl, by omega, by first | (exfalso; omega) | (rw [ht]; repeat first | rw [if_pos (by omega)] | rw [if_neg (by omega)]), by omega, by omega, exU rfl, rfl⟩)
            · refine k_nil ?_; refine run_no ?_; refine run_skip ?_; refine run_inBlock ?_; refine rr3 (by kernel_rfl) ?_; refine mq rfl ?_; refine k_add rfl zq (by unfold In64; omega) ?_; refine aq rfl ?_; have ht := turnF_take (bends xs) k (by omega)
              rw [hs] at ht
              simp only [turnSt] at ht
              exact m.weak weakSub (hnext _ _ _ (by omega) ⟨k + 1, _, _, rfl, by omega, by first | (exfalso; omega) | (rw [ht]; repeat first | rw [if_pos (by omega)] | rw [if_neg (by omega)]), by omega, by omega, exU rfl, rfl⟩)
        · refine k_mv rfl rfl ?_; refine k_off rfl rfl ?_; refine k_off rfl rfl ?_; refine k_pickF rfl rfl ?_; refine k_pickF rfl zq ?_; refine k_nil ?_; refine run_no ?_; refine run_skip ?_; refine rs5 (by kernel_rfl) ?_; refine mq rfl ?_; refine mq rfl ?_; refine k_ixs rfl zq (by first | rfl | assumption) (by omega) (by omega) ?_; refine k_ld rfl zq (rdb.iat k (by omega) (by omega)) ?_; refine k_neqS rfl zq (fun hc => ?_) (fun hc => ?_)
          · refine k_nil ?_; refine run_yes ?_; refine rr5 (by kernel_rfl) ?_; refine mq rfl ?_; refine mq rfl ?_; refine k_ixs rfl zq (by first | rfl | assumption) (by omega) (by omega) ?_; refine k_ld rfl zq (rdb.iat k (by omega) (by omega)) ?_; refine aq rfl ?_; refine run_inBlock ?_; refine rr3 (by kernel_rfl) ?_; refine mq rfl ?_; refine k_add rfl zq (by unfold In64; omega) ?_; refine aq rfl ?_; have ht := turnF_take (bends xs) k (by omega)
            rw [hs] at ht
            simp only [turnSt] at ht
            exact m.weak weakSub (hnext _ _ _ (by omega) ⟨k + 1, _, _, rfl, by omega, by first | (exfalso; omega) | (rw [ht]; repeat first | rw [if_pos (by omega)] | rw [if_neg (by omega)]), by omega, by omega, exU rfl, rfl⟩)
          · refine k_nil ?_; refine run_no ?_; refine run_skip ?_; refine run_inBlock ?_; refine rr3 (by kernel_rfl) ?_; refine mq rfl ?_; refine k_add rfl zq (by unfold In64; omega) ?_; refine aq rfl ?_; have ht := turnF_take (bends xs) k (by omega)
            rw [hs] at ht
            simp only [turnSt] at ht
            exact m.weak weakSub (hnext _ _ _ (by omega) ⟨k + 1, _, _, rfl, by omega, by first | (exfalso; omega) | (rw [ht]; repeat first | rw [if_pos (by omega)] | rw [if_neg (by omega)]), by omega, by omega, exU rfl, rfl⟩)
    · refine mq rfl ?_; refine k_off rfl rfl ?_; refine k_off rfl rfl ?_; refine k_pickF rfl zq ?_; refine mq rfl ?_; refine k_mv rfl rfl ?_; refine k_mv rfl rfl ?_; refine k_ixs rfl rfl (by first | rfl | assumption) (by omega) (by omega) ?_; refine k_ld rfl rfl (rdb.iat k (by omega) (by omega)) ?_; refine k_lssS rfl rfl (fun hc => ?_) (fun hc => ?_)
      · refine k_mv rfl rfl ?_; refine k_mv rfl rfl ?_; refine k_gtrS rfl rfl (fun hc => ?_) (fun hc => ?_)
        · refine k_pickT rfl rfl ?_; refine k_pickF rfl zq ?_; refine k_nil ?_; refine run_yes ?_; refine rr3 (by kernel_rfl) ?_; refine mq rfl ?_; refine k_add rfl zq (by unfold In64; omega) ?_; refine aq rfl ?_; refine rs5 (by kernel_rfl) ?_; refine mq rfl ?_; refine mq rfl ?_; refine k_ixs rfl zq (by first | rfl | assumption) (by omega) (by omega) ?_; refine k_ld rfl zq (rdb.iat k (by omega) (by omega)) ?_; refine k_neqS rfl zq (fun hc => ?_) (fun hc => ?_)
          · refine k_nil ?_; refine run_yes ?_; refine rr5 (by kernel_rfl) ?_; refine mq rfl ?_; refine mq rfl ?_; refine k_ixs rfl zq (by first | rfl | assumption) (by omega) (by omega) ?_; refine k_ld rfl zq (rdb.iat k (by omega) (by omega)) ?_; refine aq rfl ?_; refine run_inBlock ?_; refine rr3 (by kernel_rfl) ?_; refine mq rfl ?_; refine k_add rfl zq (by unfold In64; omega) ?_; refine aq rfl ?_; have ht := turnF_take (bends xs) k (by omega)
            rw [hs] at ht
            simp only [turnSt] at ht
            exact m.weak weakSub (hnext _ _ _ (by omega) ⟨k + 1, _, _, rfl, by omega, by first | (exfalso; omega) | (rw [ht]; repeat first | rw [if_pos (by omega)] | rw [if_neg (by omega)]), by omega, by omega, exU rfl, rfl⟩)
          · refine k_nil ?_; refine run_no ?_; refine run_skip ?_; refine run_inBlock ?_; refine rr3 (by kernel_rfl) ?_; refine mq rfl ?_; refine k_add rfl zq (by unfold In64; omega) ?_; refine aq rfl ?_; have ht := turnF_take (bends xs) k (by omega)
            rw [hs] at ht
            simp only [turnSt] at ht
            exact m.weak weakSub (hnext _ _ _ (by omega) ⟨k + 1, _, _, rfl, by omega, by first | (exfalso; omega) | (rw [ht]; repeat first | rw [if_pos (by omega)] | rw [if_neg (by omega)]), by omega, by omega, exU rfl, rfl⟩)
        · refine k_pickT rfl rfl ?_; refine k_pickF rfl zq ?_; refine k_nil ?_; refine run_no ?_; refine run_skip ?_; refine rs5 (by kernel_rfl) ?_; refine mq rfl ?_; refine mq rfl ?_; refine k_ixs rfl zq (by first | rfl | assumption) (by omega) (by omega) ?_; refine k_ld rfl zq (rdb.iat k (by omega) (by omega)) ?_; refine k_neqS rfl zq (fun hc => ?_) (fun hc => ?_)
          · refine k_nil ?_; refine run_yes ?_; refine rr5 (by kernel_rfl) ?_; refine mq rfl ?_; refine mq rfl ?_; refine k_ixs rfl zq (by first | rfl | assumption) (by omega) (by omega) ?_; refine k_ld rfl zq (rdb.iat k (by omega) (by omega)) ?_; refine aq rfl ?_; refine run_inBlock ?_; refine rr3 (by kernel_rfl) ?_; refine mq rfl ?_; refine k_add rfl zq (by unfold In64; omega) ?_; refine aq rfl ?_; have ht := turnF_take (bends xs) k (by omega)
            rw [hs] at ht
            simp only [turnSt] at ht
            exact m.weak weakSub (hnext _ _ _ (by omega) ⟨k + 1, _, _, rfl, by omega, by first | (exfalso; omega) | (rw [ht]; repeat first | rw [if_pos (by omega)] | rw [if_neg (by omega)]), by omega, by omega, exU rfl, rfl⟩)
          · refine k_nil ?_; refine run_no ?_; refine run_skip ?_; refine run_inBlock ?_; refine rr3 (by kernel_rfl) ?_; refine mq rfl ?_; refine k_add rfl zq (by unfold In64; omega) ?_; refine aq rfl ?_; have ht := turnF_take (bends xs) k (by omega)
            rw [hs] at ht
            simp only [turnSt] at ht
            exact m.weak weakSub (hnext _ _ _ (by omega) ⟨k + 1, _, _, rfl, by omega, by first | (exfalso; omega) | (rw [ht]; repeat first | rw [if_pos (by omega)] | rw [if_neg (by omega)]), by omega, by omega, exU rfl, rfl⟩)
      · refine k_mv rfl rfl ?_; refine k_off rfl rfl ?_; refine k_off rfl rfl ?_; refine k_pickF rfl rfl ?_; refine k_pickF rfl zq ?_; refine k_nil ?_; refine run_no ?_; refine run_skip ?_; refine rs5 (by kernel_rfl) ?_; refine mq rfl ?_; refine mq rfl ?_; refine k_ixs rfl zq (by first | rfl | assumption) (by omega) (by omega) ?_; refine k_ld rfl zq (rdb.iat k (by omega) (by omega)) ?_; refine k_neqS rfl zq (fun hc => ?_) (fun hc => ?_)
        · refine k_nil ?_; refine run_yes ?_; refine rr5 (by kernel_rfl) ?_; refine mq rfl ?_; refine mq rfl ?_; refine k_ixs rfl zq (by first | rfl | assumption) (by omega) (by omega) ?_; refine k_ld rfl zq (rdb.iat k (by omega) (by omega)) ?_; refine aq rfl ?_; refine run_inBlock ?_; refine rr3 (by kernel_rfl) ?_; refine mq rfl ?_; refine k_add rfl zq (by unfold In64; omega) ?_; refine aq rfl ?_; have ht := turnF_take (bends xs) k (by omega)
          rw [hs] at ht
          simp only [turnSt] at ht
          exact m.weak weakSub (hnext _ _ _ (by omega) ⟨k + 1, _, _, rfl, by omega, by first | (exfalso; omega) | (rw [ht]; repeat first | rw [if_pos (by omega)] | rw [if_neg (by omega)]), by omega, by omega, exU rfl, rfl⟩)
        · refine k_nil ?_; refine run_no ?_; refine run_skip ?_; refine run_inBlock ?_; refine rr3 (by kernel_rfl) ?_; refine mq rfl ?_; refine k_add rfl zq (by unfold In64; omega) ?_; refine aq rfl ?_; have ht := turnF_take (bends xs) k (by omega)
          rw [hs] at ht
          simp only [turnSt] at ht
          exact m.weak weakSub (hnext _ _ _ (by omega) ⟨k + 1, _, _, rfl, by omega, by first | (exfalso; omega) | (rw [ht]; repeat first | rw [if_pos (by omega)] | rw [if_neg (by omega)]), by omega, by omega, exU rfl, rfl⟩)
  · refine k_nil ?_; refine run_no ?_; refine run_exit rfl ?_; refine rs2 (by kernel_rfl) ?_; refine mq rfl ?_; refine aq rfl ?_; refine run_ret rfl ?_; refine run_res (h) rfl Tryz.func100 rfl weakSub ?_; refine hK _ _ ?_
    obtain rfl : k = n - 2 := by omega
    rw [List.take_of_length_le (by omega)] at hs
    exact ⟨rfl, by rw [turns, hs]⟩
theorem f53_c (m : Md Tryz.prog B) (h : Hp) {p : Option Addr} {n c : Nat} {xs : List Int} (rd : RdS B h 1 (.slice p n c) n (ints xs)) (hn : n ≤ 1000) (hb : Small 100000 xs) : FnC m 53 #[.slice p n c] h fun v h' => h' = h ∧ v = .int .i64 (strain xs) := by
  have hl := rd.ilen
  refine fn_enter Tryz.func53 rfl rfl (l := (.slice p n c) :: uu25) rfl ?_
  intro cf cs K hK
  refine rs1 (by kernel_rfl) ?_; refine aq rfl ?_; refine rs3 (by kernel_rfl) ?_; refine mq rfl ?_; refine k_calC rfl zq (by kernel_rfl) (Post := fun v new => OwnS 3 1 v (n - 2) (ints (bends xs)) new) (fun H' hH => f96_c m H' (rd.keeps hH) hn hb) ?_; intro bv bnew hob
  refine k_hpA (k_put ?_); obtain ⟨bp, bc, rfl, hbl⟩ := hob.len
  have rdb : RdS B (h ++ bnew) 1 (.slice bp (n - 2) bc) (n - 2) (ints (bends xs)) := hob.rd'
  have hbl := rdb.ilen
  have hbb := hb.bends
  refine aq rfl ?_; refine rs1 (by kernel_rfl) ?_; refine aq rfl ?_; refine run_seq ?_; refine rs1 (by kernel_rfl) ?_; refine aq rfl ?_; refine run_block ?_; refine run_loop (fun nn l h' => ∃ (k : Nat) (s : Int), nn = n - k ∧ (k ≤ n - 2) ∧ (s = sqs ((bends xs).take k)) ∧ (0 ≤ s) ∧ (s ≤ 160000000000 * k) ∧ (∃ U : Nat → Value, l = [.slice p n c, U 1, U 2, .slice bp (n - 2) bc, .int .i64 s, .int .i64 (k : Int), U 6, U 7, U 8, U 9, U 10, U 11, U 12, U 13, U 14, U 15, U 16, U 17, U 18, U 19, U 20, U 21, U 22, U 23, U 24, U 25]) ∧ h ++ bnew = h') _ ⟨0, 0, rfl, by omega, rfl, by omega, by omega, exU rfl, rfl⟩ ?_; rintro nn l h' ⟨k, s, rfl, hk, hs, hs0, hs1, ⟨U, rfl⟩, rfl⟩ hnext; have hsq := sq_bound (hbb k)
  refine run_seq ?_; refine rs4 (by kernel_rfl) ?_; refine mq rfl ?_; refine mq rfl ?_; refine k_len rfl zq ?_; refine k_lssS rfl zq (fun hc => ?_) (fun hc => ?_)
  · refine k_nil ?_; refine run_yes ?_; refine run_skip ?_; refine run_seq ?_; refine run_block ?_; refine run_draw [(0, .pure), (1, .pure), (2, .pure), (3, .pure), (5, .pure), (6, .pure), (7, .pure), (4, .read), (8, .read), (9, .pure), (10, .pure), (11, .pure)] (by kernel_rfl) (by kernel_rfl) (List.Sublist.refl _) ?_; refine mq rfl ?_; refine mq rfl ?_; refine mq rfl ?_; obtain ⟨rdb_b, rdb_o, rfl⟩ := rdb.ptr (by omega)
    refine k_ixs rfl zq (by first | rfl | assumption) (by omega) (by omega) ?_; refine mq rfl ?_; refine mq rfl ?_; refine k_ixs rfl zq (by first | rfl | assumption) (by omega) (by omega) ?_; refine k_ld rfl zq (rdb.iat k (by omega) (by omega)) ?_; refine k_ld rfl zq (rdb.iat k (by omega) (by omega)) ?_; refine k_mul rfl zq (by unfold In64; omega) ?_; refine k_add rfl zq (by unfold In64; omega) ?_; refine aq rfl ?_; refine run_inBlock ?_; refine rr3 (by kernel_rfl) ?_; refine mq rfl ?_; refine k_add rfl zq (by unfold In64; omega) ?_; refine aq rfl ?_; exact m.weak weakSub (hnext _ _ _ (by omega) ⟨k + 1, _, rfl, by omega, by rw [sqs_take _ _ (by omega), ← hs], by omega, by omega, exU rfl, rfl⟩)
  · refine k_nil ?_; refine run_no ?_; refine run_exit rfl ?_; refine rs2 (by kernel_rfl) ?_; refine mq rfl ?_; refine aq rfl ?_; refine run_ret rfl ?_; refine run_res (h) rfl Tryz.func53 rfl weakSub ?_; refine hK _ _ ?_
    obtain rfl : k = n - 2 := by omega
    rw [List.take_of_length_le (by omega)] at hs
    exact ⟨rfl, by rw [hs]; rfl⟩
theorem f148_c (m : Md Tryz.prog B) (h : Hp) {p : Option Addr} {n c : Nat} {xs : List Int} (rd : RdS B h 1 (.slice p n c) n (ints xs)) (hn : n ≤ 1000) (x : Int) (hx : 0 ≤ x ∧ x ≤ 10000) : FnC m 148 #[.slice p n c, .int .i64 x] h fun v h' => h' = h ∧ IsB (withinL xs x) v := by
  have hl := rd.ilen
  refine fn_enter Tryz.func148 rfl rfl (l := (.slice p n c) :: (.int .i64 x) :: uu19) rfl ?_
  intro cf cs K hK
  refine rs1 (by kernel_rfl) ?_; refine aq rfl ?_; refine run_seq ?_; refine rs1 (by kernel_rfl) ?_; refine aq rfl ?_; refine run_block ?_; refine run_loop (fun nn l h' => ∃ (k : Nat), nn = n - k ∧ (k ≤ n) ∧ (∀ i, i < k → -x ≤ xs.getD i 0 ∧ xs.getD i 0 ≤ x) ∧ (∃ U : Nat → Value, l = [.slice p n c, .int .i64 x, U 2, U 3, U 4, .int .i64 (k : Int), U 6, U 7, U 8, U 9, U 10, U 11, U 12, U 13, U 14, U 15, U 16, U 17, U 18, U 19, U 20]) ∧ h = h') _ ⟨0, rfl, by omega, by omega, exU rfl, rfl⟩ ?_; rintro nn l h' ⟨k, rfl, hk, he, ⟨U, rfl⟩, rfl⟩ hnext; refine run_seq ?_; refine rs4 (by kernel_rfl) ?_; refine mq rfl ?_; refine mq rfl ?_; refine k_len rfl zq ?_; refine k_lssS rfl zq (fun hc => ?_) (fun hc => ?_)
  · refine k_nil ?_; refine run_yes ?_; refine run_skip ?_; refine run_seq ?_; refine run_block ?_; refine rs9 (by kernel_rfl) ?_; refine mq rfl ?_; refine mq rfl ?_; obtain ⟨rd_b, rd_o, rfl⟩ := rd.ptr (by omega)
    refine k_ixs rfl zq (by first | rfl | assumption) (by omega) (by omega) ?_; refine k_ld rfl zq (rd.iat k (by omega) (by omega)) ?_; refine mq rfl ?_; refine k_neg rfl zq (by unfold In64; omega) ?_; refine mq rfl ?_; refine k_calP (Post := fun v => IsB _ v) rfl zq (by kernel_rfl) (fun H' hH => f72_c m H' _ _ _) ?_; rintro v (⟨hc, rfl⟩ | ⟨hc, rfl⟩)
    · refine k_put ?_; refine k_notT rfl zq ?_; refine k_nil ?_; refine run_no ?_; refine run_skip ?_; refine run_inBlock ?_; refine rr3 (by kernel_rfl) ?_; refine mq rfl ?_; refine k_add rfl zq (by unfold In64; omega) ?_; refine aq rfl ?_; exact m.weak weakSub (hnext _ _ _ (by omega) ⟨k + 1, rfl, by omega, fun i hi => by
        rcases Nat.lt_or_ge i k with h1 | h1
        · exact he i h1
        · obtain rfl : i = k := by omega
          assumption, exU rfl, rfl⟩)
    · refine k_put ?_; refine k_notF rfl zq ?_; refine k_nil ?_; refine run_yes ?_; refine rs1 (by kernel_rfl) ?_; refine aq rfl ?_; refine run_ret rfl ?_; refine run_res (h) rfl Tryz.func148 rfl weakSub ?_; refine hK _ _ ?_
      exact ⟨rfl, IsB.no fun e => absurd (e _ (mem_getD.2 ⟨k, by omega, rfl⟩)) (by assumption)⟩
  · refine k_nil ?_; refine run_no ?_; refine run_exit rfl ?_; refine rs1 (by kernel_rfl) ?_; refine aq rfl ?_; refine run_ret rfl ?_; refine run_res (h) rfl Tryz.func148 rfl weakSub ?_; refine hK _ _ ?_
    exact ⟨rfl, IsB.yes fun y hy => by
      obtain ⟨i, h1, rfl⟩ := mem_getD.1 hy
      exact he i (by omega)⟩
def okM (x : Sp) : Prop := 0 ≤ x.lo ∧ x.lo ≤ x.hi ∧ x.hi ≤ 959 ∧ x.hi - x.lo < 3
instance (x : Sp) : Decidable (okM x) := by unfold okM; infer_instance
instance (ms : List Sp) : Decidable (∀ x ∈ ms, okM x) := List.decidableBAll _ _
def marksS (ms : List Sp) : Int := if ¬ (3 ≤ ms.length ∧ ms.length ≤ 7) then 2 else if ∀ x ∈ ms, okM x then 0 else 1
def rules1 (many : Int) : List Ru → Int
  | [] => 0
  | r :: t => if ¬ (0 ≤ r.a ∧ r.a ≤ many - 1) ∨ ¬ (0 ≤ r.b ∧ r.b ≤ many - 1) then 6 else if r.a ≥ r.b then 7 else if ¬ (-959 ≤ r.lo ∧ r.lo ≤ r.hi ∧ r.hi ≤ 959) then 1 else rules1 many t
def rulesS (many : Int) (rs : List Ru) : Int := if rs.length > 4 then 2 else rules1 many rs
def bookS (b : Bk) : Int :=
  if ¬ (0 ≤ b.bend ∧ b.bend ≤ 99) ∨ ¬ (0 ≤ b.twist ∧ b.twist ≤ 99) ∨ ¬ (0 ≤ b.turns ∧ b.turns ≤ 5) then 1 else
  if marksS b.marks ≠ 0 then marksS b.marks else rulesS b.marks.length b.rules
def lineS (many : Nat) (xs : List Int) : Int := if xs.length ≠ many then 2 else if ∀ x ∈ xs, 0 ≤ x ∧ x ≤ 959 then 0 else 1
theorem f91_c (m : Md Tryz.prog B) (h : Hp) {pm : Option Addr} {nm cm : Nat} {ms : List Sp} (rdm : RdS B h 2 (.slice pm nm cm) nm (encs ms)) (hm : nm ≤ 1000) : FnC m 91 #[.slice pm nm cm] h fun v h' => h' = h ∧ v = .int .i64 (marksS ms) := by
  have hml := rdm.elen (by decide)
  refine fn_enter Tryz.func91 rfl rfl (l := (.slice pm nm cm) :: uu33) rfl ?_
  intro cf cs K hK
  refine rs1 (by kernel_rfl) ?_; refine aq rfl ?_; refine run_seq ?_; refine rs4 (by kernel_rfl) ?_; refine mq rfl ?_; refine k_len rfl zq ?_; refine k_calP (Post := fun v => IsB _ v) rfl zq (by kernel_rfl) (fun H' hH => f72_c m H' _ _ _) ?_; rintro v (⟨hc, rfl⟩ | ⟨hc, rfl⟩)
  · refine k_put ?_; refine k_notT rfl zq ?_; refine k_nil ?_; refine run_no ?_; refine run_skip ?_; refine run_seq ?_; refine rs1 (by kernel_rfl) ?_; refine aq rfl ?_; refine run_block ?_; refine run_loop (fun nn l h' => ∃ (k : Nat), nn = nm - k ∧ (k ≤ nm) ∧ (∀ i, i < k → okM (ms.getD i default)) ∧ (∃ U : Nat → Value, l = [.slice pm nm cm, U 1, U 2, .int .i64 (k : Int), U 4, U 5, U 6, U 7, U 8, U 9, U 10, U 11, U 12, U 13, U 14, U 15, U 16, U 17, U 18, U 19, U 20, U 21, U 22, U 23, U 24, U 25, U 26, U 27, U 28, U 29, U 30, U 31, U 32, U 33]) ∧ h = h') _ ⟨0, rfl, by omega, by omega, exU rfl, rfl⟩ ?_; rintro nn l h' ⟨k, rfl, hk, he, ⟨U, rfl⟩, rfl⟩ hnext; refine run_seq ?_; refine rs4 (by kernel_rfl) ?_; refine mq rfl ?_; refine mq rfl ?_; refine k_len rfl zq ?_; refine k_lssS rfl zq (fun hc => ?_) (fun hc => ?_)
    · refine k_nil ?_; refine run_yes ?_; refine run_skip ?_; refine run_seq ?_; refine run_block ?_; refine run_seq ?_; refine run_draw [(0, .pure), (1, .pure), (2, .pure), (3, .read), (4, .keep), (5, .pure), (6, .pure), (7, .pure), (8, .pure), (9, .pure), (10, .pure), (12, .pure), (13, .pure), (14, .pure), (15, .pure), (11, .read), (16, .read), (17, .pure), (18, .pure), (19, .pure)] (by kernel_rfl) (by kernel_rfl) (List.Sublist.refl _) ?_; refine mq rfl ?_; refine mq rfl ?_; obtain ⟨rdm_b, rdm_o, rfl⟩ := rdm.ptr (by omega)
      refine k_ixs rfl zq (by first | rfl | assumption) (by omega) (by omega) ?_; refine k_ldN (vs := [.int .i64 (ms.getD k default).lo, .int .i64 (ms.getD k default).hi]) rfl zq rfl (rdm.eat k (by omega) (by omega)) ?_; refine k_calP (Post := fun v => IsB _ v) rfl zq (by kernel_rfl) (fun H' hH => f132_c m H' _ _ _ _) ?_; rintro v (⟨hc, rfl⟩ | ⟨hc, rfl⟩)
      · refine k_put ?_; refine k_notT rfl zq ?_; refine mq rfl ?_; refine k_mv rfl rfl ?_; refine k_mv rfl rfl ?_; refine k_ixs rfl rfl (by first | rfl | assumption) (by omega) (by omega) ?_; first | refine k_fa0 rfl rfl ?_ | refine k_fa rfl rfl ?_
        refine k_mv rfl rfl ?_; refine k_mv rfl rfl ?_; refine k_ixs rfl rfl (by first | rfl | assumption) (by omega) (by omega) ?_; first | refine k_fa0 rfl rfl ?_ | refine k_fa rfl rfl ?_
        refine k_ld rfl rfl (rdm.fat (v := .int .i64 (ms.getD k default).hi) k 1 (by omega) (by omega) rfl) ?_; refine k_ld rfl rfl (rdm.fat (v := .int .i64 (ms.getD k default).lo) k 0 (by omega) (by omega) rfl) ?_; refine k_sub rfl rfl (by unfold In64; omega) ?_; refine k_geqS rfl rfl (fun hc => ?_) (fun hc => ?_)
        · refine k_pickF rfl zq ?_; refine k_nil ?_; refine run_yes ?_; refine rs1 (by kernel_rfl) ?_; refine aq rfl ?_; refine run_ret rfl ?_; refine run_res (h) rfl Tryz.func91 rfl weakSub ?_; refine hK _ _ ?_
          first
            | exact ⟨rfl, by rw [marksS, if_pos (by omega)]⟩
            | exact ⟨rfl, by rw [marksS, if_neg (by omega), if_neg (fun e => by have := e _ (mem_getDR.2 ⟨k, by omega, rfl⟩); unfold okM at this; omega)]⟩
            | exact ⟨rfl, by rw [marksS, if_neg (by omega), if_pos (fun x hx => by obtain ⟨i, h1, rfl⟩ := mem_getDR.1 hx; exact he i (by omega))]⟩
        · refine k_pickF rfl zq ?_; refine k_nil ?_; refine run_no ?_; refine run_skip ?_; refine run_inBlock ?_; refine rr3 (by kernel_rfl) ?_; refine mq rfl ?_; refine k_add rfl zq (by unfold In64; omega) ?_; refine aq rfl ?_; exact m.weak weakSub (hnext _ _ _ (by omega) ⟨k + 1, rfl, by omega, all_snoc he (by unfold okM; omega), exU rfl, rfl⟩)
      · refine k_put ?_; refine k_notF rfl zq ?_; refine mq rfl ?_; refine k_off rfl rfl ?_; refine k_off rfl rfl ?_; refine k_off rfl rfl ?_; refine k_off rfl rfl ?_; refine k_off rfl rfl ?_; refine k_off rfl rfl ?_; refine k_off rfl rfl ?_; refine k_off rfl rfl ?_; refine k_off rfl rfl ?_; refine k_off rfl rfl ?_; refine k_off rfl rfl ?_; refine k_off rfl rfl ?_; refine k_pickT rfl zq ?_; refine k_nil ?_; refine run_yes ?_; refine rs1 (by kernel_rfl) ?_; refine aq rfl ?_; refine run_ret rfl ?_; refine run_res (h) rfl Tryz.func91 rfl weakSub ?_; refine hK _ _ ?_
        first
          | exact ⟨rfl, by rw [marksS, if_pos (by omega)]⟩
          | exact ⟨rfl, by rw [marksS, if_neg (by omega), if_neg (fun e => by have := e _ (mem_getDR.2 ⟨k, by omega, rfl⟩); unfold okM at this; omega)]⟩
          | exact ⟨rfl, by rw [marksS, if_neg (by omega), if_pos (fun x hx => by obtain ⟨i, h1, rfl⟩ := mem_getDR.1 hx; exact he i (by omega))]⟩
    · refine k_nil ?_; refine run_no ?_; refine run_exit rfl ?_; refine rs1 (by kernel_rfl) ?_; refine aq rfl ?_; refine run_ret rfl ?_; refine run_res (h) rfl Tryz.func91 rfl weakSub ?_; refine hK _ _ ?_
      first
        | exact ⟨rfl, by rw [marksS, if_pos (by omega)]⟩
        | exact ⟨rfl, by rw [marksS, if_neg (by omega), if_neg (fun e => by have := e _ (mem_getDR.2 ⟨k, by omega, rfl⟩); unfold okM at this; omega)]⟩
        | exact ⟨rfl, by rw [marksS, if_neg (by omega), if_pos (fun x hx => by obtain ⟨i, h1, rfl⟩ := mem_getDR.1 hx; exact he i (by omega))]⟩
  · refine k_put ?_; refine k_notF rfl zq ?_; refine k_nil ?_; refine run_yes ?_; refine rs1 (by kernel_rfl) ?_; refine aq rfl ?_; refine run_ret rfl ?_; refine run_res (h) rfl Tryz.func91 rfl weakSub ?_; refine hK _ _ ?_
    first
      | exact ⟨rfl, by rw [marksS, if_pos (by omega)]⟩
      | exact ⟨rfl, by rw [marksS, if_neg (by omega), if_neg (fun e => by have := e _ (mem_getDR.2 ⟨k, by omega, rfl⟩); unfold okM at this; omega)]⟩
      | exact ⟨rfl, by rw [marksS, if_neg (by omega), if_pos (fun x hx => by obtain ⟨i, h1, rfl⟩ := mem_getDR.1 hx; exact he i (by omega))]⟩
theorem f92_c (m : Md Tryz.prog B) (h : Hp) {b : Bk} {pm : Option Addr} {nm cm : Nat} {pr : Option Addr} {nr cr : Nat} (rdm : RdS B h 2 (.slice pm nm cm) nm (encs b.marks)) (hm : nm ≤ 1000) (rdr : RdS B h 4 (.slice pr nr cr) nr (encs b.rules)) (hr : nr ≤ 1000) : FnC m 92 #[bkV b pm nm cm pr nr cr] h fun v h' => h' = h ∧ v = .int .i64 (rulesS b.marks.length b.rules) := by
  have hml := rdm.elen (by decide)
  have hrl := rdr.elen (by decide)
  refine fn_enter Tryz.func92 rfl rfl (l := (bkV b pm nm cm pr nr cr) :: uu41) rfl ?_
  intro cf cs K hK
  refine rs2 (by kernel_rfl) ?_; refine k_box rfl zq (fun q1 => k_hp (k_put ?_)); refine aq rfl ?_; refine run_seq ?_; refine rs4 (by kernel_rfl) ?_; first | refine k_fa0 rfl zq ?_ | refine k_fa rfl zq ?_
  refine k_ldh rfl zq ?_; refine k_len rfl zq ?_; refine k_gtrS rfl zq (fun hc => ?_) (fun hc => ?_)
  · refine k_nil ?_; refine run_yes ?_; refine rs1 (by kernel_rfl) ?_; refine aq rfl ?_; refine run_ret rfl ?_; refine run_res (h) rfl Tryz.func92 rfl weakSub ?_; refine hK _ _ ?_
    refine ⟨rfl, ?_⟩
    first
      | (rw [rulesS, if_pos (by omega)]; done)
      | (rw [rulesS, if_neg (by omega), he, List.drop_eq_nil_of_le (by omega)]; rfl)
      | (rw [rulesS, if_neg (by omega), he, getD_dropR b.rules k (by omega), rules1, if_pos (by omega)]; done)
      | (rw [rulesS, if_neg (by omega), he, getD_dropR b.rules k (by omega), rules1, if_neg (by omega), if_pos (by omega)]; done)
      | (rw [rulesS, if_neg (by omega), he, getD_dropR b.rules k (by omega), rules1, if_neg (by omega), if_neg (by omega), if_pos (by omega)]; done)
  · refine k_nil ?_; refine run_no ?_; refine run_skip ?_; refine run_seq ?_; refine rs1 (by kernel_rfl) ?_; refine aq rfl ?_; refine run_block ?_; refine run_loop (fun nn l h' => ∃ (k : Nat), nn = nr - k ∧ (k ≤ nr) ∧ (rules1 b.marks.length b.rules = rules1 b.marks.length (b.rules.drop k)) ∧ (∃ U : Nat → Value, l = [bkV b pm nm cm pr nr cr, .pointer (some ⟨q1, 0, none⟩), U 2, .int .i64 (k : Int), U 4, U 5, U 6, U 7, U 8, U 9, U 10, U 11, U 12, U 13, U 14, U 15, U 16, U 17, U 18, U 19, U 20, U 21, U 22, U 23, U 24, U 25, U 26, U 27, U 28, U 29, U 30, U 31, U 32, U 33, U 34, U 35, U 36, U 37, U 38, U 39, U 40, U 41]) ∧ h ++ [⟨true, q1, .cells (bkL b pm nm cm pr nr cr).toArray 25 (0, 0)⟩] = h') _ ⟨0, rfl, by omega, rfl, exU rfl, rfl⟩ ?_; rintro nn l h' ⟨k, rfl, hk, he, ⟨U, rfl⟩, rfl⟩ hnext; refine run_seq ?_; refine rs5 (by kernel_rfl) ?_; refine mq rfl ?_; first | refine k_fa0 rfl zq ?_ | refine k_fa rfl zq ?_
    refine k_ldh rfl zq ?_; refine k_len rfl zq ?_; refine k_lssS rfl zq (fun hc => ?_) (fun hc => ?_)
    · refine k_nil ?_; refine run_yes ?_; refine run_skip ?_; refine run_seq ?_; refine run_block ?_; refine rs7 (by kernel_rfl) ?_; first | refine k_fa0 rfl zq ?_ | refine k_fa rfl zq ?_
      refine k_ldh rfl zq ?_; refine mq rfl ?_; obtain ⟨rdr_b, rdr_o, rfl⟩ := rdr.ptr (by omega)
      refine k_ixs rfl zq (by first | rfl | assumption) (by omega) (by omega) ?_; refine k_ldN (vs := [.int .i64 (b.rules.getD k default).a, .int .i64 (b.rules.getD k default).b, .int .i64 (b.rules.getD k default).lo, .int .i64 (b.rules.getD k default).hi]) rfl zq rfl (rdr.eat k (by omega) (by omega)) ?_; refine k_new rfl zq (fun q4 => k_hp (k_put ?_)); refine k_stA rfl zq rfl ?_; refine k_nil ?_; refine run_seq ?_; refine rs12 (by kernel_rfl) ?_; refine k_ldA rfl zq ?_; first | refine k_fa0 rfl zq ?_ | refine k_fa rfl zq ?_
      refine k_ldh rfl zq ?_; refine k_calP (Post := fun v => IsB _ v) rfl zq (by kernel_rfl) (fun H' hH => f114_c m H' _ _ _ _ _ _ _ _ _ _ (by omega)) ?_; rintro v (⟨hc, rfl⟩ | ⟨hc, rfl⟩)
      · refine k_put ?_; refine k_notT rfl zq ?_; refine mq rfl ?_; refine k_ldA rfl rfl ?_; first | refine k_fa0 rfl rfl ?_ | refine k_fa rfl rfl ?_
        refine k_ldh rfl rfl ?_; refine k_calP (Post := fun v => IsB _ v) rfl rfl (by kernel_rfl) (fun H' hH => f114_c m H' _ _ _ _ _ _ _ _ _ _ (by omega)) ?_; rintro v (⟨hc, rfl⟩ | ⟨hc, rfl⟩)
        · refine k_put ?_; refine k_notT rfl rfl ?_; refine k_pickF rfl zq ?_; refine k_nil ?_; refine run_no ?_; refine run_skip ?_; refine run_seq ?_; refine rs5 (by kernel_rfl) ?_; first | refine k_fa0 rfl zq ?_ | refine k_fa rfl zq ?_
          refine k_ldh rfl zq ?_; first | refine k_fa0 rfl zq ?_ | refine k_fa rfl zq ?_
          refine k_ldh rfl zq ?_; refine k_geqS rfl zq (fun hc => ?_) (fun hc => ?_)
          · refine k_nil ?_; refine run_yes ?_; refine rs1 (by kernel_rfl) ?_; refine aq rfl ?_; refine run_ret rfl ?_; refine run_res (h) rfl Tryz.func92 rfl weakSub ?_; refine hK _ _ ?_
            refine ⟨rfl, ?_⟩
            first
              | (rw [rulesS, if_pos (by omega)]; done)
              | (rw [rulesS, if_neg (by omega), he, List.drop_eq_nil_of_le (by omega)]; rfl)
              | (rw [rulesS, if_neg (by omega), he, getD_dropR b.rules k (by omega), rules1, if_pos (by omega)]; done)
              | (rw [rulesS, if_neg (by omega), he, getD_dropR b.rules k (by omega), rules1, if_neg (by omega), if_pos (by omega)]; done)
              | (rw [rulesS, if_neg (by omega), he, getD_dropR b.rules k (by omega), rules1, if_neg (by omega), if_neg (by omega), if_pos (by omega)]; done)
          · refine k_nil ?_; refine run_no ?_; refine run_skip ?_; refine rs4 (by kernel_rfl) ?_; first | refine k_fa0 rfl zq ?_ | refine k_fa rfl zq ?_
            refine k_ldA rfl zq ?_; refine k_calP (Post := fun v => IsB _ v) rfl zq (by kernel_rfl) (fun H' hH => f132_c m H' _ _ _ _) ?_; rintro v (⟨hc, rfl⟩ | ⟨hc, rfl⟩)
            · refine k_put ?_; refine k_notT rfl zq ?_; refine k_nil ?_; refine run_no ?_; refine run_skip ?_; refine run_inBlock ?_; refine rr3 (by kernel_rfl) ?_; refine mq rfl ?_; refine k_add rfl zq (by unfold In64; omega) ?_; refine aq rfl ?_; exact m.weak weakSub (hnext _ _ _ (by omega) ⟨k + 1, rfl, by omega, by rw [he, getD_dropR b.rules k (by omega), rules1, if_neg (by omega), if_neg (by omega), if_neg (by omega)], exU rfl, rfl⟩)
            · refine k_put ?_; refine k_notF rfl zq ?_; refine k_nil ?_; refine run_yes ?_; refine rs1 (by kernel_rfl) ?_; refine aq rfl ?_; refine run_ret rfl ?_; refine run_res (h) rfl Tryz.func92 rfl weakSub ?_; refine hK _ _ ?_
              refine ⟨rfl, ?_⟩
              first
                | (rw [rulesS, if_pos (by omega)]; done)
                | (rw [rulesS, if_neg (by omega), he, List.drop_eq_nil_of_le (by omega)]; rfl)
                | (rw [rulesS, if_neg (by omega), he, getD_dropR b.rules k (by omega), rules1, if_pos (by omega)]; done)
                | (rw [rulesS, if_neg (by omega), he, getD_dropR b.rules k (by omega), rules1, if_neg (by omega), if_pos (by omega)]; done)
                | (rw [rulesS, if_neg (by omega), he, getD_dropR b.rules k (by omega), rules1, if_neg (by omega), if_neg (by omega), if_pos (by omega)]; done)
        · refine k_put ?_; refine k_notF rfl rfl ?_; refine k_pickF rfl zq ?_; refine k_nil ?_; refine run_yes ?_; refine rs1 (by kernel_rfl) ?_; refine aq rfl ?_; refine run_ret rfl ?_; refine run_res (h) rfl Tryz.func92 rfl weakSub ?_; refine hK _ _ ?_
          refine ⟨rfl, ?_⟩
          first
            | (rw [rulesS, if_pos (by omega)]; done)
            | (rw [rulesS, if_neg (by omega), he, List.drop_eq_nil_of_le (by omega)]; rfl)
            | (rw [rulesS, if_neg (by omega), he, getD_dropR b.rules k (by omega), rules1, if_pos (by omega)]; done)
            | (rw [rulesS, if_neg (by omega), he, getD_dropR b.rules k (by omega), rules1, if_neg (by omega), if_pos (by omega)]; done)
            | (rw [rulesS, if_neg (by omega), he, getD_dropR b.rules k (by omega), rules1, if_neg (by omega), if_neg (by omega), if_pos (by omega)]; done)
      · refine k_put ?_; refine k_notF rfl zq ?_; refine mq rfl ?_; refine k_off rfl rfl ?_; refine k_off rfl rfl ?_; refine k_off rfl rfl ?_; refine k_off rfl rfl ?_; refine k_off rfl rfl ?_; refine k_pickT rfl zq ?_; refine k_nil ?_; refine run_yes ?_; refine rs1 (by kernel_rfl) ?_; refine aq rfl ?_; refine run_ret rfl ?_; refine run_res (h) rfl Tryz.func92 rfl weakSub ?_; refine hK _ _ ?_
        refine ⟨rfl, ?_⟩
        first
          | (rw [rulesS, if_pos (by omega)]; done)
          | (rw [rulesS, if_neg (by omega), he, List.drop_eq_nil_of_le (by omega)]; rfl)
          | (rw [rulesS, if_neg (by omega), he, getD_dropR b.rules k (by omega), rules1, if_pos (by omega)]; done)
          | (rw [rulesS, if_neg (by omega), he, getD_dropR b.rules k (by omega), rules1, if_neg (by omega), if_pos (by omega)]; done)
          | (rw [rulesS, if_neg (by omega), he, getD_dropR b.rules k (by omega), rules1, if_neg (by omega), if_neg (by omega), if_pos (by omega)]; done)
    · refine k_nil ?_; refine run_no ?_; refine run_exit rfl ?_; refine rs1 (by kernel_rfl) ?_; refine aq rfl ?_; refine run_ret rfl ?_; refine run_res (h) rfl Tryz.func92 rfl weakSub ?_; refine hK _ _ ?_
      refine ⟨rfl, ?_⟩
      first
        | (rw [rulesS, if_pos (by omega)]; done)
        | (rw [rulesS, if_neg (by omega), he, List.drop_eq_nil_of_le (by omega)]; rfl)
        | (rw [rulesS, if_neg (by omega), he, getD_dropR b.rules k (by omega), rules1, if_pos (by omega)]; done)
        | (rw [rulesS, if_neg (by omega), he, getD_dropR b.rules k (by omega), rules1, if_neg (by omega), if_pos (by omega)]; done)
        | (rw [rulesS, if_neg (by omega), he, getD_dropR b.rules k (by omega), rules1, if_neg (by omega), if_neg (by omega), if_pos (by omega)]; done)
theorem f22_c (m : Md Tryz.prog B) (h : Hp) {b : Bk} {pm : Option Addr} {nm cm : Nat} {pr : Option Addr} {nr cr : Nat} (rdm : RdS B h 2 (.slice pm nm cm) nm (encs b.marks)) (hm : nm ≤ 1000) (rdr : RdS B h 4 (.slice pr nr cr) nr (encs b.rules)) (hr : nr ≤ 1000) : FnC m 22 #[bkV b pm nm cm pr nr cr] h fun v h' => h' = h ∧ v = .int .i64 (bookS b) := by
  have hml := rdm.elen (by decide)
  have hrl := rdr.elen (by decide)
  refine fn_enter Tryz.func22 rfl rfl (l := (bkV b pm nm cm pr nr cr) :: uu27) rfl ?_
  intro cf cs K hK
  refine rs2 (by kernel_rfl) ?_; refine k_box rfl zq (fun q1 => k_hp (k_put ?_)); refine aq rfl ?_; refine run_seq ?_; refine run_seq ?_; refine run_region [(0, .free), (1, .free), (2, .free), (3, .free), (4, .free), (5, .free), (6, .free), (7, .free), (8, .free), (9, .free), (10, .free), (11, .free), (12, .free), (13, .free), (14, .free), (15, .free)] (by kernel_rfl) (by kernel_rfl) ?_; first | refine k_fa0 rfl zq ?_ | refine k_fa rfl zq ?_
  refine k_ldh rfl zq ?_; refine k_calP (Post := fun v => IsB _ v) rfl zq (by kernel_rfl) (fun H' hH => f72_c m H' _ _ _) ?_; rintro v (⟨hc, rfl⟩ | ⟨hc, rfl⟩)
  · refine k_put ?_; refine k_notT rfl zq ?_; refine mq rfl ?_; first | refine k_fa0 rfl rfl ?_ | refine k_fa rfl rfl ?_
    refine k_ldh rfl rfl ?_; refine k_calP (Post := fun v => IsB _ v) rfl rfl (by kernel_rfl) (fun H' hH => f72_c m H' _ _ _) ?_; rintro v (⟨hc, rfl⟩ | ⟨hc, rfl⟩)
    · refine k_put ?_; refine k_notT rfl rfl ?_; refine k_pickF rfl zq ?_; refine mq rfl ?_; first | refine k_fa0 rfl rfl ?_ | refine k_fa rfl rfl ?_
      refine k_ldh rfl rfl ?_; refine k_calP (Post := fun v => IsB _ v) rfl rfl (by kernel_rfl) (fun H' hH => f72_c m H' _ _ _) ?_; rintro v (⟨hc, rfl⟩ | ⟨hc, rfl⟩)
      · refine k_put ?_; refine k_notT rfl rfl ?_; refine k_pickF rfl zq ?_; refine k_nil ?_; refine run_no ?_; refine run_skip ?_; refine run_seq ?_; refine rs4 (by kernel_rfl) ?_; first | refine k_fa0 rfl zq ?_ | refine k_fa rfl zq ?_
        refine k_ldh rfl zq ?_; refine k_calP (Post := fun v => v = _) rfl zq (by kernel_rfl) (fun H' hH => f91_c m H' (rdm.keeps (sq hH)) hm) ?_; rintro v rfl; refine k_put ?_; refine aq rfl ?_; refine rs2 (by kernel_rfl) ?_; refine mq rfl ?_; refine k_neqS rfl zq (fun hc => ?_) (fun hc => ?_)
        · refine k_nil ?_; refine run_yes ?_; refine rs2 (by kernel_rfl) ?_; refine mq rfl ?_; refine aq rfl ?_; refine run_ret rfl ?_; refine run_res (h) rfl Tryz.func22 rfl weakSub ?_; refine hK _ _ ?_
          refine ⟨rfl, ?_⟩
          rw [bookS]; first | (rw [if_pos (by omega)]; done) | (rw [if_neg (by omega), if_pos (by assumption)]; done) | (rw [if_neg (by omega), if_neg (by omega)]; done)
        · refine k_nil ?_; refine run_no ?_; refine run_skip ?_; refine rs3 (by kernel_rfl) ?_; refine k_ldA rfl zq ?_; refine k_calP (Post := fun v => v = _) rfl zq (by kernel_rfl) (fun H' hH => f92_c m H' (rdm.keeps (sq hH)) hm (rdr.keeps (sq hH)) hr) ?_; rintro v rfl; refine k_put ?_; refine aq rfl ?_; refine run_ret rfl ?_; refine run_res (h) rfl Tryz.func22 rfl weakSub ?_; refine hK _ _ ?_
          refine ⟨rfl, ?_⟩
          rw [bookS]; first | (rw [if_pos (by omega)]; done) | (rw [if_neg (by omega), if_pos (by assumption)]; done) | (rw [if_neg (by omega), if_neg (by omega)]; done)
      · refine k_put ?_; refine k_notF rfl rfl ?_; refine k_pickF rfl zq ?_; refine k_nil ?_; refine run_yes ?_; refine rs1 (by kernel_rfl) ?_; refine aq rfl ?_; refine run_ret rfl ?_; refine run_res (h) rfl Tryz.func22 rfl weakSub ?_; refine hK _ _ ?_
        refine ⟨rfl, ?_⟩
        rw [bookS]; first | (rw [if_pos (by omega)]; done) | (rw [if_neg (by omega), if_pos (by assumption)]; done) | (rw [if_neg (by omega), if_neg (by omega)]; done)
    · refine k_put ?_; refine k_notF rfl rfl ?_; refine k_pickF rfl zq ?_; refine mq rfl ?_; refine k_off rfl rfl ?_; refine k_off rfl rfl ?_; refine k_off rfl rfl ?_; refine k_off rfl rfl ?_; refine k_pickT rfl zq ?_; refine k_nil ?_; refine run_yes ?_; refine rs1 (by kernel_rfl) ?_; refine aq rfl ?_; refine run_ret rfl ?_; refine run_res (h) rfl Tryz.func22 rfl weakSub ?_; refine hK _ _ ?_
      refine ⟨rfl, ?_⟩
      rw [bookS]; first | (rw [if_pos (by omega)]; done) | (rw [if_neg (by omega), if_pos (by assumption)]; done) | (rw [if_neg (by omega), if_neg (by omega)]; done)
  · refine k_put ?_; refine k_notF rfl zq ?_; refine mq rfl ?_; refine k_off rfl rfl ?_; refine k_off rfl rfl ?_; refine k_off rfl rfl ?_; refine k_off rfl rfl ?_; refine k_pickT rfl zq ?_; refine mq rfl ?_; refine k_off rfl rfl ?_; refine k_off rfl rfl ?_; refine k_off rfl rfl ?_; refine k_off rfl rfl ?_; refine k_pickT rfl zq ?_; refine k_nil ?_; refine run_yes ?_; refine rs1 (by kernel_rfl) ?_; refine aq rfl ?_; refine run_ret rfl ?_; refine run_res (h) rfl Tryz.func22 rfl weakSub ?_; refine hK _ _ ?_
    refine ⟨rfl, ?_⟩
    rw [bookS]; first | (rw [if_pos (by omega)]; done) | (rw [if_neg (by omega), if_pos (by assumption)]; done) | (rw [if_neg (by omega), if_neg (by omega)]; done)
def boat (b : Bk) (xs : List Int) : Prop :=
  (∀ i, i < xs.length → (b.marks.getD i default).lo ≤ xs.getD i 0 ∧ xs.getD i 0 ≤ (b.marks.getD i default).hi) ∧
  (∀ r ∈ b.rules, r.lo ≤ xs.getD r.b.toNat 0 - xs.getD r.a.toNat 0 ∧ xs.getD r.b.toNat 0 - xs.getD r.a.toNat 0 ≤ r.hi) ∧ fair b.bend b.twist b.turns xs
structure Valid (b : Bk) : Prop where
  bend : 0 ≤ b.bend ∧ b.bend ≤ 99
  twist : 0 ≤ b.twist ∧ b.twist ≤ 99
  turns : 0 ≤ b.turns ∧ b.turns ≤ 5
  many : 3 ≤ b.marks.length ∧ b.marks.length ≤ 7
  marks : ∀ x ∈ b.marks, okM x
  few : b.rules.length ≤ 4
  rules : ∀ r ∈ b.rules, (0 ≤ r.a ∧ r.a < b.marks.length) ∧ (0 ≤ r.b ∧ r.b < b.marks.length) ∧ r.a < r.b ∧ -959 ≤ r.lo ∧ r.lo ≤ r.hi ∧ r.hi ≤ 959
theorem marksS_zero {ms : List Sp} (h : marksS ms = 0) : (3 ≤ ms.length ∧ ms.length ≤ 7) ∧ ∀ x ∈ ms, okM x := by
  unfold marksS at h
  split at h
  · omega
  · split at h
    · rename_i h1 h2; exact ⟨by omega, h2⟩
    · omega
theorem rules1_zero {many : Int} : ∀ {rs : List Ru}, rules1 many rs = 0 → ∀ r ∈ rs, (0 ≤ r.a ∧ r.a < many) ∧ (0 ≤ r.b ∧ r.b < many) ∧ r.a < r.b ∧ -959 ≤ r.lo ∧ r.lo ≤ r.hi ∧ r.hi ≤ 959
  | [], _, r, hr => by simp at hr
  | x :: t, h, r, hr => by
    unfold rules1 at h
    split at h
    · omega
    · split at h
      · omega
      · split at h
        · omega
        · rcases List.mem_cons.1 hr with rfl | hr
          · refine ⟨?_, ?_, ?_, ?_, ?_, ?_⟩ <;> omega
          · exact rules1_zero h r hr
theorem valid_of {b : Bk} (h : bookS b = 0) : Valid b := by
  unfold bookS at h
  split at h
  · omega
  · split at h
    · contradiction
    · rename_i h1 h2
      obtain ⟨m1, m2⟩ := marksS_zero (ms := b.marks) (by omega)
      unfold rulesS at h
      split at h
      · omega
      · exact ⟨by omega, by omega, by omega, m1, m2, by omega, fun r hr => rules1_zero h r hr⟩
theorem f102_c (m : Md Tryz.prog B) (h : Hp) {b : Bk} {pm : Option Addr} {nm cm : Nat} {pr : Option Addr} {nr cr : Nat} {p : Option Addr} {n c : Nat} {xs : List Int} (rd : RdS B h 1 (.slice p n c) n (ints xs)) (hn : n ≤ 1000) (hb : Small 100000 xs) (hv : Valid b) : FnC m 102 #[bkV b pm nm cm pr nr cr, .slice p n c] h fun v h' => h' = h ∧ IsB (fair b.bend b.twist b.turns xs) v := by
  have hl := rd.ilen
  have hv1 := hv.bend
  have hv2 := hv.twist
  refine fn_enter Tryz.func102 rfl rfl (l := (bkV b pm nm cm pr nr cr) :: (.slice p n c) :: uu22) rfl ?_
  intro cf cs K hK
  refine rs2 (by kernel_rfl) ?_; refine k_box rfl zq (fun q2 => k_hp (k_put ?_)); refine aq rfl ?_; refine run_seq ?_; refine run_draw [(0, .pure), (2, .pure), (3, .read), (1, .keep), (4, .keep), (5, .pure), (6, .pure), (8, .pure), (9, .read), (7, .keep), (10, .keep), (11, .pure), (12, .pure), (13, .pure), (15, .pure), (16, .read), (14, .keep), (17, .pure), (18, .pure), (19, .pure)] (by kernel_rfl) (by kernel_rfl) (List.Sublist.refl _) ?_; refine mq rfl ?_; first | refine k_fa0 rfl zq ?_ | refine k_fa rfl zq ?_
  refine k_ldh rfl zq ?_; refine k_calC rfl zq (by kernel_rfl) (Post := fun v new => OwnS 3 1 v (n - 2) (ints (bends xs)) new) (fun H' hH => f96_c m H' (rd.keeps (sq hH)) hn hb) ?_; intro bev benew beo
  refine k_hpA (k_put ?_); obtain ⟨bep, bec, rfl, bel⟩ := beo.len
  have ber : RdS B benew 1 (.slice bep (n - 2) bec) (n - 2) (ints (bends xs)) := beo.rd'
  have beb := hb.bends
  refine k_calP (Post := fun v => IsB _ v) rfl zq (by kernel_rfl) (fun H' hH => f148_c m H' (ber.keeps (sq hH)) (by omega) _ (by omega)) ?_; rintro v (⟨hc, rfl⟩ | ⟨hc, rfl⟩)
  · refine k_put ?_; refine mq rfl ?_; refine k_mv rfl rfl ?_; first | refine k_fa0 rfl rfl ?_ | refine k_fa rfl rfl ?_
    refine k_ldh rfl rfl ?_; refine k_calC rfl rfl (by kernel_rfl) (Post := fun v new => OwnS 3 1 v (n - 3) (ints (diffs (bends xs))) new) (fun H' hH => f98_c m H' (rd.keeps (sq hH)) hn hb) ?_; intro twv twnew two
    refine k_hpA (k_put ?_); obtain ⟨twp, twc, rfl, twl⟩ := two.len
    have twr : RdS B twnew 1 (.slice twp (n - 3) twc) (n - 3) (ints (diffs (bends xs))) := two.rd'
    have twb := hb.bends.diffs
    refine k_calP (Post := fun v => IsB _ v) rfl rfl (by kernel_rfl) (fun H' hH => f148_c m H' (twr.keeps (sq hH)) (by omega) _ (by omega)) ?_; rintro v (⟨hc, rfl⟩ | ⟨hc, rfl⟩)
    · refine k_put ?_; refine k_pickT rfl zq ?_; refine mq rfl ?_; refine k_mv rfl rfl ?_; first | refine k_fa0 rfl rfl ?_ | refine k_fa rfl rfl ?_
      refine k_ldh rfl rfl ?_; refine k_calP (Post := fun v => v = _) rfl rfl (by kernel_rfl) (fun H' hH => f100_c m H' (rd.keeps (sq hH)) hn hb) ?_; rintro v rfl; refine k_put ?_; refine k_leqS rfl rfl (fun hc => ?_) (fun hc => ?_)
      · refine k_pickT rfl zq ?_; refine aq rfl ?_; refine run_ret rfl ?_; refine run_res (h) rfl Tryz.func102 rfl weakSub ?_; refine hK _ _ ?_
        refine ⟨rfl, ?_⟩
        first | exact IsB.yes ⟨by assumption, by assumption, by assumption⟩ | exact IsB.no (fun e => absurd e.1 (by assumption)) | exact IsB.no (fun e => absurd e.2.1 (by assumption)) | exact IsB.no (fun e => absurd e.2.2 (by omega))
      · refine k_pickT rfl zq ?_; refine aq rfl ?_; refine run_ret rfl ?_; refine run_res (h) rfl Tryz.func102 rfl weakSub ?_; refine hK _ _ ?_
        refine ⟨rfl, ?_⟩
        first | exact IsB.yes ⟨by assumption, by assumption, by assumption⟩ | exact IsB.no (fun e => absurd e.1 (by assumption)) | exact IsB.no (fun e => absurd e.2.1 (by assumption)) | exact IsB.no (fun e => absurd e.2.2 (by omega))
    · refine k_put ?_; refine k_pickT rfl zq ?_; refine mq rfl ?_; refine k_off rfl rfl ?_; refine k_off rfl rfl ?_; refine k_off rfl rfl ?_; refine k_off rfl rfl ?_; refine k_off rfl rfl ?_; refine k_pickF rfl zq ?_; refine aq rfl ?_; refine run_ret rfl ?_; refine run_res (h) rfl Tryz.func102 rfl weakSub ?_; refine hK _ _ ?_
      refine ⟨rfl, ?_⟩
      first | exact IsB.yes ⟨by assumption, by assumption, by assumption⟩ | exact IsB.no (fun e => absurd e.1 (by assumption)) | exact IsB.no (fun e => absurd e.2.1 (by assumption)) | exact IsB.no (fun e => absurd e.2.2 (by omega))
  · refine k_put ?_; refine mq rfl ?_; refine k_off rfl rfl ?_; refine k_off rfl rfl ?_; refine k_off rfl rfl ?_; refine k_off rfl rfl ?_; refine k_off rfl rfl ?_; refine k_pickF rfl zq ?_; refine mq rfl ?_; refine k_off rfl rfl ?_; refine k_off rfl rfl ?_; refine k_off rfl rfl ?_; refine k_off rfl rfl ?_; refine k_off rfl rfl ?_; refine k_pickF rfl zq ?_; refine aq rfl ?_; refine run_ret rfl ?_; refine run_res (h) rfl Tryz.func102 rfl weakSub ?_; refine hK _ _ ?_
    refine ⟨rfl, ?_⟩
    first | exact IsB.yes ⟨by assumption, by assumption, by assumption⟩ | exact IsB.no (fun e => absurd e.1 (by assumption)) | exact IsB.no (fun e => absurd e.2.1 (by assumption)) | exact IsB.no (fun e => absurd e.2.2 (by omega))
theorem f106_c (m : Md Tryz.prog B) (h : Hp) {b : Bk} {pm : Option Addr} {nm cm : Nat} {pr : Option Addr} {nr cr : Nat} (rdm : RdS B h 2 (.slice pm nm cm) nm (encs b.marks)) (hm : nm ≤ 1000) (rdr : RdS B h 4 (.slice pr nr cr) nr (encs b.rules)) (hr : nr ≤ 1000) {p : Option Addr} {n c : Nat} {xs : List Int} (rd : RdS B h 1 (.slice p n c) n (ints xs)) (hn : n ≤ 1000) (hb : Small 100000 xs) (hv : Valid b) (hnm : n = nm) : FnC m 106 #[bkV b pm nm cm pr nr cr, .slice p n c] h fun v h' => h' = h ∧ IsB (boat b xs) v := by
  have hml := rdm.elen (by decide)
  have hrl := rdr.elen (by decide)
  have hl := rd.ilen
  refine fn_enter Tryz.func106 rfl rfl (l := (bkV b pm nm cm pr nr cr) :: (.slice p n c) :: uu64) rfl ?_
  intro cf cs K hK
  refine rs2 (by kernel_rfl) ?_; refine k_box rfl zq (fun q2 => k_hp (k_put ?_)); refine aq rfl ?_; refine run_seq ?_; refine rs1 (by kernel_rfl) ?_; refine aq rfl ?_; refine run_block ?_; refine run_loop (fun nn l h' => ∃ (k : Nat), nn = n - k ∧ (k ≤ n) ∧ (∀ i, i < k → (b.marks.getD i default).lo ≤ xs.getD i 0 ∧ xs.getD i 0 ≤ (b.marks.getD i default).hi) ∧ (∃ U : Nat → Value, l = [bkV b pm nm cm pr nr cr, .slice p n c, .pointer (some ⟨q2, 0, none⟩), U 3, U 4, .int .i64 (k : Int), U 6, U 7, U 8, U 9, U 10, U 11, U 12, U 13, U 14, U 15, U 16, U 17, U 18, U 19, U 20, U 21, U 22, U 23, U 24, U 25, U 26, U 27, U 28, U 29, U 30, U 31, U 32, U 33, U 34, U 35, U 36, U 37, U 38, U 39, U 40, U 41, U 42, U 43, U 44, U 45, U 46, U 47, U 48, U 49, U 50, U 51, U 52, U 53, U 54, U 55, U 56, U 57, U 58, U 59, U 60, U 61, U 62, U 63, U 64, U 65]) ∧ h ++ [⟨true, q2, .cells (bkL b pm nm cm pr nr cr).toArray 25 (0, 0)⟩] = h') _ ⟨0, rfl, by omega, by omega, exU rfl, rfl⟩ ?_; rintro nn l h' ⟨k, rfl, hk, he, ⟨U, rfl⟩, rfl⟩ hnext; refine run_seq ?_; refine rs4 (by kernel_rfl) ?_; refine mq rfl ?_; refine mq rfl ?_; refine k_len rfl zq ?_; refine k_lssS rfl zq (fun hc => ?_) (fun hc => ?_)
  · refine k_nil ?_; refine run_yes ?_; refine run_skip ?_; refine run_seq ?_; refine run_block ?_; refine run_seq ?_; refine run_draw [(0, .pure), (1, .pure), (2, .pure), (4, .pure), (6, .pure), (10, .pure), (12, .pure), (3, .read), (5, .read), (7, .pure), (8, .pure), (9, .read), (11, .read), (13, .pure), (14, .pure), (15, .read), (16, .keep), (17, .pure)] (by kernel_rfl) (by kernel_rfl) (List.Sublist.refl _) ?_; refine mq rfl ?_; refine mq rfl ?_; obtain ⟨rd_b, rd_o, rfl⟩ := rd.ptr (by omega)
    refine k_ixs rfl zq (by first | rfl | assumption) (by omega) (by omega) ?_; first | refine k_fa0 rfl zq ?_ | refine k_fa rfl zq ?_
    refine mq rfl ?_; first | refine k_fa0 rfl zq ?_ | refine k_fa rfl zq ?_
    refine mq rfl ?_; refine k_ld rfl zq (rd.iat k (by omega) (by omega)) ?_; refine k_ldh rfl zq ?_; obtain ⟨rdm_b, rdm_o, rfl⟩ := rdm.ptr (by omega)
    refine k_ixs rfl zq (by first | rfl | assumption) (by omega) (by omega) ?_; first | refine k_fa0 rfl zq ?_ | refine k_fa rfl zq ?_
    refine k_ld rfl zq (rdm.fat (v := .int .i64 (b.marks.getD k default).lo) k 0 (by omega) (by omega) rfl) ?_; refine k_ldh rfl zq ?_; refine k_ixs rfl zq (by first | rfl | assumption) (by omega) (by omega) ?_; first | refine k_fa0 rfl zq ?_ | refine k_fa rfl zq ?_
    refine k_ld rfl zq (rdm.fat (v := .int .i64 (b.marks.getD k default).hi) k 1 (by omega) (by omega) rfl) ?_; refine k_calP (Post := fun v => IsB _ v) rfl zq (by kernel_rfl) (fun H' hH => f72_c m H' _ _ _) ?_; rintro v (⟨hc, rfl⟩ | ⟨hc, rfl⟩)
    · refine k_put ?_; refine k_notT rfl zq ?_; refine k_nil ?_; refine run_no ?_; refine run_skip ?_; refine run_inBlock ?_; refine rr3 (by kernel_rfl) ?_; refine mq rfl ?_; refine k_add rfl zq (by unfold In64; omega) ?_; refine aq rfl ?_; exact m.weak weakSub (hnext _ _ _ (by omega) ⟨k + 1, rfl, by omega, fun i hi => by
        rcases Nat.lt_or_ge i k with h1 | h1
        · exact he i h1
        · obtain rfl : i = k := by omega
          assumption, exU rfl, rfl⟩)
    · refine k_put ?_; refine k_notF rfl zq ?_; refine k_nil ?_; refine run_yes ?_; refine rs1 (by kernel_rfl) ?_; refine aq rfl ?_; refine run_ret rfl ?_; refine run_res (h) rfl Tryz.func106 rfl weakSub ?_; refine hK _ _ ?_
      refine ⟨rfl, ?_⟩
      first
        | exact IsB.no (fun e => absurd (e.1 k (by omega)) (by assumption))
        | exact IsB.no (fun e => absurd (e.2.1 _ (mem_getDR.2 ⟨k2, by omega, rfl⟩)) (by rw [show (b.rules.getD k2 default).a.toNat = ra by omega, show (b.rules.getD k2 default).b.toNat = rb by omega]; assumption))
        | exact IsB.no (fun e => absurd e.2.2 (by assumption))
        | exact IsB.yes ⟨fun i hi => he i (by omega), fun r hr => by obtain ⟨i, h1, rfl⟩ := mem_getDR.1 hr; exact he2 i (by omega), by assumption⟩
  · refine k_nil ?_; refine run_no ?_; refine run_exit rfl ?_; refine run_seq ?_; refine rs1 (by kernel_rfl) ?_; refine aq rfl ?_; refine run_block ?_; refine run_loop (fun nn l h' => ∃ (k2 : Nat), nn = nr - k2 ∧ (k2 ≤ nr) ∧ (∀ i, i < k2 → (b.rules.getD i default).lo ≤ xs.getD (b.rules.getD i default).b.toNat 0 - xs.getD (b.rules.getD i default).a.toNat 0 ∧ xs.getD (b.rules.getD i default).b.toNat 0 - xs.getD (b.rules.getD i default).a.toNat 0 ≤ (b.rules.getD i default).hi) ∧ (∃ U : Nat → Value, l = [bkV b pm nm cm pr nr cr, .slice p n c, .pointer (some ⟨q2, 0, none⟩), U 3, U 4, U 5, .int .i64 (k2 : Int), U 7, U 8, U 9, U 10, U 11, U 12, U 13, U 14, U 15, U 16, U 17, U 18, U 19, U 20, U 21, U 22, U 23, U 24, U 25, U 26, U 27, U 28, U 29, U 30, U 31, U 32, U 33, U 34, U 35, U 36, U 37, U 38, U 39, U 40, U 41, U 42, U 43, U 44, U 45, U 46, U 47, U 48, U 49, U 50, U 51, U 52, U 53, U 54, U 55, U 56, U 57, U 58, U 59, U 60, U 61, U 62, U 63, U 64, U 65]) ∧ h ++ [⟨true, q2, .cells (bkL b pm nm cm pr nr cr).toArray 25 (0, 0)⟩] = h') _ ⟨0, rfl, by omega, by omega, exU rfl, rfl⟩ ?_; rintro nn l h' ⟨k2, rfl, hk2, he2, ⟨U, rfl⟩, rfl⟩ hnext; refine run_seq ?_; refine rs5 (by kernel_rfl) ?_; refine mq rfl ?_; first | refine k_fa0 rfl zq ?_ | refine k_fa rfl zq ?_
    refine k_ldh rfl zq ?_; refine k_len rfl zq ?_; refine k_lssS rfl zq (fun hc => ?_) (fun hc => ?_)
    · refine k_nil ?_; refine run_yes ?_; refine run_skip ?_; refine run_seq ?_; refine run_block ?_; refine rs7 (by kernel_rfl) ?_; first | refine k_fa0 rfl zq ?_ | refine k_fa rfl zq ?_
      refine k_ldh rfl zq ?_; refine mq rfl ?_; obtain ⟨rdr_b, rdr_o, rfl⟩ := rdr.ptr (by omega)
      refine k_ixs rfl zq (by first | rfl | assumption) (by omega) (by omega) ?_; refine k_ldN (vs := [.int .i64 (b.rules.getD k2 default).a, .int .i64 (b.rules.getD k2 default).b, .int .i64 (b.rules.getD k2 default).lo, .int .i64 (b.rules.getD k2 default).hi]) rfl zq rfl (rdr.eat k2 (by omega) (by omega)) ?_; refine k_new rfl zq (fun q7 => k_hp (k_put ?_)); refine k_stA rfl zq rfl ?_; refine k_nil ?_; refine run_seq ?_; refine run_draw [(0, .pure), (1, .pure), (5, .pure), (6, .pure), (11, .pure), (12, .pure), (14, .pure), (15, .pure), (2, .read), (3, .pure), (4, .read), (7, .read), (8, .pure), (9, .read), (10, .pure), (13, .read), (16, .read), (17, .keep), (18, .pure)] (by kernel_rfl) (by kernel_rfl) (List.Sublist.refl _) ?_; obtain ⟨⟨hra0, hra1⟩, ⟨hrb0, hrb1⟩, _⟩ := hv.rules _ (mem_getDR.2 ⟨k2, by omega, rfl⟩)
      obtain ⟨ra, era⟩ := Int.eq_ofNat_of_zero_le hra0
      obtain ⟨rb, erb⟩ := Int.eq_ofNat_of_zero_le hrb0
      have hba := hb ra
      have hbb := hb rb
      have ea : (b.rules.getD k2 default).a.toNat = ra := by omega
      have eb : (b.rules.getD k2 default).b.toNat = rb := by omega
      refine mq rfl ?_; first | refine k_fa0 rfl zq ?_ | refine k_fa rfl zq ?_
      refine mq rfl ?_; first | refine k_fa0 rfl zq ?_ | refine k_fa rfl zq ?_
      first | refine k_fa0 rfl zq ?_ | refine k_fa rfl zq ?_
      first | refine k_fa0 rfl zq ?_ | refine k_fa rfl zq ?_
      first | refine k_fa0 rfl zq ?_ | refine k_fa rfl zq ?_
      first | refine k_fa0 rfl zq ?_ | refine k_fa rfl zq ?_
      refine k_ldh rfl zq ?_; obtain ⟨rd_b, rd_o, rfl⟩ := rd.ptr (by omega)
      refine k_ixs rfl zq (by first | rfl | assumption) (by omega) (by omega) ?_; refine k_ld rfl zq (rd.iat rb (by omega) (by omega)) ?_; refine k_ldh rfl zq ?_; refine k_ixs rfl zq (by first | rfl | assumption) (by omega) (by omega) ?_; refine k_ld rfl zq (rd.iat ra (by omega) (by omega)) ?_; refine k_sub rfl zq (by unfold In64; omega) ?_; refine k_ldh rfl zq ?_; refine k_ldh rfl zq ?_; refine k_calP (Post := fun v => IsB _ v) rfl zq (by kernel_rfl) (fun H' hH => f72_c m H' _ _ _) ?_; rintro v (⟨hc, rfl⟩ | ⟨hc, rfl⟩)
      · refine k_put ?_; refine k_notT rfl zq ?_; refine k_nil ?_; refine run_no ?_; refine run_skip ?_; refine run_inBlock ?_; refine rr3 (by kernel_rfl) ?_; refine mq rfl ?_; refine k_add rfl zq (by unfold In64; omega) ?_; refine aq rfl ?_; exact m.weak weakSub (hnext _ _ _ (by omega) ⟨k2 + 1, rfl, by omega, fun i hi => by
          rcases Nat.lt_or_ge i k2 with h1 | h1
          · exact he2 i h1
          · obtain rfl : i = k2 := by omega
            rw [ea, eb]; assumption, exU rfl, rfl⟩)
      · refine k_put ?_; refine k_notF rfl zq ?_; refine k_nil ?_; refine run_yes ?_; refine rs1 (by kernel_rfl) ?_; refine aq rfl ?_; refine run_ret rfl ?_; refine run_res (h) rfl Tryz.func106 rfl weakSub ?_; refine hK _ _ ?_
        refine ⟨rfl, ?_⟩
        first
          | exact IsB.no (fun e => absurd (e.1 k (by omega)) (by assumption))
          | exact IsB.no (fun e => absurd (e.2.1 _ (mem_getDR.2 ⟨k2, by omega, rfl⟩)) (by rw [show (b.rules.getD k2 default).a.toNat = ra by omega, show (b.rules.getD k2 default).b.toNat = rb by omega]; assumption))
          | exact IsB.no (fun e => absurd e.2.2 (by assumption))
          | exact IsB.yes ⟨fun i hi => he i (by omega), fun r hr => by obtain ⟨i, h1, rfl⟩ := mem_getDR.1 hr; exact he2 i (by omega), by assumption⟩
    · refine k_nil ?_; refine run_no ?_; refine run_exit rfl ?_; refine rs4 (by kernel_rfl) ?_; refine k_ldA rfl zq ?_; refine mq rfl ?_; refine k_calP (Post := fun v => IsB _ v) rfl zq (by kernel_rfl) (fun H' hH => f102_c m H' (rd.keeps (sq hH)) hn hb hv) ?_; rintro v (⟨hc, rfl⟩ | ⟨hc, rfl⟩)
      · refine k_put ?_; refine aq rfl ?_; refine run_ret rfl ?_; refine run_res (h) rfl Tryz.func106 rfl weakSub ?_; refine hK _ _ ?_
        refine ⟨rfl, ?_⟩
        first
          | exact IsB.no (fun e => absurd (e.1 k (by omega)) (by assumption))
          | exact IsB.no (fun e => absurd (e.2.1 _ (mem_getDR.2 ⟨k2, by omega, rfl⟩)) (by rw [show (b.rules.getD k2 default).a.toNat = ra by omega, show (b.rules.getD k2 default).b.toNat = rb by omega]; assumption))
          | exact IsB.no (fun e => absurd e.2.2 (by assumption))
          | exact IsB.yes ⟨fun i hi => he i (by omega), fun r hr => by obtain ⟨i, h1, rfl⟩ := mem_getDR.1 hr; exact he2 i (by omega), by assumption⟩
      · refine k_put ?_; refine aq rfl ?_; refine run_ret rfl ?_; refine run_res (h) rfl Tryz.func106 rfl weakSub ?_; refine hK _ _ ?_
        refine ⟨rfl, ?_⟩
        first
          | exact IsB.no (fun e => absurd (e.1 k (by omega)) (by assumption))
          | exact IsB.no (fun e => absurd (e.2.1 _ (mem_getDR.2 ⟨k2, by omega, rfl⟩)) (by rw [show (b.rules.getD k2 default).a.toNat = ra by omega, show (b.rules.getD k2 default).b.toNat = rb by omega]; assumption))
          | exact IsB.no (fun e => absurd e.2.2 (by assumption))
          | exact IsB.yes ⟨fun i hi => he i (by omega), fun r hr => by obtain ⟨i, h1, rfl⟩ := mem_getDR.1 hr; exact he2 i (by omega), by assumption⟩
def spanL (x : Sp) : List Int := (List.range (x.hi - x.lo + 1).toNat).map fun i : Nat => x.lo + (i : Int)
theorem spanL_length (x : Sp) : (spanL x).length = (x.hi - x.lo + 1).toNat := by simp [spanL]
theorem spanL_getD (x : Sp) (j : Nat) (h : j < (x.hi - x.lo + 1).toNat) : (spanL x).getD j 0 = x.lo + j := by
  rw [spanL, List.getD_eq_getElem?_getD, List.getElem?_map, List.getElem?_range h]; rfl
def ext1 (l : List Int) (ns : List Int) : List (List Int) := ns.map fun n => l ++ [n]
def extL (all : List (List Int)) (x : Sp) : List (List Int) := all.flatMap fun l => ext1 l (spanL x)
def linesOf (ms : List Sp) : List (List Int) := ms.foldl extL [[]]
instance (l : List Int) (m : Int) : Decidable (withinL l m) := by unfold withinL; infer_instance
instance (be tw tu : Int) (xs : List Int) : Decidable (fair be tw tu xs) := by unfold fair; infer_instance
instance (b : Bk) (xs : List Int) : Decidable (boat b xs) := by unfold boat; infer_instance
def boatsOf (b : Bk) : List (List Int) := (linesOf b.marks).filter fun l => decide (boat b l)
theorem linesOf_take (ms : List Sp) (k : Nat) (h : k < ms.length) : linesOf (ms.take (k + 1)) = extL (linesOf (ms.take k)) (ms.getD k default) := by
  rw [take_snoc ms k h, linesOf, List.foldl_append]; rfl
theorem extL_take (all : List (List Int)) (x : Sp) (k : Nat) (h : k < all.length) : extL (all.take (k + 1)) x = extL (all.take k) x ++ ext1 (all.getD k []) (spanL x) := by
  rw [take_snocL all k h, extL, List.flatMap_append]; simp [extL]
theorem ext1_take (l : List Int) (x : Sp) (j : Nat) (h : j < (x.hi - x.lo + 1).toNat) : ext1 l ((spanL x).take (j + 1)) = ext1 l ((spanL x).take j) ++ [l ++ [x.lo + j]] := by
  rw [take_snoc' _ j (by rw [spanL_length]; exact h), spanL_getD x j h, ext1, List.map_append]; rfl
theorem extL_length (all : List (List Int)) (x : Sp) : (extL all x).length = all.length * (x.hi - x.lo + 1).toNat := by
  induction all with
  | nil => simp [extL]
  | cons a r ih =>
    have : extL (a :: r) x = ext1 a (spanL x) ++ extL r x := by simp [extL]
    rw [this, List.length_append, ih, ext1, List.length_map, spanL_length, List.length_cons, Nat.add_mul, Nat.one_mul]; omega
theorem linesOf_small {ms : List Sp} (hk : ∀ x ∈ ms, okM x) : ∀ k, k ≤ ms.length → (linesOf (ms.take k)).length ≤ 3 ^ k
  | 0, _ => by simp [linesOf]
  | k + 1, h => by
    have ih := linesOf_small hk k (by omega)
    have ho := hk _ (mem_getDR.2 ⟨k, by omega, rfl⟩)
    rw [linesOf_take ms k (by omega), extL_length]; unfold okM at ho
    exact Nat.mul_le_mul ih (by omega)
theorem linesOf_le {b : Bk} (hv : Valid b) (k : Nat) (h : k ≤ b.marks.length) : (linesOf (b.marks.take k)).length ≤ 2187 := by
  have h1 := linesOf_small hv.marks k h
  have h2 := hv.many
  have h3 : 3 ^ k ≤ 3 ^ 7 := Nat.pow_le_pow_right (by omega) (by omega)
  omega
theorem mem_extL {all : List (List Int)} {x : Sp} {l : List Int} : l ∈ extL all x ↔ ∃ a ∈ all, ∃ n ∈ spanL x, l = a ++ [n] := by
  simp only [extL, ext1, List.mem_flatMap, List.mem_map]
  constructor
  · rintro ⟨a, ha, n, hn, rfl⟩; exact ⟨a, ha, n, hn, rfl⟩
  · rintro ⟨a, ha, n, hn, rfl⟩; exact ⟨a, ha, n, hn, rfl⟩
theorem mem_spanL {x : Sp} {n : Int} : n ∈ spanL x ↔ x.lo ≤ n ∧ n ≤ x.hi := by
  simp only [spanL, List.mem_map, List.mem_range]
  constructor
  · rintro ⟨i, hi, rfl⟩; omega
  · intro h; exact ⟨(n - x.lo).toNat, by omega, by omega⟩
def partL (ll : List (List Int)) (x : Sp) (k j : Nat) : List (List Int) := extL (ll.take k) x ++ ext1 (ll.getD k []) ((spanL x).take j)
theorem partL_zero (ll : List (List Int)) (x : Sp) (k : Nat) : partL ll x k 0 = extL (ll.take k) x := by simp [partL, ext1]
theorem partL_succ (ll : List (List Int)) (x : Sp) (k j : Nat) (h : j < (x.hi - x.lo + 1).toNat) : partL ll x k (j + 1) = partL ll x k j ++ [ll.getD k [] ++ [x.lo + j]] := by
  rw [partL, ext1_take _ _ _ h, ← List.append_assoc]; rfl
theorem partL_full (ll : List (List Int)) (x : Sp) (k j : Nat) (hk : k < ll.length) (hj : (x.hi - x.lo + 1).toNat ≤ j) : partL ll x k j = extL (ll.take (k + 1)) x := by
  rw [partL, show (spanL x).take j = spanL x from List.take_of_length_le (by rw [spanL_length]; exact hj), extL_take ll x k hk]
theorem partL_le (ll : List (List Int)) (x : Sp) (k j : Nat) (hk : k < ll.length) (hx : x.hi - x.lo < 3) : (partL ll x k j).length ≤ 3 * ll.length + 3 := by
  rw [partL, List.length_append, extL_length, ext1, List.length_map, List.length_take, List.length_take, spanL_length]; have : min k ll.length * (x.hi - x.lo + 1).toNat ≤ ll.length * 3 := Nat.mul_le_mul (by omega) (by omega)
  omega
theorem mem_linesOf {ms : List Sp} : ∀ {k : Nat} {l : List Int}, k ≤ ms.length → (l ∈ linesOf (ms.take k) ↔ l.length = k ∧ ∀ i, i < k → (ms.getD i default).lo ≤ l.getD i 0 ∧ l.getD i 0 ≤ (ms.getD i default).hi)
  | 0, l, _ => by
    simp only [List.take_zero, linesOf, List.foldl_nil, List.mem_singleton]
    constructor
    · rintro rfl; exact ⟨rfl, fun i hi => by omega⟩
    · rintro ⟨h, _⟩; exact List.length_eq_zero_iff.1 h
  | k + 1, l, h => by
    rw [linesOf_take ms k (by omega), mem_extL]; constructor
    · rintro ⟨a, ha, n, hn, rfl⟩; obtain ⟨h1, h2⟩ := (mem_linesOf (by omega)).1 ha
      have hn' := mem_spanL.1 hn
      refine ⟨by simp [h1], fun i hi => ?_⟩
      rcases Nat.lt_or_ge i k with h3 | h3
      · have := h2 i h3
        simp only [List.getD_eq_getElem?_getD] at this ⊢
        rw [List.getElem?_append_left (by omega)]; exact this
      · obtain rfl : i = k := by omega
        simp only [List.getD_eq_getElem?_getD] at hn' ⊢
        rw [List.getElem?_append_right (by omega), h1, Nat.sub_self]; exact hn'
    · rintro ⟨h1, h2⟩; refine ⟨l.take k, (mem_linesOf (by omega)).2 ⟨by simp; omega, fun i hi => ?_⟩, l.getD k 0, mem_spanL.2 (h2 k (by omega)), ?_⟩
      · have := h2 i (by omega)
        simp only [List.getD_eq_getElem?_getD] at this ⊢
        rw [List.getElem?_take, if_pos hi]; exact this
      · rw [← take_snoc' l k (by omega), List.take_of_length_le (by omega)]
def boatsF (b : Bk) (ll : List (List Int)) (e : Nat) : List (List Int) := (ll.take e).filter fun l => decide (boat b l)
theorem boatsF_yes (b : Bk) (ll : List (List Int)) (e : Nat) (h : e < ll.length) (hb : boat b (ll.getD e [])) : boatsF b ll (e + 1) = boatsF b ll e ++ [ll.getD e []] := by
  rw [boatsF, take_snocL ll e h, List.filter_append, List.filter_cons, if_pos (decide_eq_true hb)]; rfl
theorem boatsF_no (b : Bk) (ll : List (List Int)) (e : Nat) (h : e < ll.length) (hb : ¬ boat b (ll.getD e [])) : boatsF b ll (e + 1) = boatsF b ll e := by
  rw [boatsF, take_snocL ll e h, List.filter_append, List.filter_cons, if_neg (by simpa using hb)]; simp [boatsF]
theorem boatsF_le (b : Bk) (ll : List (List Int)) (e : Nat) : (boatsF b ll e).length ≤ ll.length := by
  have := List.length_filter_le (fun l => decide (boat b l)) (ll.take e)
  rw [List.length_take] at this
  unfold boatsF
  omega
theorem line_of {b : Bk} {l : List Int} (hl : l ∈ linesOf b.marks) : l.length = b.marks.length ∧ ∀ i, i < b.marks.length → (b.marks.getD i default).lo ≤ l.getD i 0 ∧ l.getD i 0 ≤ (b.marks.getD i default).hi := by
  have := (mem_linesOf (ms := b.marks) (k := b.marks.length) (l := l) (Nat.le_refl _)).1 (by rw [List.take_length]; exact hl)
  exact this
theorem line_small {b : Bk} (hv : Valid b) {l : List Int} (hl : l ∈ linesOf b.marks) : Small 959 l := fun j => by
  obtain ⟨h1, h2⟩ := line_of hl
  by_cases h : j < l.length
  · have h3 := h2 j (by omega)
    have h4 := hv.marks _ (mem_getDR.2 ⟨j, by omega, rfl⟩)
    unfold okM at h4
    omega
  · rw [getD_out _ _ (by omega)]; omega
theorem Small.le {m m' : Int} {xs : List Int} (h : Small m xs) (hm : m ≤ m') : Small m' xs := fun j => by have := h j; omega
theorem f55_c (m : Md Tryz.prog B) (h : Hp) {b : Bk} {pm : Option Addr} {nm cm : Nat} {pr : Option Addr} {nr cr : Nat} (rdm : RdS B h 2 (.slice pm nm cm) nm (encs b.marks)) (hm : nm ≤ 1000) (rdr : RdS B h 4 (.slice pr nr cr) nr (encs b.rules)) (hr : nr ≤ 1000) (hv : Valid b) : FnC m 55 #[bkV b pm nm cm pr nr cr] h fun v h' => ∃ new, h' = h ++ new ∧ ∃ vs, RdS B new 1 v (boatsOf b).length vs ∧ RdE B new vs (boatsOf b) := by
  have hml := rdm.elen (by decide)
  have hrl := rdr.elen (by decide)
  have hv1 := hv.many
  refine fn_enter Tryz.func55 rfl rfl (l := (bkV b pm nm cm pr nr cr) :: uu72) rfl ?_
  intro cf cs K hK
  refine rs2 (by kernel_rfl) ?_; refine k_box rfl zq (fun q1 => k_hp (k_put ?_)); refine aq rfl ?_; refine rs2 (by kernel_rfl) ?_; refine k_bs kdq rfl zq (by decide) (by decide) rfl (fun q10 => k_hp (k_put ?_)); refine aq rfl ?_; refine run_seq ?_; refine rs1 (by kernel_rfl) ?_; refine aq rfl ?_; refine run_block ?_; refine run_loop (fun nn l h' => ∃ (i : Nat) (L : Hp) (pa : Option Addr) (na ca : Nat) (vs : List Value), nn = nm - i ∧ (i ≤ nm) ∧ (na = (linesOf (b.marks.take i)).length) ∧ (RdS B L 1 (.slice pa na ca) na vs) ∧ (RdE B L vs (linesOf (b.marks.take i))) ∧ (∃ U : Nat → Value, l = [bkV b pm nm cm pr nr cr, .pointer (some ⟨q1, 0, none⟩), U 2, .slice pa na ca, .int .i64 (i : Int), U 5, U 6, U 7, U 8, U 9, U 10, U 11, U 12, U 13, U 14, U 15, U 16, U 17, U 18, U 19, U 20, U 21, U 22, U 23, U 24, U 25, U 26, U 27, U 28, U 29, U 30, U 31, U 32, U 33, U 34, U 35, U 36, U 37, U 38, U 39, U 40, U 41, U 42, U 43, U 44, U 45, U 46, U 47, U 48, U 49, U 50, U 51, U 52, U 53, U 54, U 55, U 56, U 57, U 58, U 59, U 60, U 61, U 62, U 63, U 64, U 65, U 66, U 67, U 68, U 69, U 70, U 71, U 72]) ∧ (h ++ [⟨true, q1, .cells (bkL b pm nm cm pr nr cr).toArray 25 (0, 0)⟩]) ++ L = h') _ ⟨0, [⟨true, q10, .cells [.slice none 0 0].toArray 26 (0, 0)⟩], some ⟨q10, 0, none⟩, 1, 1, [.slice none 0 0], rfl, by omega, rfl, rdS_has (by rfl), RdE.nil.snoc (xs := []) rfl ⟨none, 0, rfl, rfl, .inl ⟨rfl, rfl⟩⟩ (Nat.le_refl _), exU rfl, (by simp)⟩ ?_; rintro nn l h' ⟨i, L, pa, na, ca, vs, rfl, hi, hna, hra, hea, ⟨U, rfl⟩, rfl⟩ hnext1; have hle := linesOf_le hv i (by omega)
  refine run_seq ?_; refine rs5 (by kernel_rfl) ?_; refine mq rfl ?_; first | refine k_fa0 rfl zq ?_ | refine k_fa rfl zq ?_
  refine k_ldh rfl zq ?_; refine k_len rfl zq ?_; refine k_lssS rfl zq (fun hc => ?_) (fun hc => ?_)
  · refine k_nil ?_; refine run_yes ?_; refine run_skip ?_; refine run_seq ?_; refine run_block ?_; refine rs1 (by kernel_rfl) ?_; refine aq rfl ?_; refine run_seq ?_; refine rs1 (by kernel_rfl) ?_; refine aq rfl ?_; refine run_block ?_; refine run_loop (fun nn l h' => ∃ (k : Nat) (M W : Hp) (w : Value) (ws : List Value), nn = na - k ∧ (k ≤ na) ∧ (OwnS 26 1 w (extL ((linesOf (b.marks.take i)).take k) (b.marks.getD i default)).length ws W) ∧ (RdE B M ws (extL ((linesOf (b.marks.take i)).take k) (b.marks.getD i default))) ∧ (∃ U : Nat → Value, l = [bkV b pm nm cm pr nr cr, .pointer (some ⟨q1, 0, none⟩), U 2, .slice pa na ca, .int .i64 (i : Int), w, .int .i64 (k : Int), U 7, U 8, U 9, U 10, U 11, U 12, U 13, U 14, U 15, U 16, U 17, U 18, U 19, U 20, U 21, U 22, U 23, U 24, U 25, U 26, U 27, U 28, U 29, U 30, U 31, U 32, U 33, U 34, U 35, U 36, U 37, U 38, U 39, U 40, U 41, U 42, U 43, U 44, U 45, U 46, U 47, U 48, U 49, U 50, U 51, U 52, U 53, U 54, U 55, U 56, U 57, U 58, U 59, U 60, U 61, U 62, U 63, U 64, U 65, U 66, U 67, U 68, U 69, U 70, U 71, U 72]) ∧ (h ++ [⟨true, q1, .cells (bkL b pm nm cm pr nr cr).toArray 25 (0, 0)⟩]) ++ L ++ M ++ W = h') _ ⟨0, [], [], _, [], rfl, by omega, OwnS.nil, RdE.nil, exU rfl, (by simp)⟩ ?_; rintro nn l h' ⟨k, M, W, w, ws, rfl, hk, how, hew, ⟨U, rfl⟩, rfl⟩ hnext2; refine run_seq ?_; refine rs4 (by kernel_rfl) ?_; refine mq rfl ?_; refine mq rfl ?_; refine k_len rfl zq ?_; refine k_lssS rfl zq (fun hc => ?_) (fun hc => ?_)
    · refine k_nil ?_; refine run_yes ?_; refine run_skip ?_; refine run_seq ?_; refine run_block ?_; refine rs7 (by kernel_rfl) ?_; have hok := hv.marks _ (mem_getDR.2 ⟨i, by omega, rfl⟩)
      unfold okM at hok
      first | refine k_fa0 rfl zq ?_ | refine k_fa rfl zq ?_
      refine k_ldh rfl zq ?_; refine mq rfl ?_; obtain ⟨rdm_b, rdm_o, rfl⟩ := rdm.ptr (by omega)
      refine k_ixs rfl zq (by first | rfl | assumption) (by omega) (by omega) ?_; first | refine k_fa0 rfl zq ?_ | refine k_fa rfl zq ?_
      refine k_ld rfl zq (rdm.fat (v := .int .i64 (b.marks.getD i default).lo) i 0 (by omega) (by omega) rfl) ?_; refine aq rfl ?_; refine run_block ?_; refine run_loop (fun nn l h' => ∃ (j : Nat) (n7 : Int) (M3 W3 : Hp) (w3 : Value) (ws3 : List Value), nn = ((b.marks.getD i default).hi - (b.marks.getD i default).lo + 1).toNat - j ∧ (n7 = (b.marks.getD i default).lo + (j : Int)) ∧ (j ≤ ((b.marks.getD i default).hi - (b.marks.getD i default).lo + 1).toNat) ∧ (OwnS 26 1 w3 (partL (linesOf (b.marks.take i)) (b.marks.getD i default) k j).length ws3 W3) ∧ (RdE B M3 ws3 (partL (linesOf (b.marks.take i)) (b.marks.getD i default) k j)) ∧ (∃ U : Nat → Value, l = [bkV b (some ⟨rdm_b, rdm_o, none⟩) nm cm pr nr cr, .pointer (some ⟨q1, 0, none⟩), U 2, .slice pa na ca, .int .i64 (i : Int), w3, .int .i64 (k : Int), .int .i64 n7, U 8, U 9, U 10, U 11, U 12, U 13, U 14, U 15, U 16, U 17, U 18, U 19, U 20, U 21, U 22, U 23, U 24, U 25, U 26, U 27, U 28, U 29, U 30, U 31, U 32, U 33, U 34, U 35, U 36, U 37, U 38, U 39, U 40, U 41, U 42, U 43, U 44, U 45, U 46, U 47, U 48, U 49, U 50, U 51, U 52, U 53, U 54, U 55, U 56, U 57, U 58, U 59, U 60, U 61, U 62, U 63, U 64, U 65, U 66, U 67, U 68, U 69, U 70, U 71, U 72]) ∧ (h ++ [⟨true, q1, .cells (bkL b (some ⟨rdm_b, rdm_o, none⟩) nm cm pr nr cr).toArray 25 (0, 0)⟩]) ++ L ++ M3 ++ W3 = h') _ ⟨0, _, M, W, w, ws, rfl, by exact (Int.add_zero _).symm, by omega, by rw [partL_zero]; exact how, by rw [partL_zero]; exact hew, exU rfl, rfl⟩ ?_; rintro nn l h' ⟨j, n7, M3, W3, w3, ws3, rfl, rfl, hj, how3, hew3, ⟨U, rfl⟩, rfl⟩ hnext3; refine run_seq ?_; refine rs8 (by kernel_rfl) ?_; refine mq rfl ?_; first | refine k_fa0 rfl zq ?_ | refine k_fa rfl zq ?_
      refine k_ldh rfl zq ?_; refine mq rfl ?_; refine k_ixs rfl zq (by first | rfl | assumption) (by omega) (by omega) ?_; first | refine k_fa0 rfl zq ?_ | refine k_fa rfl zq ?_
      refine k_ld rfl zq (rdm.fat (v := .int .i64 (b.marks.getD i default).hi) i 1 (by omega) (by omega) rfl) ?_; refine k_leqS rfl zq (fun hc => ?_) (fun hc => ?_)
      · refine k_nil ?_; refine run_yes ?_; refine run_skip ?_; refine run_seq ?_; refine run_block ?_; refine rr13 (by kernel_rfl) ?_; obtain ⟨ep, ec, ee, er⟩ := hea.2 k (by omega)
        have hlen : ((linesOf (b.marks.take i)).getD k []).length = i := ((mem_linesOf (by omega)).1 (mem_getDR.2 ⟨k, by omega, rfl⟩)).1
        have hpl := partL_le (linesOf (b.marks.take i)) (b.marks.getD i default) k j (by omega) (by omega)
        refine mq rfl ?_; refine k_bs0 kdq rfl zq (fun q41 => k_hp (k_put ?_)); refine mq rfl ?_; refine mq rfl ?_; obtain ⟨hra_b, hra_o, rfl⟩ := hra.ptr (by omega)
        refine k_ixs rfl zq (by first | rfl | assumption) (by omega) (by omega) ?_; refine k_ld (v := .slice ep ((linesOf (b.marks.take i)).getD k []).length ec) rfl zq (by rw [← ee]; exact hra.vat k (by omega) (by omega)) ?_; refine k_app (F := (h ++ [⟨true, q1, .cells (bkL b (some ⟨rdm_b, rdm_o, none⟩) nm cm pr nr cr).toArray 25 (0, 0)⟩]) ++ L ++ M3 ++ W3) rfl zq weakSub OwnS.zero er.up (ints_one _) (.inl rfl) (by omega) (by omega) (fun w6 n6 o6 => k_put ?_); refine mq rfl ?_; refine k_bs kdq rfl zq (by decide) (by decide) rfl (fun q48 => k_hp (k_put ?_)); refine k_app1 (F := (h ++ [⟨true, q1, .cells (bkL b (some ⟨rdm_b, rdm_o, none⟩) nm cm pr nr cr).toArray 25 (0, 0)⟩]) ++ L ++ M3 ++ W3) rfl zq rfl o6 kdq (by omega) (by omega) (fun w9 n9 o9 => k_put ?_); obtain ⟨p9, c9, rfl, _⟩ := o9.len
        have r9 : RdS B n9 1 (.slice p9 _ c9) _ _ := (o9.rd')
        refine k_bs kdq rfl zq (by decide) (by decide) rfl (fun q50 => k_hp (k_put ?_)); refine k_appW (F := (h ++ [⟨true, q1, .cells (bkL b (some ⟨rdm_b, rdm_o, none⟩) nm cm pr nr cr).toArray 25 (0, 0)⟩]) ++ L ++ M3 ++ n9) rfl zq rfl how3 (Weak.trans weakSub (Weak.mid ((h ++ [⟨true, q1, .cells (bkL b (some ⟨rdm_b, rdm_o, none⟩) nm cm pr nr cr).toArray 25 (0, 0)⟩]) ++ L ++ M3) W3 n9)) (.inl rfl) (by omega) (by omega) (fun w11 n11 o11 => k_put ?_); refine aq rfl ?_; refine run_inBlock ?_; refine rr3 (by kernel_rfl) ?_; refine mq rfl ?_; refine k_add rfl zq (by unfold In64; omega) ?_; refine aq rfl ?_; have hps := partL_succ (linesOf (b.marks.take i)) (b.marks.getD i default) k j (by omega)
        exact hnext3 _ _ _ (by omega) ⟨j + 1, _, M3 ++ n9, n11, w11, ws3 ++ [.slice p9 (0 + ((linesOf (b.marks.take i)).getD k []).length + 1) c9], rfl, by omega, by omega, by rw [hps, List.length_append]; exact o11, by rw [hps]; exact hew3.up.snoc (by simp) (by rw [ints_append]; exact r9.up) o9.cap, exU rfl, by simp⟩
      · refine k_nil ?_; refine run_no ?_; refine run_exit rfl ?_; refine run_inBlock ?_; refine rr3 (by kernel_rfl) ?_; refine mq rfl ?_; refine k_add rfl zq (by unfold In64; omega) ?_; refine aq rfl ?_; rw [partL_full _ _ _ _ (by omega) (by omega)] at how3 hew3
        exact m.weak weakSub (hnext2 _ _ _ (by omega) ⟨k + 1, M3, W3, w3, ws3, rfl, by omega, how3, hew3, exU rfl, rfl⟩)
    · refine k_nil ?_; refine run_no ?_; refine run_exit rfl ?_; refine rr2 (by kernel_rfl) ?_; refine mq rfl ?_; refine aq rfl ?_; refine run_inBlock ?_; refine rr3 (by kernel_rfl) ?_; refine mq rfl ?_; refine k_add rfl zq (by unfold In64; omega) ?_; refine aq rfl ?_; obtain rfl : k = na := by omega
      rw [List.take_of_length_le (by omega), ← linesOf_take b.marks i (by omega)] at how hew
      obtain ⟨wp, wc, rfl, _⟩ := how.len
      refine m.weak (h' := (h ++ [⟨true, q1, .cells (bkL b pm nm cm pr nr cr).toArray 25 (0, 0)⟩]) ++ M ++ W) weakSub ?_
      exact hnext1 _ _ _ (by omega) ⟨i + 1, M ++ W, wp, _, wc, ws, rfl, by omega, rfl, how.rd', hew.up, exU rfl, by simp⟩
  · refine k_nil ?_; refine run_no ?_; refine run_exit rfl ?_; refine rs1 (by kernel_rfl) ?_; obtain rfl : nm = i := by omega
    rw [List.take_of_length_le (by omega)] at hna hea hle
    refine aq rfl ?_; refine run_seq ?_; refine rs1 (by kernel_rfl) ?_; refine aq rfl ?_; refine run_block ?_; refine run_loop (fun nn l h' => ∃ (e : Nat) (W4 : Hp) (w4 : Value) (ws4 : List Value), nn = na - e ∧ (e ≤ na) ∧ (OwnS 26 1 w4 (boatsF b (linesOf b.marks) e).length ws4 W4) ∧ (RdE B L ws4 (boatsF b (linesOf b.marks) e)) ∧ (∃ U : Nat → Value, l = [bkV b pm nm cm pr nr cr, .pointer (some ⟨q1, 0, none⟩), U 2, .slice pa na ca, U 4, U 5, U 6, U 7, w4, .int .i64 (e : Int), U 10, U 11, U 12, U 13, U 14, U 15, U 16, U 17, U 18, U 19, U 20, U 21, U 22, U 23, U 24, U 25, U 26, U 27, U 28, U 29, U 30, U 31, U 32, U 33, U 34, U 35, U 36, U 37, U 38, U 39, U 40, U 41, U 42, U 43, U 44, U 45, U 46, U 47, U 48, U 49, U 50, U 51, U 52, U 53, U 54, U 55, U 56, U 57, U 58, U 59, U 60, U 61, U 62, U 63, U 64, U 65, U 66, U 67, U 68, U 69, U 70, U 71, U 72]) ∧ (h ++ [⟨true, q1, .cells (bkL b pm nm cm pr nr cr).toArray 25 (0, 0)⟩]) ++ L ++ W4 = h') _ ⟨0, [], _, [], rfl, by omega, OwnS.nil, RdE.nil, exU rfl, (by simp)⟩ ?_; rintro nn l h' ⟨e, W4, w4, ws4, rfl, he, how4, hew4, ⟨U, rfl⟩, rfl⟩ hnext4; have hbl := boatsF_le b (linesOf b.marks) e
    refine run_seq ?_; refine rs4 (by kernel_rfl) ?_; refine mq rfl ?_; refine mq rfl ?_; refine k_len rfl zq ?_; refine k_lssS rfl zq (fun hc => ?_) (fun hc => ?_)
    · refine k_nil ?_; refine run_yes ?_; refine run_skip ?_; refine run_seq ?_; refine run_block ?_; refine run_seq ?_; refine run_draw [(1, .pure), (2, .pure), (3, .pure), (0, .read), (4, .read), (5, .keep)] (by kernel_rfl) (by kernel_rfl) (List.Sublist.refl _) ?_; refine mq rfl ?_; refine mq rfl ?_; obtain ⟨hra_b, hra_o, rfl⟩ := hra.ptr (by omega)
      refine k_ixs rfl zq (by first | rfl | assumption) (by omega) (by omega) ?_; obtain ⟨ep, ec, ee, er⟩ := hea.2 e (by omega)
      have hmem : (linesOf b.marks).getD e [] ∈ linesOf b.marks := mem_getDR.2 ⟨e, by omega, rfl⟩
      have hlen := (line_of hmem).1
      refine k_ldA rfl zq ?_; refine k_ld (v := .slice ep ((linesOf b.marks).getD e []).length ec) rfl zq (by rw [← ee]; exact hra.vat e (by omega) (by omega)) ?_; refine k_calP (Post := fun v => IsB _ v) rfl zq (by kernel_rfl) (fun H' hH => f106_c m H' (rdm.keeps (sq hH)) hm (rdr.keeps (sq hH)) hr (er.keeps (sq hH)) (by omega) ((line_small hv hmem).le (by omega)) hv (by omega)) ?_; rintro v (⟨hc, rfl⟩ | ⟨hc, rfl⟩)
      · refine k_put ?_; refine k_nil ?_; refine run_yes ?_; refine rr8 (by kernel_rfl) ?_; refine mq rfl ?_; refine mq rfl ?_; refine mq rfl ?_; refine k_ixs rfl zq (by first | rfl | assumption) (by omega) (by omega) ?_; refine k_ld (v := .slice ep ((linesOf b.marks).getD e []).length ec) rfl zq (by rw [← ee]; exact hra.vat e (by omega) (by omega)) ?_; refine k_bs kdq rfl zq (by decide) (by decide) rfl (fun q70 => k_hp (k_put ?_)); refine k_app1 (F := (h ++ [⟨true, q1, .cells (bkL b pm nm cm pr nr cr).toArray 25 (0, 0)⟩]) ++ L) rfl zq rfl how4 kdq (by omega) (by omega) (fun w19 n19 o19 => k_put ?_); refine aq rfl ?_; refine run_inBlock ?_; refine rr3 (by kernel_rfl) ?_; refine mq rfl ?_; refine k_add rfl zq (by unfold In64; omega) ?_; refine aq rfl ?_; have hps := boatsF_yes b (linesOf b.marks) e (by omega) (by assumption)
        exact m.weak weakSub (hnext4 _ _ _ (by omega) ⟨e + 1, n19, w19, ws4 ++ [.slice ep ((linesOf b.marks).getD e []).length ec], rfl, by omega, by rw [hps, List.length_append]; exact o19, by rw [hps]; exact hew4.snoc rfl er (hea.cap (by omega) ee), exU rfl, rfl⟩)
      · refine k_put ?_; refine k_nil ?_; refine run_no ?_; refine run_skip ?_; refine run_inBlock ?_; refine rr3 (by kernel_rfl) ?_; refine mq rfl ?_; refine k_add rfl zq (by unfold In64; omega) ?_; refine aq rfl ?_; have hps := boatsF_no b (linesOf b.marks) e (by omega) (by assumption)
        exact m.weak weakSub (hnext4 _ _ _ (by omega) ⟨e + 1, W4, w4, ws4, rfl, by omega, by rw [hps]; exact how4, by rw [hps]; exact hew4, exU rfl, rfl⟩)
    · refine k_nil ?_; refine run_no ?_; refine run_exit rfl ?_; refine rs2 (by kernel_rfl) ?_; refine mq rfl ?_; refine aq rfl ?_; refine run_ret rfl ?_; refine run_res ((h ++ L) ++ W4) rfl Tryz.func55 rfl weakSub ?_; refine hK _ _ ?_
      obtain rfl : e = na := by omega
      have e1 : boatsF b (linesOf b.marks) (linesOf b.marks).length = boatsOf b := by rw [boatsF, List.take_length]; rfl
      rw [hna, e1] at how4 hew4
      exact ⟨L ++ W4, by simp, ws4, how4.rd', hew4.up⟩
def openS (b : Bk) (own : Int) : Int := if bookS b ≠ 0 then bookS b else if own ≠ 0 then own else if boatsOf b = [] then 9 else 0
def openL (b : Bk) (own : Int) : List (List Int) := if openS b own = 0 then boatsOf b else []
theorem openS_zero {b : Bk} {own : Int} (h : openS b own = 0) : bookS b = 0 ∧ own = 0 ∧ boatsOf b ≠ [] := by
  unfold openS at h
  split at h
  · omega
  · split at h
    · omega
    · split at h
      · omega
      · refine ⟨by omega, by omega, by assumption⟩
theorem boats_le {b : Bk} (hv : Valid b) : (boatsOf b).length ≤ 2187 := by
  have := boatsF_le b (linesOf b.marks) (linesOf b.marks).length
  rw [boatsF, List.take_length] at this
  have h2 := linesOf_le hv b.marks.length (Nat.le_refl _)
  rw [List.take_length] at h2
  unfold boatsOf
  omega
theorem boat_line {b : Bk} {l : List Int} (h : l ∈ boatsOf b) : l ∈ linesOf b.marks := (List.mem_filter.1 h).1
def RdLL (B : Array Obj) (h : Hp) (v : Value) (ll : List (List Int)) : Prop := ∃ p c vs, v = .slice p ll.length c ∧ RdS B h 1 (.slice p ll.length c) ll.length vs ∧ RdE B h vs ll
theorem RdLL.nil {B : Array Obj} {h : Hp} : RdLL B h (.slice none 0 0) [] := ⟨none, 0, [], rfl, ⟨none, 0, rfl, rfl, .inl ⟨rfl, rfl⟩⟩, RdE.nil⟩
def Asc (ys : List Int) : Prop := ys.Pairwise (· < ·)
theorem Asc.eq : ∀ {xs ys : List Int}, Asc xs → Asc ys → (∀ z, z ∈ xs ↔ z ∈ ys) → xs = ys
  | [], [], _, _, _ => rfl
  | [], b :: s, _, _, h => by have := (h b).2 (by simp); simp at this
  | a :: r, [], _, _, h => by have := (h a).1 (by simp); simp at this
  | a :: r, b :: s, h1, h2, h => by
    unfold Asc at h1 h2
    rw [List.pairwise_cons] at h1 h2
    have hab : a = b := by
      rcases List.mem_cons.1 ((h a).1 (by simp)) with e | e
      · exact e
      · rcases List.mem_cons.1 ((h b).2 (by simp)) with e' | e'
        · exact e'.symm
        · have := h1.1 b e'; have := h2.1 a e; omega
    subst hab
    have : r = s := Asc.eq h1.2 h2.2 fun z => by
      constructor
      · intro hz
        rcases List.mem_cons.1 ((h z).1 (List.mem_cons_of_mem _ hz)) with e | e
        · have := h1.1 z hz; omega
        · exact e
      · intro hz
        rcases List.mem_cons.1 ((h z).2 (List.mem_cons_of_mem _ hz)) with e | e
        · have := h2.1 z hz; omega
        · exact e
    rw [this]
theorem OwnS.full {t k q n : Nat} {cs : List Value} (hl : cs.length = n * k) : OwnS t k (.slice (some ⟨q, 0, none⟩) n n) n cs [⟨true, q, .cells cs.toArray t (0, 0)⟩] := by
  have := OwnS.blk (t := t) (k := k) (b := q) (n := n) (cap := n) (cs := cs) (junk := []) hl (by simpa using hl) (Nat.le_refl _)
  simpa using this
class ThereV (t : Bool) (z : outParam Int) : Prop where
  eq : (if t then 0 else 6) = z
instance : ThereV true 0 := ⟨rfl⟩
instance : ThereV false 6 := ⟨rfl⟩
def heightsAt (ll : List (List Int)) (s : Nat) : List Int := ll.map fun l => l.getD s 0
theorem heightsAt_take (ll : List (List Int)) (s k : Nat) (h : k < ll.length) : heightsAt (ll.take (k + 1)) s = heightsAt (ll.take k) s ++ [(ll.getD k []).getD s 0] := by
  rw [take_snocL ll k h, heightsAt, List.map_append]; rfl
def hollowN (ll : List (List Int)) (s : Nat) : Nat := (ll.filter fun l => decide (0 < (bends l).getD s 0)).length
theorem hollowN_yes (ll : List (List Int)) (s k : Nat) (h : k < ll.length) (hp : 0 < (bends (ll.getD k [])).getD s 0) : hollowN (ll.take (k + 1)) s = hollowN (ll.take k) s + 1 := by
  rw [take_snocL ll k h, hollowN, List.filter_append, List.filter_cons, if_pos (decide_eq_true hp), List.length_append]; rfl
theorem hollowN_no (ll : List (List Int)) (s k : Nat) (h : k < ll.length) (hp : ¬ 0 < (bends (ll.getD k [])).getD s 0) : hollowN (ll.take (k + 1)) s = hollowN (ll.take k) s := by
  rw [take_snocL ll k h, hollowN, List.filter_append, List.filter_cons, if_neg (by simpa using hp), List.filter_nil, List.append_nil]; rfl
def told (x y : Int) : Int := if x = 0 then 2 else if x = y then 1 else 0
def bestBy (lt : List Int → List Int → Bool) (ll : List (List Int)) : List Int := (ll.drop 1).foldl (fun o x => if lt x o then x else o) (ll.getD 0 [])
theorem bestBy_one (lt : List Int → List Int → Bool) (ll : List (List Int)) : bestBy lt (ll.take 1) = ll.getD 0 [] := by
  cases ll <;> rfl
theorem bestBy_succ (lt : List Int → List Int → Bool) (ll : List (List Int)) (k : Nat) (h0 : 0 < k) (h : k < ll.length) : bestBy lt (ll.take (k + 1)) = if lt (ll.getD k []) (bestBy lt (ll.take k)) then ll.getD k [] else bestBy lt (ll.take k) := by
  have e : ∀ k, 0 < k → (ll.take k).getD 0 [] = ll.getD 0 [] := fun k hk => by
    rw [List.getD_eq_getElem?_getD, List.getD_eq_getElem?_getD, List.getElem?_take, if_pos hk]
  unfold bestBy
  rw [e (k + 1) (by omega), e k h0, take_snocL ll k h, List.drop_append_of_le_length (by rw [List.length_take]; omega), List.foldl_append]; rfl
theorem bestBy_mem (lt : List Int → List Int → Bool) (ll : List (List Int)) (h : 0 < ll.length) : bestBy lt ll ∈ ll := by
  have gen : ∀ (r : List (List Int)) (o : List Int), o ∈ ll → (∀ x ∈ r, x ∈ ll) → r.foldl (fun o x => if lt x o then x else o) o ∈ ll := by
    intro r
    induction r with
    | nil => exact fun o ho _ => ho
    | cons x r ih =>
      intro o ho hr
      refine ih _ ?_ fun y hy => hr y (List.mem_cons_of_mem _ hy)
      show (if lt x o then x else o) ∈ ll
      split
      · exact hr x List.mem_cons_self
      · exact ho
  exact gen _ _ (mem_getDR.2 ⟨0, h, rfl⟩) fun x hx => List.mem_of_mem_drop hx
def ltStrain (x o : List Int) : Bool := decide (strain x < strain o)
def RdI (B : Array Obj) (h : Hp) (w : Value) (xs : List Int) : Prop := ∃ p c, w = .slice p xs.length c ∧ RdS B h 1 (.slice p xs.length c) xs.length (ints xs)
theorem RdI.nil {h : Hp} : RdI B h (.slice none 0 0) [] := ⟨none, 0, rfl, none, 0, rfl, rfl, .inl ⟨rfl, rfl⟩⟩
theorem OwnS.rdI {t : Nat} {w : Value} {n : Nat} {xs : List Int} {new : Hp} (o : OwnS t 1 w n (ints xs) new) : RdI B new w xs := by
  obtain ⟨p, c, rfl, hl⟩ := o.len
  obtain rfl : n = xs.length := by simpa using hl.symm
  exact ⟨p, c, rfl, o.rd'⟩
def straightL (b : Bk) : List Int := if openS b 0 ≠ 0 then [] else bestBy ltStrain (boatsOf b)
theorem lineS_zero {many : Nat} {xs : List Int} (h : lineS many xs = 0) : xs.length = many ∧ ∀ x ∈ xs, 0 ≤ x ∧ x ≤ 959 := by
  unfold lineS at h
  split at h
  · omega
  · split at h
    · exact ⟨by omega, by assumption⟩
    · omega
theorem lineS_small {many : Nat} {xs : List Int} (h : lineS many xs = 0) : Small 959 xs := fun j => by
  by_cases hj : j < xs.length
  · have := (lineS_zero h).2 _ (mem_getD.2 ⟨j, hj, rfl⟩)
    omega
  · rw [getD_out _ _ (by omega)]; omega
def ltFar (xs x o : List Int) : Bool := decide (sumL (gaps x xs) < sumL (gaps o xs) ∨ (sumL (gaps x xs) = sumL (gaps o xs) ∧ mostL (gaps x xs) < mostL (gaps o xs)))
def lineO (b : Bk) (xs : List Int) : Int := openS b (lineS b.marks.length xs)
def nearL (b : Bk) (xs : List Int) : List Int := if lineO b xs ≠ 0 then [] else bestBy (ltFar xs) (boatsOf b)
def nearN (b : Bk) (xs : List Int) : Int := if lineO b xs ≠ 0 then 0 else sumL (gaps (bestBy (ltFar xs) (boatsOf b)) xs)
def ltFewer (x o : List Int) : Bool := decide (fewer x o)
def pulledL (b : Bk) (xs : List Int) : List Int := if lineO b xs ≠ 0 then [] else bestBy ltFewer ((boatsOf b).map fun l => unlike l xs)
def straightN (b : Bk) : Int := if openS b 0 ≠ 0 then 0 else strain (bestBy ltStrain (boatsOf b))
theorem map_getD (ll : List (List Int)) (f : List Int → List Int) (k : Nat) (h : k < ll.length) : (ll.map f).getD k [] = f (ll.getD k []) := by
  rw [List.getD_eq_getElem?_getD, List.getD_eq_getElem?_getD, List.getElem?_map, List.getElem?_eq_getElem h]; rfl
theorem unlike_length (xs ys : List Int) : (unlike xs ys).length ≤ xs.length := unlikeF_length _ _ _
def mustF (ll : List (List Int)) (xs : List Int) (k : Nat) : List Int := (firsts k).filter fun i => decide (∀ l ∈ ll, l.getD i.toNat 0 ≠ xs.getD i.toNat 0)
def mustL (b : Bk) (xs : List Int) : List Int := if lineO b xs ≠ 0 then [] else mustF (boatsOf b) xs xs.length
theorem mustF_yes (ll : List (List Int)) (xs : List Int) (k : Nat) (h : ∀ l ∈ ll, l.getD k 0 ≠ xs.getD k 0) : mustF ll xs (k + 1) = mustF ll xs k ++ [(k : Int)] := by
  rw [mustF, firsts_succ, List.filter_append, ← mustF]; congr 1
  rw [List.filter_cons, Int.toNat_natCast, if_pos (decide_eq_true h)]; rfl
theorem mustF_no (ll : List (List Int)) (xs : List Int) (k : Nat) (h : ¬ ∀ l ∈ ll, l.getD k 0 ≠ xs.getD k 0) : mustF ll xs (k + 1) = mustF ll xs k := by
  rw [mustF, firsts_succ, List.filter_append, ← mustF, List.filter_cons, Int.toNat_natCast, if_neg (by rw [decide_eq_true_iff]; exact h)]; simp
theorem mustF_length (ll : List (List Int)) (xs : List Int) (k : Nat) : (mustF ll xs k).length ≤ k := by
  have := List.length_filter_le (fun i : Int => decide (∀ l ∈ ll, l.getD i.toNat 0 ≠ xs.getD i.toNat 0)) (firsts k)
  rw [firsts_length] at this
  exact this
def handedS (b : Bk) (xs : List Int) : Int := if bookS b ≠ 0 then bookS b else lineS b.marks.length xs
theorem handedS_zero {b : Bk} {xs : List Int} (h : handedS b xs = 0) : bookS b = 0 ∧ lineS b.marks.length xs = 0 := by
  unfold handedS at h
  split at h
  · contradiction
  · exact ⟨by omega, h⟩
theorem RdI.owned {t : Nat} {w : Value} {n : Nat} {xs : List Int} {new : Hp} (o : OwnS t 1 w n (ints xs) new) : RdI B new w xs := OwnS.rdI o
def countAt (ll : List (List Int)) (s : Nat) (x : Int) : Nat := (ll.filter fun l => decide (l.getD s 0 = x)).length
theorem countAt_yes (ll : List (List Int)) (s : Nat) (x : Int) (k : Nat) (h : k < ll.length) (hp : (ll.getD k []).getD s 0 = x) : countAt (ll.take (k + 1)) s x = countAt (ll.take k) s x + 1 := by
  rw [take_snocL ll k h, countAt, List.filter_append, List.filter_cons, if_pos (decide_eq_true hp), List.length_append]; rfl
theorem countAt_no (ll : List (List Int)) (s : Nat) (x : Int) (k : Nat) (h : k < ll.length) (hp : (ll.getD k []).getD s 0 ≠ x) : countAt (ll.take (k + 1)) s x = countAt (ll.take k) s x := by
  rw [take_snocL ll k h, countAt, List.filter_append, List.filter_cons, if_neg (by rw [decide_eq_true_iff]; exact hp), List.filter_nil, List.append_nil]; rfl
def lefts (ll : List (List Int)) (s : Nat) : List Int := ll.map fun l => (countAt ll s (l.getD s 0) : Int)
def leftOf (ll : List (List Int)) (s : Nat) : Int := mostL (lefts ll s)
end Go.Proofs
