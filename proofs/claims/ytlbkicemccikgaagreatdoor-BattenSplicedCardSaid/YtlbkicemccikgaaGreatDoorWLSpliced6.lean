/- A part of the proof of a law: my own separation logic over the machine, and walks of the program. Condition of each theorem: as its statement says. -/
import Derived.Test.YtlbkicemccikgaaGreatDoorWLSpliced5
set_option linter.all false
namespace Go.Proofs
open Go.Lo
open Go.Conc (G)
set_option maxRecDepth 100000
set_option synthInstance.maxSize 100000
set_option synthInstance.maxHeartbeats 1000000
set_option maxHeartbeats 4000000
variable {B : Array Obj}
variable [Laid B]
def cmpL : List Int → List Int → Int
  | [], [] => 0
  | [], _ :: _ => -1
  | _ :: _, [] => 1
  | a :: r, b :: s => if a < b then -1 else if b < a then 1 else cmpL r s
theorem cmpL_before : ∀ (xs ys : List Int), cmpL xs ys < 0 ↔ before xs ys = true
  | [], [] => by simp [cmpL, before]
  | [], _ :: _ => by simp [cmpL, before]
  | _ :: _, [] => by simp [cmpL, before]
  | a :: r, b :: s => by
    have := cmpL_before r s
    unfold cmpL before
    by_cases h1 : a < b
    · rw [if_pos h1, if_neg (by omega), decide_eq_true h1]; simp
    · rw [if_neg h1]; by_cases h2 : b < a
      · rw [if_pos h2, if_neg (by omega), decide_eq_false h1]; simp
      · rw [if_neg h2, if_pos (by omega)]; exact this
theorem drop_getD (xs : List Int) (k : Nat) (h : k < xs.length) : xs.drop k = xs.getD k 0 :: xs.drop (k + 1) := by
  rw [List.drop_eq_getElem_cons h, List.getD_eq_getElem?_getD, List.getElem?_eq_getElem h]; rfl
theorem cmpL_drop {xs ys : List Int} {k : Nat} (h1 : k < xs.length) (h2 : k < ys.length) : cmpL (xs.drop k) (ys.drop k) = if xs.getD k 0 < ys.getD k 0 then -1 else if ys.getD k 0 < xs.getD k 0 then 1 else cmpL (xs.drop (k + 1)) (ys.drop (k + 1)) := by
  rw [drop_getD xs k h1, drop_getD ys k h2]; rfl
theorem sgn_ne {a b z : Int} (h : (if a < b then (-1 : Int) else if b < a then 1 else 0) ≠ 0) : (if a < b then (-1 : Int) else if b < a then 1 else 0) = if a < b then -1 else if b < a then 1 else z := by
  split
  · rfl
  · rename_i h1
    rw [if_neg h1] at h
    split
    · rfl
    · rename_i h2; rw [if_neg h2] at h; exact absurd rfl h
theorem sgn_eq {a b z : Int} (h : (if a < b then (-1 : Int) else if b < a then 1 else 0) = 0) : (if a < b then (-1 : Int) else if b < a then 1 else z) = z := by
  split
  · rename_i h1; rw [if_pos h1] at h; cases h
  · rename_i h1
    rw [if_neg h1] at h
    split
    · rename_i h2; rw [if_pos h2] at h; cases h
    · rfl
theorem cmpL_end {xs ys : List Int} {k : Nat} (h1 : k ≤ xs.length) (h2 : k ≤ ys.length) (h : xs.length = k ∨ ys.length = k) : cmpL (xs.drop k) (ys.drop k) = if k < xs.length then 1 else if k < ys.length then -1 else 0 := by
  by_cases e : k < xs.length
  · rw [if_pos e, drop_getD xs k e, (List.drop_eq_nil_of_le (by omega) : ys.drop k = [])]; rfl
  · rw [if_neg e, (List.drop_eq_nil_of_le (by omega) : xs.drop k = [])]; by_cases e2 : k < ys.length
    · rw [if_pos e2, drop_getD ys k e2]; rfl
    · rw [if_neg e2, (List.drop_eq_nil_of_le (by omega) : ys.drop k = [])]; rfl
theorem f174_c (m : Md Tryz.prog B) (h : Hp) (x y : Int) : FnC m 174 #[.int .i64 x, .int .i64 y] h fun v h' => h' = h ∧ v = .int .i64 (if x < y then -1 else if y < x then 1 else 0) := by
  refine fn_enter Tryz.func174 rfl rfl (l := (.int .i64 x) :: (.int .i64 y) :: uu18) rfl ?_
  intro cf cs K hK
  refine rs1 (by kernel_rfl) ?_; refine aq rfl ?_; refine rs3 (by kernel_rfl) ?_; refine mq rfl ?_; refine k_calP (Post := fun v => v = _) rfl zq (by kernel_rfl) (fun H' hH => f181_c m H' _) ?_; rintro v rfl; refine k_put ?_; refine aq rfl ?_; refine rs3 (by kernel_rfl) ?_; refine mq rfl ?_; refine k_calP (Post := fun v => v = _) rfl zq (by kernel_rfl) (fun H' hH => f181_c m H' _) ?_; rintro v rfl; refine k_put ?_; refine aq rfl ?_; refine run_seq ?_; refine rs1 (by kernel_rfl) ?_; refine mq rfl ?_; refine k_nil ?_; refine run_no ?_; refine run_skip ?_; refine run_seq ?_; refine rs1 (by kernel_rfl) ?_; refine mq rfl ?_; refine k_nil ?_; refine run_no ?_; refine run_skip ?_; refine run_seq ?_; refine rs3 (by kernel_rfl) ?_; refine mq rfl ?_; refine mq rfl ?_; refine k_lssS rfl zq (fun hc => ?_) (fun hc => ?_)
  · refine k_nil ?_; refine run_yes ?_; refine rs1 (by kernel_rfl) ?_; refine aq rfl ?_; refine run_ret rfl ?_; refine run_res (h) rfl Tryz.func174 rfl weakSub ?_; refine hK _ _ ?_
    first | exact ⟨rfl, by rw [if_pos (by omega)]⟩ | exact ⟨rfl, by rw [if_neg (by omega), if_pos (by omega)]⟩ | exact ⟨rfl, by rw [if_neg (by omega), if_neg (by omega)]⟩
  · refine k_nil ?_; refine run_no ?_; refine run_skip ?_; refine run_seq ?_; refine rs3 (by kernel_rfl) ?_; refine mq rfl ?_; refine mq rfl ?_; refine k_gtrS rfl zq (fun hc => ?_) (fun hc => ?_)
    · refine k_nil ?_; refine run_yes ?_; refine rs1 (by kernel_rfl) ?_; refine aq rfl ?_; refine run_ret rfl ?_; refine run_res (h) rfl Tryz.func174 rfl weakSub ?_; refine hK _ _ ?_
      first | exact ⟨rfl, by rw [if_pos (by omega)]⟩ | exact ⟨rfl, by rw [if_neg (by omega), if_pos (by omega)]⟩ | exact ⟨rfl, by rw [if_neg (by omega), if_neg (by omega)]⟩
    · refine k_nil ?_; refine run_no ?_; refine run_skip ?_; refine rs1 (by kernel_rfl) ?_; refine aq rfl ?_; refine run_ret rfl ?_; refine run_res (h) rfl Tryz.func174 rfl weakSub ?_; refine hK _ _ ?_
      first | exact ⟨rfl, by rw [if_pos (by omega)]⟩ | exact ⟨rfl, by rw [if_neg (by omega), if_pos (by omega)]⟩ | exact ⟨rfl, by rw [if_neg (by omega), if_neg (by omega)]⟩
theorem f157_c (m : Md Tryz.prog B) (h : Hp) {p : Option Addr} {n c : Nat} {xs : List Int} (rd : RdS B h 1 (.slice p n c) n (ints xs)) (hn : n ≤ 1000000) {p2 : Option Addr} {n2 c2 : Nat} {ys : List Int} (rd2 : RdS B h 1 (.slice p2 n2 c2) n2 (ints ys)) : FnC m 157 #[.slice p n c, .slice p2 n2 c2] h fun v h' => h' = h ∧ v = .int .i64 (cmpL xs ys) := by
  have hl := rd.ilen
  have hl2 := rd2.ilen
  refine fn_enter Tryz.func157 rfl rfl (l := (.slice p n c) :: (.slice p2 n2 c2) :: uu34) rfl ?_
  intro cf cs K hK
  refine rs1 (by kernel_rfl) ?_; refine aq rfl ?_; refine run_seq ?_; refine rs3 (by kernel_rfl) ?_; refine mq rfl ?_; refine k_len rfl zq ?_; refine mq rfl ?_; refine k_nil ?_; refine run_block ?_; refine run_loop (fun nn l h' => ∃ (k : Nat), nn = n - k ∧ (k ≤ n) ∧ (k ≤ n2) ∧ (cmpL xs ys = cmpL (xs.drop k) (ys.drop k)) ∧ (∃ U : Nat → Value, l = [.slice p n c, .slice p2 n2 c2, U 2, U 3, U 4, U 5, U 6, U 7, U 8, .slice p n c, .int .i64 (n : Int), .int .i64 (k : Int), U 12, U 13, U 14, U 15, U 16, U 17, U 18, U 19, U 20, U 21, U 22, U 23, U 24, U 25, U 26, U 27, U 28, U 29, U 30, U 31, U 32, U 33, U 34, U 35]) ∧ h = h') _ ⟨0, rfl, by omega, by omega, rfl, exU rfl, rfl⟩ ?_; rintro nn l h' ⟨k, rfl, hk, hk2, he, ⟨U, rfl⟩, rfl⟩ hnext; refine rs1 (by kernel_rfl) ?_; refine k_lssS rfl zq (fun hc => ?_) (fun hc => ?_)
  · refine k_nil ?_; refine run_seq ?_; refine run_yes ?_; refine run_skip ?_; refine run_seq ?_; refine run_block ?_; refine rs5 (by kernel_rfl) ?_; refine mq rfl ?_; obtain ⟨rd_b, rd_o, rfl⟩ := rd.ptr (by omega)
    refine k_ixs rfl zq (by first | rfl | assumption) (by omega) (by omega) ?_; refine k_ld rfl zq (rd.iat k (by omega) (by omega)) ?_; refine k_as rfl zq ?_; refine aq rfl ?_; refine run_seq ?_; refine rs4 (by kernel_rfl) ?_; refine mq rfl ?_; refine mq rfl ?_; refine k_len rfl zq ?_; refine k_geqS rfl zq (fun hc => ?_) (fun hc => ?_)
    · refine k_nil ?_; refine run_yes ?_; refine rs1 (by kernel_rfl) ?_; refine aq rfl ?_; refine run_ret rfl ?_; refine run_res (h) rfl Tryz.func157 rfl weakSub ?_; refine hK _ _ ?_
      exact ⟨rfl, by rw [he, cmpL_end (by omega) (by omega) (by omega), if_pos (by omega)]⟩
    · refine k_nil ?_; refine run_no ?_; refine run_skip ?_; refine rs5 (by kernel_rfl) ?_; refine mq rfl ?_; refine mq rfl ?_; obtain ⟨rd2_b, rd2_o, rfl⟩ := rd2.ptr (by omega)
      refine k_ixs rfl zq (by first | rfl | assumption) (by omega) (by omega) ?_; refine k_ld rfl zq (rd2.iat k (by omega) (by omega)) ?_; refine aq rfl ?_; refine rs4 (by kernel_rfl) ?_; refine mq rfl ?_; refine mq rfl ?_; refine k_calP (Post := fun v => v = _) rfl zq (by kernel_rfl) (fun H' hH => f174_c m H' _ _) ?_; rintro v rfl; refine k_put ?_; refine aq rfl ?_; refine rs2 (by kernel_rfl) ?_; have hcd := cmpL_drop (xs := xs) (ys := ys) (k := k) (by omega) (by omega)
      refine mq rfl ?_; refine k_neqS rfl zq (fun hc => ?_) (fun hc => ?_)
      · refine k_nil ?_; refine run_yes ?_; refine rs2 (by kernel_rfl) ?_; refine mq rfl ?_; refine aq rfl ?_; refine run_ret rfl ?_; refine run_res (h) rfl Tryz.func157 rfl weakSub ?_; refine hK _ _ ?_
        exact ⟨rfl, by rw [he, hcd]; exact congrArg _ (sgn_ne hc)⟩
      · have hcz := hc
        refine k_nil ?_; refine run_no ?_; refine run_skip ?_; refine run_inBlock ?_; refine rr2 (by kernel_rfl) ?_; refine k_add rfl zq (by unfold In64; omega) ?_; refine mq rfl ?_; refine k_nil ?_; exact m.weak weakSub (hnext _ _ _ (by omega) ⟨k + 1, rfl, by omega, by omega, by rw [he, hcd, sgn_eq hcz], exU rfl, rfl⟩)
  · refine k_nil ?_; refine run_seq ?_; refine run_no ?_; refine run_exit rfl ?_; refine run_seq ?_; refine rs5 (by kernel_rfl) ?_; refine mq rfl ?_; refine k_len rfl zq ?_; refine mq rfl ?_; refine k_len rfl zq ?_; refine k_lssS rfl zq (fun hc => ?_) (fun hc => ?_)
    · refine k_nil ?_; refine run_yes ?_; refine rs1 (by kernel_rfl) ?_; refine aq rfl ?_; refine run_ret rfl ?_; refine run_res (h) rfl Tryz.func157 rfl weakSub ?_; refine hK _ _ ?_
      exact ⟨rfl, by rw [he, cmpL_end (by omega) (by omega) (by omega), if_neg (by omega), if_pos (by omega)]⟩
    · refine k_nil ?_; refine run_no ?_; refine run_skip ?_; refine rs1 (by kernel_rfl) ?_; refine aq rfl ?_; refine run_ret rfl ?_; refine run_res (h) rfl Tryz.func157 rfl weakSub ?_; refine hK _ _ ?_
      exact ⟨rfl, by rw [he, cmpL_end (by omega) (by omega) (by omega), if_neg (by omega), if_neg (by omega)]⟩
theorem f128_c (m : Md Tryz.prog B) (h : Hp) {p : Option Addr} {n c : Nat} {xs : List Int} (rd : RdS B h 1 (.slice p n c) n (ints xs)) (hn : n ≤ 1000000) {p2 : Option Addr} {n2 c2 : Nat} {ys : List Int} (rd2 : RdS B h 1 (.slice p2 n2 c2) n2 (ints ys)) : FnC m 128 #[.slice p n c, .slice p2 n2 c2] h fun v h' => h' = h ∧ IsB (fewer xs ys) v := by
  have hl := rd.ilen
  have hl2 := rd2.ilen
  refine fn_enter Tryz.func128 rfl rfl (l := (.slice p n c) :: (.slice p2 n2 c2) :: uu21) rfl ?_
  intro cf cs K hK
  refine rs1 (by kernel_rfl) ?_; refine aq rfl ?_; refine run_seq ?_; refine rr19 (by kernel_rfl) ?_; refine mq rfl ?_; refine k_len rfl zq ?_; refine mq rfl ?_; refine k_len rfl zq ?_; refine k_lssS rfl zq (fun hc => ?_) (fun hc => ?_)
  · refine mq rfl ?_; refine k_off rfl rfl ?_; refine k_off rfl rfl ?_; refine k_off rfl rfl ?_; refine k_off rfl rfl ?_; refine k_off rfl rfl ?_; refine k_off rfl rfl ?_; refine k_off rfl rfl ?_; refine k_off rfl rfl ?_; refine k_off rfl rfl ?_; refine k_off rfl rfl ?_; refine k_off rfl rfl ?_; refine k_pickT rfl zq ?_; refine aq rfl ?_; refine run_ret rfl ?_; refine run_res (h) rfl Tryz.func128 rfl weakSub ?_; refine hK _ _ ?_
    first
      | exact ⟨rfl, IsB.yes (.inl (by omega))⟩
      | exact ⟨rfl, IsB.yes (.inr ⟨by omega, hb.1 (by omega)⟩)⟩
      | exact ⟨rfl, IsB.no (fun e => by rcases e with e | ⟨e1, e2⟩; omega; have := hb.2 e2; omega)⟩
      | exact ⟨rfl, IsB.no (fun e => by rcases e with e | ⟨e1, e2⟩; omega; omega)⟩
  · refine mq rfl ?_; refine k_mv rfl rfl ?_; refine k_len rfl rfl ?_; refine k_mv rfl rfl ?_; refine k_len rfl rfl ?_; refine k_eqlS rfl rfl (fun hc => ?_) (fun hc => ?_)
    · refine k_mv rfl rfl ?_; refine k_mv rfl rfl ?_; refine k_mv rfl rfl ?_; refine k_calP (Post := fun v => v = _) rfl rfl (by kernel_rfl) (fun H' hH => f157_c m H' (rd.keeps (sq hH)) hn (rd2.keeps (sq hH))) ?_; rintro v rfl; refine k_put ?_; refine k_lssS rfl rfl (fun hc => ?_) (fun hc => ?_)
      · have hb := cmpL_before xs ys
        refine k_pickT rfl rfl ?_; refine k_pickF rfl zq ?_; refine aq rfl ?_; refine run_ret rfl ?_; refine run_res (h) rfl Tryz.func128 rfl weakSub ?_; refine hK _ _ ?_
        first
          | exact ⟨rfl, IsB.yes (.inl (by omega))⟩
          | exact ⟨rfl, IsB.yes (.inr ⟨by omega, hb.1 (by omega)⟩)⟩
          | exact ⟨rfl, IsB.no (fun e => by rcases e with e | ⟨e1, e2⟩; omega; have := hb.2 e2; omega)⟩
          | exact ⟨rfl, IsB.no (fun e => by rcases e with e | ⟨e1, e2⟩; omega; omega)⟩
      · have hb := cmpL_before xs ys
        refine k_pickT rfl rfl ?_; refine k_pickF rfl zq ?_; refine aq rfl ?_; refine run_ret rfl ?_; refine run_res (h) rfl Tryz.func128 rfl weakSub ?_; refine hK _ _ ?_
        first
          | exact ⟨rfl, IsB.yes (.inl (by omega))⟩
          | exact ⟨rfl, IsB.yes (.inr ⟨by omega, hb.1 (by omega)⟩)⟩
          | exact ⟨rfl, IsB.no (fun e => by rcases e with e | ⟨e1, e2⟩; omega; have := hb.2 e2; omega)⟩
          | exact ⟨rfl, IsB.no (fun e => by rcases e with e | ⟨e1, e2⟩; omega; omega)⟩
    · refine k_mv rfl rfl ?_; refine k_off rfl rfl ?_; refine k_off rfl rfl ?_; refine k_off rfl rfl ?_; refine k_off rfl rfl ?_; refine k_pickF rfl rfl ?_; refine k_pickF rfl zq ?_; refine aq rfl ?_; refine run_ret rfl ?_; refine run_res (h) rfl Tryz.func128 rfl weakSub ?_; refine hK _ _ ?_
      first
        | exact ⟨rfl, IsB.yes (.inl (by omega))⟩
        | exact ⟨rfl, IsB.yes (.inr ⟨by omega, hb.1 (by omega)⟩)⟩
        | exact ⟨rfl, IsB.no (fun e => by rcases e with e | ⟨e1, e2⟩; omega; have := hb.2 e2; omega)⟩
        | exact ⟨rfl, IsB.no (fun e => by rcases e with e | ⟨e1, e2⟩; omega; omega)⟩
theorem f44_c (m : Md Tryz.prog B) (h : Hp) {b : Bk} {pm : Option Addr} {nm cm : Nat} {pr : Option Addr} {nr cr : Nat} (rdm : RdS B h 2 (.slice pm nm cm) nm (encs b.marks)) (hm : nm ≤ 1000) (rdr : RdS B h 4 (.slice pr nr cr) nr (encs b.rules)) (hr : nr ≤ 1000) {p : Option Addr} {n c : Nat} {xs : List Int} (rd : RdS B h 1 (.slice p n c) n (ints xs)) (hn : n ≤ 1000) : FnC m 44 #[bkV b pm nm cm pr nr cr, .slice p n c] h fun v h' => ∃ new, h' = h ++ new ∧ ∃ w, v = .tuple [w, .int .i64 (lineO b xs)].toArray ∧ RdI B new w (pulledL b xs) := by
  refine fn_enter Tryz.func44 rfl rfl (l := (bkV b pm nm cm pr nr cr) :: (.slice p n c) :: uu58) rfl ?_
  intro cf cs K hK
  refine rs3 (by kernel_rfl) ?_; refine k_box rfl zq (fun q2 => k_hp (k_put ?_)); refine k_as rfl zq ?_; refine aq rfl ?_; refine rs12 (by kernel_rfl) ?_; refine k_ldA rfl zq ?_; refine mq rfl ?_; refine k_calC rfl zq (by kernel_rfl) (Post := fun v nw => Opened2 b (bkV b pm nm cm pr nr cr) (openS b (lineS b.marks.length xs)) xs nw v) (fun H' hH => f124_c m H' (rdm.keeps (sq hH)) hm (rdr.keeps (sq hH)) hr (rd.keeps (sq hH)) hn) ?_; rintro v nw ⟨x1, x2, x3, y1, y2, y3, y4, y5, y6, z1, z2, z3, rfl, hz⟩; refine k_hpA (k_put ?_); refine mq rfl ?_; refine k_ext0 rfl zq ?_; refine k_ext1 rfl zq ?_; refine k_ext2 rfl zq ?_; refine k_new rfl zq (fun q6 => k_hp (k_put ?_)); refine k_new rfl zq (fun q7 => k_hp (k_put ?_)); refine k_stA rfl zq rfl ?_; refine k_stA rfl zq (by first | rfl | exact hts_length _) ?_; refine aq rfl ?_; refine run_seq ?_; refine rs2 (by kernel_rfl) ?_; refine mq rfl ?_; refine k_neqS rfl zq (fun hc => ?_) (fun hc => ?_)
  · refine k_nil ?_; refine run_yes ?_; refine rs3 (by kernel_rfl) ?_; refine mq rfl ?_; refine k_as rfl zq ?_; refine aq rfl ?_; refine run_ret rfl ?_; refine run_res (h) rfl Tryz.func44 rfl weakSub ?_; refine hK _ _ ?_
    exact ⟨[], by simp, _, rfl, by rw [pulledL, if_pos (show lineO b xs ≠ 0 by assumption)]; exact RdI.nil⟩
  · refine k_nil ?_; refine run_no ?_; refine run_skip ?_; refine rs1 (by kernel_rfl) ?_; have hz0 : openS b (lineS b.marks.length xs) = 0 := by first | assumption | omega
    obtain ⟨hz1, rfl, hzc, rdB⟩ := hz hz0
    obtain ⟨rfl, rfl, rfl, rfl, rfl, rfl, rfl, rfl, rfl⟩ := bookV_inj hz1
    obtain ⟨hbz, hoz, hbne⟩ := openS_zero hz0
    have hv := valid_of hbz
    have h7 := hv.many
    have hml := rdm.elen (by decide)
    have hbl := boats_le hv
    have hpos : 0 < (boatsOf b).length := List.length_pos_iff.2 hbne
    obtain ⟨zb, zo, rfl⟩ := RdS.ptr (B := B) rdB hpos
    have hlx := lineS_zero hoz
    have hls := lineS_small hoz
    have hxl := rd.ilen
    refine aq rfl ?_; refine run_seq ?_; refine rs4 (by kernel_rfl) ?_; first | refine k_fa0 rfl zq ?_ | refine k_fa rfl zq ?_
    refine k_ldh rfl zq ?_; refine k_len rfl zq ?_; refine mq rfl ?_; refine k_nil ?_; refine run_block ?_; refine m.weak (h' := h ++ nw ++ [⟨true, q6, .cells [.int .i64 b.bend, .int .i64 b.twist, .int .i64 b.turns, .slice pm nm cm, .slice pr nr cr, .slice (some ⟨zb, zo, none⟩) (boatsOf b).length z3].toArray 123 (0, 0)⟩, ⟨true, q7, .cells (hts xs).toArray 112 (0, 0)⟩]) weakSub ?_
    refine run_loop (fun nn l h' => ∃ (k : Nat) (M : Hp) (gp : Option Addr) (gc : Nat) (g : List Int), nn = (boatsOf b).length - k ∧ (k ≤ (boatsOf b).length) ∧ (0 < k → g = bestBy ltFewer (((boatsOf b).map fun l => unlike l xs).take k)) ∧ (RdS B M 1 (.slice gp g.length gc) g.length (ints g)) ∧ (g.length ≤ 7) ∧ (∃ U : Nat → Value, l = [bkV b pm nm cm pr nr cr, .slice p n c, U 2, U 3, U 4, U 5, .pointer (some ⟨q6, 0, none⟩), .pointer (some ⟨q7, 0, none⟩), U 8, .slice gp g.length gc, U 10, U 11, U 12, U 13, U 14, U 15, U 16, U 17, U 18, U 19, U 20, U 21, U 22, U 23, U 24, .slice (some ⟨zb, zo, none⟩) (boatsOf b).length z3, .int .i64 ((boatsOf b).length : Int), .int .i64 (k : Int), U 28, U 29, U 30, U 31, U 32, U 33, U 34, U 35, U 36, U 37, U 38, U 39, U 40, U 41, U 42, U 43, U 44, U 45, U 46, U 47, U 48, U 49, U 50, U 51, U 52, U 53, U 54, U 55, U 56, U 57, U 58, U 59]) ∧ h ++ nw ++ [⟨true, q6, .cells [.int .i64 b.bend, .int .i64 b.twist, .int .i64 b.turns, .slice pm nm cm, .slice pr nr cr, .slice (some ⟨zb, zo, none⟩) (boatsOf b).length z3].toArray 123 (0, 0)⟩, ⟨true, q7, .cells (hts xs).toArray 112 (0, 0)⟩] ++ M = h') _ ⟨0, [], none, 0, [], rfl, by omega, fun e => absurd e (by decide), ⟨none, 0, rfl, rfl, .inl ⟨rfl, rfl⟩⟩, by simp, exU rfl, (by simp)⟩ ?_; rintro nn l h' ⟨k, M, gp, gc, g, rfl, hk, hg, hgr, hg7, ⟨U, rfl⟩, rfl⟩ hnext1; refine rs1 (by kernel_rfl) ?_; refine k_lssS rfl zq (fun hc => ?_) (fun hc => ?_)
    · refine k_nil ?_; refine run_seq ?_; refine run_yes ?_; refine run_skip ?_; refine run_seq ?_; refine run_block ?_; refine rs6 (by kernel_rfl) ?_; refine mq rfl ?_; refine k_ixs rfl zq (by first | rfl | assumption) (by omega) (by omega) ?_; refine k_ldN (vs := hts ((boatsOf b).getD k default)) rfl zq (hts_length _) (rdB.eat k (by omega) (by omega)) ?_; have hbm : (boatsOf b).getD k default ∈ boatsOf b := mem_getDR.2 ⟨k, by omega, rfl⟩
      have hbln := boats_len hbm
      have hbs := boats_small hv hbm
      generalize hrow : (boatsOf b).getD k default = ln at hbm hbln hbs ⊢
      refine k_new rfl zq (fun q11 => k_hp (k_put ?_)); refine k_as rfl zq ?_; refine k_stA rfl zq (by first | rfl | exact hts_length _) ?_; refine k_nil ?_; refine rs1 (by kernel_rfl) ?_; refine aq rfl ?_; refine run_seq ?_; refine rs4 (by kernel_rfl) ?_; first | refine k_fa0 rfl zq ?_ | refine k_fa rfl zq ?_
      refine k_ldA rfl zq ?_; refine k_calP (Post := fun v => v = _) rfl zq (by kernel_rfl) (fun H' hH => f118_c m H' _ _ _ _ _ _ _ _ _) ?_; rintro v rfl; refine k_put ?_; refine mq rfl ?_; refine k_nil ?_; refine run_block ?_; refine run_loop (fun nn l h' => ∃ (j : Nat) (w12 : Value) (W : Hp), nn = nm - j ∧ (j ≤ nm) ∧ (OwnS 3 1 w12 (unlikeF ln xs j).length (ints (unlikeF ln xs j)) W) ∧ (∃ U : Nat → Value, l = [bkV b pm nm cm pr nr cr, .slice p n c, U 2, U 3, U 4, U 5, .pointer (some ⟨q6, 0, none⟩), .pointer (some ⟨q7, 0, none⟩), U 8, .slice gp g.length gc, .int .i64 (k : Int), .pointer (some ⟨q11, 0, none⟩), w12, U 13, U 14, U 15, U 16, U 17, U 18, U 19, U 20, U 21, U 22, U 23, U 24, .slice (some ⟨zb, zo, none⟩) (boatsOf b).length z3, .int .i64 ((boatsOf b).length : Int), .int .i64 (k : Int), U 28, U 29, U 30, U 31, U 32, U 33, .int .i64 (nm : Int), .int .i64 (j : Int), U 36, U 37, U 38, U 39, U 40, U 41, U 42, U 43, U 44, U 45, U 46, U 47, U 48, U 49, U 50, U 51, U 52, U 53, U 54, U 55, U 56, U 57, U 58, U 59]) ∧ h ++ nw ++ [⟨true, q6, .cells [.int .i64 b.bend, .int .i64 b.twist, .int .i64 b.turns, .slice pm nm cm, .slice pr nr cr, .slice (some ⟨zb, zo, none⟩) (boatsOf b).length z3].toArray 123 (0, 0)⟩, ⟨true, q7, .cells (hts xs).toArray 112 (0, 0)⟩] ++ M ++ [⟨true, q11, .cells (hts ln).toArray 112 (0, 0)⟩] ++ W = h') _ ⟨0, _, [], rfl, by omega, OwnS.nil, exU rfl, (by simp)⟩ ?_; rintro nn l h' ⟨j, w12, W, rfl, hj, ho, ⟨U, rfl⟩, rfl⟩ hnext2; have hul := unlikeF_length ln xs j
      refine rs1 (by kernel_rfl) ?_; refine k_lssS rfl zq (fun hc => ?_) (fun hc => ?_)
      · refine k_nil ?_; refine run_seq ?_; refine run_yes ?_; refine run_skip ?_; refine run_seq ?_; refine run_block ?_; refine rs2 (by kernel_rfl) ?_; refine mq rfl ?_; refine aq rfl ?_; refine run_seq ?_; refine run_draw [(0, .pure), (1, .pure), (3, .pure), (4, .pure), (2, .read), (5, .read), (6, .pure)] (by kernel_rfl) (by kernel_rfl) (List.Sublist.refl _) ?_; refine mq rfl ?_; refine k_ixa rfl zq (by omega) (by omega) ?_; refine mq rfl ?_; refine k_ixa rfl zq (by omega) (by omega) ?_; refine k_ld rfl zq (rd_hts (q := q11) j (by omega) (by omega)) ?_; refine k_ld rfl zq (rd_hts (q := q7) j (by omega) (by omega)) ?_; refine k_neqS rfl zq (fun hc => ?_) (fun hc => ?_)
        · refine k_nil ?_; refine run_yes ?_; refine rr5 (by kernel_rfl) ?_; refine mq rfl ?_; refine mq rfl ?_; refine k_bs kdq rfl zq (by decide) (by decide) rfl (fun q47 => k_hp (k_put ?_)); refine k_app1 (F := h ++ nw ++ [⟨true, q6, .cells [.int .i64 b.bend, .int .i64 b.twist, .int .i64 b.turns, .slice pm nm cm, .slice pr nr cr, .slice (some ⟨zb, zo, none⟩) (boatsOf b).length z3].toArray 123 (0, 0)⟩, ⟨true, q7, .cells (hts xs).toArray 112 (0, 0)⟩] ++ M ++ [⟨true, q11, .cells (hts ln).toArray 112 (0, 0)⟩]) rfl zq rfl ho kdq (by omega) (by omega) (fun w9 n9 o9 => k_put ?_); refine aq rfl ?_; refine run_inBlock ?_; refine rr2 (by kernel_rfl) ?_; refine k_add rfl zq (by unfold In64; omega) ?_; refine mq rfl ?_; refine k_nil ?_; have hmu := unlikeF_yes ln xs j hc
          exact m.weak weakSub (hnext2 _ _ _ (by omega) ⟨j + 1, _, n9, rfl, by omega, by rw [show (unlikeF ln xs (j + 1)).length = (unlikeF ln xs j).length + 1 by rw [hmu]; simp, hmu, ints_append]; exact o9, exU rfl, rfl⟩)
        · refine k_nil ?_; refine run_no ?_; refine run_skip ?_; refine run_inBlock ?_; refine rr2 (by kernel_rfl) ?_; refine k_add rfl zq (by unfold In64; omega) ?_; refine mq rfl ?_; refine k_nil ?_; have hmu := unlikeF_no ln xs j hc
          exact m.weak weakSub (hnext2 _ _ _ (by omega) ⟨j + 1, _, W, rfl, by omega, by rw [hmu]; exact ho, exU rfl, rfl⟩)
      · refine k_nil ?_; refine run_seq ?_; refine run_no ?_; refine run_exit rfl ?_; refine rs7 (by kernel_rfl) ?_; obtain rfl : j = nm := by omega
        have hue : unlikeF ln xs j = unlike ln xs := by rw [unlike, show ln.length = j by omega]
        rw [hue] at ho hul
        obtain ⟨up, uc, rfl, _⟩ := ho.len
        have ur : RdS B W 1 (.slice up _ uc) _ _ := ho.rd'
        refine mq rfl ?_; refine k_eqlS rfl zq (fun hc => ?_) (fun hc => ?_)
        · refine mq rfl ?_; refine k_off rfl rfl ?_; refine k_off rfl rfl ?_; refine k_off rfl rfl ?_; refine k_pickT rfl zq ?_; refine k_nil ?_; refine run_yes ?_; refine rr2 (by kernel_rfl) ?_; refine mq rfl ?_; refine aq rfl ?_; refine run_inBlock ?_; refine rr2 (by kernel_rfl) ?_; refine k_add rfl zq (by unfold In64; omega) ?_; refine mq rfl ?_; refine k_nil ?_; have hum := map_getD (boatsOf b) (fun l => unlike l xs) k (by omega)
          rw [show (boatsOf b).getD k [] = ln from hrow] at hum
          exact m.weak weakSub (hnext1 _ _ _ (by omega) ⟨k + 1, W, _, _, _, rfl, by omega, fun _ => by obtain rfl : k = 0 := (by omega); rw [bestBy_one, hum], ur, by have := unlike_length ln xs; omega, exU rfl, rfl⟩)
        · refine mq rfl ?_; refine k_mv rfl rfl ?_; refine k_mv rfl rfl ?_; refine k_calP (Post := fun v => IsB _ v) rfl rfl (by kernel_rfl) (fun H' hH => f128_c m H' (ur.keeps (sq hH)) (by omega) (hgr.keeps (sq hH))) ?_; rintro v (⟨hc, rfl⟩ | ⟨hc, rfl⟩)
          · refine k_put ?_; refine k_pickF rfl zq ?_; refine k_nil ?_; refine run_yes ?_; refine rr2 (by kernel_rfl) ?_; refine mq rfl ?_; refine aq rfl ?_; refine run_inBlock ?_; refine rr2 (by kernel_rfl) ?_; refine k_add rfl zq (by unfold In64; omega) ?_; refine mq rfl ?_; refine k_nil ?_; have hum := map_getD (boatsOf b) (fun l => unlike l xs) k (by omega)
            rw [show (boatsOf b).getD k [] = ln from hrow] at hum
            exact m.weak weakSub (hnext1 _ _ _ (by omega) ⟨k + 1, W, _, _, _, rfl, by omega, fun _ => by rw [bestBy_succ _ _ _ (by omega) (by rw [List.length_map]; omega), if_pos (by rw [← hg (by omega), hum]; exact decide_eq_true hc), hum], ur, by have := unlike_length ln xs; omega, exU rfl, rfl⟩)
          · refine k_put ?_; refine k_pickF rfl zq ?_; refine k_nil ?_; refine run_no ?_; refine run_skip ?_; refine run_inBlock ?_; refine rr2 (by kernel_rfl) ?_; refine k_add rfl zq (by unfold In64; omega) ?_; refine mq rfl ?_; refine k_nil ?_; have hum := map_getD (boatsOf b) (fun l => unlike l xs) k (by omega)
            rw [show (boatsOf b).getD k [] = ln from hrow] at hum
            exact m.weak weakSub (hnext1 _ _ _ (by omega) ⟨k + 1, M, _, _, _, rfl, by omega, fun _ => by rw [bestBy_succ _ _ _ (by omega) (by rw [List.length_map]; omega), if_neg (by rw [← hg (by omega), hum]; unfold ltFewer; rw [decide_eq_true_iff]; exact hc), hg (by omega)], hgr, hg7, exU rfl, rfl⟩)
    · refine k_nil ?_; refine run_seq ?_; refine run_no ?_; refine run_exit rfl ?_; refine rs3 (by kernel_rfl) ?_; refine mq rfl ?_; refine k_as rfl zq ?_; refine aq rfl ?_; refine run_ret rfl ?_; refine run_res (h ++ M) rfl Tryz.func44 rfl weakSub ?_; refine hK _ _ ?_
      obtain rfl : k = (boatsOf b).length := by omega
      have hg := hg hpos
      rw [List.take_of_length_le (by rw [List.length_map]; omega)] at hg
      have hz0 : lineO b xs = 0 := hz0
      have e1 : pulledL b xs = g := by rw [pulledL, if_neg (fun e => e hz0), hg]
      exact ⟨M, rfl, _, by rw [hz0], by rw [e1]; exact ⟨_, _, rfl, hgr⟩⟩
theorem f46_c (m : Md Tryz.prog B) (h : Hp) {b : Bk} {pm : Option Addr} {nm cm : Nat} {pr : Option Addr} {nr cr : Nat} (rdm : RdS B h 2 (.slice pm nm cm) nm (encs b.marks)) (hm : nm ≤ 1000) (rdr : RdS B h 4 (.slice pr nr cr) nr (encs b.rules)) (hr : nr ≤ 1000) {p : Option Addr} {n c : Nat} {xs : List Int} (rd : RdS B h 1 (.slice p n c) n (ints xs)) (hn : n ≤ 1000) : FnC m 46 #[bkV b pm nm cm pr nr cr, .slice p n c] h fun v h' => ∃ new, h' = h ++ new ∧ ∃ w, v = .tuple [w, .int .i64 (lineO b xs)].toArray ∧ RdI B new w (mustL b xs) := by
  refine fn_enter Tryz.func46 rfl rfl (l := (bkV b pm nm cm pr nr cr) :: (.slice p n c) :: uu48) rfl ?_
  intro cf cs K hK
  refine rs3 (by kernel_rfl) ?_; refine k_box rfl zq (fun q2 => k_hp (k_put ?_)); refine k_as rfl zq ?_; refine aq rfl ?_; refine run_scope ?_; refine rs12 (by kernel_rfl) ?_; refine k_ldA rfl zq ?_; refine mq rfl ?_; refine k_calC rfl zq (by kernel_rfl) (Post := fun v nw => Opened2 b (bkV b pm nm cm pr nr cr) (openS b (lineS b.marks.length xs)) xs nw v) (fun H' hH => f124_c m H' (rdm.keeps (sq hH)) hm (rdr.keeps (sq hH)) hr (rd.keeps (sq hH)) hn) ?_; rintro v nw ⟨x1, x2, x3, y1, y2, y3, y4, y5, y6, z1, z2, z3, rfl, hz⟩; refine k_hpA (k_put ?_); refine mq rfl ?_; refine k_ext0 rfl zq ?_; refine k_ext1 rfl zq ?_; refine k_ext2 rfl zq ?_; refine k_new rfl zq (fun q6 => k_hp (k_put ?_)); refine k_new rfl zq (fun q7 => k_hp (k_put ?_)); refine k_stA rfl zq rfl ?_; refine k_stA rfl zq (by first | rfl | exact hts_length _) ?_; refine aq rfl ?_; refine run_seq ?_; refine rs2 (by kernel_rfl) ?_; refine mq rfl ?_; refine k_neqS rfl zq (fun hc => ?_) (fun hc => ?_)
  · refine k_nil ?_; refine run_yes ?_; refine rs3 (by kernel_rfl) ?_; refine mq rfl ?_; refine k_as rfl zq ?_; refine aq rfl ?_; refine run_ret rfl ?_; refine run_res (h) rfl Tryz.func46 rfl weakSub ?_; refine hK _ _ ?_
    exact ⟨[], by simp, _, rfl, by rw [mustL, if_pos (show lineO b xs ≠ 0 by assumption)]; exact RdI.nil⟩
  · refine k_nil ?_; refine run_no ?_; refine run_skip ?_; refine rs1 (by kernel_rfl) ?_; have hz0 : openS b (lineS b.marks.length xs) = 0 := by first | assumption | omega
    obtain ⟨hz1, rfl, hzc, rdB⟩ := hz hz0
    obtain ⟨rfl, rfl, rfl, rfl, rfl, rfl, rfl, rfl, rfl⟩ := bookV_inj hz1
    obtain ⟨hbz, hoz, hbne⟩ := openS_zero hz0
    have hv := valid_of hbz
    have h7 := hv.many
    have hml := rdm.elen (by decide)
    have hbl := boats_le hv
    have hpos : 0 < (boatsOf b).length := List.length_pos_iff.2 hbne
    obtain ⟨zb, zo, rfl⟩ := RdS.ptr (B := B) rdB hpos
    have hlx := lineS_zero hoz
    have hls := lineS_small hoz
    have hxl := rd.ilen
    refine aq rfl ?_; refine run_seq ?_; refine run_label ?_; refine run_seq ?_; refine rs4 (by kernel_rfl) ?_; first | refine k_fa0 rfl zq ?_ | refine k_fa rfl zq ?_
    refine k_ldA rfl zq ?_; refine k_calP (Post := fun v => v = _) rfl zq (by kernel_rfl) (fun H' hH => f118_c m H' _ _ _ _ _ _ _ _ _) ?_; rintro v rfl; refine k_put ?_; refine mq rfl ?_; refine k_nil ?_; refine run_block ?_; refine m.weak (h' := h ++ nw ++ [⟨true, q6, .cells [.int .i64 b.bend, .int .i64 b.twist, .int .i64 b.turns, .slice pm nm cm, .slice pr nr cr, .slice (some ⟨zb, zo, none⟩) (boatsOf b).length z3].toArray 123 (0, 0)⟩, ⟨true, q7, .cells (hts xs).toArray 112 (0, 0)⟩]) weakSub ?_
    refine run_loop (fun nn l h' => ∃ (j : Nat) (w9 : Value) (W : Hp), nn = nm - j ∧ (j ≤ nm) ∧ (OwnS 3 1 w9 (mustF (boatsOf b) xs j).length (ints (mustF (boatsOf b) xs j)) W) ∧ (∃ U : Nat → Value, l = [bkV b pm nm cm pr nr cr, .slice p n c, U 2, U 3, U 4, U 5, .pointer (some ⟨q6, 0, none⟩), .pointer (some ⟨q7, 0, none⟩), U 8, w9, U 10, U 11, U 12, U 13, U 14, U 15, U 16, U 17, U 18, U 19, U 20, U 21, U 22, U 23, U 24, .int .i64 (nm : Int), .int .i64 (j : Int), U 27, U 28, U 29, U 30, U 31, U 32, U 33, U 34, U 35, U 36, U 37, U 38, U 39, U 40, U 41, U 42, U 43, U 44, U 45, U 46, U 47, U 48, U 49]) ∧ h ++ nw ++ [⟨true, q6, .cells [.int .i64 b.bend, .int .i64 b.twist, .int .i64 b.turns, .slice pm nm cm, .slice pr nr cr, .slice (some ⟨zb, zo, none⟩) (boatsOf b).length z3].toArray 123 (0, 0)⟩, ⟨true, q7, .cells (hts xs).toArray 112 (0, 0)⟩] ++ W = h') _ ⟨0, _, [], rfl, by omega, OwnS.nil, exU rfl, (by simp)⟩ ?_; rintro nn l h' ⟨j, w9, W, rfl, hj, ho, ⟨U, rfl⟩, rfl⟩ hnext1; have hml7 := mustF_length (boatsOf b) xs j
    refine rs1 (by kernel_rfl) ?_; refine k_lssS rfl zq (fun hc => ?_) (fun hc => ?_)
    · refine k_nil ?_; refine run_seq ?_; refine run_yes ?_; refine run_skip ?_; refine run_seq ?_; refine run_block ?_; refine rs2 (by kernel_rfl) ?_; refine mq rfl ?_; refine aq rfl ?_; refine run_seq ?_; refine rs4 (by kernel_rfl) ?_; first | refine k_fa0 rfl zq ?_ | refine k_fa rfl zq ?_
      refine k_ldh rfl zq ?_; refine k_len rfl zq ?_; refine mq rfl ?_; refine k_nil ?_; refine run_block ?_; refine run_loop (fun nn l h' => ∃ (k : Nat), nn = (boatsOf b).length - k ∧ (k ≤ (boatsOf b).length) ∧ (∀ l ∈ (boatsOf b).take k, l.getD j 0 ≠ xs.getD j 0) ∧ (∃ U : Nat → Value, l = [bkV b pm nm cm pr nr cr, .slice p n c, U 2, U 3, U 4, U 5, .pointer (some ⟨q6, 0, none⟩), .pointer (some ⟨q7, 0, none⟩), U 8, w9, .int .i64 (j : Int), U 11, U 12, U 13, U 14, U 15, U 16, U 17, U 18, U 19, U 20, U 21, U 22, U 23, U 24, .int .i64 (nm : Int), .int .i64 (j : Int), U 27, U 28, U 29, .slice (some ⟨zb, zo, none⟩) (boatsOf b).length z3, .int .i64 ((boatsOf b).length : Int), .int .i64 (k : Int), U 33, U 34, U 35, U 36, U 37, U 38, U 39, U 40, U 41, U 42, U 43, U 44, U 45, U 46, U 47, U 48, U 49]) ∧ h ++ nw ++ [⟨true, q6, .cells [.int .i64 b.bend, .int .i64 b.twist, .int .i64 b.turns, .slice pm nm cm, .slice pr nr cr, .slice (some ⟨zb, zo, none⟩) (boatsOf b).length z3].toArray 123 (0, 0)⟩, ⟨true, q7, .cells (hts xs).toArray 112 (0, 0)⟩] ++ W = h') _ ⟨0, rfl, by omega, by simp, exU rfl, rfl⟩ ?_; rintro nn l h' ⟨k, rfl, hk, hno, ⟨U, rfl⟩, rfl⟩ hnext2; refine rs1 (by kernel_rfl) ?_; refine k_lssS rfl zq (fun hc => ?_) (fun hc => ?_)
      · refine k_nil ?_; refine run_seq ?_; refine run_yes ?_; refine run_skip ?_; refine run_seq ?_; refine run_block ?_; refine rs4 (by kernel_rfl) ?_; refine k_ixs rfl zq (by first | rfl | assumption) (by omega) (by omega) ?_; refine k_ldN (vs := hts ((boatsOf b).getD k default)) rfl zq (hts_length _) (rdB.eat k (by omega) (by omega)) ?_; have hbm : (boatsOf b).getD k default ∈ boatsOf b := mem_getDR.2 ⟨k, by omega, rfl⟩
        have hbln := boats_len hbm
        have hbs := boats_small hv hbm
        generalize hrow : (boatsOf b).getD k default = ln at hbm hbln hbs ⊢
        refine k_new rfl zq (fun q12 => k_hp (k_put ?_)); refine k_stA rfl zq (by first | rfl | exact hts_length _) ?_; refine k_nil ?_; refine run_seq ?_; refine run_draw [(0, .pure), (1, .pure), (3, .pure), (4, .pure), (2, .read), (5, .read), (6, .pure)] (by kernel_rfl) (by kernel_rfl) (List.Sublist.refl _) ?_; refine mq rfl ?_; refine k_ixa rfl zq (by omega) (by omega) ?_; refine mq rfl ?_; refine k_ixa rfl zq (by omega) (by omega) ?_; refine k_ld rfl zq (rd_hts (q := q12) j (by omega) (by omega)) ?_; refine k_ld rfl zq (rd_hts (q := q7) j (by omega) (by omega)) ?_; refine k_eqlS rfl zq (fun hc => ?_) (fun hc => ?_)
        · refine k_nil ?_; refine run_yes ?_; refine run_exit rfl ?_; refine rr2 (by kernel_rfl) ?_; refine k_add rfl zq (by unfold In64; omega) ?_; refine mq rfl ?_; refine k_nil ?_; have hmu := mustF_no (boatsOf b) xs j (fun e => e _ hbm hc)
          exact m.weak weakSub (hnext1 _ _ _ (by omega) ⟨j + 1, _, W, rfl, by omega, by rw [hmu]; exact ho, exU rfl, rfl⟩)
        · refine k_nil ?_; refine run_no ?_; refine run_skip ?_; refine run_inBlock ?_; refine rr2 (by kernel_rfl) ?_; refine k_add rfl zq (by unfold In64; omega) ?_; refine mq rfl ?_; refine k_nil ?_; exact m.weak weakSub (hnext2 _ _ _ (by omega) ⟨k + 1, rfl, by omega, fun l hl => by
               rw [take_snocL _ _ (by omega), List.mem_append, List.mem_singleton] at hl
               rcases hl with hl | rfl
               · exact hno l hl
               · exact (show (boatsOf b).getD k [] = ln from hrow) ▸ hc, exU rfl, rfl⟩)
      · refine k_nil ?_; refine run_seq ?_; refine run_no ?_; refine run_exit rfl ?_; refine rr5 (by kernel_rfl) ?_; refine mq rfl ?_; refine mq rfl ?_; refine k_bs kdq rfl zq (by decide) (by decide) rfl (fun q46 => k_hp (k_put ?_)); refine k_app1 (F := h ++ nw ++ [⟨true, q6, .cells [.int .i64 b.bend, .int .i64 b.twist, .int .i64 b.turns, .slice pm nm cm, .slice pr nr cr, .slice (some ⟨zb, zo, none⟩) (boatsOf b).length z3].toArray 123 (0, 0)⟩, ⟨true, q7, .cells (hts xs).toArray 112 (0, 0)⟩]) rfl zq rfl ho kdq (by omega) (by omega) (fun w9 n9 o9 => k_put ?_); refine aq rfl ?_; refine run_inBlock ?_; refine rr2 (by kernel_rfl) ?_; refine k_add rfl zq (by unfold In64; omega) ?_; refine mq rfl ?_; refine k_nil ?_; have hmu := mustF_yes (boatsOf b) xs j (fun l hl => hno l (by rw [List.take_of_length_le (by omega)]; exact hl))
        exact m.weak weakSub (hnext1 _ _ _ (by omega) ⟨j + 1, _, n9, rfl, by omega, by rw [show (mustF (boatsOf b) xs (j + 1)).length = (mustF (boatsOf b) xs j).length + 1 by rw [hmu]; simp, hmu, ints_append]; exact o9, exU rfl, rfl⟩)
    · refine k_nil ?_; refine run_seq ?_; refine run_no ?_; refine run_exit rfl ?_; refine rs3 (by kernel_rfl) ?_; refine mq rfl ?_; refine k_as rfl zq ?_; refine aq rfl ?_; refine run_ret rfl ?_; refine run_res (h ++ W) rfl Tryz.func46 rfl weakSub ?_; refine hK _ _ ?_
      obtain rfl : j = xs.length := by omega
      have hz0 : lineO b xs = 0 := hz0
      have e1 : mustL b xs = mustF (boatsOf b) xs xs.length := by rw [mustL, if_neg (fun e => e hz0)]
      exact ⟨W, rfl, _, by rw [hz0], by rw [e1]; exact OwnS.rdI ho⟩
theorem own_noneE {B : Array Obj} {α : Type} {k : Nat} [Enc α k] {t : Nat} {h : Hp} {n c : Nat} {xs : List α} (rd : RdS B h k (.slice none n c) n (encs xs)) : OwnS t k (.slice none 0 0) n (encs xs) [] := by
  obtain ⟨p, c', e, hl, r⟩ := rd
  injection e with e1 e2 e3
  subst e1
  rcases r with ⟨_, rfl⟩ | ⟨b, o, e, _⟩
  · have h0 : encs xs = [] := List.eq_nil_of_length_eq_zero (by omega)
    rw [h0]; exact OwnS.nil
  · cases e
theorem own_rdA {B : Array Obj} {t k : Nat} {v : Value} {n : Nat} {cs : List Value} {new : Hp} (o : OwnS t k v n cs new) : ∃ p c, v = .slice p n c ∧ n ≤ c ∧ RdS B new k (.slice p n c) n cs := by
  obtain ⟨p, c, rfl, _⟩ := o.len
  exact ⟨p, c, rfl, o.cap, o.rd (List.Sublist.refl _)⟩
def BkR (B : Array Obj) (b : Bk) (nw : Hp) (w : Value) : Prop := ∃ pm nm cm pr nr cr, w = bkV b pm nm cm pr nr cr ∧ nm = b.marks.length ∧ nr = b.rules.length ∧ nm ≤ cm ∧ nr ≤ cr ∧ RdS B nw 2 (.slice pm nm cm) nm (encs b.marks) ∧ RdS B nw 4 (.slice pr nr cr) nr (encs b.rules)
def noBk : Bk := ⟨0, 0, 0, [], []⟩
theorem BkR.zero {B : Array Obj} {nw : Hp} : BkR B noBk nw (.agg [.int .i64 0, .int .i64 0, .int .i64 0, .slice none 0 0, .slice none 0 0].toArray) :=
  ⟨none, 0, 0, none, 0, 0, rfl, rfl, rfl, Nat.le_refl _, Nat.le_refl _, ⟨none, 0, rfl, rfl, .inl ⟨rfl, rfl⟩⟩, ⟨none, 0, rfl, rfl, .inl ⟨rfl, rfl⟩⟩⟩
def agreeS (b : Bk) : Int := openS b 0
def agreeB (b : Bk) : Bk := if openS b 0 = 0 then b else noBk
def Agreed (B : Array Obj) (b : Bk) (nw : Hp) (v : Value) : Prop := ∃ w, v = .tuple [w, .int .i64 (agreeS b)].toArray ∧ BkR B (agreeB b) nw w
theorem f134_c (m : Md Tryz.prog B) (h : Hp) {p : Option Addr} {n c : Nat} {xs : List Sp} (rd : RdS B h 2 (.slice p n c) n (encs xs)) (hn : n ≤ 1000) : FnC m 134 #[.slice p n c] h fun v h' => ∃ nw, h' = h ++ nw ∧ OwnS 92 2 v n (encs xs) nw := by
  refine fn_enter Tryz.func134 rfl rfl (l := (.slice p n c) :: uu7) rfl ?_
  intro cf cs K hK
  refine rs1 (by kernel_rfl) ?_; refine aq rfl ?_; refine run_seq ?_; refine rs2 (by kernel_rfl) ?_; refine mq rfl ?_; refine k_eqNilS rfl zq (fun hc => ?_) (fun hc => ?_)
  · refine k_nil ?_; refine run_yes ?_; refine rs1 (by kernel_rfl) ?_; refine aq rfl ?_; refine run_ret rfl ?_; refine run_res (h) rfl Tryz.func134 rfl weakSub ?_; refine hK _ _ ?_
    exact ⟨[], by simp, by subst hc; exact own_noneE rd⟩
  · refine k_nil ?_; refine run_no ?_; refine run_skip ?_; refine rs4 (by kernel_rfl) ?_; refine k_bs0 kdq rfl zq (fun q5 => k_hp (k_put ?_)); refine mq rfl ?_; refine k_app (F := h) rfl zq weakSub OwnS.zero rd.up (encs_one _) kdq (by omega) (by omega) (fun w9 n9 o9 => k_put ?_); refine aq rfl ?_; refine run_ret rfl ?_; refine run_res (h ++ n9) rfl Tryz.func134 rfl weakSub ?_; refine hK _ _ ?_
    exact ⟨n9, rfl, by simpa using o9⟩
theorem f135_c (m : Md Tryz.prog B) (h : Hp) {p : Option Addr} {n c : Nat} {xs : List Ru} (rd : RdS B h 4 (.slice p n c) n (encs xs)) (hn : n ≤ 1000) : FnC m 135 #[.slice p n c] h fun v h' => ∃ nw, h' = h ++ nw ∧ OwnS 94 4 v n (encs xs) nw := by
  refine fn_enter Tryz.func135 rfl rfl (l := (.slice p n c) :: uu7) rfl ?_
  intro cf cs K hK
  refine rs1 (by kernel_rfl) ?_; refine aq rfl ?_; refine run_seq ?_; refine rs2 (by kernel_rfl) ?_; refine mq rfl ?_; refine k_eqNilS rfl zq (fun hc => ?_) (fun hc => ?_)
  · refine k_nil ?_; refine run_yes ?_; refine rs1 (by kernel_rfl) ?_; refine aq rfl ?_; refine run_ret rfl ?_; refine run_res (h) rfl Tryz.func135 rfl weakSub ?_; refine hK _ _ ?_
    exact ⟨[], by simp, by subst hc; exact own_noneE rd⟩
  · refine k_nil ?_; refine run_no ?_; refine run_skip ?_; refine rs4 (by kernel_rfl) ?_; refine k_bs0 kdq rfl zq (fun q5 => k_hp (k_put ?_)); refine mq rfl ?_; refine k_app (F := h) rfl zq weakSub OwnS.zero rd.up (encs_one _) kdq (by omega) (by omega) (fun w9 n9 o9 => k_put ?_); refine aq rfl ?_; refine run_ret rfl ?_; refine run_res (h ++ n9) rfl Tryz.func135 rfl weakSub ?_; refine hK _ _ ?_
    exact ⟨n9, rfl, by simpa using o9⟩
theorem f90_c (m : Md Tryz.prog B) (h : Hp) (x y : Int) : FnC m 90 #[.int .i64 x, .int .i64 y] h fun v h' => h' = h ∧ v = spV ⟨x, y⟩ := by
  refine fn_enter Tryz.func90 rfl rfl (l := (.int .i64 x) :: (.int .i64 y) :: uu6) rfl ?_
  intro cf cs K hK
  refine rs1 (by kernel_rfl) ?_; refine k_new rfl zq (fun q4 => k_hp (k_put ?_)); refine k_nil ?_; refine rs4 (by kernel_rfl) ?_; refine mq rfl ?_; refine mq rfl ?_; refine k_bld rfl zq ?_; refine k_stA rfl zq rfl ?_; refine k_nil ?_; refine run_ret rfl ?_; refine run_res (h) rfl Tryz.func90 rfl weakSub ?_; refine hK _ _ ?_
  exact ⟨rfl, rfl⟩
theorem f84_c (m : Md Tryz.prog B) (h : Hp) (x : Int) : FnC m 84 #[.int .i64 x] h fun v h' => h' = h ∧ v = spV ⟨x, x⟩ := by
  refine fn_enter Tryz.func84 rfl rfl (l := [.int .i64 x, undef, undef, undef, undef, undef]) rfl ?_
  intro cf cs K hK
  refine rs1 (by kernel_rfl) ?_; refine k_new rfl zq (fun q2 => k_hp (k_put ?_)); refine k_nil ?_; refine rs4 (by kernel_rfl) ?_; refine mq rfl ?_; refine mq rfl ?_; refine k_bld rfl zq ?_; refine k_stA rfl zq rfl ?_; refine k_nil ?_; refine run_ret rfl ?_; refine run_res (h) rfl Tryz.func84 rfl weakSub ?_; refine hK _ _ ?_
  exact ⟨rfl, rfl⟩
theorem f137_c (m : Md Tryz.prog B) (h : Hp) {b : Bk} {pm : Option Addr} {nm cm : Nat} {pr : Option Addr} {nr cr : Nat} (rdm : RdS B h 2 (.slice pm nm cm) nm (encs b.marks)) (hm : nm ≤ 1000) (rdr : RdS B h 4 (.slice pr nr cr) nr (encs b.rules)) (hr : nr ≤ 1000) : FnC m 137 #[bkV b pm nm cm pr nr cr] h fun v h' => ∃ nw, h' = h ++ nw ∧ Agreed B b nw v := by
  refine fn_enter Tryz.func137 rfl rfl (l := (bkV b pm nm cm pr nr cr) :: uu23) rfl ?_
  intro cf cs K hK
  refine rs3 (by kernel_rfl) ?_; refine k_box rfl zq (fun q1 => k_hp (k_put ?_)); refine k_new rfl zq (fun q2 => k_hp (k_put ?_)); refine aq rfl ?_; refine run_seq ?_; refine rs8 (by kernel_rfl) ?_; refine k_ldA rfl zq ?_; refine k_calC rfl zq (by kernel_rfl) (Post := fun v nw => Opened b (bkV b pm nm cm pr nr cr) (openS b (0)) nw v) (fun H' hH => f107_c m H' (rdm.keeps (sq hH)) hm (rdr.keeps (sq hH)) hr callB120 (fun hbz K hK => by simpa using f120_c m K)) ?_; rintro v nw ⟨x1, x2, x3, y1, y2, y3, y4, y5, y6, z1, z2, z3, rfl, hz⟩; refine k_hpA (k_put ?_); refine mq rfl ?_; refine k_ext0 rfl zq ?_; refine k_ext1 rfl zq ?_; refine k_new rfl zq (fun q4 => k_hp (k_put ?_)); refine k_stA rfl zq rfl ?_; refine aq rfl ?_; refine rs2 (by kernel_rfl) ?_; refine mq rfl ?_; refine k_neqS rfl zq (fun hc => ?_) (fun hc => ?_)
  · refine k_nil ?_; refine run_yes ?_; refine rs4 (by kernel_rfl) ?_; refine k_bld rfl zq ?_; refine mq rfl ?_; refine k_stA rfl zq rfl ?_; refine aq rfl ?_; refine run_ret rfl ?_; refine run_res (h) rfl Tryz.func137 rfl weakSub ?_; refine hK _ _ ?_
    exact ⟨[], by simp, _, rfl, by rw [agreeB, if_neg (by assumption)]; exact BkR.zero⟩
  · refine k_nil ?_; refine run_no ?_; refine run_skip ?_; refine run_seq ?_; refine run_draw [(0, .pure), (3, .pure), (1, .read), (4, .read), (2, .keep), (6, .pure), (5, .keep), (7, .free), (8, .pure), (9, .free)] (by kernel_rfl) (by kernel_rfl) (List.Sublist.refl _) ?_; have hz0 : openS b 0 = 0 := by first | assumption | omega
    obtain ⟨hz1, rfl, hzc, rdB⟩ := hz hz0
    obtain ⟨rfl, rfl, rfl, rfl, rfl, rfl, rfl, rfl, rfl⟩ := bookV_inj hz1
    obtain ⟨hbz, hoz, hbne⟩ := openS_zero hz0
    have hv := valid_of hbz
    have h7 := hv.many
    have hml := rdm.elen (by decide)
    have hbl := boats_le hv
    have hpos : 0 < (boatsOf b).length := List.length_pos_iff.2 hbne
    obtain ⟨zb, zo, rfl⟩ := RdS.ptr (B := B) rdB hpos
    have hrl := rdr.elen (by decide)
    first | refine k_fa0 rfl zq ?_ | refine k_fa rfl zq ?_
    first | refine k_fa0 rfl zq ?_ | refine k_fa rfl zq ?_
    refine k_ldh rfl zq ?_; refine k_ldh rfl zq ?_; refine k_calC rfl zq (by kernel_rfl) (fun H' hH => f134_c m H' (rdm.keeps (sq hH)) (by omega)) ?_; rintro v n1 o1; refine k_hpA (k_put ?_); obtain ⟨p1, c1, rfl, hc1, r1⟩ := own_rdA (B := B) o1
    first | refine k_fa0 rfl zq ?_ | refine k_fa rfl zq ?_
    refine k_calC rfl zq (by kernel_rfl) (fun H' hH => f135_c m H' (rdr.keeps (sq hH)) (by omega)) ?_; rintro v n2 o2; refine k_hpA (k_put ?_); obtain ⟨p2, c2, rfl, hc2, r2⟩ := own_rdA (B := B) o2
    refine k_st1 rfl zq ?_; first | refine k_fa0 rfl zq ?_ | refine k_fa rfl zq ?_
    refine k_st1 rfl zq ?_; refine k_nil ?_; refine rs3 (by kernel_rfl) ?_; refine k_ldA rfl zq ?_; refine k_stA rfl zq rfl ?_; refine aq rfl ?_; refine run_ret rfl ?_; refine run_res (h ++ n1 ++ n2) rfl Tryz.func137 rfl weakSub ?_; refine hK _ _ ?_
    refine ⟨n1 ++ n2, by simp, _, by rw [agreeS, hz0], ?_⟩
    rw [agreeB, if_pos hz0]; exact ⟨p1, nm, c1, p2, nr, c2, rfl, hml.symm, hrl.symm, hc1, hc2, r1.keeps (List.sublist_append_left _ _), r2.keeps (List.sublist_append_right _ _)⟩
end Go.Proofs
namespace Go.Lo
open Go.Conc (G)
section
variable {P : Program} {B : Array Obj} {m : Md P B} {S : Hp} {ops : Array Oper}
def waitE (ops : Array Oper) (E : List (Nat × Nat)) (i : Nat) : List Nat := (match ops[i]? with | some o => binding o | none => []) ++ (E.filter (·.2 == i)).map (·.1)
def masksE (ops : Array Oper) (E : List (Nat × Nat)) : Nat → List Nat
  | 0 => []
  | n + 1 => masksE ops E n ++ [maskOf (masksE ops E n) (waitE ops E n)]
theorem masksE_length (E : List (Nat × Nat)) : ∀ n, (masksE ops E n).length = n
  | 0 => rfl
  | n + 1 => by rw [masksE, List.length_append, masksE_length E n]; rfl
theorem masksE_spec (E : List (Nat × Nat)) : ∀ n i j, ((masksE ops E n).getD i 0).testBit j = true → ∃ x ∈ waitE ops E i, x = j ∨ (x < i ∧ ((masksE ops E n).getD x 0).testBit j = true)
  | 0, i, j, h => by simp [masksE] at h
  | n + 1, i, j, h => by
    have hlen := masksE_length (ops := ops) E n
    have old : ∀ x, x < n → (masksE ops E (n + 1)).getD x 0 = (masksE ops E n).getD x 0 := fun x hx => by
      rw [masksE, List.getD_eq_getElem?_getD, List.getD_eq_getElem?_getD, List.getElem?_append_left (by omega)]
    rcases Nat.lt_trichotomy i n with hi | rfl | hi
    · rw [old i hi] at h
      obtain ⟨x, hx, hx'⟩ := masksE_spec E n i j h
      exact ⟨x, hx, hx'.imp id fun ⟨h1, h2⟩ => ⟨h1, by rw [old x (by omega)]; exact h2⟩⟩
    · have e : (masksE ops E (i + 1)).getD i 0 = maskOf (masksE ops E i) (waitE ops E i) := by
        rw [masksE, List.getD_eq_getElem?_getD, List.getElem?_append_right (by omega), hlen]; simp
      rw [e] at h
      obtain ⟨x, hx, hx'⟩ := testBit_maskOf _ _ _ h
      refine ⟨x, hx, hx'.imp id fun h2 => ?_⟩
      have hxi : x < i := by
        rcases Nat.lt_or_ge x i with h3 | h3
        · exact h3
        · rw [List.getD_eq_getElem?_getD, List.getElem?_eq_none (by omega)] at h2
          simp at h2
      exact ⟨hxi, by rw [old x hxi]; exact h2⟩
    · rw [List.getD_eq_getElem?_getD, List.getElem?_eq_none (by rw [masksE_length]; omega)] at h
      simp at h
def Resp (w : Nat → List Nat) : List Nat → Prop
  | [] => True
  | i :: L => (∀ p ∈ w i, p ∉ i :: L) ∧ Resp w L
theorem mask_done' {ms : List Nat} {w : Nat → List Nat} (hms : ∀ i j, (ms.getD i 0).testBit j = true → ∃ x ∈ w i, x = j ∨ (x < i ∧ (ms.getD x 0).testBit j = true)) {L : List Nat} (down : ∀ x, x ∉ L → ∀ p ∈ w x, p ∉ L) :
    ∀ i, (∀ p ∈ w i, p ∉ L) → ∀ j ∈ L, (ms.getD i 0).testBit j = false := by
  intro i
  induction i using Nat.strongRecOn with
  | _ i ih =>
    intro hb j hj
    cases ht : (ms.getD i 0).testBit j with
    | false => rfl
    | true =>
      exfalso
      obtain ⟨x, hx, e | ⟨hlt, h2⟩⟩ := hms i j ht
      · exact hb x hx (e ▸ hj)
      · have := ih x hlt (down x (hb x hx)) j hj
        rw [this] at h2
        cases h2
theorem run_any (hn : noDefer ops = true) {ms : List Nat} {w : Nat → List Nat} (hms : ∀ i j, (ms.getD i 0).testBit j = true → ∃ x ∈ w i, x = j ∨ (x < i ∧ (ms.getD x 0).testBit j = true))
    {b : Frame} {ds : List Deferred} {k : List Item} {cs : List Frame} {K : Goroutine → Hp → Prop} :
    ∀ (L : List Nat) (r : List (Nat × Kd)) (l : List Value) (h : Hp), (∀ x, x ∈ L ↔ ∃ y ∈ r, y.1 = x) → L.Nodup → (r.map (·.1)).Nodup → pairsOk ops ms r = true → newsOk P ops r = true → ((∃ x ∈ r, x.2 = .read ∨ x.2 = .call) → S.Sublist h) → readsOk r = true → Resp w L →
      (∀ x, x ∉ L → ∀ p ∈ w x, p ∉ L) →
      RegK m S ops r l h (fun l' h' => m.R K (Gr b l' ds k cs) h') → m.R K (Gr b l ds (.inRegion ops L :: k) cs) h := by
  intro L
  induction L with
  | nil =>
    intro r l h hL _ _ _ _ _ _ _ _ hk
    cases r with
    | nil => exact run_region_end hk
    | cons y r => exact absurd ((hL y.1).2 ⟨y, List.mem_cons_self, rfl⟩) (by simp)
  | cons i L ih =>
    intro r l h hL hLn hnd hp hnw hS hro hresp hd hk
    obtain ⟨⟨i', ki⟩, hmr, rfl⟩ := (hL i).1 List.mem_cons_self
    have hmk' := mask_done' hms hd i' hresp.1
    have hmk : ∀ y ∈ r, (ms.getD i' 0).testBit y.1 = false := fun y hy => hmk' y.1 ((hL y.1).2 ⟨y, hy, rfl⟩)
    obtain ⟨o', ho', t'⟩ := RegK_take hn (newsOk_spec hnw hmr) WeakR hp hmr hnd hmk hk
    refine opK_run ho' (noDefer_spec hn ho').1 (fun e => hS ⟨_, hmr, e⟩) (opK_mono (fun l' h' x hkeep => ?_) t')
    have hmf : ∀ y, y ∈ r.filter (fun x => x.1 != i') ↔ y ∈ r ∧ y.1 ≠ i' := fun y => by rw [List.mem_filter]; simp
    have hLn' := List.nodup_cons.1 hLn
    refine ih _ l' h' (fun z => ?_) hLn'.2 (List.Nodup.sublist (List.Sublist.map _ List.filter_sublist) hnd) (pairsOk_filter _ hp) (List.all_eq_true.2 fun y hy => List.all_eq_true.1 hnw y (List.mem_filter.1 hy).1) (fun hex => ?_) (readsOk_filter _ hro) hresp.2 (fun z hz p hpz hpL => ?_) x
    · constructor
      · intro hz
        obtain ⟨y, hy, e⟩ := (hL z).1 (List.mem_cons_of_mem _ hz)
        exact ⟨y, (hmf y).2 ⟨hy, fun e' => hLn'.1 (by rw [← e', e]; exact hz)⟩, e⟩
      · rintro ⟨y, hy, rfl⟩; obtain ⟨h1, h2⟩ := (hmf y).1 hy
        rcases List.mem_cons.1 ((hL y.1).2 ⟨y, h1, rfl⟩) with e | e
        · exact absurd e h2
        · exact e
    · obtain ⟨y, hy, e⟩ := hex
      have hy' := (List.mem_filter.1 hy).1
      refine hkeep (fun ek => ?_) (hS ⟨y, hy', e⟩)
      subst ek
      exact free_last hp hro hmr hmk y hy' e
    · by_cases ez : z = i'
      · subst ez; exact hresp.1 p hpz (List.mem_cons_of_mem _ hpL)
      · exact hd z (fun hm => (List.mem_cons.1 hm).elim ez hz) p hpz (List.mem_cons_of_mem _ hpL)
theorem go_spec : ∀ (fuel t : Nat) (listed : Array Bool) (r : List (Nat × Kd)), r.length ≤ fuel → listed.size = ops.size →
      (∀ x, x < ops.size → (listed.getD x true = true ↔ ∀ y ∈ r, y.1 ≠ x)) → (r.map (·.1)).Nodup → Topo ops r →
      (∀ x, x ∈ Region.linearise.go .any ops fuel t listed [] ↔ ∃ y ∈ r, y.1 = x) ∧ (Region.linearise.go .any ops fuel t listed []).Nodup ∧ Resp (waitE ops []) (Region.linearise.go .any ops fuel t listed []) := by
  intro fuel
  induction fuel with
  | zero =>
    intro t listed r hr _ _ _ _
    have : r = [] := List.length_eq_zero_iff.1 (by omega)
    subst this
    simp [Region.linearise.go, Resp]
  | succ fuel ih =>
    intro t listed r hr hsz hl hnd ht
    simp only [Region.linearise.go]
    split
    · rename_i i hi
      have hmem := List.mem_of_getElem? hi
      simp only [List.mem_filter, List.mem_range, Bool.and_eq_true, Bool.not_eq_true'] at hmem
      obtain ⟨hin, hnl, hrd⟩ := hmem
      cases ho : ops[i]? with
      | none => rw [ho] at hrd; simp at hrd
      | some o =>
        rw [ho] at hrd
        simp only [Option.map_some, Option.getD_some, Array.all_eq_true_iff_forall_mem] at hrd
        have hir : ∃ y ∈ r, y.1 = i := by
          apply Classical.byContradiction
          intro hne
          have := (hl i hin).2 fun y hy e => hne ⟨y, hy, e⟩
          rw [this] at hnl
          cases hnl
        obtain ⟨⟨i', ki⟩, hmr, rfl⟩ := hir
        have hbn : ∀ p ∈ binding o, ∀ y ∈ r, y.1 ≠ p := by
          intro p hp'
          obtain ⟨e, he, rfl⟩ := List.mem_map.1 hp'
          obtain ⟨he1, he2⟩ := List.mem_filter.1 he
          have := hrd e (by simpa using he1)
          rw [he2] at this
          simp only [Bool.not_true, Bool.false_or] at this
          have hlt : e.on < ops.size := by
            rcases Nat.lt_or_ge e.on ops.size with h3 | h3
            · exact h3
            · rw [Array.getD_eq_getD_getElem?, Array.getElem?_eq_none (by omega)] at this
              simp at this
          refine (hl e.on hlt).1 ?_
          rw [Array.getD_eq_getD_getElem?, Array.getElem?_eq_getElem (by omega)] at this ⊢
          exact this
        have hmf : ∀ y, y ∈ r.filter (fun x => x.1 != i') ↔ y ∈ r ∧ y.1 ≠ i' := fun y => by rw [List.mem_filter]; simp
        rw [linearise_go_acc, List.reverse_singleton, List.singleton_append]; obtain ⟨g1, g2, g3⟩ := ih (t / ((List.range ops.size).filter fun i => !listed.getD i true && ((ops[i]?).map (·.after.all fun e => !Region.binds .any e || listed.getD e.on false)).getD false).length) (listed.setIfInBounds i' true) (r.filter fun x => x.1 != i')
          (by
            have : (r.filter fun x => x.1 != i').length < r.length := by
              exact List.length_filter_lt_length_iff_exists.2 ⟨_, hmr, by simp⟩
            omega) (by simpa using hsz) (fun x hx => by
            by_cases e : x = i'
            · subst e
              refine ⟨fun _ y hy => ((hmf y).1 hy).2, fun _ => ?_⟩
              rw [Array.getD_eq_getD_getElem?, Array.getElem?_setIfInBounds_self_of_lt (by omega)]; rfl
            · have : (listed.setIfInBounds i' true).getD x true = listed.getD x true := by
                rw [Array.getD_eq_getD_getElem?, Array.getElem?_setIfInBounds_ne (fun e' => e e'.symm), ← Array.getD_eq_getD_getElem?]
              rw [this, hl x hx]; refine ⟨fun hh y hy => hh y ((hmf y).1 hy).1, fun hh y hy => ?_⟩
              by_cases ey : y.1 = i'
              · rw [ey]; exact fun e' => e e'.symm
              · exact hh y ((hmf y).2 ⟨hy, ey⟩)) (List.Nodup.sublist (List.Sublist.map _ List.filter_sublist) hnd) (ht.filter _)
        refine ⟨fun x => ?_, List.nodup_cons.2 ⟨fun hm => ?_, g2⟩, fun p hp hm => ?_, g3⟩
        · rw [List.mem_cons, g1]; constructor
          · rintro (rfl | ⟨y, hy, e⟩)
            · exact ⟨_, hmr, rfl⟩
            · exact ⟨y, ((hmf y).1 hy).1, e⟩
          · rintro ⟨y, hy, rfl⟩; by_cases e : y.1 = i'
            · exact .inl e
            · exact .inr ⟨y, (hmf y).2 ⟨hy, e⟩, rfl⟩
        · obtain ⟨y, hy, e⟩ := (g1 i').1 hm
          exact ((hmf y).1 hy).2 e
        · have hp' : p ∈ binding o := by simpa [waitE, ho] using hp
          rcases List.mem_cons.1 hm with rfl | hm
          · exact hbn _ hp' _ hmr rfl
          · obtain ⟨y, hy, e⟩ := (g1 p).1 hm
            exact hbn _ hp' y ((hmf y).1 hy).1 e
    · rename_i hnone
      cases r with
      | nil => simp [Resp]
      | cons x r =>
        exfalso
        obtain ⟨i, ki⟩ := x
        obtain ⟨⟨o, ho, hb⟩, _⟩ := ht
        have hin : i < ops.size := (Array.getElem?_eq_some_iff.1 ho).1
        have : i ∈ (List.range ops.size).filter (fun i => !listed.getD i true && ((ops[i]?).map (·.after.all fun e => !Region.binds .any e || listed.getD e.on false)).getD false) := by
          rw [List.mem_filter]; refine ⟨List.mem_range.2 hin, ?_⟩
          have h1 : listed.getD i true = false := by
            cases hc : listed.getD i true with
            | false => rfl
            | true => exact absurd rfl ((hl i hin).1 hc _ List.mem_cons_self)
          rw [h1, ho]; simp only [Bool.not_false, Bool.true_and, Option.map_some, Option.getD_some, Array.all_eq_true_iff_forall_mem]
          intro e he
          cases hbe : Region.binds .any e with
          | false => rfl
          | true =>
            simp only [Bool.not_true, Bool.false_or]
            have hm : e.on ∈ binding o := List.mem_map.2 ⟨e, List.mem_filter.2 ⟨by simpa using he, hbe⟩, rfl⟩
            obtain ⟨h3, h4⟩ := hb _ hm
            have := (hl e.on h3).2 h4
            rw [Array.getD_eq_getD_getElem?, Array.getElem?_eq_getElem (by omega)] at this ⊢
            exact this
        have hpos := List.length_pos_of_mem this
        rw [List.getElem?_eq_none_iff] at hnone
        exact absurd (Nat.mod_lt t hpos) (by omega)
def Bef (a b : Nat) : List Nat → Prop
  | [] => True
  | i :: L => (i = b → a ∉ i :: L) ∧ Bef a b L
theorem Bef.gone {a b : Nat} : ∀ {L : List Nat}, a ∉ L → Bef a b L
  | [], _ => trivial
  | _ :: _, h => ⟨fun _ => h, Bef.gone fun x => h (List.mem_cons_of_mem _ x)⟩
theorem bef_or {a b : Nat} (hab : a ≠ b) : ∀ {L : List Nat}, L.Nodup → Bef a b L ∨ Bef b a L
  | [], _ => .inl trivial
  | i :: L, h => by
    obtain ⟨h1, h2⟩ := List.nodup_cons.1 h
    by_cases ea : i = a
    · subst ea; exact .inl ⟨fun e => absurd e hab, Bef.gone h1⟩
    · by_cases eb : i = b
      · subst eb; exact .inr ⟨fun e => absurd e.symm hab, Bef.gone h1⟩
      · exact (bef_or hab h2).imp (fun x => ⟨fun e => absurd e eb, x⟩) fun x => ⟨fun e => absurd e ea, x⟩
theorem Resp.add {E : List (Nat × Nat)} {a b : Nat} : ∀ {L : List Nat}, Resp (waitE ops E) L → Bef a b L → Resp (waitE ops ((a, b) :: E)) L
  | [], _, _ => trivial
  | i :: L, ⟨h1, h2⟩, ⟨h3, h4⟩ => by
    refine ⟨fun p hp => ?_, Resp.add h2 h4⟩
    simp only [waitE, List.filter_cons, List.mem_append] at hp
    rcases hp with hp | hp
    · exact h1 p (List.mem_append_left _ hp)
    · split at hp
      · rename_i e
        rcases List.mem_cons.1 hp with rfl | hp
        · exact h3 (by have : b = i := (by simpa using e); exact this.symm)
        · exact h1 p (List.mem_append_right _ hp)
      · exact h1 p (List.mem_append_right _ hp)
def okE (P : Program) (ops : Array Oper) (E : List (Nat × Nat)) (r : List (Nat × Kd)) : Bool :=
  noDefer ops && readsOk r && pairsOk ops (masksE ops E ops.size) r && newsOk P ops r && (r.all fun x => decide (x.1 < ops.size)) && decide (r.map (·.1)).Nodup && ((List.range ops.size).all fun i => r.any (·.1 == i)) && E.all fun e => decide (e.2 < ops.size)
inductive DrawT (m : Md P B) (S : Hp) (ops : Array Oper) (l : List Value) (h : Hp) (C : List Value → Hp → Prop) : List (Nat × Nat) → Prop
  | leaf {E} (r : List (Nat × Kd)) (hok : okE P ops E r = true) (t : RegK m S ops r l h C) : DrawT m S ops l h C E
  | split {E} (a b : Nat) (hab : a ≠ b) (t1 : DrawT m S ops l h C ((a, b) :: E)) (t2 : DrawT m S ops l h C ((b, a) :: E)) : DrawT m S ops l h C E
theorem run_list {b : Frame} {ds : List Deferred} {k : List Item} {cs : List Frame} {K : Goroutine → Hp → Prop} {l : List Value} {h : Hp} (hS : S.Sublist h) {L : List Nat} (hL : ∀ x, x ∈ L ↔ x < ops.size) (hLn : L.Nodup) {E : List (Nat × Nat)}
    (t : DrawT m S ops l h (fun l' h' => m.R K (Gr b l' ds k cs) h') E) : Resp (waitE ops E) L → m.R K (Gr b l ds (.inRegion ops L :: k) cs) h := by
  induction t with
  | @leaf E r hok t =>
    intro hr
    simp only [okE, Bool.and_eq_true, List.all_eq_true, List.mem_range, List.any_eq_true, beq_iff_eq, decide_eq_true_eq] at hok
    obtain ⟨⟨⟨⟨⟨⟨⟨h1, h2⟩, h3⟩, h4⟩, h5⟩, h6⟩, h7⟩, h8⟩ := hok
    refine run_any h1 (masksE_spec E ops.size) L r l h (fun x => ?_) hLn h6 h3 h4 (fun _ => hS) h2 hr (fun x hx p hp _ => ?_) t
    · rw [hL]; exact ⟨fun hx => h7 x hx, fun ⟨y, hy, e⟩ => e ▸ h5 y hy⟩
    · have hx' : ops.size ≤ x := Nat.le_of_not_lt fun e => hx ((hL x).2 e)
      simp only [waitE, Array.getElem?_eq_none hx', List.nil_append, List.mem_map, List.mem_filter, beq_iff_eq] at hp
      obtain ⟨e, ⟨he1, he2⟩, _⟩ := hp
      have := h8 e he1
      omega
  | split a b hab _ _ ih1 ih2 =>
    intro hr
    rcases bef_or hab hLn with h1 | h1
    · exact ih1 (hr.add h1)
    · exact ih2 (hr.add h1)
theorem run_drawT {b : Frame} {ds : List Deferred} {k : List Item} {cs : List Frame} {K : Goroutine → Hp → Prop} {id : Nat} {l : List Value} {h : Hp} (r0 : List Nat) (hm : (P.follows .mixedOrders || !Region.departs ops) = true)
    (hok : (topoOk ops [] (r0.map fun i => (i, Kd.free)) && (List.range ops.size).all fun i => r0.contains i) = true) (hS : S.Sublist h) (t : DrawT m S ops l h (fun l' h' => m.R K (Gr b l' ds k cs) h') []) : m.R K (Gr b l ds (.code (.region id ops true) :: k) cs) h := by
  refine run_region_drawn fun t' => ?_; simp only [Bool.and_eq_true, List.all_eq_true, List.mem_range, List.contains_iff_mem] at hok
  obtain ⟨h3, h4⟩ := hok
  generalize hr : (r0.map fun i => (i, Kd.free)) = r at h3
  obtain ⟨t1, _, t3⟩ := topo_of r [] h3 (by simp)
  have hlt : ∀ y ∈ r, y.1 < ops.size := by
    have : ∀ (r : List (Nat × Kd)), Topo ops r → ∀ y ∈ r, y.1 < ops.size := by
      intro r
      induction r with
      | nil => intro _ y hy; simp at hy
      | cons z r ih =>
        intro ⟨⟨o, ho, _⟩, h5⟩ y hy
        rcases List.mem_cons.1 hy with rfl | hy
        · exact (Array.getElem?_eq_some_iff.1 ho).1
        · exact ih h5 y hy
    exact this r t1
  have hin : ∀ x, x < ops.size → ∃ y ∈ r, y.1 = x := fun x hx => ⟨(x, .free), by rw [← hr]; exact List.mem_map.2 ⟨x, h4 x hx, rfl⟩, rfl⟩
  have hlen : r.length ≤ ops.size := by
    have := List.Nodup.length_le_of_subset t3 (l₂ := List.range ops.size) fun x hx => by
      obtain ⟨y, hy, rfl⟩ := List.mem_map.1 hx
      exact List.mem_range.2 (hlt y hy)
    simpa using this
  simp only [Region.schedule, hm, if_true]
  obtain ⟨g1, g2, g3⟩ := go_spec (ops := ops) ops.size t' (Array.replicate ops.size false) r hlen (by simp) (fun x hx => by
    rw [Array.getD_eq_getD_getElem?, Array.getElem?_eq_getElem (by simpa using hx)]; obtain ⟨y, hy, e⟩ := hin x hx
    simp only [Array.getElem_replicate, Option.getD_some, Bool.false_eq_true, false_iff]
    exact fun hh => hh y hy e) t3 t1
  refine run_list hS (fun x => ?_) g2 t g3
  exact (g1 x).trans ⟨fun ⟨y, hy, e⟩ => e ▸ hlt y hy, fun hx => hin x hx⟩
theorem DrawT.mono {l : List Value} {h : Hp} {C C' : List Value → Hp → Prop} (hc : ∀ l h, C l h → C' l h) {E : List (Nat × Nat)} (t : DrawT m S ops l h C E) : DrawT m S ops l h C' E := by
  induction t with
  | leaf r hok t => exact .leaf r hok (RegK.mono hc t)
  | split a b hab _ _ ih1 ih2 => exact .split a b hab ih1 ih2
theorem run_drawC (C : List Value → Hp → Prop) {b : Frame} {ds : List Deferred} {k : List Item} {cs : List Frame} {K : Goroutine → Hp → Prop} {id : Nat} {l : List Value} {h : Hp} (r0 : List Nat) (hm : (P.follows .mixedOrders || !Region.departs ops) = true)
    (hok : (topoOk ops [] (r0.map fun i => (i, Kd.free)) && (List.range ops.size).all fun i => r0.contains i) = true) (hS : S.Sublist h) (t : DrawT m S ops l h C []) (n : ∀ l' h', C l' h' → m.R K (Gr b l' ds k cs) h') : m.R K (Gr b l ds (.code (.region id ops true) :: k) cs) h :=
  run_drawT r0 hm hok hS (t.mono n)
end
end Go.Lo
namespace Go.Proofs
open Go.Lo
open Go.Conc (G)
set_option maxRecDepth 100000
set_option synthInstance.maxSize 100000
set_option synthInstance.maxHeartbeats 1000000
set_option maxHeartbeats 4000000
variable {B : Array Obj}
variable [Laid B]
def moreB (b : Bk) (r : Ru) : Bk := { b with rules := b.rules ++ [r] }
def noteS (b : Bk) (r : Ru) : Int := if bookS b ≠ 0 then bookS b else agreeS (moreB b r)
def noteB (b : Bk) (r : Ru) : Bk := if bookS b ≠ 0 then noBk else agreeB (moreB b r)
theorem encs_ruL (r : Ru) : encs [r] = ruL r := by simp [encs, Enc.enc]
theorem f81_c (m : Md Tryz.prog B) (h : Hp) {b : Bk} {pm : Option Addr} {nm cm : Nat} {pr : Option Addr} {nr cr : Nat} (rdm : RdS B h 2 (.slice pm nm cm) nm (encs b.marks)) (hm : nm ≤ 1000) (rdr : RdS B h 4 (.slice pr nr cr) nr (encs b.rules)) (hr : nr ≤ 1000) (r : Ru) : FnC m 81 #[bkV b pm nm cm pr nr cr, ruV r] h fun v h' => ∃ nw, h' = h ++ nw ∧ ∃ w, v = .tuple [w, .int .i64 (noteS b r)].toArray ∧ BkR B (noteB b r) nw w := by
  have hml := rdm.elen (by decide)
  have hrl := rdr.elen (by decide)
  refine fn_enter Tryz.func81 rfl rfl (l := (bkV b pm nm cm pr nr cr) :: (ruV r) :: uu22) rfl ?_
  intro cf cs K hK
  refine rs4 (by kernel_rfl) ?_; refine k_box rfl zq (fun q2 => k_hp (k_put ?_)); refine k_box rfl zq (fun q3 => k_hp (k_put ?_)); refine k_new rfl zq (fun q4 => k_hp (k_put ?_)); refine aq rfl ?_; refine run_seq ?_; refine rs3 (by kernel_rfl) ?_; refine k_ldA rfl zq ?_; refine k_calP (Post := fun v => v = _) rfl zq (by kernel_rfl) (fun H' hH => f21_c m H' (rdm.keeps (sq hH)) hm (rdr.keeps (sq hH)) hr) ?_; rintro v rfl; refine k_put ?_; refine aq rfl ?_; refine rs2 (by kernel_rfl) ?_; refine mq rfl ?_; refine k_neqS rfl zq (fun hc => ?_) (fun hc => ?_)
  · refine k_nil ?_; refine run_yes ?_; refine rs4 (by kernel_rfl) ?_; refine k_bld rfl zq ?_; refine mq rfl ?_; refine k_stA rfl zq rfl ?_; refine aq rfl ?_; refine run_ret rfl ?_; refine run_res (h) rfl Tryz.func81 rfl weakSub ?_; refine hK _ _ ?_
    exact ⟨[], by simp, _, by rw [noteS, if_pos (by assumption)], by rw [noteB, if_pos (by assumption)]; exact BkR.zero⟩
  · have hv := valid_of hc
    have hf := hv.few
    refine k_nil ?_; refine run_no ?_; refine run_skip ?_; refine run_seq ?_; refine run_drawT [0, 1, 2, 3, 4, 5, 6, 7] (by kernel_rfl) (by kernel_rfl) (List.Sublist.refl _) ?_; refine DrawT.split 2 4 (by decide) ?_ ?_
    · refine DrawT.leaf [(0, .pure), (1, .read), (3, .read), (2, .keep), (4, .keep), (5, .free), (6, .pure), (7, .free)] (by kernel_rfl) ?_
      first | refine k_fa0 rfl zq ?_ | refine k_fa rfl zq ?_
      refine k_ldh rfl zq ?_; refine k_ldA rfl zq ?_; refine k_calC rfl zq (by kernel_rfl) (fun H' hH => f135_c m H' (rdr.keeps (sq hH)) (by omega)) ?_; rintro v n2 o2; refine k_hpA (k_put ?_); obtain ⟨p2, c2, rfl, hc2, r2⟩ := own_rdA (B := B) o2
      refine k_bs kdq rfl zq (by decide) (by decide) rfl (fun q17 => k_hp (k_put ?_)); refine k_app1 (F := h ++ [⟨true, q2, .cells (bkL b pm nm cm pr nr cr).toArray 25 (0, 0)⟩, ⟨true, q3, .cells (ruL r).toArray 94 (0, 0)⟩, ⟨true, q4, .cells [.int .i64 0, .int .i64 0, .int .i64 0, .slice none 0 0, .slice none 0 0].toArray 25 (0, 0)⟩]) rfl zq rfl o2 kdq (by omega) (by omega) (fun w9 n9 o9 => k_put ?_); replace o9 : OwnS 94 4 w9 (nr + 1) (encs (moreB b r).rules) n9 := by rw [show encs (moreB b r).rules = encs b.rules ++ ruL r by rw [moreB, encs_append, encs_ruL]]; exact o9
      obtain ⟨p9, c9, rfl, hc9, r9⟩ := own_rdA (B := B) o9
      first | refine k_fa0 rfl zq ?_ | refine k_fa rfl zq ?_
      refine k_st1 rfl zq ?_; refine k_nil ?_; refine rs6 (by kernel_rfl) ?_; refine k_ldA rfl zq ?_; refine k_calC rfl zq (by kernel_rfl) (fun H' hH => f137_c m H' (b := moreB b r) (rdm.keeps (sq hH)) hm (r9.keeps (sq hH)) (by omega)) ?_; rintro v n5 ⟨w5, rfl, pm5, nm5, cm5, pr5, nr5, cr5, rfl, hb5⟩; refine k_hpA (k_put ?_); refine k_ext0 rfl zq ?_; refine k_ext1 rfl zq ?_; refine k_stA rfl zq rfl ?_; refine aq rfl ?_; refine run_ret rfl ?_; refine run_res (h ++ n5) rfl Tryz.func81 rfl weakSub ?_; refine hK _ _ ?_
      exact ⟨n5, rfl, _, by rw [noteS, if_neg (fun e => e hc)], by rw [noteB, if_neg (fun e => e hc)]; exact ⟨_, _, _, _, _, _, rfl, hb5⟩⟩
    · refine DrawT.leaf [(0, .pure), (1, .read), (3, .read), (4, .keep), (2, .keep), (5, .free), (6, .pure), (7, .free)] (by kernel_rfl) ?_
      first | refine k_fa0 rfl zq ?_ | refine k_fa rfl zq ?_
      refine k_ldh rfl zq ?_; refine k_ldA rfl zq ?_; refine k_bs kdq rfl zq (by decide) (by decide) rfl (fun q17 => k_hp (k_put ?_)); refine k_calC rfl zq (by kernel_rfl) (fun H' hH => f135_c m H' (rdr.keeps (sq hH)) (by omega)) ?_; rintro v n2 o2; refine k_hpA (k_put ?_); obtain ⟨p2, c2, rfl, hc2, r2⟩ := own_rdA (B := B) o2
      refine k_app1 (F := h ++ [⟨true, q2, .cells (bkL b pm nm cm pr nr cr).toArray 25 (0, 0)⟩, ⟨true, q3, .cells (ruL r).toArray 94 (0, 0)⟩, ⟨true, q4, .cells [.int .i64 0, .int .i64 0, .int .i64 0, .slice none 0 0, .slice none 0 0].toArray 25 (0, 0)⟩]) rfl zq rfl o2 kdq (by omega) (by omega) (fun w9 n9 o9 => k_put ?_); replace o9 : OwnS 94 4 w9 (nr + 1) (encs (moreB b r).rules) n9 := by rw [show encs (moreB b r).rules = encs b.rules ++ ruL r by rw [moreB, encs_append, encs_ruL]]; exact o9
      obtain ⟨p9, c9, rfl, hc9, r9⟩ := own_rdA (B := B) o9
      first | refine k_fa0 rfl zq ?_ | refine k_fa rfl zq ?_
      refine k_st1 rfl zq ?_; refine k_nil ?_; refine rs6 (by kernel_rfl) ?_; refine k_ldA rfl zq ?_; refine k_calC rfl zq (by kernel_rfl) (fun H' hH => f137_c m H' (b := moreB b r) (rdm.keeps (sq hH)) hm (r9.keeps (sq hH)) (by omega)) ?_; rintro v n5 ⟨w5, rfl, pm5, nm5, cm5, pr5, nr5, cr5, rfl, hb5⟩; refine k_hpA (k_put ?_); refine k_ext0 rfl zq ?_; refine k_ext1 rfl zq ?_; refine k_stA rfl zq rfl ?_; refine aq rfl ?_; refine run_ret rfl ?_; refine run_res (h ++ n5) rfl Tryz.func81 rfl weakSub ?_; refine hK _ _ ?_
      exact ⟨n5, rfl, _, by rw [noteS, if_neg (fun e => e hc)], by rw [noteB, if_neg (fun e => e hc)]; exact ⟨_, _, _, _, _, _, rfl, hb5⟩⟩
section
variable {P : Program} {B : Array Obj} {m : Md P B} {ops : Array Oper} {l l' : List Value} {S h h' H : Hp} {C : List Value → Hp → Prop} {i : Nat} {kd : Kd} {r : List (Nat × Kd)}
  {d : Option Tmp} {ty : TypeId} {pos : String} {af : Array Edge} {g : Option (Nat × Bool)}
theorem k_subW {t u : TypeId} {x y : Operand} {a b : Int} (ho : ops[i]? = some ⟨d, .binOp .sub t x y u, ty, pos, af, g⟩) (hw : Wt ops l g) [KHeap kd S h H] [ex : OpV l x (.int .i64 a)] [ey : OpV l y (.int .i64 b)]
    (n : ∀ z, (In64 (a - b) → z = a - b) → RegK m S ops r (put l d (.int .i64 z)) h C) : RegK m S ops ((i, kd) :: r) l h C :=
  RegK.rd (v := .int .i64 (IntKind.wrap .i64 (a - b))) (p := ⟨rfl⟩) ho hw (reads_int ex.eq ey.eq (by simp) (by simp [binOp, Op.intArith]; rfl)) (n _ fun e => wrap_in e)
theorem rdN_part {B : Array Obj} {h : Hp} {q t : Nat} {rw : Bool} {f : Nat × Nat} {cs : List Value} (vs : List Value) {o : Nat} [x : Has h q rw (.cells cs.toArray t f)] (e : (cs.drop o).take vs.length = vs) : RdN B h q o vs := fun j hj => Rd.held x.mem (by
  have e2 : cs[o + j]? = vs[j]? := by
    rw [← List.getElem?_drop, ← e, List.getElem?_take, if_pos hj]
  rw [List.getElem?_toArray, e2, List.getD_eq_getElem?_getD, List.getElem?_eq_getElem hj]; rfl)
end
def meetSp (x y : Sp) : Sp := ⟨max x.lo y.lo, min x.hi y.hi⟩
def atS (a : Bk) (k : Int) : Nat := (a.marks.length - k).toNat
def spMark (a b : Bk) (k : Int) (i : Nat) : Sp := if (i : Int) < k then meetSp (a.marks.getD (atS a k + i) default) (b.marks.getD i default) else b.marks.getD i default
def spMarks (a b : Bk) (k : Int) (j : Nat) : List Sp := a.marks.take (atS a k) ++ (List.range j).map (spMark a b k)
def shR (at' : Int) (r : Ru) : Ru := ⟨r.a + at', r.b + at', r.lo, r.hi⟩
def spRules (a b : Bk) (k : Int) (j : Nat) : List Ru := a.rules ++ (b.rules.take j).map (shR (atS a k : Int))
def spB (a b : Bk) (k : Int) : Bk := ⟨min a.bend b.bend, min a.twist b.twist, min a.turns b.turns, spMarks a b k b.marks.length, spRules a b k b.rules.length⟩
def misses (a b : Bk) (k : Int) : Prop := ∃ i : Nat, (i : Int) < k ∧ i < b.marks.length ∧ (spMark a b k i).hi < (spMark a b k i).lo
instance (a b : Bk) (k : Int) : Decidable (misses a b k) := decidable_of_iff (∃ i ∈ List.range b.marks.length, ((i : Int) < k ∧ (spMark a b k i).hi < (spMark a b k i).lo)) (by
  simp only [misses, List.mem_range]
  exact ⟨fun ⟨i, h1, h2, h3⟩ => ⟨i, h2, h1, h3⟩, fun ⟨i, h1, h2, h3⟩ => ⟨i, h2, h1, h3⟩⟩)
def spS0 (a b : Bk) (k : Int) : Int := if bookS a ≠ 0 then bookS a else if bookS b ≠ 0 then bookS b else if ¬ (2 ≤ k ∧ k ≤ min a.marks.length b.marks.length) then 1
  else if 7 < (a.marks.length : Int) - k + b.marks.length ∨ 4 < a.rules.length + b.rules.length then 2 else if misses a b k then 9 else 0
def spliceS (a b : Bk) (k : Int) : Int := if spS0 a b k ≠ 0 then spS0 a b k else agreeS (spB a b k)
def spliceB (a b : Bk) (k : Int) : Bk := if spS0 a b k ≠ 0 then noBk else agreeB (spB a b k)
theorem spMarks_succ (a b : Bk) (k : Int) (j : Nat) : spMarks a b k (j + 1) = spMarks a b k j ++ [spMark a b k j] := by
  rw [spMarks, List.range_succ, List.map_append, ← List.append_assoc]; rfl
theorem spRules_succ (a b : Bk) (k : Int) (j : Nat) (h : j < b.rules.length) : spRules a b k (j + 1) = spRules a b k j ++ [shR (atS a k : Int) (b.rules.getD j default)] := by
  rw [spRules, spRules, List.append_assoc, ← List.map_singleton, ← List.map_append]; congr 2
  rw [List.take_succ, List.getElem?_eq_getElem h, List.getD_eq_getElem?_getD, List.getElem?_eq_getElem h]; rfl
theorem encs_spL (x : Sp) : encs [x] = spL x := by simp [encs, Enc.enc]
def selV (k : Nat) (x y : Value) : Value := if k = 0 then x else y
theorem weak_swap {B : Array Obj} {A X Y : Hp} : Weak B (A ++ X ++ Y) (A ++ Y ++ X) := Weak.perm (by
  rw [List.append_assoc, List.append_assoc]; exact List.Perm.append_left A List.perm_append_comm)
theorem f74_c (m : Md Tryz.prog B) (h : Hp) {b : Bk} {pm : Option Addr} {nm cm : Nat} {pr : Option Addr} {nr cr : Nat} (rdm : RdS B h 2 (.slice pm nm cm) nm (encs b.marks)) (hm : nm ≤ 1000) (hcm : nm ≤ cm) (rdr : RdS B h 4 (.slice pr nr cr) nr (encs b.rules)) (hr : nr ≤ 1000) {b2 : Bk} {pm2 : Option Addr} {nm2 cm2 : Nat} {pr2 : Option Addr} {nr2 cr2 : Nat} (rdm2 : RdS B h 2 (.slice pm2 nm2 cm2) nm2 (encs b2.marks)) (hm2 : nm2 ≤ 1000) (rdr2 : RdS B h 4 (.slice pr2 nr2 cr2) nr2 (encs b2.rules)) (hr2 : nr2 ≤ 1000) (k : Int) (hk64 : In64 k) : FnC m 74 #[bkV b pm nm cm pr nr cr, bkV b2 pm2 nm2 cm2 pr2 nr2 cr2, .int .i64 k] h fun v h' => ∃ nw, h' = h ++ nw ∧ ∃ w, v = .tuple [w, .int .i64 (spliceS b b2 k)].toArray ∧ BkR B (spliceB b b2 k) nw w := by
  have hml := rdm.elen (by decide)
  have hrl := rdr.elen (by decide)
  have hml2 := rdm2.elen (by decide)
  have hrl2 := rdr2.elen (by decide)
  refine fn_enter Tryz.func74 rfl rfl (l := (bkV b pm nm cm pr nr cr) :: (bkV b2 pm2 nm2 cm2 pr2 nr2 cr2) :: (.int .i64 k) :: uu152) rfl ?_
  intro cf cs K hK
  refine rs4 (by kernel_rfl) ?_; refine k_box rfl zq (fun q3 => k_hp (k_put ?_)); refine k_box rfl zq (fun q4 => k_hp (k_put ?_)); refine k_new rfl zq (fun q6 => k_hp (k_put ?_)); refine aq rfl ?_; refine run_seq ?_; refine rs5 (by kernel_rfl) ?_; refine k_ldA rfl zq ?_; refine k_ldA rfl zq ?_; refine k_bs kdq rfl zq (by decide) (by decide) rfl (fun q21 => k_hp (k_put ?_)); refine k_len rfl zq ?_; refine mq rfl ?_; refine k_nil ?_; refine run_block ?_; refine run_loop (fun nn l h' => ∃ (i : Nat), nn = 2 - i ∧ (i ≤ 2) ∧ (0 < i → bookS b = 0) ∧ (1 < i → bookS b2 = 0) ∧ (∃ U : Nat → Value, l = [bkV b pm nm cm pr nr cr, bkV b2 pm2 nm2 cm2 pr2 nr2 cr2, .int .i64 k, .pointer (some ⟨q3, 0, none⟩), .pointer (some ⟨q4, 0, none⟩), U 5, .pointer (some ⟨q6, 0, none⟩), U 7, U 8, U 9, U 10, U 11, U 12, U 13, U 14, U 15, U 16, U 17, U 18, U 19, U 20, .slice (some ⟨q21, 0, none⟩) 2 2, .int .i64 2, .int .i64 (i : Int), U 24, U 25, U 26, U 27, U 28, U 29, U 30, U 31, U 32, U 33, U 34, U 35, U 36, U 37, U 38, U 39, U 40, U 41, U 42, U 43, U 44, U 45, U 46, U 47, U 48, U 49, U 50, U 51, U 52, U 53, U 54, U 55, U 56, U 57, U 58, U 59, U 60, U 61, U 62, U 63, U 64, U 65, U 66, U 67, U 68, U 69, U 70, U 71, U 72, U 73, U 74, U 75, U 76, U 77, U 78, U 79, U 80, U 81, U 82, U 83, U 84, U 85, U 86, U 87, U 88, U 89, U 90, U 91, U 92, U 93, U 94, U 95, U 96, U 97, U 98, U 99, U 100, U 101, U 102, U 103, U 104, U 105, U 106, U 107, U 108, U 109, U 110, U 111, U 112, U 113, U 114, U 115, U 116, U 117, U 118, U 119, U 120, U 121, U 122, U 123, U 124, U 125, U 126, U 127, U 128, U 129, U 130, U 131, U 132, U 133, U 134, U 135, U 136, U 137, U 138, U 139, U 140, U 141, U 142, U 143, U 144, U 145, U 146, U 147, U 148, U 149, U 150, U 151, U 152, U 153, U 154]) ∧ h ++ [⟨true, q3, .cells (bkL b pm nm cm pr nr cr).toArray 25 (0, 0)⟩, ⟨true, q4, .cells (bkL b2 pm2 nm2 cm2 pr2 nr2 cr2).toArray 25 (0, 0)⟩, ⟨true, q6, .cells ([.int .i64 0, .int .i64 0, .int .i64 0, .slice none 0 0, .slice none 0 0] : List Value).toArray 25 (0, 0)⟩, ⟨true, q21, .cells (bkL b pm nm cm pr nr cr ++ bkL b2 pm2 nm2 cm2 pr2 nr2 cr2).toArray 25 (0, 0)⟩] = h') _ ⟨0, rfl, by omega, by omega, by omega, exU rfl, rfl⟩ ?_
  rintro nn l h' ⟨i, rfl, hi, hi1, hi2, ⟨U, rfl⟩, rfl⟩ hnext1; refine rs1 (by kernel_rfl) ?_; refine k_lssS rfl zq (fun hc => ?_) (fun hc => ?_)
  · refine k_nil ?_; refine run_seq ?_; refine run_yes ?_; refine run_skip ?_; refine run_seq ?_; refine run_block ?_; refine rs4 (by kernel_rfl) ?_; obtain ⟨b', pm', nm', cm', pr', nr', cr', hsel, hbs, rm', hm', rr', hr'⟩ : ∃ (b' : Bk) (pm' : Option Addr) (nm' cm' : Nat) (pr' : Option Addr) (nr' cr' : Nat), ((bkL b pm nm cm pr nr cr ++ bkL b2 pm2 nm2 cm2 pr2 nr2 cr2).drop (0 + i * 5)).take 5 = bkL b' pm' nm' cm' pr' nr' cr' ∧ bookS b' = (if i = 0 then bookS b else bookS b2) ∧ RdS B h 2 (.slice pm' nm' cm') nm' (encs b'.marks) ∧ nm' ≤ 1000 ∧ RdS B h 4 (.slice pr' nr' cr') nr' (encs b'.rules) ∧ nr' ≤ 1000 := by
      rcases (by omega : i = 0 ∨ i = 1) with rfl | rfl
      · exact ⟨b, pm, nm, cm, pr, nr, cr, rfl, rfl, rdm, hm, rdr, hr⟩
      · exact ⟨b2, pm2, nm2, cm2, pr2, nr2, cr2, rfl, rfl, rdm2, hm2, rdr2, hr2⟩
    refine k_ixs rfl zq (by first | rfl | assumption) (by omega) (by omega) ?_; refine k_ldN (vs := bkL b' pm' nm' cm' pr' nr' cr') rfl zq rfl (rdN_part _ hsel) ?_; refine k_new rfl zq (fun q9 => k_hp (k_put ?_)); refine k_stA rfl zq rfl ?_; refine k_nil ?_; refine rs3 (by kernel_rfl) ?_; refine k_ldA rfl zq ?_; refine k_calP (Post := fun v => v = _) rfl zq (by kernel_rfl) (fun H' hH => f21_c m H' (rm'.keeps (sq hH)) hm' (rr'.keeps (sq hH)) hr') ?_; rintro v rfl; refine k_put ?_; refine aq rfl ?_; refine rs2 (by kernel_rfl) ?_; refine mq rfl ?_; refine k_neqS rfl zq (fun hc => ?_) (fun hc => ?_)
    · have hS : spS0 b b2 k = (if i = 0 then bookS b else bookS b2) := by
        rw [hbs] at hc
        by_cases e : i = 0
        · rw [if_pos e] at hc ⊢; rw [spS0, if_pos hc]
        · rw [if_neg e] at hc ⊢; rw [spS0, if_neg (fun x => x (hi1 (by omega))), if_pos hc]
      refine k_nil ?_; refine run_yes ?_; refine rs4 (by kernel_rfl) ?_; refine k_bld rfl zq ?_; refine mq rfl ?_; refine k_stA rfl zq rfl ?_; refine aq rfl ?_; refine run_ret rfl ?_; refine run_res (h) rfl Tryz.func74 rfl weakSub ?_; refine hK _ _ ?_
      rw [hbs] at hc ⊢
      have hne : spS0 b b2 k ≠ 0 := by rw [hS]; first | decide | assumption
      exact ⟨[], by simp, _, by rw [spliceS, if_pos hne, hS], by rw [spliceB, if_pos hne]; exact BkR.zero⟩
    · rw [hbs] at hc
      have hz1 : bookS b = 0 := by
        by_cases e : i = 0
        · rw [if_pos e] at hc; exact hc
        · exact hi1 (by omega)
      have hz2 : 0 < i → bookS b2 = 0 := fun e => by rw [if_neg (by omega)] at hc; exact hc
      refine k_nil ?_; refine run_no ?_; refine run_skip ?_; refine run_inBlock ?_; refine rr2 (by kernel_rfl) ?_; refine k_add rfl zq (by unfold In64; omega) ?_; refine mq rfl ?_; refine k_nil ?_; exact m.weak weakSub (hnext1 _ _ _ (by omega) ⟨i + 1, rfl, by omega, fun _ => hz1, fun e => hz2 (by omega), exU rfl, rfl⟩)
  · refine k_nil ?_; refine run_seq ?_; refine run_no ?_; refine run_exit rfl ?_; refine rs6 (by kernel_rfl) ?_; have hz1 := hi1 (by omega)
    have hz2 := hi2 (by omega)
    have hv := valid_of hz1
    have hv2 := valid_of hz2
    have hvm := hv.many
    have hvm2 := hv2.many
    have hS0 : spS0 b b2 k = spS0 b b2 k := rfl
    conv at hS0 => rhs; rw [spS0, if_neg (fun e => e hz1), if_neg (fun e => e hz2)]
    first | refine k_fa0 rfl zq ?_ | refine k_fa rfl zq ?_
    refine k_ldh rfl zq ?_; refine k_len rfl zq ?_; refine mq rfl ?_; refine k_subW rfl zq (fun at0 hat0 => k_put ?_); refine aq rfl ?_; refine run_seq ?_; refine run_block ?_; refine run_seq ?_; refine run_region [(0, .free), (1, .free), (2, .free), (3, .free), (4, .free), (5, .free), (6, .free), (7, .free), (8, .free), (9, .free), (10, .free)] (by kernel_rfl) (by kernel_rfl) ?_; refine mq rfl ?_; first | refine k_fa0 rfl zq ?_ | refine k_fa rfl zq ?_
    refine k_ldh rfl zq ?_; refine k_len rfl zq ?_; first | refine k_fa0 rfl zq ?_ | refine k_fa rfl zq ?_
    refine k_ldh rfl zq ?_; refine k_len rfl zq ?_; refine k_min rfl zq ?_; refine k_calP (Post := fun v => IsB _ v) rfl zq (by kernel_rfl) (fun H' hH => f117_c m H' _ _ _) ?_; rintro v (⟨hc, rfl⟩ | ⟨hc, rfl⟩)
    · refine k_put ?_; refine k_notT rfl zq ?_; refine aq rfl ?_; refine run_no ?_; refine run_seq ?_; refine rs7 (by kernel_rfl) ?_; obtain rfl := hat0 (by unfold In64; omega)
      rw [if_neg (by omega)] at hS0
      refine mq rfl ?_; first | refine k_fa0 rfl zq ?_ | refine k_fa rfl zq ?_
      refine k_ldh rfl zq ?_; refine k_len rfl zq ?_; refine k_add rfl zq (by unfold In64; omega) ?_; refine k_gtrS rfl zq (fun hc => ?_) (fun hc => ?_)
      · refine aq rfl ?_; refine run_yes ?_; refine run_skip ?_; refine run_yes ?_; refine rs3 (by kernel_rfl) ?_; have hS : spS0 b b2 k = 2 := by rw [hS0, if_pos (by omega)]
        refine k_bld rfl zq ?_; refine k_stA rfl zq rfl ?_; refine aq rfl ?_; refine run_ret rfl ?_; refine run_res (h) rfl Tryz.func74 rfl weakSub ?_; refine hK _ _ ?_
        have hne : spS0 b b2 k ≠ 0 := by rw [hS]; first | decide | assumption
        exact ⟨[], by simp, _, by rw [spliceS, if_pos hne, hS], by rw [spliceB, if_pos hne]; exact BkR.zero⟩
      · refine aq rfl ?_; refine run_no ?_; refine rr9 (by kernel_rfl) ?_; first | refine k_fa0 rfl zq ?_ | refine k_fa rfl zq ?_
        refine k_ldh rfl zq ?_; refine k_len rfl zq ?_; first | refine k_fa0 rfl zq ?_ | refine k_fa rfl zq ?_
        refine k_ldh rfl zq ?_; refine k_len rfl zq ?_; refine k_add rfl zq (by unfold In64; omega) ?_; refine k_gtrS rfl zq (fun hc => ?_) (fun hc => ?_)
        · refine aq rfl ?_; refine run_yes ?_; refine rs3 (by kernel_rfl) ?_; have hS : spS0 b b2 k = 2 := by rw [hS0, if_pos (by omega)]
          refine k_bld rfl zq ?_; refine k_stA rfl zq rfl ?_; refine aq rfl ?_; refine run_ret rfl ?_; refine run_res (h) rfl Tryz.func74 rfl weakSub ?_; refine hK _ _ ?_
          have hne : spS0 b b2 k ≠ 0 := by rw [hS]; first | decide | assumption
          exact ⟨[], by simp, _, by rw [spliceS, if_pos hne, hS], by rw [spliceB, if_pos hne]; exact BkR.zero⟩
        · refine aq rfl ?_; refine run_no ?_; refine run_skip ?_; refine run_inBlock ?_; refine run_seq ?_; refine rr18 (by kernel_rfl) ?_; obtain ⟨w, hw⟩ := Int.eq_ofNat_of_zero_le (show 0 ≤ (nm : Int) - k by omega)
          rw [hw]; rw [if_neg (by omega)] at hS0
          have hat : atS b k = w := by unfold atS; omega
          obtain ⟨mb, mo, rfl⟩ := rdm.ptr (by omega)
          obtain ⟨mb2, mo2, rfl⟩ := rdm2.ptr (by omega)
          first | refine k_fa0 rfl zq ?_ | refine k_fa rfl zq ?_
          refine k_ldh rfl zq ?_; first | refine k_fa0 rfl zq ?_ | refine k_fa rfl zq ?_
          refine k_ldh rfl zq ?_; refine k_min rfl zq ?_; first | refine k_fa0 rfl zq ?_ | refine k_fa rfl zq ?_
          refine k_ldh rfl zq ?_; first | refine k_fa0 rfl zq ?_ | refine k_fa rfl zq ?_
          refine k_ldh rfl zq ?_; refine k_min rfl zq ?_; first | refine k_fa0 rfl zq ?_ | refine k_fa rfl zq ?_
          refine k_ldh rfl zq ?_; first | refine k_fa0 rfl zq ?_ | refine k_fa rfl zq ?_
          refine k_ldh rfl zq ?_; refine k_min rfl zq ?_; refine k_bld rfl zq ?_; refine k_new rfl zq (fun q12 => k_hp (k_put ?_)); refine k_stA rfl zq rfl ?_; refine k_nil ?_; refine run_seq ?_; refine run_draw [(0, .pure), (2, .pure), (5, .pure), (1, .read), (3, .pure), (6, .read), (4, .keep), (8, .pure), (7, .keep), (9, .free), (10, .pure), (11, .free)] (by kernel_rfl) (by kernel_rfl) (List.Sublist.refl _) ?_; first | refine k_fa0 rfl zq ?_ | refine k_fa rfl zq ?_
          refine mq rfl ?_; first | refine k_fa0 rfl zq ?_ | refine k_fa rfl zq ?_
          refine k_ldh rfl zq ?_; refine k_slTo (b := w) rfl zq rdm.okp rfl (by omega) ?_; refine k_ldh rfl zq ?_; refine k_calC rfl zq (by kernel_rfl) (fun H' hH => f134_c m H' (xs := b.marks.take w) (by rw [encs_take]; exact (rdm.pre (m := w) (by omega)).keeps (sq hH)) (by omega)) ?_; rintro v n1 o1; refine k_hpA (k_put ?_); obtain ⟨p1, c1, rfl, hc1, r1⟩ := own_rdA (B := B) o1
          first | refine k_fa0 rfl zq ?_ | refine k_fa rfl zq ?_
          refine k_calC rfl zq (by kernel_rfl) (fun H' hH => f135_c m H' (rdr.keeps (sq hH)) (by omega)) ?_; rintro v n2 o2; refine k_hpA (k_put ?_); obtain ⟨p2, c2, rfl, hc2, r2⟩ := own_rdA (B := B) o2
          refine k_st1 rfl zq ?_; first | refine k_fa0 rfl zq ?_ | refine k_fa rfl zq ?_
          refine k_st1 rfl zq ?_; refine k_nil ?_; refine run_seq ?_; refine rs4 (by kernel_rfl) ?_; first | refine k_fa0 rfl zq ?_ | refine k_fa rfl zq ?_
          refine k_ldh rfl zq ?_; refine k_len rfl zq ?_; refine mq rfl ?_; refine k_nil ?_; refine run_block ?_; refine m.weak (h' := h ++ [⟨true, q3, .cells (bkL b (some ⟨mb, mo, none⟩) nm cm pr nr cr).toArray 25 (0, 0)⟩, ⟨true, q4, .cells (bkL b2 (some ⟨mb2, mo2, none⟩) nm2 cm2 pr2 nr2 cr2).toArray 25 (0, 0)⟩, ⟨true, q6, .cells ([.int .i64 0, .int .i64 0, .int .i64 0, .slice none 0 0, .slice none 0 0] : List Value).toArray 25 (0, 0)⟩, ⟨true, q12, .cells [.int .i64 (min b.bend b2.bend), .int .i64 (min b.twist b2.twist), .int .i64 (min b.turns b2.turns), .slice p1 w c1, .slice p2 nr c2].toArray 25 (0, 0)⟩] ++ n1 ++ n2) weakSub ?_
          refine m.weak weak_swap ?_
          refine run_loop (fun nn l h' => ∃ (j : Nat) (mp : Option Addr) (mc : Nat) (M : Hp), nn = nm2 - j ∧ (j ≤ nm2) ∧ (OwnS 92 2 (.slice mp (w + j) mc) (w + j) (encs (spMarks b b2 k j)) M) ∧ (∀ i : Nat, i < j → (i : Int) < k → (spMark b b2 k i).lo ≤ (spMark b b2 k i).hi) ∧ (∃ U : Nat → Value, l = [U 0, U 1, .int .i64 k, .pointer (some ⟨q3, 0, none⟩), .pointer (some ⟨q4, 0, none⟩), U 5, .pointer (some ⟨q6, 0, none⟩), U 7, U 8, U 9, U 10, .int .i64 (w : Int), .pointer (some ⟨q12, 0, none⟩), U 13, U 14, U 15, U 16, U 17, U 18, U 19, U 20, U 21, U 22, U 23, U 24, U 25, U 26, U 27, U 28, U 29, U 30, U 31, U 32, U 33, U 34, U 35, U 36, U 37, U 38, U 39, U 40, U 41, U 42, U 43, U 44, U 45, U 46, U 47, U 48, U 49, U 50, U 51, U 52, U 53, U 54, U 55, U 56, U 57, U 58, U 59, U 60, U 61, U 62, U 63, U 64, U 65, U 66, U 67, U 68, U 69, U 70, U 71, U 72, U 73, U 74, U 75, U 76, U 77, U 78, U 79, U 80, U 81, U 82, U 83, U 84, U 85, U 86, U 87, U 88, U 89, U 90, U 91, U 92, U 93, .slice (some ⟨mb2, mo2, none⟩) nm2 cm2, .int .i64 (nm2 : Int), .int .i64 (j : Int), U 97, U 98, U 99, U 100, U 101, U 102, U 103, U 104, U 105, U 106, U 107, U 108, U 109, U 110, U 111, U 112, U 113, U 114, U 115, U 116, U 117, U 118, U 119, U 120, U 121, U 122, U 123, U 124, U 125, U 126, U 127, U 128, U 129, U 130, U 131, U 132, U 133, U 134, U 135, U 136, U 137, U 138, U 139, U 140, U 141, U 142, U 143, U 144, U 145, U 146, U 147, U 148, U 149, U 150, U 151, U 152, U 153, U 154]) ∧ h ++ [⟨true, q3, .cells (bkL b (some ⟨mb, mo, none⟩) nm cm pr nr cr).toArray 25 (0, 0)⟩, ⟨true, q4, .cells (bkL b2 (some ⟨mb2, mo2, none⟩) nm2 cm2 pr2 nr2 cr2).toArray 25 (0, 0)⟩, ⟨true, q6, .cells ([.int .i64 0, .int .i64 0, .int .i64 0, .slice none 0 0, .slice none 0 0] : List Value).toArray 25 (0, 0)⟩, ⟨true, q12, .cells [.int .i64 (min b.bend b2.bend), .int .i64 (min b.twist b2.twist), .int .i64 (min b.turns b2.turns), .slice mp (w + j) mc, .slice p2 nr c2].toArray 25 (0, 0)⟩] ++ n2 ++ M = h') _ ⟨0, _, _, _, rfl, by omega, by rw [spMarks, hat]; simpa using o1, fun i hi => by omega, exU rfl, rfl⟩ ?_
          rintro nn l h' ⟨j, mp, mc, M, rfl, hj, ho, hmt, ⟨U, rfl⟩, rfl⟩ hnext2; refine rs1 (by kernel_rfl) ?_; refine k_lssS rfl zq (fun hc => ?_) (fun hc => ?_)
          · refine k_nil ?_; refine run_seq ?_; refine run_yes ?_; refine run_skip ?_; refine run_seq ?_; refine run_block ?_; refine rs6 (by kernel_rfl) ?_; refine mq rfl ?_; refine k_ixs rfl zq (by first | rfl | assumption) (by omega) (by omega) ?_; refine k_ldN (vs := spL (b2.marks.getD j default)) rfl zq rfl (rdm2.eat j (by omega) (by omega)) ?_; refine k_new rfl zq (fun q14 => k_hp (k_put ?_)); refine k_as rfl zq ?_; refine k_stA rfl zq rfl ?_; refine k_nil ?_; refine run_seq ?_; refine rs3 (by kernel_rfl) ?_; refine mq rfl ?_; refine mq rfl ?_; refine k_lssS rfl zq (fun hc => ?_) (fun hc => ?_)
            · have hsm : (⟨max (b.marks.getD (w + j) default).lo (b2.marks.getD j default).lo, min (b.marks.getD (w + j) default).hi (b2.marks.getD j default).hi⟩ : Sp) = spMark b b2 k j := by rw [spMark, if_pos hc, hat]; rfl
              refine k_nil ?_; refine run_yes ?_; refine run_seq ?_; refine run_draw [(0, .pure), (2, .pure), (3, .pure), (4, .pure), (1, .read), (5, .pure), (6, .read), (7, .read), (8, .call), (9, .pure), (10, .pure), (11, .pure), (12, .alloc), (13, .free), (14, .pure)] (by kernel_rfl) (by kernel_rfl) (List.Sublist.refl _) ?_; first | refine k_fa0 rfl zq ?_ | refine k_fa rfl zq ?_
              refine mq rfl ?_; refine mq rfl ?_; refine k_add rfl zq (by unfold In64; omega) ?_; refine k_ldh rfl zq ?_; refine k_ixs rfl zq (by first | rfl | assumption) (by omega) (by omega) ?_; refine k_ldN (vs := spL (b.marks.getD (w + j) default)) rfl zq rfl (rdm.eat (w + j) (by omega) (by omega)) ?_; refine k_ldN (vs := spL (b2.marks.getD j default)) rfl zq rfl (rdN_has (q := q14)) ?_; refine k_calP (Post := fun v => v = .tuple [.agg [.int .i64 (max (b.marks.getD (w + j) default).lo (b2.marks.getD j default).lo), .int .i64 (min (b.marks.getD (w + j) default).hi (b2.marks.getD j default).hi)].toArray, .bool (decide (max (b.marks.getD (w + j) default).lo (b2.marks.getD j default).lo ≤ min (b.marks.getD (w + j) default).hi (b2.marks.getD j default).hi))].toArray) rfl zq (by kernel_rfl) (fun H' hH => f136_c m H' _ _ _ _) ?_; rintro v rfl; refine k_put ?_; generalize hok : decide (max (b.marks.getD (w + j) default).lo (b2.marks.getD j default).lo ≤ min (b.marks.getD (w + j) default).hi (b2.marks.getD j default).hi) = ok
              refine mq rfl ?_; refine k_ext0 rfl zq ?_; refine k_ext1 rfl zq ?_; refine k_new rfl zq (fun q15 => k_hp (k_put ?_)); refine k_stA rfl zq rfl ?_; refine aq rfl ?_; refine run_seq ?_; refine run_seq ?_; cases ok
              · refine rr2 (by kernel_rfl) ?_; refine mq rfl ?_; refine k_notF rfl zq ?_; refine k_nil ?_; refine run_yes ?_; refine rs3 (by kernel_rfl) ?_; have hS : spS0 b b2 k = 9 := by
                  have hm9 : misses b b2 k := by
                    refine ⟨j, by omega, by omega, ?_⟩
                    rw [← hsm]; have := of_decide_eq_false hok
                    show min (b.marks.getD (w + j) default).hi (b2.marks.getD j default).hi < max (b.marks.getD (w + j) default).lo (b2.marks.getD j default).lo
                    omega
                  rw [hS0, if_pos hm9]
                refine k_bld rfl zq ?_; refine k_stA rfl zq rfl ?_; refine aq rfl ?_; refine run_ret rfl ?_; refine run_res (h) rfl Tryz.func74 rfl weakSub ?_; refine hK _ _ ?_
                have hne : spS0 b b2 k ≠ 0 := by rw [hS]; first | decide | assumption
                exact ⟨[], by simp, _, by rw [spliceS, if_pos hne, hS], by rw [spliceB, if_pos hne]; exact BkR.zero⟩
              · refine rr2 (by kernel_rfl) ?_; refine mq rfl ?_; refine k_notT rfl zq ?_; refine k_nil ?_; refine run_no ?_; refine run_skip ?_; refine rr2 (by kernel_rfl) ?_; have hmeet : max (b.marks.getD (w + j) default).lo (b2.marks.getD j default).lo ≤ min (b.marks.getD (w + j) default).hi (b2.marks.getD j default).hi := of_decide_eq_true hok
                refine k_ldA rfl zq ?_; refine k_stA rfl zq rfl ?_; refine k_nil ?_; refine rr7 (by kernel_rfl) ?_; first | refine k_fa0 rfl zq ?_ | refine k_fa rfl zq ?_
                refine k_ldh rfl zq ?_; refine k_ldA rfl zq ?_; refine k_bs kdq rfl zq (by decide) (by decide) rfl (fun q123 => k_hp (k_put ?_)); refine k_app1 (F := h ++ [⟨true, q3, .cells (bkL b (some ⟨mb, mo, none⟩) nm cm pr nr cr).toArray 25 (0, 0)⟩, ⟨true, q4, .cells (bkL b2 (some ⟨mb2, mo2, none⟩) nm2 cm2 pr2 nr2 cr2).toArray 25 (0, 0)⟩, ⟨true, q6, .cells ([.int .i64 0, .int .i64 0, .int .i64 0, .slice none 0 0, .slice none 0 0] : List Value).toArray 25 (0, 0)⟩, ⟨true, q12, .cells [.int .i64 (min b.bend b2.bend), .int .i64 (min b.twist b2.twist), .int .i64 (min b.turns b2.turns), .slice mp (w + j) mc, .slice p2 nr c2].toArray 25 (0, 0)⟩] ++ n2) rfl zq rfl ho kdq (by omega) (by omega) (fun w9 n9 o9 => k_put ?_); replace o9 : OwnS 92 2 w9 (w + (j + 1)) (encs (spMarks b b2 k (j + 1))) n9 := by
                  rw [spMarks_succ, encs_append, encs_spL, ← hsm]; exact o9
                obtain ⟨p9, c9, rfl, hc9, r9⟩ := own_rdA (B := B) o9
                first | refine k_fa0 rfl zq ?_ | refine k_fa rfl zq ?_
                refine k_st1 rfl zq ?_; refine k_nil ?_; refine run_inBlock ?_; refine rr2 (by kernel_rfl) ?_; refine k_add rfl zq (by unfold In64; omega) ?_; refine mq rfl ?_; refine k_nil ?_; exact m.weak weakSub (hnext2 _ _ _ (by omega) ⟨j + 1, _, _, n9, rfl, by omega, o9, fun i hi hik => by
                  rcases Nat.lt_or_ge i j with h1 | h1
                  · exact hmt i h1 hik
                  · obtain rfl : i = j := by omega
                    rw [← hsm]; exact hmeet, exU rfl, rfl⟩)
            · have hsm : b2.marks.getD j default = spMark b b2 k j := by rw [spMark, if_neg (by omega)]
              refine k_nil ?_; refine run_no ?_; refine run_skip ?_; refine rr7 (by kernel_rfl) ?_; first | refine k_fa0 rfl zq ?_ | refine k_fa rfl zq ?_
              refine k_ldh rfl zq ?_; refine k_ldA rfl zq ?_; refine k_bs kdq rfl zq (by decide) (by decide) rfl (fun q123 => k_hp (k_put ?_)); refine k_app1 (F := h ++ [⟨true, q3, .cells (bkL b (some ⟨mb, mo, none⟩) nm cm pr nr cr).toArray 25 (0, 0)⟩, ⟨true, q4, .cells (bkL b2 (some ⟨mb2, mo2, none⟩) nm2 cm2 pr2 nr2 cr2).toArray 25 (0, 0)⟩, ⟨true, q6, .cells ([.int .i64 0, .int .i64 0, .int .i64 0, .slice none 0 0, .slice none 0 0] : List Value).toArray 25 (0, 0)⟩, ⟨true, q12, .cells [.int .i64 (min b.bend b2.bend), .int .i64 (min b.twist b2.twist), .int .i64 (min b.turns b2.turns), .slice mp (w + j) mc, .slice p2 nr c2].toArray 25 (0, 0)⟩] ++ n2) rfl zq rfl ho kdq (by omega) (by omega) (fun w9 n9 o9 => k_put ?_); replace o9 : OwnS 92 2 w9 (w + (j + 1)) (encs (spMarks b b2 k (j + 1))) n9 := by
                rw [spMarks_succ, encs_append, encs_spL, ← hsm]; exact o9
              obtain ⟨p9, c9, rfl, hc9, r9⟩ := own_rdA (B := B) o9
              first | refine k_fa0 rfl zq ?_ | refine k_fa rfl zq ?_
              refine k_st1 rfl zq ?_; refine k_nil ?_; refine run_inBlock ?_; refine rr2 (by kernel_rfl) ?_; refine k_add rfl zq (by unfold In64; omega) ?_; refine mq rfl ?_; refine k_nil ?_; exact m.weak weakSub (hnext2 _ _ _ (by omega) ⟨j + 1, _, _, n9, rfl, by omega, o9, fun i hi hik => by
                rcases Nat.lt_or_ge i j with h1 | h1
                · exact hmt i h1 hik
                · omega, exU rfl, rfl⟩)
          · refine k_nil ?_; refine run_seq ?_; refine run_no ?_; refine run_exit rfl ?_; refine run_seq ?_; refine rs4 (by kernel_rfl) ?_; obtain rfl : j = nm2 := by omega
            have hS : spS0 b b2 k = 0 := by
              rw [hS0, if_neg]; rintro ⟨i, h1, h2, h3⟩; have := hmt i (by omega) h1
              omega
            first | refine k_fa0 rfl zq ?_ | refine k_fa rfl zq ?_
            refine k_ldh rfl zq ?_; refine k_len rfl zq ?_; refine mq rfl ?_; refine k_nil ?_; refine run_block ?_; refine m.weak (h' := h ++ [⟨true, q6, .cells ([.int .i64 0, .int .i64 0, .int .i64 0, .slice none 0 0, .slice none 0 0] : List Value).toArray 25 (0, 0)⟩, ⟨true, q12, .cells [.int .i64 (min b.bend b2.bend), .int .i64 (min b.twist b2.twist), .int .i64 (min b.turns b2.turns), .slice mp (w + j) mc, .slice p2 nr c2].toArray 25 (0, 0)⟩] ++ n2 ++ M) weakSub ?_
            refine m.weak weak_swap ?_
            refine run_loop (fun nn l h' => ∃ (t : Nat) (rp : Option Addr) (rc : Nat) (R : Hp), nn = nr2 - t ∧ (t ≤ nr2) ∧ (OwnS 94 4 (.slice rp (nr + t) rc) (nr + t) (encs (spRules b b2 k t)) R) ∧ (∃ U : Nat → Value, l = [U 0, U 1, .int .i64 k, U 3, U 4, U 5, .pointer (some ⟨q6, 0, none⟩), U 7, U 8, U 9, U 10, .int .i64 (w : Int), .pointer (some ⟨q12, 0, none⟩), U 13, U 14, U 15, U 16, U 17, U 18, U 19, U 20, U 21, U 22, U 23, U 24, U 25, U 26, U 27, U 28, U 29, U 30, U 31, U 32, U 33, U 34, U 35, U 36, U 37, U 38, U 39, U 40, U 41, U 42, U 43, U 44, U 45, U 46, U 47, U 48, U 49, U 50, U 51, U 52, U 53, U 54, U 55, U 56, U 57, U 58, U 59, U 60, U 61, U 62, U 63, U 64, U 65, U 66, U 67, U 68, U 69, U 70, U 71, U 72, U 73, U 74, U 75, U 76, U 77, U 78, U 79, U 80, U 81, U 82, U 83, U 84, U 85, U 86, U 87, U 88, U 89, U 90, U 91, U 92, U 93, U 94, U 95, U 96, U 97, U 98, U 99, U 100, U 101, U 102, U 103, U 104, U 105, U 106, U 107, U 108, U 109, U 110, U 111, U 112, U 113, U 114, U 115, U 116, U 117, U 118, U 119, U 120, U 121, U 122, U 123, U 124, U 125, U 126, U 127, .slice pr2 nr2 cr2, .int .i64 (nr2 : Int), .int .i64 (t : Int), U 131, U 132, U 133, U 134, U 135, U 136, U 137, U 138, U 139, U 140, U 141, U 142, U 143, U 144, U 145, U 146, U 147, U 148, U 149, U 150, U 151, U 152, U 153, U 154]) ∧ h ++ [⟨true, q6, .cells ([.int .i64 0, .int .i64 0, .int .i64 0, .slice none 0 0, .slice none 0 0] : List Value).toArray 25 (0, 0)⟩, ⟨true, q12, .cells [.int .i64 (min b.bend b2.bend), .int .i64 (min b.twist b2.twist), .int .i64 (min b.turns b2.turns), .slice mp (w + j) mc, .slice rp (nr + t) rc].toArray 25 (0, 0)⟩] ++ M ++ R = h') _ ⟨0, _, _, _, rfl, by omega, by rw [spRules]; simpa using o2, exU rfl, rfl⟩ ?_; rintro nn l h' ⟨t, rp, rc, R, rfl, ht, hor, ⟨U, rfl⟩, rfl⟩ hnext3; refine rs1 (by kernel_rfl) ?_; refine k_lssS rfl zq (fun hc => ?_) (fun hc => ?_)
            · refine k_nil ?_; refine run_seq ?_; refine run_yes ?_; refine run_skip ?_; refine run_seq ?_; refine run_block ?_; refine rs4 (by kernel_rfl) ?_; obtain ⟨rb2, ro2, rfl⟩ := rdr2.ptr (by omega)
              refine k_ixs rfl zq (by first | rfl | assumption) (by omega) (by omega) ?_; refine k_ldN (vs := ruL (b2.rules.getD t default)) rfl zq rfl (rdr2.eat t (by omega) (by omega)) ?_; refine k_new rfl zq (fun q18 => k_hp (k_put ?_)); refine k_stA rfl zq rfl ?_; refine k_nil ?_; refine run_region [(0, .free), (1, .free), (2, .free), (3, .free), (4, .free), (5, .free), (6, .free), (7, .free), (8, .free), (9, .free), (10, .free), (11, .free), (12, .free), (13, .free), (14, .free), (15, .free), (16, .free)] (by kernel_rfl) (by kernel_rfl) ?_; have hrj := hv2.rules _ (mem_getDR.2 ⟨t, by omega, rfl⟩)
              first | refine k_fa0 rfl zq ?_ | refine k_fa rfl zq ?_
              refine k_ldh rfl zq ?_; first | refine k_fa0 rfl zq ?_ | refine k_fa rfl zq ?_
              refine k_ldh rfl zq ?_; refine mq rfl ?_; refine k_add rfl zq (by unfold In64; omega) ?_; first | refine k_fa0 rfl zq ?_ | refine k_fa rfl zq ?_
              refine k_ldh rfl zq ?_; refine mq rfl ?_; refine k_add rfl zq (by unfold In64; omega) ?_; first | refine k_fa0 rfl zq ?_ | refine k_fa rfl zq ?_
              refine k_ldA rfl zq ?_; refine k_bld rfl zq ?_; refine k_bs kdq rfl zq (by decide) (by decide) rfl (fun q147 => k_hp (k_put ?_)); refine k_app1 (F := h ++ [⟨true, q6, .cells ([.int .i64 0, .int .i64 0, .int .i64 0, .slice none 0 0, .slice none 0 0] : List Value).toArray 25 (0, 0)⟩, ⟨true, q12, .cells [.int .i64 (min b.bend b2.bend), .int .i64 (min b.twist b2.twist), .int .i64 (min b.turns b2.turns), .slice mp (w + j) mc, .slice rp (nr + t) rc].toArray 25 (0, 0)⟩] ++ M) rfl zq rfl hor kdq (by omega) (by omega) (fun w9 n9 o9 => k_put ?_); replace o9 : OwnS 94 4 w9 (nr + (t + 1)) (encs (spRules b b2 k (t + 1))) n9 := by
                rw [spRules_succ _ _ _ _ (by omega), encs_append, encs_ruL, hat]; exact o9
              obtain ⟨p9, c9, rfl, hc9, r9⟩ := own_rdA (B := B) o9
              first | refine k_fa0 rfl zq ?_ | refine k_fa rfl zq ?_
              refine k_st1 rfl zq ?_; refine k_nil ?_; refine run_inBlock ?_; refine rr2 (by kernel_rfl) ?_; refine k_add rfl zq (by unfold In64; omega) ?_; refine mq rfl ?_; refine k_nil ?_; exact m.weak weakSub (hnext3 _ _ _ (by omega) ⟨t + 1, _, _, n9, rfl, by omega, o9, exU rfl, rfl⟩)
            · refine k_nil ?_; refine run_seq ?_; refine run_no ?_; refine run_exit rfl ?_; refine rs6 (by kernel_rfl) ?_; obtain rfl : t = nr2 := by omega
              have hspm : (spB b b2 k).marks = spMarks b b2 k j := by rw [spB, hml2]
              have hspr : (spB b b2 k).rules = spRules b b2 k t := by rw [spB, hrl2]
              rw [← hspm] at ho
              rw [← hspr] at hor
              have rM : RdS B M 2 (.slice mp (w + j) mc) (w + j) (encs (spB b b2 k).marks) := ho.rd (List.Sublist.refl _)
              have rR : RdS B R 4 (.slice rp (nr + t) rc) (nr + t) (encs (spB b b2 k).rules) := hor.rd (List.Sublist.refl _)
              refine k_ldA rfl zq ?_; refine k_calC rfl zq (by kernel_rfl) (fun H' hH => f137_c m H' (b := spB b b2 k) (rM.keeps (sq hH)) (by omega) (rR.keeps (sq hH)) (by omega)) ?_; rintro v n5 ⟨w5, rfl, pm5, nm5, cm5, pr5, nr5, cr5, rfl, hb5⟩; refine k_hpA (k_put ?_); refine k_ext0 rfl zq ?_; refine k_ext1 rfl zq ?_; refine k_stA rfl zq rfl ?_; refine aq rfl ?_; refine run_ret rfl ?_; refine run_res (h ++ n5) rfl Tryz.func74 rfl weakSub ?_; refine hK _ _ ?_
              exact ⟨n5, rfl, _, by rw [spliceS, if_neg (fun e => e hS)], by rw [spliceB, if_neg (fun e => e hS)]; exact ⟨_, _, _, _, _, _, rfl, hb5⟩⟩
    · refine k_put ?_; refine k_notF rfl zq ?_; refine aq rfl ?_; refine run_yes ?_; refine rs3 (by kernel_rfl) ?_; have hS : spS0 b b2 k = 1 := by rw [hS0, if_pos (by omega)]
      refine k_bld rfl zq ?_; refine k_stA rfl zq rfl ?_; refine aq rfl ?_; refine run_ret rfl ?_; refine run_res (h) rfl Tryz.func74 rfl weakSub ?_; refine hK _ _ ?_
      have hne : spS0 b b2 k ≠ 0 := by rw [hS]; first | decide | assumption
      exact ⟨[], by simp, _, by rw [spliceS, if_pos hne, hS], by rw [spliceB, if_pos hne]; exact BkR.zero⟩
end Go.Proofs
namespace Go.Lo
open Go.Conc (G)
section
variable {P : Program} {B : Array Obj} {h : Hp}
theorem reads_partS {e : TypeId} {cs : Array Value} {o : Nat} {v : Value} [Scal P e] (hv : cs[o]? = some v) : Reads P B (part e cs o) h v := by
  unfold part
  refine Reads.bind und_scal ?_
  simp only [hv]
  exact Reads.pure _
def keyB (P : Program) (t : TypeId) : Bool := match P.underlying t with
  | some (.struct fs) => (match fs.toList with
    | [f, g] => f.offset == 0 && g.offset == 1 && f.name != "_" && g.name != "_" && scalB P f.type && scalB P g.type && (match P.underlying f.type with | some (.int .i64) => true | _ => false) && (match P.underlying g.type with | some (.int .i64) => true | _ => false)
    | _ => false) && !P.stoodInHeld t
  | _ => false
class KeyT (P : Program) (t : TypeId) : Prop where
  eq : keyB P t = true
theorem KeyT.spec {t : TypeId} [k : KeyT P t] : ∃ f g : Field, P.underlying t = some (.struct #[f, g]) ∧ f.offset = 0 ∧ g.offset = 1 ∧ f.name ≠ "_" ∧ g.name ≠ "_" ∧ Scal P f.type ∧ Scal P g.type ∧ P.underlying f.type = some (.int .i64) ∧ P.underlying g.type = some (.int .i64) ∧ P.stoodInHeld t = false := by
  have := k.eq
  unfold keyB at this
  split at this
  · rename_i fs hu
    rw [Bool.and_eq_true] at this
    obtain ⟨h1, h2⟩ := this
    split at h1
    · rename_i f g hfs
      simp only [Bool.and_eq_true, beq_iff_eq, bne_iff_ne, ne_eq] at h1
      obtain ⟨⟨⟨⟨⟨⟨⟨a1, a2⟩, a3⟩, a4⟩, a5⟩, a6⟩, a7⟩, a8⟩ := h1
      refine ⟨f, g, ?_, a1, a2, a3, a4, ⟨a5⟩, ⟨a6⟩, ?_, ?_, by simpa using h2⟩
      · rw [hu]; congr 2; exact Array.ext' (by rw [hfs])
      · split at a7
        · assumption
        · cases a7
      · split at a8
        · assumption
        · cases a8
    · cases h1
  · cases this
def keyV (s x : Int) : Value := .agg [.int .i64 s, .int .i64 x].toArray
theorem reads_eqK (dd : Nat) {t : TypeId} [KeyT P t] (a b c d : Int) : Reads P B (Op.equalIn (dd + 2) t (keyV a b) (keyV c d)) h (a == c && b == d) := by
  obtain ⟨f, g, hu, o1, o2, n1, n2, s1, s2, u1, u2, hs⟩ := KeyT.spec (P := P) (t := t)
  unfold Op.equalIn
  refine Reads.bind (still_und hu).reads ?_
  simp only [keyV]
  refine Reads.bind Reads.program' ?_
  simp only [hs, Bool.false_eq_true, if_false, pure_bind]
  rw [← Array.forIn_toList]; simp only [List.forIn_cons, List.forIn_nil, n1, n2, ne_eq, not_false_eq_true, if_true, o1, o2, bind_assoc]
  refine Reads.bind (reads_partS (v := .int .i64 a) rfl) (Reads.bind (reads_partS (v := .int .i64 c) rfl) (Reads.bind (reads_eqi dd u1 a c) ?_))
  cases hab : (a == c)
  · simp only [Bool.not_false, if_true, pure_bind, Bool.false_and]; exact Reads.pure _
  · simp only [Bool.not_true, Bool.false_eq_true, if_false, pure_bind, Bool.true_and, bind_assoc]
    refine Reads.bind (reads_partS (v := .int .i64 b) rfl) (Reads.bind (reads_partS (v := .int .i64 d) rfl) (Reads.bind (reads_eqi dd u2 b d) ?_))
    cases hbd : (b == d)
    · simp only [Bool.not_false, if_true, pure_bind]; exact Reads.pure _
    · simp only [Bool.not_true, Bool.false_eq_true, if_false, pure_bind]; exact Reads.pure _
theorem reads_check (dd : Nat) {e : Bool} {t : TypeId} [KeyT P t] (a b : Int) : Reads P B (Instr.checkKey e (dd + 2) t (keyV a b)) h () := by
  obtain ⟨f, g, hu, o1, o2, n1, n2, s1, s2, u1, u2, hs⟩ := KeyT.spec (P := P) (t := t)
  have one : ∀ (t : TypeId) (n : Int), P.underlying t = some (.int .i64) → Reads P B (Instr.checkKey e (dd + 1) t (.int .i64 n)) h () := fun t n ht => by
    unfold Instr.checkKey
    refine Reads.bind (still_und ht).reads ?_
    exact Reads.pure _
  unfold Instr.checkKey
  refine Reads.bind (still_und hu).reads ?_
  simp only [keyV]
  rw [← Array.forIn_toList]; simp only [List.forIn_cons, List.forIn_nil, n1, n2, ne_eq, not_false_eq_true, if_true, o1, o2, bind_assoc, pure_bind]
  refine Reads.bind (reads_partS (v := .int .i64 a) rfl) (Reads.bind (one _ _ u1) ?_)
  refine Reads.bind (reads_partS (v := .int .i64 b) rfl) (Reads.bind (one _ _ u2) ?_)
  exact Reads.pure _
def entsF : List (Int × Int × Int) → Nat → List MapEntry
  | [], _ => []
  | e :: r, b => ⟨keyV e.1 e.2.1, .int .i64 e.2.2, b⟩ :: entsF r (b + 1)
def mapO (l : List (Int × Int × Int)) : Obj := .map (entsF l 0).toArray l.length
def findE (s x : Int) : List (Int × Int × Int) → Nat → Option (Nat × Int)
  | [], _ => none
  | e :: r, i => if e.1 = s ∧ e.2.1 = x then some (i, e.2.2) else findE s x r (i + 1)
def cntE (l : List (Int × Int × Int)) (s x : Int) : Int := match findE s x l 0 with | some (_, n) => n | none => 0
def bumpE (l : List (Int × Int × Int)) (s x : Int) (n : Int) : List (Int × Int × Int) := match findE s x l 0 with | some (i, _) => l.set i (s, x, n) | none => l ++ [(s, x, n)]
def haveE (l : List (Int × Int × Int)) (s x : Int) : List (Int × Int × Int) := match findE s x l 0 with | some _ => l | none => l ++ [(s, x, 0)]
def posE (l : List (Int × Int × Int)) (s x : Int) : Nat := match findE s x l 0 with | some (i, _) => i | none => l.length
theorem reads_find {t : TypeId} [KeyT P t] (s x : Int) : ∀ (l : List (Int × Int × Int)) (b i : Nat), Reads P B (Instr.findAsking t (keyV s x) (entsF l b) i) h ((findE s x l i).map fun p => (p.1, .int .i64 p.2))
  | [], _, _ => Reads.pure _
  | e :: r, b, i => by
    unfold entsF Instr.findAsking findE
    refine Reads.bind (reads_eqK 9998 s x e.1 e.2.1) ?_
    by_cases hk : e.1 = s ∧ e.2.1 = x
    · rw [if_pos hk, if_pos (by simp [hk.1, hk.2])]; exact Reads.pure _
    · rw [if_neg hk, if_neg (by simp; exact fun a b => hk ⟨a.symm, b.symm⟩)]; exact reads_find s x r (b + 1) (i + 1)
theorem reads_findKey {t : TypeId} [KeyT P t] (s x : Int) (l : List (Int × Int × Int)) : Reads P B (Instr.findKey t (keyV s x) (entsF l 0)) h ((findE s x l 0).map fun p => (p.1, .int .i64 p.2)) := by
  obtain ⟨f, g, hu, _⟩ := KeyT.spec (P := P) (t := t)
  unfold Instr.findKey
  refine Reads.bind (still_und hu).reads ?_
  cases l with
  | nil => exact Reads.pure _
  | cons e r =>
    show Reads P B (match Instr.findNow (.struct #[f, g]) (keyV s x) (entsF (e :: r) 0) 0 with | some r => pure r | none => _) h _
    have : Instr.findNow (.struct #[f, g]) (keyV s x) (entsF (e :: r) 0) 0 = none := by
      unfold entsF Instr.findNow
      simp [Instr.sameNow]
    rw [this]; exact reads_find s x _ _ _
theorem entsF_get : ∀ (l : List (Int × Int × Int)) (b j : Nat), (entsF l b)[j]? = (l[j]?).map fun e => ⟨keyV e.1 e.2.1, .int .i64 e.2.2, b + j⟩
  | [], _, _ => by simp [entsF]
  | e :: r, b, 0 => by simp [entsF]
  | e :: r, b, j + 1 => by simp [entsF, entsF_get r (b + 1) j, Nat.add_assoc, Nat.add_comm 1 j]
theorem entsF_append : ∀ (l r : List (Int × Int × Int)) (b : Nat), entsF (l ++ r) b = entsF l b ++ entsF r (b + l.length)
  | [], r, b => by simp [entsF]
  | e :: l, r, b => by simp [entsF, entsF_append l r (b + 1), Nat.add_assoc, Nat.add_comm 1]
theorem findE_some (s x : Int) : ∀ (l : List (Int × Int × Int)) (i j : Nat) (n : Int), findE s x l i = some (j, n) → ∃ p, j = i + p ∧ l[p]? = some (s, x, n)
  | [], _, _, _, h => by simp [findE] at h
  | e :: r, i, j, n, h => by
    unfold findE at h
    split at h
    · rename_i hk
      obtain ⟨rfl, rfl⟩ := Prod.mk.inj (Option.some.inj h)
      obtain ⟨e1, e2, e3⟩ := e
      obtain ⟨rfl, rfl⟩ := hk
      exact ⟨0, rfl, rfl⟩
    · obtain ⟨p, rfl, hp⟩ := findE_some s x r (i + 1) j n h
      exact ⟨p + 1, by omega, by simpa using hp⟩
theorem findE_none (s x : Int) : ∀ (l : List (Int × Int × Int)) (i : Nat), findE s x l i = none → ∀ e ∈ l, ¬ (e.1 = s ∧ e.2.1 = x)
  | [], _, _, _, h => by simp at h
  | e :: r, i, h, e', he => by
    unfold findE at h
    split at h
    · cases h
    · rcases List.mem_cons.1 he with rfl | he
      · assumption
      · exact findE_none s x r (i + 1) h e' he
theorem entsF_set (l : List (Int × Int × Int)) (j : Nat) (s x n v : Int) (hj : l[j]? = some (s, x, n)) : (entsF l 0).toArray.modify j (fun e => { e with val := .int .i64 v }) = (entsF (l.set j (s, x, v)) 0).toArray := by
  apply Array.ext_getElem?
  intro i
  rw [Array.getElem?_modify, List.getElem?_toArray, List.getElem?_toArray, entsF_get, entsF_get, List.getElem?_set]; by_cases e : j = i
  · subst e
    have hlt := (List.getElem?_eq_some_iff.1 hj).1
    have hg := (List.getElem?_eq_some_iff.1 hj).2
    simp [hlt, hg]
  · simp [e]
theorem entsF_same (l : List (Int × Int × Int)) (j : Nat) (s x n : Int) (hj : l[j]? = some (s, x, n)) : (entsF l 0).toArray.modify j (fun e => { e with key := keyV s x }) = (entsF l 0).toArray := by
  apply Array.ext_getElem?
  intro i
  rw [Array.getElem?_modify, List.getElem?_toArray, entsF_get]; by_cases e : j = i
  · subst e; simp [hj]
  · simp [e]
theorem findIdx_born : ∀ (l : List (Int × Int × Int)) (b p : Nat), p < l.length → (entsF l b).findIdx? (fun e => (e.born : Int) == ((b + p : Nat) : Int)) = some p
  | [], _, _, h => by simp at h
  | e :: r, b, 0, _ => by rw [entsF, List.findIdx?_cons, if_pos (by simp)]
  | e :: r, b, p + 1, h => by
    have ih := findIdx_born r (b + 1) p (by simpa using h)
    unfold entsF
    rw [List.findIdx?_cons, if_neg (by simp; omega), show b + (p + 1) = (b + 1) + p by omega, ih]; rfl
end
section
variable {P : Program} {B : Array Obj} {m : Md P B} {ops : Array Oper} {l l' : List Value} {S h h' H : Hp} {C : List Value → Hp → Prop} {i : Nat} {kd : Kd} {r : List (Nat × Kd)}
  {d : Option Tmp} {ty : TypeId} {pos : String} {af : Array Edge} {g : Option (Nat × Bool)}
theorem k_mkmap {t : TypeId} (ho : ops[i]? = some ⟨d, .makeMap t none, ty, pos, af, g⟩) (hw : Wt ops l g) (n : ∀ q, RegK m S ops r (put l d (.map (some q))) (h ++ [⟨true, q, mapO []⟩]) C) : RegK m S ops ((i, .free) :: r) l h C := by
  refine RegK.ke (.inr rfl) ho hw ?_
  simp only [execOp]
  refine Tri.bind ?_
  unfold Instr.makeMap
  simp only [Option.map_none]
  refine Tri.bind (tri_new fun q _ _ => Tri.pure (Tri.pure ⟨.inl (by trivial), n q⟩))
theorem k_lookup {t k e q : Nat} {x y : Operand} {rw : Bool} {s v : Int} {es : List (Int × Int × Int)} (ht : P.underlying t = some (.map k e)) (ho : ops[i]? = some ⟨d, .lookup t x y false, ty, pos, af, g⟩) (hw : Wt ops l g) [KHeap kd S h H] [ex : OpV l x (.map (some q))] [ey : OpV l y (.agg [.int .i64 s, .int .i64 v].toArray)]
    [hq : Has H q rw (mapO es)] [KeyT P k] [ZeroT P e (.int .i64 0)] [PutV l d (.int .i64 (cntE es s v)) l'] (n : RegK m S ops r l' h C) : RegK m S ops ((i, kd) :: r) l h C :=
  RegK.rd (v := .int .i64 (cntE es s v)) ho hw (by
    simp only [execOp, ex.eq, ey.eq]
    refine Reads.value ?_
    unfold Instr.lookup
    refine Reads.bind (still_und ht).reads ?_
    dsimp only
    refine Reads.bind (reads_obj hq.mem rfl) ?_
    dsimp only [mapO]
    refine Reads.bind (Reads.pure _) ?_
    refine Reads.bind (reads_check 9998 s v) ?_
    refine Reads.bind (reads_findKey (t := k) s v es) ?_
    unfold cntE
    cases findE s v es 0 with
    | none => exact Reads.bind reads_zero (Reads.pure _)
    | some p => exact Reads.pure _) n
theorem k_mapEntry {t k e q : Nat} {x y : Operand} {s v : Int} {es : List (Int × Int × Int)} {rw : Bool} (ht : P.underlying t = some (.map k e)) (ho : ops[i]? = some ⟨d, .mapEntry t x y, ty, pos, af, g⟩) (hw : Wt ops l g) [ex : OpV l x (.map (some q))] [ey : OpV l y (.agg [.int .i64 s, .int .i64 v].toArray)]
    [hq : Has h q rw (mapO es)] [u : Upd h q (mapO (haveE es s v)) h'] [KeyT P k] [ZeroT P e (.int .i64 0)] (n : RegK m S ops r (put l d (.tuple [.int .i64 (cntE es s v), .int .i64 (posE es s v)].toArray)) h' C) : RegK m S ops ((i, .free) :: r) l h C := by
  obtain ⟨o1, h1, h2, e1, e2⟩ := u.ex
  refine RegK.ke (.inr rfl) ho hw ?_
  refine tri_upd hq.mem ⟨o1, h1, h2, e1, rfl⟩ ?_
  simp only [execOp, ex.eq, ey.eq]
  refine Tri.bind ?_
  unfold Instr.mapEntry
  refine Tri.bind ((still_und ht).reads.tri ?_)
  refine Tri.bind ((reads_obj (o := mapO es) (rw := true) (by simp) rfl).tri ?_)
  refine Tri.bind ((reads_check 9998 s v).tri ?_)
  refine Tri.bind ((reads_findKey (t := k) s v es).tri ?_)
  cases hf : findE s v es 0 with
  | none =>
    have e3 : haveE es s v = es ++ [(s, v, 0)] := by simp only [haveE, hf]
    have e4 : posE es s v = es.length := by simp only [posE, hf]
    have e5 : cntE es s v = 0 := by simp only [cntE, hf]
    simp only [Option.map_none]
    refine Tri.bind (reads_zero.tri ?_)
    refine Tri.bind (tri_setObj rfl rfl ?_)
    refine Tri.pure (Tri.pure ⟨.inl (by trivial), ?_⟩)
    have : (Obj.map ((entsF es 0).toArray.push { key := keyV s v, val := .int .i64 0, born := es.length }) (es.length + 1)) = mapO (haveE es s v) := by
      rw [e3, mapO, entsF_append]; simp [entsF]
    rw [e4, e5] at n
    show RegK m S ops r _ (h1 ++ ⟨true, q, Obj.map ((entsF es 0).toArray.push { key := keyV s v, val := .int .i64 0, born := es.length }) (es.length + 1)⟩ :: h2) C
    rw [this, ← e2]; exact n
  | some p =>
    obtain ⟨p, c⟩ := p
    obtain ⟨p', hp, hget⟩ := findE_some s v es 0 p c hf
    rw [Nat.zero_add] at hp
    subst hp
    have e3 : haveE es s v = es := by simp only [haveE, hf]
    have e4 : posE es s v = p := by simp only [posE, hf]
    have e5 : cntE es s v = c := by simp only [cntE, hf]
    have hold : (((entsF es 0).toArray[p]?).map (·.key)).getD (keyV s v) = keyV s v := by
      rw [List.getElem?_toArray, entsF_get, hget]; rfl
    have hborn : (((entsF es 0).toArray[p]?).map (fun x => (x.born : Int))).getD 0 = p := by
      rw [List.getElem?_toArray, entsF_get, hget]; simp
    simp only [Option.map_some]
    refine Tri.bind ?_
    have key : ∀ (Q : Value → Hp → Prop) (hh : Hp), Q (keyV s v) hh → Tri P B (Instr.keyThatStays (((entsF es 0).toArray[p]?.map (·.key)).getD (keyV s v)) (keyV s v)) hh Q := by
      intro Q hh hQ
      rw [hold]; unfold Instr.keyThatStays
      split
      · exact Tri.pure hQ
      · refine Tri.bind (tri_choose rfl fun z => Tri.pure ?_)
        split <;> exact hQ
    refine key _ _ ?_
    refine Tri.bind (tri_setObj rfl rfl ?_)
    refine Tri.pure (Tri.pure ⟨.inl (by trivial), ?_⟩)
    have : (Obj.map ((entsF es 0).toArray.modify p fun e => { e with key := keyV s v }) es.length) = mapO (haveE es s v) := by
      rw [e3, entsF_same es p s v c hget]; rfl
    show RegK m S ops r (put l d (.tuple #[.int .i64 c, goInt (((entsF es 0).toArray[p]?.map (fun x => (x.born : Int))).getD 0)])) (h1 ++ ⟨true, q, Obj.map ((entsF es 0).toArray.modify p fun e => { e with key := keyV s v }) es.length⟩ :: h2) C
    rw [this, ← e2, hborn]; rw [e4, e5] at n
    exact n
theorem k_entryStore {t q p : Nat} {x y z : Operand} {s v c w : Int} {es : List (Int × Int × Int)} {rw : Bool} (ho : ops[i]? = some ⟨none, .entryStore t x y z, ty, pos, af, g⟩) (hw : Wt ops l g) [ex : OpV l x (.map (some q))] [ey : OpV l y (.int .i64 (p : Int))] [ez : OpV l z (.int .i64 w)]
    [hq : Has h q rw (mapO es)] (hp : es[p]? = some (s, v, c)) [u : Upd h q (mapO (es.set p (s, v, w))) h'] (n : RegK m S ops r l h' C) : RegK m S ops ((i, .free) :: r) l h C := by
  obtain ⟨o1, h1, h2, e1, e2⟩ := u.ex
  refine RegK.ke (.inr rfl) ho hw ?_
  refine tri_upd hq.mem ⟨o1, h1, h2, e1, rfl⟩ ?_
  simp only [execOp, ex.eq, ey.eq, ez.eq]
  refine Tri.bind ?_
  unfold Instr.entryStore
  refine Tri.bind ((reads_obj (o := mapO es) (rw := true) (by simp) rfl).tri ?_)
  refine Tri.bind (Tri.pure (a := (p : Int)) ?_)
  have hi := findIdx_born es 0 p (List.getElem?_eq_some_iff.1 hp).1
  rw [Nat.zero_add] at hi
  have hi' : (entsF es 0).toArray.findIdx? (fun e => (e.born : Int) == (p : Int)) = some p := by simpa using hi
  simp only [mapO, hi']
  refine tri_setObj rfl rfl ?_
  refine Tri.pure ⟨.inl (by trivial), ?_⟩
  rw [entsF_set es p s v c w hp]; have : (Obj.map (entsF (es.set p (s, v, w)) 0).toArray es.length) = mapO (es.set p (s, v, w)) := by simp [mapO]
  rw [this, ← e2]; exact n
theorem tri_mapNext {n : Nat} {Q : Nat → Hp → Prop} (hn : 0 < n) (q : ∀ t, t < n → Q t h) : Tri P B (choose (.mapNext n)) h Q := by
  by_cases e : n ≤ 1
  · exact (show Reads P B (choose (.mapNext n)) h 0 from fun w _ => ⟨by simp [choose, Sem.run, Question.forced, e], by simp [choose, Sem.events, Sem.runT, Question.forced, e]⟩).tri (q 0 hn)
  · exact tri_choose (by simp [Question.forced, e]) fun t => q _ (Nat.mod_lt _ hn)
def iterO (mq n : Nat) (sn : List Nat) : Obj := .mapIter (some mq) n sn.toArray n
theorem k_range {t k e mq : Nat} {x : Operand} {rw : Bool} {es : List (Int × Int × Int)} (ht : P.underlying t = some (.map k e)) (ho : ops[i]? = some ⟨d, .range t x, ty, pos, af, g⟩) (hw : Wt ops l g) [ex : OpV l x (.map (some mq))] [hq : Has h mq rw (mapO es)]
    (n : ∀ q, RegK m S ops r (put l d (.pointer (some ⟨q, 0, none⟩))) (h ++ [⟨true, q, iterO mq es.length []⟩]) C) : RegK m S ops ((i, .free) :: r) l h C := by
  refine RegK.ke (.inr rfl) ho hw ?_
  simp only [execOp, ex.eq]
  refine Tri.bind ?_
  unfold Instr.range
  refine Tri.bind ((still_und ht).reads.tri ?_)
  dsimp only
  refine Tri.bind ((reads_obj hq.mem rfl).tri ?_)
  dsimp only [mapO]
  refine Tri.bind (Tri.pure ?_)
  refine Tri.bind (tri_new fun q _ _ => Tri.pure (Tri.pure ⟨.inl (by trivial), n q⟩))
theorem entsF_mem {es : List (Int × Int × Int)} {e : MapEntry} (h : e ∈ entsF es 0) : ∃ p, p < es.length ∧ e = ⟨keyV (es.getD p default).1 (es.getD p default).2.1, .int .i64 (es.getD p default).2.2, p⟩ := by
  obtain ⟨p, hp⟩ := List.mem_iff_getElem?.1 h
  rw [entsF_get] at hp
  cases hg : es[p]? with
  | none => rw [hg] at hp; cases hp
  | some a =>
    rw [hg] at hp
    refine ⟨p, (List.getElem?_eq_some_iff.1 hg).1, ?_⟩
    rw [List.getD_eq_getElem?_getD, hg]; simpa using hp.symm
theorem k_next {mq q : Nat} {x : Operand} {rw rw' : Bool} {es : List (Int × Int × Int)} {sn : List Nat} {h' : Nat → Hp} (ho : ops[i]? = some ⟨d, .next x false, ty, pos, af, g⟩) (hw : Wt ops l g) [ex : OpV l x (.pointer (some ⟨q, 0, none⟩))] [hm : Has h mq rw (mapO es)]
    [hq : Has h q rw' (iterO mq es.length sn)] [u : ∀ p, Upd h q (iterO mq es.length (sn ++ [p])) (h' p)] (done : (∀ p, p < es.length → p ∈ sn) → RegK m S ops r (put l d (.tuple [.bool false].toArray)) h C)
    (more : ∀ p, p < es.length → p ∉ sn → RegK m S ops r (put l d (.tuple [.bool true, .agg [.int .i64 (es.getD p default).1, .int .i64 (es.getD p default).2.1].toArray, .int .i64 (es.getD p default).2.2].toArray)) (h' p) C) : RegK m S ops ((i, .free) :: r) l h C := by
  refine RegK.ke (.inr rfl) ho hw ?_
  simp only [execOp, ex.eq]
  refine Tri.bind ?_
  unfold Instr.next
  refine Tri.bind ((reads_obj hq.mem rfl).tri ?_)
  dsimp only [iterO]
  refine Tri.bind ((reads_obj hm.mem rfl).tri ?_)
  dsimp only [mapO]
  have hun : (!sn.toArray.isEmpty && !(entsF es 0).toArray.isEmpty && (entsF es 0).toArray.all fun e => decide (e.born ≥ es.length)) = false := by
    cases es with
    | nil => simp [entsF]
    | cons a r => simp [entsF]
  rw [hun]; simp only [Bool.false_eq_true, if_false, pure_bind]
  have hold : ∀ (A : Array MapEntry), (∀ e ∈ A, e.born < es.length) → A.filter (fun e => decide (e.born < es.length)) = A ∧ A.filter (fun e => decide (e.born ≥ es.length)) = #[] := fun A hA => by
    constructor
    · rw [Array.filter_eq_self]; intro e he; simpa using hA e he
    · rw [Array.filter_eq_empty_iff]; intro e he; have := hA e he; simp; omega
  have hleft : ∀ e ∈ (entsF es 0).toArray.filter (fun e => !sn.toArray.contains e.born), ∃ p, p < es.length ∧ p ∉ sn ∧ e = ⟨keyV (es.getD p default).1 (es.getD p default).2.1, .int .i64 (es.getD p default).2.2, p⟩ := fun e he => by
    rw [Array.mem_filter] at he
    obtain ⟨h1, h2⟩ := he
    obtain ⟨p, hp, rfl⟩ := entsF_mem (by simpa using h1)
    exact ⟨p, hp, by simpa using h2, rfl⟩
  generalize hL : (entsF es 0).toArray.filter (fun e => !sn.toArray.contains e.born) = left at hleft ⊢
  obtain ⟨ho1, ho2⟩ := hold left fun e he => by obtain ⟨p, hp, _, rfl⟩ := hleft e he; exact hp
  rw [ho1, ho2]; have hne : 0 < ((if left.isEmpty = true then #[none] else #[]) ++ (left ++ #[]).map some).size := by
    split
    · simp; omega
    · rename_i hh; simp only [Array.append_empty, Array.size_append, Array.size_map]; have := Array.size_pos_iff.2 (show left ≠ #[] from fun e => hh (by rw [e]; rfl)); omega
  refine Tri.bind (tri_mapNext hne fun t ht => ?_)
  by_cases he : left.isEmpty = true
  · have hl0 : left = #[] := by simpa using he
    subst hl0
    have ht0 : t = 0 := by simpa using ht
    subst ht0
    simp only [Array.isEmpty_empty, if_true, Array.append_empty, Array.map_empty]
    refine Tri.pure (Tri.pure ⟨.inl (by trivial), done fun p hp => ?_⟩)
    apply Classical.byContradiction
    intro hnp
    have hmem : (⟨keyV (es.getD p default).1 (es.getD p default).2.1, .int .i64 (es.getD p default).2.2, p⟩ : MapEntry) ∈ (entsF es 0).toArray.filter (fun e => !sn.toArray.contains e.born) := by
      rw [Array.mem_filter]; refine ⟨?_, by simpa using hnp⟩
      rw [List.mem_toArray, List.mem_iff_getElem?]; refine ⟨p, ?_⟩
      rw [entsF_get, List.getD_eq_getElem?_getD, List.getElem?_eq_getElem hp]; simp
    rw [hL] at hmem
    simp at hmem
  · rw [if_neg he] at ht ⊢
    simp only [Array.append_empty, Array.empty_append, Array.size_map] at ht ⊢
    have hget : (left.map some)[t]? = some (some left[t]) := by simp [ht]
    rw [hget]; obtain ⟨p, hp, hps, hpe⟩ := hleft left[t] (Array.getElem_mem ht)
    obtain ⟨o1, h1, h2, e1, e2⟩ := (u p).ex
    have hmr := more p hp hps
    dsimp only
    rw [hpe]; refine tri_upd hq.mem ⟨o1, h1, h2, e1, rfl⟩ ?_
    refine Tri.bind (tri_setObj rfl rfl ?_)
    refine Tri.pure (Tri.pure ⟨.inl (by trivial), ?_⟩)
    have : (Obj.mapIter (some mq) es.length (sn.toArray.push p) es.length) = iterO mq es.length (sn ++ [p]) := by simp [iterO]
    rw [this, ← e2]; exact hmr
theorem k_entry {mq q p : Nat} {x : Operand} {rw rw' : Bool} {es : List (Int × Int × Int)} {sn : List Nat} (hp : p < es.length) (ho : ops[i]? = some ⟨d, .entry x, ty, pos, af, g⟩) (hw : Wt ops l g) [KHeap kd S h H] [ex : OpV l x (.pointer (some ⟨q, 0, none⟩))] [hm : Has H mq rw (mapO es)]
    [hq : Has H q rw' (iterO mq es.length (sn ++ [p]))] [PutV l d (.tuple [.agg [.int .i64 (es.getD p default).1, .int .i64 (es.getD p default).2.1].toArray, .int .i64 (es.getD p default).2.2].toArray) l'] (n : RegK m S ops r l' h C) : RegK m S ops ((i, kd) :: r) l h C :=
  RegK.rd (v := .tuple [.agg [.int .i64 (es.getD p default).1, .int .i64 (es.getD p default).2.1].toArray, .int .i64 (es.getD p default).2.2].toArray) ho hw (by
    simp only [execOp, ex.eq]
    refine Reads.value ?_
    unfold Instr.entry
    refine Reads.bind (reads_obj hq.mem rfl) ?_
    dsimp only [iterO]
    have hb : (sn ++ [p]).toArray.back? = some p := by simp
    rw [hb]; dsimp only
    refine Reads.bind (reads_obj hm.mem rfl) ?_
    dsimp only [mapO]
    have hf : (entsF es 0).toArray.find? (fun e => e.born == p) = some ⟨keyV (es.getD p default).1 (es.getD p default).2.1, .int .i64 (es.getD p default).2.2, p⟩ := by
      have gen : ∀ (l : List (Int × Int × Int)) (b j : Nat), j < l.length → (entsF l b).find? (fun e => e.born == b + j) = some ⟨keyV (l.getD j default).1 (l.getD j default).2.1, .int .i64 (l.getD j default).2.2, b + j⟩ := by
        intro l
        induction l with
        | nil => intro b j hj; simp at hj
        | cons a r ih =>
          intro b j hj
          cases j with
          | zero => simp [entsF]
          | succ j =>
            have := ih (b + 1) j (by simpa using hj)
            rw [entsF, List.find?_cons, show ((b : Nat) == b + (j + 1)) = false by simp]; rw [show b + (j + 1) = (b + 1) + j by omega]; simpa using this
      have := gen es 0 p hp
      simpa using this
    rw [hf]; simp only [bne_self_eq_false, Bool.false_eq_true, if_false, pure_bind]
    exact Reads.pure _) n
theorem k_mks {t e n by' : Nat} {x y : Operand} (ho : ops[i]? = some ⟨d, .makeSlice t x y, ty, pos, af, g⟩) (hw : Wt ops l g) [ex : OpV l x (.int .i64 (n : Int))] [ey : OpV l y (.int .i64 (n : Int))] [SliceT P t e 1] [el : ElemT P e 1 by'] [ZeroT P e (.int .i64 0)] (hn0 : 0 < n) (hn : n ≤ 1000) (hby : by' ≤ 8)
    (c : ∀ q, RegK m S ops r (put l d (.slice (some ⟨q, 0, none⟩) n n)) (h ++ [⟨true, q, .cells (ints (List.replicate n 0)).toArray e (0, 0)⟩]) C) : RegK m S ops ((i, .free) :: r) l h C := by
  refine RegK.ke (.inr rfl) ho hw ?_
  obtain ⟨hu, hsz⟩ := slice_und (P := P) (B := B) (h := h) (t := t)
  obtain ⟨inf, z, hi1, hi2, hi3, hi4, hi5⟩ := elem_size (P := P) (e := e)
  simp only [execOp, ex.eq, ey.eq]
  refine Tri.bind ?_
  unfold Instr.makeSlice
  refine Tri.bind ((still_und hu).reads.tri ?_)
  dsimp only
  refine Tri.bind (Tri.pure (a := (n : Int)) ?_)
  refine Tri.bind (Tri.pure (a := (n : Int)) ?_)
  refine Tri.bind (Reads.tri (a := inf) (Reads.bind Reads.program' (by simp only [hi1]; exact Reads.pure _)) ?_)
  have hwr : IntKind.wrap .i64 (n : Int) = n := wrap_in (by unfold In64; omega)
  have hbn : ((inf.bytes : Int) * (n : Int)) ≤ 8 * 1000 := by rw [hi3]; exact Int.mul_le_mul (by omega) (by omega) (by omega) (by omega)
  rw [hwr]; rw [if_neg (by simp; omega)]; refine Tri.bind (reads_room.tri ?_)
  refine Tri.bind (hsz.tri ?_)
  rw [Int.toNat_natCast, Nat.mul_one, if_neg (by omega)]; refine Tri.bind (reads_zero.tri ?_)
  refine Tri.bind (Tri.pure ?_)
  refine Tri.bind (tri_row fun q _ => Tri.pure (Tri.pure ⟨.inl (by trivial), ?_⟩))
  have : ((Array.range n).map ((Value.int IntKind.i64 0).cells[· % (Value.int IntKind.i64 0).cells.size]!)) = (ints (List.replicate n 0)).toArray := by
    have e : (Value.int IntKind.i64 0).cells = #[Value.int IntKind.i64 0] := rfl
    rw [e]; apply Array.ext'
    apply List.ext_getElem (by simp)
    intro j h1 h2
    simp
    have : j % 1 = 0 := Nat.mod_one j
    simp [Nat.mod_one]
  rw [this]; exact c q
end
theorem have_get (l : List (Int × Int × Int)) (s x : Int) : (haveE l s x)[posE l s x]? = some (s, x, cntE l s x) := by
  unfold haveE posE cntE
  cases hf : findE s x l 0 with
  | none => simp
  | some p =>
    obtain ⟨p, c⟩ := p
    obtain ⟨p', hp, hget⟩ := findE_some s x l 0 p c hf
    rw [Nat.zero_add] at hp
    subst hp
    exact hget
theorem bump_eq (l : List (Int × Int × Int)) (s x w : Int) : (haveE l s x).set (posE l s x) (s, x, w) = bumpE l s x w := by
  unfold haveE posE bumpE
  cases findE s x l 0 with
  | none => simp
  | some p => rfl
theorem findE_append (l : List (Int × Int × Int)) (s x : Int) (a : Int × Int × Int) : ∀ i, findE s x (l ++ [a]) i = match findE s x l i with | some p => some p | none => if a.1 = s ∧ a.2.1 = x then some (i + l.length, a.2.2) else none := by
  induction l with
  | nil => intro i; simp [findE]
  | cons e r ih =>
    intro i
    rw [List.cons_append]; unfold findE
    split
    · rfl
    · rw [ih (i + 1), List.length_cons, show i + 1 + r.length = i + (r.length + 1) by omega]
theorem cntE_have (l : List (Int × Int × Int)) (s x : Int) : cntE (haveE l s x) s x = cntE l s x := by
  unfold haveE
  cases hf : findE s x l 0 with
  | some p => rfl
  | none => simp [cntE, findE_append, hf]
def Keys (l : List (Int × Int × Int)) : Prop := l.Pairwise fun a b => ¬ (a.1 = b.1 ∧ a.2.1 = b.2.1)
theorem cntE_mem {l : List (Int × Int × Int)} (hk : Keys l) {e : Int × Int × Int} (he : e ∈ l) : cntE l e.1 e.2.1 = e.2.2 := by
  unfold cntE
  have gen : ∀ (l : List (Int × Int × Int)) (i : Nat), Keys l → e ∈ l → ∃ p, findE e.1 e.2.1 l i = some (p, e.2.2) := by
    intro l
    induction l with
    | nil => intro i _ h; simp at h
    | cons a r ih =>
      intro i hk h
      obtain ⟨h1, h2⟩ := List.pairwise_cons.1 hk
      unfold findE
      rcases List.mem_cons.1 h with rfl | h
      · rw [if_pos ⟨rfl, rfl⟩]; exact ⟨_, rfl⟩
      · rw [if_neg (h1 e h)]; exact ih (i + 1) h2 h
  obtain ⟨p, hp⟩ := gen l 0 hk he
  rw [hp]
theorem cntE_pos {l : List (Int × Int × Int)} {s x : Int} (h : cntE l s x ≠ 0) : ∃ p, p < l.length ∧ l.getD p default = (s, x, cntE l s x) := by
  unfold cntE at h ⊢
  cases hf : findE s x l 0 with
  | none => rw [hf] at h; exact absurd rfl h
  | some p =>
    obtain ⟨p, c⟩ := p
    obtain ⟨p', hp, hget⟩ := findE_some s x l 0 p c hf
    rw [Nat.zero_add] at hp
    subst hp
    exact ⟨p, (List.getElem?_eq_some_iff.1 hget).1, by rw [List.getD_eq_getElem?_getD, hget]; rfl⟩
theorem findE_set (s x w : Int) (s' x' : Int) : ∀ (l : List (Int × Int × Int)) (i p : Nat) (c : Int), findE s x l i = some (i + p, c) → findE s' x' (l.set p (s, x, w)) i = if s' = s ∧ x' = x then some (i + p, w) else findE s' x' l i
  | [], _, _, _, h => by simp [findE] at h
  | e :: r, i, 0, c, h => by
    have hk : e.1 = s ∧ e.2.1 = x := by
      unfold findE at h
      split at h
      · assumption
      · obtain ⟨p, hp, _⟩ := findE_some s x r (i + 1) (i + 0) c h; omega
    rw [List.set_cons_zero]; unfold findE
    by_cases e' : s' = s ∧ x' = x
    · rw [if_pos e', if_pos ⟨e'.1.symm, e'.2.symm⟩]; rfl
    · rw [if_neg e', if_neg (fun y => e' ⟨y.1.symm, y.2.symm⟩), if_neg (fun y => e' ⟨y.1.symm.trans hk.1, y.2.symm.trans hk.2⟩)]
  | e :: r, i, p + 1, c, h => by
    have hk : ¬ (e.1 = s ∧ e.2.1 = x) := fun hk => by
      unfold findE at h
      rw [if_pos hk] at h
      have := (Prod.mk.inj (Option.some.inj h)).1
      omega
    rw [List.set_cons_succ]; unfold findE at h ⊢
    rw [if_neg hk] at h
    have ih := findE_set s x w s' x' r (i + 1) p c (by rw [h, show i + (p + 1) = i + 1 + p by omega])
    by_cases e' : s' = s ∧ x' = x
    · rw [if_pos e'] at ih ⊢
      rw [if_neg (fun y => hk ⟨y.1.trans e'.1, y.2.trans e'.2⟩), ih, show i + 1 + p = i + (p + 1) by omega]
    · rw [if_neg e'] at ih ⊢
      split
      · rfl
      · exact ih
theorem cntE_bump (l : List (Int × Int × Int)) (s x w s' x' : Int) : cntE (bumpE l s x w) s' x' = if s' = s ∧ x' = x then w else cntE l s' x' := by
  unfold bumpE
  cases hf : findE s x l 0 with
  | none =>
    simp only [cntE, findE_append]
    by_cases e : s' = s ∧ x' = x
    · obtain ⟨rfl, rfl⟩ := e
      simp [hf]
    · rw [if_neg e, if_neg (fun y => e ⟨y.1.symm, y.2.symm⟩)]; cases findE s' x' l 0 <;> rfl
  | some p =>
    obtain ⟨p, c⟩ := p
    have := findE_set s x w s' x' l 0 p c (by rw [hf, Nat.zero_add])
    simp only [cntE, this]
    by_cases e : s' = s ∧ x' = x
    · rw [if_pos e, if_pos e]
    · rw [if_neg e, if_neg e]
theorem bump_mem {l : List (Int × Int × Int)} {s x w : Int} {e : Int × Int × Int} (h : e ∈ bumpE l s x w) : e ∈ l ∨ e = (s, x, w) := by
  unfold bumpE at h
  split at h
  · rcases List.mem_or_eq_of_mem_set h with h | h
    · exact .inl h
    · exact .inr h
  · rcases List.mem_append.1 h with h | h
    · exact .inl h
    · exact .inr (by simpa using h)
theorem Keys.bump {l : List (Int × Int × Int)} (hk : Keys l) (s x w : Int) : Keys (bumpE l s x w) := by
  unfold bumpE
  cases hf : findE s x l 0 with
  | none =>
    have := findE_none s x l 0 hf
    exact List.pairwise_append.2 ⟨hk, by simp, fun a ha b hb => by rw [List.mem_singleton] at hb; subst hb; exact this a ha⟩
  | some p =>
    obtain ⟨p, c⟩ := p
    obtain ⟨p', hp, hget⟩ := findE_some s x l 0 p c hf
    rw [Nat.zero_add] at hp
    subst hp
    have hmap : (l.set p (s, x, w)).map (fun e => (e.1, e.2.1)) = l.map (fun e => (e.1, e.2.1)) := by
      apply List.ext_getElem? 
      intro i
      rw [List.getElem?_map, List.getElem?_map, List.getElem?_set]; by_cases e : p = i
      · subst e
        have := (List.getElem?_eq_some_iff.1 hget).1
        have h2 := (List.getElem?_eq_some_iff.1 hget).2
        simp [this, h2]
      · simp [e]
    have key : ∀ (l : List (Int × Int × Int)), Keys l ↔ (l.map fun e => (e.1, e.2.1)).Pairwise (fun a b => ¬ (a.1 = b.1 ∧ a.2 = b.2)) := fun l => by
      rw [List.pairwise_map]; rfl
    show Keys (l.set p (s, x, w))
    rw [key, hmap, ← key]; exact hk
end Go.Lo
