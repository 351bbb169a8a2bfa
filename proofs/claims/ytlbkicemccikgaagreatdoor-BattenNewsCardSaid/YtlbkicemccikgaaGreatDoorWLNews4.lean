/- A part of the proof of a law: my own separation logic over the machine, and walks of the program. Condition of each theorem: as its statement says. -/
import Derived.Test.YtlbkicemccikgaaGreatDoorWLNews3
set_option linter.all false
namespace Go.Proofs
open Go.Lo
open Go.Conc (G)
set_option maxRecDepth 100000
set_option synthInstance.maxSize 100000
set_option synthInstance.maxHeartbeats 1000000
set_option maxHeartbeats 4000000
variable {B : Array Obj}
def countAt (ll : List (List Int)) (s : Nat) (x : Int) : Nat := (ll.filter fun l => decide (l.getD s 0 = x)).length
theorem countAt_yes (ll : List (List Int)) (s : Nat) (x : Int) (k : Nat) (h : k < ll.length) (hp : (ll.getD k []).getD s 0 = x) : countAt (ll.take (k + 1)) s x = countAt (ll.take k) s x + 1 := by
  rw [take_snocL ll k h, countAt, List.filter_append, List.filter_cons, if_pos (decide_eq_true hp), List.length_append]; rfl
theorem countAt_no (ll : List (List Int)) (s : Nat) (x : Int) (k : Nat) (h : k < ll.length) (hp : (ll.getD k []).getD s 0 ≠ x) : countAt (ll.take (k + 1)) s x = countAt (ll.take k) s x := by
  rw [take_snocL ll k h, countAt, List.filter_append, List.filter_cons, if_neg (by rw [decide_eq_true_iff]; exact hp), List.filter_nil, List.append_nil]; rfl
def lefts (ll : List (List Int)) (s : Nat) : List Int := ll.map fun l => (countAt ll s (l.getD s 0) : Int)
def leftOf (ll : List (List Int)) (s : Nat) : Int := mostL (lefts ll s)
theorem lefts_getD (ll : List (List Int)) (s k : Nat) (h : k < ll.length) : (lefts ll s).getD k 0 = (countAt ll s ((ll.getD k []).getD s 0) : Int) := by
  have e : ll.getD k [] = ll[k] := by rw [List.getD_eq_getElem?_getD, List.getElem?_eq_getElem h]; rfl
  rw [e, lefts, List.getD_eq_getElem?_getD, List.getElem?_map, List.getElem?_eq_getElem h]; rfl
theorem lefts_length (ll : List (List Int)) (s : Nat) : (lefts ll s).length = ll.length := by simp [lefts]
theorem f139_c (m : Md Tryz.prog B) (h : Hp) {ll : List (List Int)} {lp : Option Addr} {lc : Nat} {vs : List Value} {s : Nat} (rdv : RdS B h 1 (.slice lp ll.length lc) ll.length vs) (rde : RdE B h vs ll) (hle : ll.length ≤ 2187) (hls : ∀ i, i < ll.length → s < (ll.getD i []).length) : FnC m 139 #[.slice lp ll.length lc, .int .i64 (s : Int)] h fun v h' => h' = h ∧ v = .int .i64 (leftOf ll s) := by
  refine fn_enter Tryz.func139 rfl rfl (l := (.slice lp ll.length lc) :: (.int .i64 (s : Int)) :: uu40) rfl ?_
  intro cf cs K hK
  refine rs1 (by kernel_rfl) ?_; refine aq rfl ?_; refine rs1 (by kernel_rfl) ?_; refine aq rfl ?_; refine run_seq ?_; refine rs1 (by kernel_rfl) ?_; refine aq rfl ?_; refine run_block ?_; refine run_loop (fun nn l h' => ∃ (i : Nat) (mo : Int), nn = ll.length - i ∧ (i ≤ ll.length) ∧ (mo = mostL ((lefts ll s).take i)) ∧ (∃ U : Nat → Value, l = [.slice lp ll.length lc, .int .i64 (s : Int), U 2, U 3, U 4, .int .i64 mo, .int .i64 (i : Int), U 7, U 8, U 9, U 10, U 11, U 12, U 13, U 14, U 15, U 16, U 17, U 18, U 19, U 20, U 21, U 22, U 23, U 24, U 25, U 26, U 27, U 28, U 29, U 30, U 31, U 32, U 33, U 34, U 35, U 36, U 37, U 38, U 39, U 40, U 41]) ∧ h = h') _ ⟨0, 0, rfl, by omega, rfl, exU rfl, rfl⟩ ?_; rintro nn l h' ⟨i, mo, rfl, hi, hmo, ⟨U, rfl⟩, rfl⟩ hnext1; refine run_seq ?_; refine rs4 (by kernel_rfl) ?_; refine mq rfl ?_; refine mq rfl ?_; refine k_len rfl zq ?_; refine k_lssS rfl zq (fun hc => ?_) (fun hc => ?_)
  · refine k_nil ?_; refine run_yes ?_; refine run_skip ?_; refine run_seq ?_; refine run_block ?_; refine rs1 (by kernel_rfl) ?_; refine aq rfl ?_; refine run_seq ?_; refine rs1 (by kernel_rfl) ?_; refine aq rfl ?_; refine run_block ?_; refine run_loop (fun nn l h' => ∃ (k : Nat) (cnt : Nat), nn = ll.length - k ∧ (k ≤ ll.length) ∧ (cnt = countAt (ll.take k) s ((ll.getD i []).getD s 0)) ∧ (cnt ≤ k) ∧ (∃ U : Nat → Value, l = [.slice lp ll.length lc, .int .i64 (s : Int), U 2, U 3, U 4, .int .i64 mo, .int .i64 (i : Int), .int .i64 (cnt : Int), .int .i64 (k : Int), U 9, U 10, U 11, U 12, U 13, U 14, U 15, U 16, U 17, U 18, U 19, U 20, U 21, U 22, U 23, U 24, U 25, U 26, U 27, U 28, U 29, U 30, U 31, U 32, U 33, U 34, U 35, U 36, U 37, U 38, U 39, U 40, U 41]) ∧ h = h') _ ⟨0, 0, rfl, by omega, rfl, by omega, exU rfl, rfl⟩ ?_; rintro nn l h' ⟨k, cnt, rfl, hk, hcnt, hck, ⟨U, rfl⟩, rfl⟩ hnext2; refine run_seq ?_; refine rs4 (by kernel_rfl) ?_; refine mq rfl ?_; refine mq rfl ?_; refine k_len rfl zq ?_; refine k_lssS rfl zq (fun hc => ?_) (fun hc => ?_)
    · refine k_nil ?_; refine run_yes ?_; refine run_skip ?_; refine run_seq ?_; refine run_block ?_; refine run_seq ?_; refine run_draw [(0, .pure), (1, .pure), (2, .pure), (4, .pure), (7, .pure), (8, .pure), (9, .pure), (11, .pure), (3, .read), (5, .pure), (6, .read), (10, .read), (12, .pure), (13, .read), (14, .pure)] (by kernel_rfl) (by kernel_rfl) (List.Sublist.refl _) ?_; obtain ⟨ap, ac, ae, ar⟩ := rde.2 k (by omega)
      obtain ⟨ab, ao, rfl⟩ := ar.ptr (by have := hls k (by omega); omega)
      have al := hls k (by omega)
      obtain ⟨bp, bc, be, br⟩ := rde.2 i (by omega)
      obtain ⟨bb, bo, rfl⟩ := br.ptr (by have := hls i (by omega); omega)
      have bl := hls i (by omega)
      refine mq rfl ?_; refine mq rfl ?_; obtain ⟨rdv_b, rdv_o, rfl⟩ := rdv.ptr (by omega)
      refine k_ixs rfl zq (by first | rfl | assumption) (by omega) (by omega) ?_; refine mq rfl ?_; refine mq rfl ?_; refine mq rfl ?_; refine k_ixs rfl zq (by first | rfl | assumption) (by omega) (by omega) ?_; refine mq rfl ?_; refine k_ld (v := .slice (some ⟨ab, ao, none⟩) (ll.getD k []).length ac) rfl zq (by rw [← ae]; exact rdv.vat k (by omega) (by omega)) ?_; refine k_ixs rfl zq (by first | rfl | assumption) (by omega) (by omega) ?_; refine k_ld rfl zq (ar.iat s (by omega) (by omega)) ?_; refine k_ld (v := .slice (some ⟨bb, bo, none⟩) (ll.getD i []).length bc) rfl zq (by rw [← be]; exact rdv.vat i (by omega) (by omega)) ?_; refine k_ixs rfl zq (by first | rfl | assumption) (by omega) (by omega) ?_; refine k_ld rfl zq (br.iat s (by omega) (by omega)) ?_; refine k_eqlS rfl zq (fun hc => ?_) (fun hc => ?_)
      · refine k_nil ?_; refine run_yes ?_; refine rr3 (by kernel_rfl) ?_; refine mq rfl ?_; refine k_add rfl zq (by unfold In64; omega) ?_; refine aq rfl ?_; refine run_inBlock ?_; refine rr3 (by kernel_rfl) ?_; refine mq rfl ?_; refine k_add rfl zq (by unfold In64; omega) ?_; refine aq rfl ?_; exact m.weak weakSub (hnext2 _ _ _ (by omega) ⟨k + 1, cnt + 1, rfl, by omega, by rw [countAt_yes _ _ _ _ (by omega) (by assumption), ← hcnt], by omega, exU rfl, rfl⟩)
      · refine k_nil ?_; refine run_no ?_; refine run_skip ?_; refine run_inBlock ?_; refine rr3 (by kernel_rfl) ?_; refine mq rfl ?_; refine k_add rfl zq (by unfold In64; omega) ?_; refine aq rfl ?_; exact m.weak weakSub (hnext2 _ _ _ (by omega) ⟨k + 1, cnt, rfl, by omega, by rw [countAt_no _ _ _ _ (by omega) (by assumption), ← hcnt], by omega, exU rfl, rfl⟩)
    · refine k_nil ?_; refine run_no ?_; refine run_exit rfl ?_; refine rr4 (by kernel_rfl) ?_; refine mq rfl ?_; refine mq rfl ?_; refine k_max rfl zq ?_; refine aq rfl ?_; refine run_inBlock ?_; refine rr3 (by kernel_rfl) ?_; refine mq rfl ?_; refine k_add rfl zq (by unfold In64; omega) ?_; refine aq rfl ?_; obtain rfl : k = ll.length := by omega
      rw [List.take_length] at hcnt
      exact m.weak weakSub (hnext1 _ _ _ (by omega) ⟨i + 1, _, rfl, by omega, by rw [mostL_take _ _ (by rw [lefts_length]; omega), ← hmo, lefts_getD _ _ _ (by omega), ← hcnt], exU rfl, rfl⟩)
  · refine k_nil ?_; refine run_no ?_; refine run_exit rfl ?_; refine rs2 (by kernel_rfl) ?_; refine mq rfl ?_; refine aq rfl ?_; refine run_ret rfl ?_; refine run_res (h) rfl Tryz.func139 rfl weakSub ?_; refine hK _ _ ?_
    obtain rfl : i = ll.length := by omega
    rw [List.take_of_length_le (by rw [lefts_length]; omega)] at hmo
    exact ⟨rfl, by rw [hmo]; rfl⟩
theorem st_ne {p : Prop} [Decidable p] (h : (if p then (0 : Int) else 6) ≠ 0) : ¬ p := fun e => h (if_pos e)
theorem st_eq {p : Prop} [Decidable p] (h : (if p then (0 : Int) else 6) = 0) : p := Classical.byContradiction fun e => by rw [if_neg e] at h; cases h
class Laid (B : Array Obj) : Prop where
  eq : ∃ t f, B[0]? = some (.cells [.func (.func 199) #[] #[], .func (.func 200) #[] #[], .func (.func 201) #[] #[]].toArray t f)
variable [Laid B]
theorem laid_rdN {h : Hp} [x : Laid B] : RdN B h 0 0 [.func (.func 199) #[] #[], .func (.func 200) #[] #[], .func (.func 201) #[] #[]] := fun j hj => by
  obtain ⟨t, f, e⟩ := x.eq
  refine Rd.base rfl e ?_
  rw [Nat.zero_add, List.getElem?_toArray, List.getD_eq_getElem?_getD, List.getElem?_eq_getElem hj]; rfl
theorem f204_c (m : Md Tryz.prog B) (h : Hp) {p : Option Addr} {n c : Nat} {xs : List Sp} (rd : RdS B h 2 (.slice p n c) n (encs xs)) (hn : n ≤ 100000) {fid : Nat} {fc cp : Array Value} {pr : Nat → Prop} (hcall : callB Tryz.prog fid = true) (hf : ∀ i, i < n → ∀ H' : Hp, h.Sublist H' → FnC m fid (fc ++ [spV (xs.getD i default)].toArray ++ cp) H' fun v h' => h' = H' ∧ IsB (pr i) v) : FnC m 204 #[.slice p n c, .func (.func fid) fc cp] h fun v h' => h' = h ∧ ∃ j : Int, v = .int .i64 j ∧ (0 ≤ j ↔ ∃ i, i < n ∧ pr i) := by
  refine fn_enter Tryz.func204 rfl rfl (l := (.slice p n c) :: (.func (.func fid) fc cp) :: uu17) rfl ?_
  intro cf cs K hK
  refine rs1 (by kernel_rfl) ?_; refine aq rfl ?_; refine run_seq ?_; refine rs3 (by kernel_rfl) ?_; refine mq rfl ?_; refine k_len rfl zq ?_; refine mq rfl ?_; refine k_nil ?_; refine run_block ?_; refine run_loop (fun nn l h' => ∃ (k : Nat), nn = n - k ∧ (k ≤ n) ∧ (∀ i, i < k → ¬ pr i) ∧ (∃ U : Nat → Value, l = [.slice p n c, .func (.func fid) fc cp, U 2, U 3, U 4, U 5, U 6, .int .i64 (n : Int), .int .i64 (k : Int), U 9, U 10, U 11, U 12, U 13, U 14, U 15, U 16, U 17, U 18]) ∧ h = h') _ ⟨0, rfl, by omega, fun i hi => by omega, exU rfl, rfl⟩ ?_; rintro nn l h' ⟨k, rfl, hk, he, ⟨U, rfl⟩, rfl⟩ hnext; refine rs1 (by kernel_rfl) ?_; refine k_lssS rfl zq (fun hc => ?_) (fun hc => ?_)
  · refine k_nil ?_; refine run_seq ?_; refine run_yes ?_; refine run_skip ?_; refine run_seq ?_; refine run_block ?_; refine rs2 (by kernel_rfl) ?_; refine mq rfl ?_; refine aq rfl ?_; refine rs6 (by kernel_rfl) ?_; refine mq rfl ?_; refine mq rfl ?_; refine mq rfl ?_; obtain ⟨rd_b, rd_o, rfl⟩ := rd.ptr (by omega)
    refine k_ixs rfl zq (by first | rfl | assumption) (by omega) (by omega) ?_; refine k_ldN (vs := spL (xs.getD k default)) rfl zq rfl (rd.eat k (by omega) (by omega)) ?_; refine k_valP (Post := fun v => IsB _ v) rfl zq hcall (fun H' hH => hf k (by omega) H' hH) ?_; rintro v (⟨hc, rfl⟩ | ⟨hc, rfl⟩)
    · refine k_put ?_; refine k_nil ?_; refine run_yes ?_; refine rs2 (by kernel_rfl) ?_; refine mq rfl ?_; refine aq rfl ?_; refine run_ret rfl ?_; refine run_res (h) rfl Tryz.func204 rfl weakSub ?_; refine hK _ _ ?_
      first
        | exact ⟨rfl, _, rfl, fun _ => ⟨k, by omega, hc⟩, fun _ => by omega⟩
        | (refine ⟨rfl, _, rfl, fun e => absurd e (by decide), ?_⟩; rintro ⟨i, h1, h2⟩; exact absurd h2 (he i (by omega)))
    · refine k_put ?_; refine k_nil ?_; refine run_no ?_; refine run_skip ?_; refine run_inBlock ?_; refine rr2 (by kernel_rfl) ?_; refine k_add rfl zq (by unfold In64; omega) ?_; refine mq rfl ?_; refine k_nil ?_; exact m.weak weakSub (hnext _ _ _ (by omega) ⟨k + 1, rfl, by omega, fun i hi => by
        rcases Nat.lt_or_ge i k with h1 | h1
        · exact he i h1
        · obtain rfl : i = k := by omega
          exact hc, exU rfl, rfl⟩)
  · refine k_nil ?_; refine run_seq ?_; refine run_no ?_; refine run_exit rfl ?_; refine rs1 (by kernel_rfl) ?_; refine aq rfl ?_; refine run_ret rfl ?_; refine run_res (h) rfl Tryz.func204 rfl weakSub ?_; refine hK _ _ ?_
    first
      | exact ⟨rfl, _, rfl, fun _ => ⟨k, by omega, hc⟩, fun _ => by omega⟩
      | (refine ⟨rfl, _, rfl, fun e => absurd e (by decide), ?_⟩; rintro ⟨i, h1, h2⟩; exact absurd h2 (he i (by omega)))
theorem f202_c (m : Md Tryz.prog B) (h : Hp) {p : Option Addr} {n c : Nat} {xs : List Sp} (rd : RdS B h 2 (.slice p n c) n (encs xs)) (hn : n ≤ 100000) {fid : Nat} {fc cp : Array Value} {pr : Nat → Prop} (hcall : callB Tryz.prog fid = true) (hf : ∀ i, i < n → ∀ H' : Hp, h.Sublist H' → FnC m fid (fc ++ [spV (xs.getD i default)].toArray ++ cp) H' fun v h' => h' = H' ∧ IsB (pr i) v) : FnC m 202 #[.slice p n c, .func (.func fid) fc cp] h fun v h' => h' = h ∧ IsB (∃ i, i < n ∧ pr i) v := by
  refine fn_enter Tryz.func202 rfl rfl (l := (.slice p n c) :: (.func (.func fid) fc cp) :: uu7) rfl ?_
  intro cf cs K hK
  refine rs1 (by kernel_rfl) ?_; refine aq rfl ?_; refine rs5 (by kernel_rfl) ?_; refine mq rfl ?_; refine mq rfl ?_; refine k_calP (Post := fun v => ∃ j : Int, v = .int .i64 j ∧ (0 ≤ j ↔ ∃ i, i < n ∧ pr i)) rfl zq (by kernel_rfl) (fun H' hH => f204_c m H' (rd.keeps (sq hH)) hn hcall (fun i hi K hK => hf i hi K (SubH.sub.trans (hH.trans hK)))) ?_; rintro v ⟨j, rfl, hj⟩; refine k_put ?_; refine k_geqS rfl zq (fun hc => ?_) (fun hc => ?_)
  · refine aq rfl ?_; refine run_ret rfl ?_; refine run_res (h) rfl Tryz.func202 rfl weakSub ?_; refine hK _ _ ?_
    first | exact ⟨rfl, IsB.yes (hj.1 (by assumption))⟩ | exact ⟨rfl, IsB.no (fun e => absurd (hj.2 e) (by omega))⟩
  · refine aq rfl ?_; refine run_ret rfl ?_; refine run_res (h) rfl Tryz.func202 rfl weakSub ?_; refine hK _ _ ?_
    first | exact ⟨rfl, IsB.yes (hj.1 (by assumption))⟩ | exact ⟨rfl, IsB.no (fun e => absurd (hj.2 e) (by omega))⟩
theorem f159_c (m : Md Tryz.prog B) (h : Hp) {p : Option Addr} {n c : Nat} {xs : List Int} (rd : RdS B h 1 (.slice p n c) n (ints xs)) (hn : n ≤ 100000) {fid : Nat} {fc cp : Array Value} {pr : Nat → Prop} (hcall : callB Tryz.prog fid = true) (hf : ∀ i, i < n → ∀ H' : Hp, h.Sublist H' → FnC m fid (fc ++ [Value.int .i64 (xs.getD i 0)].toArray ++ cp) H' fun v h' => h' = H' ∧ IsB (pr i) v) : FnC m 159 #[.slice p n c, .func (.func fid) fc cp] h fun v h' => h' = h ∧ ∃ j : Int, v = .int .i64 j ∧ (0 ≤ j ↔ ∃ i, i < n ∧ pr i) := by
  refine fn_enter Tryz.func159 rfl rfl (l := (.slice p n c) :: (.func (.func fid) fc cp) :: uu17) rfl ?_
  intro cf cs K hK
  refine rs1 (by kernel_rfl) ?_; refine aq rfl ?_; refine run_seq ?_; refine rs3 (by kernel_rfl) ?_; refine mq rfl ?_; refine k_len rfl zq ?_; refine mq rfl ?_; refine k_nil ?_; refine run_block ?_; refine run_loop (fun nn l h' => ∃ (k : Nat), nn = n - k ∧ (k ≤ n) ∧ (∀ i, i < k → ¬ pr i) ∧ (∃ U : Nat → Value, l = [.slice p n c, .func (.func fid) fc cp, U 2, U 3, U 4, U 5, U 6, .int .i64 (n : Int), .int .i64 (k : Int), U 9, U 10, U 11, U 12, U 13, U 14, U 15, U 16, U 17, U 18]) ∧ h = h') _ ⟨0, rfl, by omega, fun i hi => by omega, exU rfl, rfl⟩ ?_; rintro nn l h' ⟨k, rfl, hk, he, ⟨U, rfl⟩, rfl⟩ hnext; refine rs1 (by kernel_rfl) ?_; refine k_lssS rfl zq (fun hc => ?_) (fun hc => ?_)
  · refine k_nil ?_; refine run_seq ?_; refine run_yes ?_; refine run_skip ?_; refine run_seq ?_; refine run_block ?_; refine rs2 (by kernel_rfl) ?_; refine mq rfl ?_; refine aq rfl ?_; refine rs6 (by kernel_rfl) ?_; refine mq rfl ?_; refine mq rfl ?_; refine mq rfl ?_; obtain ⟨rd_b, rd_o, rfl⟩ := rd.ptr (by omega)
    refine k_ixs rfl zq (by first | rfl | assumption) (by omega) (by omega) ?_; refine k_ld rfl zq (rd.iat k (by omega) (by omega)) ?_; refine k_valP (Post := fun v => IsB _ v) rfl zq hcall (fun H' hH => hf k (by omega) H' hH) ?_; rintro v (⟨hc, rfl⟩ | ⟨hc, rfl⟩)
    · refine k_put ?_; refine k_nil ?_; refine run_yes ?_; refine rs2 (by kernel_rfl) ?_; refine mq rfl ?_; refine aq rfl ?_; refine run_ret rfl ?_; refine run_res (h) rfl Tryz.func159 rfl weakSub ?_; refine hK _ _ ?_
      first
        | exact ⟨rfl, _, rfl, fun _ => ⟨k, by omega, hc⟩, fun _ => by omega⟩
        | (refine ⟨rfl, _, rfl, fun e => absurd e (by decide), ?_⟩; rintro ⟨i, h1, h2⟩; exact absurd h2 (he i (by omega)))
    · refine k_put ?_; refine k_nil ?_; refine run_no ?_; refine run_skip ?_; refine run_inBlock ?_; refine rr2 (by kernel_rfl) ?_; refine k_add rfl zq (by unfold In64; omega) ?_; refine mq rfl ?_; refine k_nil ?_; exact m.weak weakSub (hnext _ _ _ (by omega) ⟨k + 1, rfl, by omega, fun i hi => by
        rcases Nat.lt_or_ge i k with h1 | h1
        · exact he i h1
        · obtain rfl : i = k := by omega
          exact hc, exU rfl, rfl⟩)
  · refine k_nil ?_; refine run_seq ?_; refine run_no ?_; refine run_exit rfl ?_; refine rs1 (by kernel_rfl) ?_; refine aq rfl ?_; refine run_ret rfl ?_; refine run_res (h) rfl Tryz.func159 rfl weakSub ?_; refine hK _ _ ?_
    first
      | exact ⟨rfl, _, rfl, fun _ => ⟨k, by omega, hc⟩, fun _ => by omega⟩
      | (refine ⟨rfl, _, rfl, fun e => absurd e (by decide), ?_⟩; rintro ⟨i, h1, h2⟩; exact absurd h2 (he i (by omega)))
theorem f147_c (m : Md Tryz.prog B) (h : Hp) {p : Option Addr} {n c : Nat} {xs : List Int} (rd : RdS B h 1 (.slice p n c) n (ints xs)) (hn : n ≤ 100000) {fid : Nat} {fc cp : Array Value} {pr : Nat → Prop} (hcall : callB Tryz.prog fid = true) (hf : ∀ i, i < n → ∀ H' : Hp, h.Sublist H' → FnC m fid (fc ++ [Value.int .i64 (xs.getD i 0)].toArray ++ cp) H' fun v h' => h' = H' ∧ IsB (pr i) v) : FnC m 147 #[.slice p n c, .func (.func fid) fc cp] h fun v h' => h' = h ∧ IsB (∃ i, i < n ∧ pr i) v := by
  refine fn_enter Tryz.func147 rfl rfl (l := (.slice p n c) :: (.func (.func fid) fc cp) :: uu7) rfl ?_
  intro cf cs K hK
  refine rs1 (by kernel_rfl) ?_; refine aq rfl ?_; refine rs5 (by kernel_rfl) ?_; refine mq rfl ?_; refine mq rfl ?_; refine k_calP (Post := fun v => ∃ j : Int, v = .int .i64 j ∧ (0 ≤ j ↔ ∃ i, i < n ∧ pr i)) rfl zq (by kernel_rfl) (fun H' hH => f159_c m H' (rd.keeps (sq hH)) hn hcall (fun i hi K hK => hf i hi K (SubH.sub.trans (hH.trans hK)))) ?_; rintro v ⟨j, rfl, hj⟩; refine k_put ?_; refine k_geqS rfl zq (fun hc => ?_) (fun hc => ?_)
  · refine aq rfl ?_; refine run_ret rfl ?_; refine run_res (h) rfl Tryz.func147 rfl weakSub ?_; refine hK _ _ ?_
    first | exact ⟨rfl, IsB.yes (hj.1 (by assumption))⟩ | exact ⟨rfl, IsB.no (fun e => absurd (hj.2 e) (by omega))⟩
  · refine aq rfl ?_; refine run_ret rfl ?_; refine run_res (h) rfl Tryz.func147 rfl weakSub ?_; refine hK _ _ ?_
    first | exact ⟨rfl, IsB.yes (hj.1 (by assumption))⟩ | exact ⟨rfl, IsB.no (fun e => absurd (hj.2 e) (by omega))⟩
theorem f149_c (m : Md Tryz.prog B) (h : Hp) {p : Option Addr} {n c : Nat} {xs : List (List Int)} (rd : RdS B h 7 (.slice p n c) n (encs xs)) (hn : n ≤ 100000) {fid : Nat} {fc cp : Array Value} {pr : Nat → Prop} (hcall : callB Tryz.prog fid = true) (hf : ∀ i, i < n → ∀ H' : Hp, h.Sublist H' → FnC m fid (fc ++ [htV (xs.getD i default)].toArray ++ cp) H' fun v h' => h' = H' ∧ IsB (pr i) v) : FnC m 149 #[.slice p n c, .func (.func fid) fc cp] h fun v h' => h' = h ∧ ∃ j : Int, v = .int .i64 j ∧ (0 ≤ j ↔ ∃ i, i < n ∧ pr i) := by
  refine fn_enter Tryz.func149 rfl rfl (l := (.slice p n c) :: (.func (.func fid) fc cp) :: uu17) rfl ?_
  intro cf cs K hK
  refine rs1 (by kernel_rfl) ?_; refine aq rfl ?_; refine run_seq ?_; refine rs3 (by kernel_rfl) ?_; refine mq rfl ?_; refine k_len rfl zq ?_; refine mq rfl ?_; refine k_nil ?_; refine run_block ?_; refine run_loop (fun nn l h' => ∃ (k : Nat), nn = n - k ∧ (k ≤ n) ∧ (∀ i, i < k → ¬ pr i) ∧ (∃ U : Nat → Value, l = [.slice p n c, .func (.func fid) fc cp, U 2, U 3, U 4, U 5, U 6, .int .i64 (n : Int), .int .i64 (k : Int), U 9, U 10, U 11, U 12, U 13, U 14, U 15, U 16, U 17, U 18]) ∧ h = h') _ ⟨0, rfl, by omega, fun i hi => by omega, exU rfl, rfl⟩ ?_; rintro nn l h' ⟨k, rfl, hk, he, ⟨U, rfl⟩, rfl⟩ hnext; refine rs1 (by kernel_rfl) ?_; refine k_lssS rfl zq (fun hc => ?_) (fun hc => ?_)
  · refine k_nil ?_; refine run_seq ?_; refine run_yes ?_; refine run_skip ?_; refine run_seq ?_; refine run_block ?_; refine rs2 (by kernel_rfl) ?_; refine mq rfl ?_; refine aq rfl ?_; refine rs6 (by kernel_rfl) ?_; refine mq rfl ?_; refine mq rfl ?_; refine mq rfl ?_; obtain ⟨rd_b, rd_o, rfl⟩ := rd.ptr (by omega)
    refine k_ixs rfl zq (by first | rfl | assumption) (by omega) (by omega) ?_; refine k_ldN (vs := hts (xs.getD k default)) rfl zq (hts_length _) (rd.eat k (by omega) (by omega)) ?_; refine k_valP (Post := fun v => IsB _ v) rfl zq hcall (fun H' hH => hf k (by omega) H' hH) ?_; rintro v (⟨hc, rfl⟩ | ⟨hc, rfl⟩)
    · refine k_put ?_; refine k_nil ?_; refine run_yes ?_; refine rs2 (by kernel_rfl) ?_; refine mq rfl ?_; refine aq rfl ?_; refine run_ret rfl ?_; refine run_res (h) rfl Tryz.func149 rfl weakSub ?_; refine hK _ _ ?_
      first
        | exact ⟨rfl, _, rfl, fun _ => ⟨k, by omega, hc⟩, fun _ => by omega⟩
        | (refine ⟨rfl, _, rfl, fun e => absurd e (by decide), ?_⟩; rintro ⟨i, h1, h2⟩; exact absurd h2 (he i (by omega)))
    · refine k_put ?_; refine k_nil ?_; refine run_no ?_; refine run_skip ?_; refine run_inBlock ?_; refine rr2 (by kernel_rfl) ?_; refine k_add rfl zq (by unfold In64; omega) ?_; refine mq rfl ?_; refine k_nil ?_; exact m.weak weakSub (hnext _ _ _ (by omega) ⟨k + 1, rfl, by omega, fun i hi => by
        rcases Nat.lt_or_ge i k with h1 | h1
        · exact he i h1
        · obtain rfl : i = k := by omega
          exact hc, exU rfl, rfl⟩)
  · refine k_nil ?_; refine run_seq ?_; refine run_no ?_; refine run_exit rfl ?_; refine rs1 (by kernel_rfl) ?_; refine aq rfl ?_; refine run_ret rfl ?_; refine run_res (h) rfl Tryz.func149 rfl weakSub ?_; refine hK _ _ ?_
    first
      | exact ⟨rfl, _, rfl, fun _ => ⟨k, by omega, hc⟩, fun _ => by omega⟩
      | (refine ⟨rfl, _, rfl, fun e => absurd e (by decide), ?_⟩; rintro ⟨i, h1, h2⟩; exact absurd h2 (he i (by omega)))
theorem f103_c (m : Md Tryz.prog B) (h : Hp) {p : Option Addr} {n c : Nat} {xs : List (List Int)} (rd : RdS B h 7 (.slice p n c) n (encs xs)) (hn : n ≤ 100000) {fid : Nat} {fc cp : Array Value} {pr : Nat → Prop} (hcall : callB Tryz.prog fid = true) (hf : ∀ i, i < n → ∀ H' : Hp, h.Sublist H' → FnC m fid (fc ++ [htV (xs.getD i default)].toArray ++ cp) H' fun v h' => h' = H' ∧ IsB (pr i) v) : FnC m 103 #[.slice p n c, .func (.func fid) fc cp] h fun v h' => h' = h ∧ IsB (∃ i, i < n ∧ pr i) v := by
  refine fn_enter Tryz.func103 rfl rfl (l := (.slice p n c) :: (.func (.func fid) fc cp) :: uu7) rfl ?_
  intro cf cs K hK
  refine rs1 (by kernel_rfl) ?_; refine aq rfl ?_; refine rs5 (by kernel_rfl) ?_; refine mq rfl ?_; refine mq rfl ?_; refine k_calP (Post := fun v => ∃ j : Int, v = .int .i64 j ∧ (0 ≤ j ↔ ∃ i, i < n ∧ pr i)) rfl zq (by kernel_rfl) (fun H' hH => f149_c m H' (rd.keeps (sq hH)) hn hcall (fun i hi K hK => hf i hi K (SubH.sub.trans (hH.trans hK)))) ?_; rintro v ⟨j, rfl, hj⟩; refine k_put ?_; refine k_geqS rfl zq (fun hc => ?_) (fun hc => ?_)
  · refine aq rfl ?_; refine run_ret rfl ?_; refine run_res (h) rfl Tryz.func103 rfl weakSub ?_; refine hK _ _ ?_
    first | exact ⟨rfl, IsB.yes (hj.1 (by assumption))⟩ | exact ⟨rfl, IsB.no (fun e => absurd (hj.2 e) (by omega))⟩
  · refine aq rfl ?_; refine run_ret rfl ?_; refine run_res (h) rfl Tryz.func103 rfl weakSub ?_; refine hK _ _ ?_
    first | exact ⟨rfl, IsB.yes (hj.1 (by assumption))⟩ | exact ⟨rfl, IsB.no (fun e => absurd (hj.2 e) (by omega))⟩
theorem f175_c (m : Md Tryz.prog B) (h : Hp) {p : Option Addr} {n c : Nat} {xs : List Ru} (rd : RdS B h 4 (.slice p n c) n (encs xs)) (hn : n ≤ 100000) {fid : Nat} {fc cp : Array Value} {pr : Nat → Prop} (hcall : callB Tryz.prog fid = true) (hf : ∀ i, i < n → ∀ H' : Hp, h.Sublist H' → FnC m fid (fc ++ [ruV (xs.getD i default)].toArray ++ cp) H' fun v h' => h' = H' ∧ IsB (pr i) v) : FnC m 175 #[.slice p n c, .func (.func fid) fc cp] h fun v h' => h' = h ∧ ∃ j : Int, v = .int .i64 j ∧ (0 ≤ j ↔ ∃ i, i < n ∧ pr i) := by
  refine fn_enter Tryz.func175 rfl rfl (l := (.slice p n c) :: (.func (.func fid) fc cp) :: uu17) rfl ?_
  intro cf cs K hK
  refine rs1 (by kernel_rfl) ?_; refine aq rfl ?_; refine run_seq ?_; refine rs3 (by kernel_rfl) ?_; refine mq rfl ?_; refine k_len rfl zq ?_; refine mq rfl ?_; refine k_nil ?_; refine run_block ?_; refine run_loop (fun nn l h' => ∃ (k : Nat), nn = n - k ∧ (k ≤ n) ∧ (∀ i, i < k → ¬ pr i) ∧ (∃ U : Nat → Value, l = [.slice p n c, .func (.func fid) fc cp, U 2, U 3, U 4, U 5, U 6, .int .i64 (n : Int), .int .i64 (k : Int), U 9, U 10, U 11, U 12, U 13, U 14, U 15, U 16, U 17, U 18]) ∧ h = h') _ ⟨0, rfl, by omega, fun i hi => by omega, exU rfl, rfl⟩ ?_; rintro nn l h' ⟨k, rfl, hk, he, ⟨U, rfl⟩, rfl⟩ hnext; refine rs1 (by kernel_rfl) ?_; refine k_lssS rfl zq (fun hc => ?_) (fun hc => ?_)
  · refine k_nil ?_; refine run_seq ?_; refine run_yes ?_; refine run_skip ?_; refine run_seq ?_; refine run_block ?_; refine rs2 (by kernel_rfl) ?_; refine mq rfl ?_; refine aq rfl ?_; refine rs6 (by kernel_rfl) ?_; refine mq rfl ?_; refine mq rfl ?_; refine mq rfl ?_; obtain ⟨rd_b, rd_o, rfl⟩ := rd.ptr (by omega)
    refine k_ixs rfl zq (by first | rfl | assumption) (by omega) (by omega) ?_; refine k_ldN (vs := ruL (xs.getD k default)) rfl zq rfl (rd.eat k (by omega) (by omega)) ?_; refine k_valP (Post := fun v => IsB _ v) rfl zq hcall (fun H' hH => hf k (by omega) H' hH) ?_; rintro v (⟨hc, rfl⟩ | ⟨hc, rfl⟩)
    · refine k_put ?_; refine k_nil ?_; refine run_yes ?_; refine rs2 (by kernel_rfl) ?_; refine mq rfl ?_; refine aq rfl ?_; refine run_ret rfl ?_; refine run_res (h) rfl Tryz.func175 rfl weakSub ?_; refine hK _ _ ?_
      first
        | exact ⟨rfl, _, rfl, fun _ => ⟨k, by omega, hc⟩, fun _ => by omega⟩
        | (refine ⟨rfl, _, rfl, fun e => absurd e (by decide), ?_⟩; rintro ⟨i, h1, h2⟩; exact absurd h2 (he i (by omega)))
    · refine k_put ?_; refine k_nil ?_; refine run_no ?_; refine run_skip ?_; refine run_inBlock ?_; refine rr2 (by kernel_rfl) ?_; refine k_add rfl zq (by unfold In64; omega) ?_; refine mq rfl ?_; refine k_nil ?_; exact m.weak weakSub (hnext _ _ _ (by omega) ⟨k + 1, rfl, by omega, fun i hi => by
        rcases Nat.lt_or_ge i k with h1 | h1
        · exact he i h1
        · obtain rfl : i = k := by omega
          exact hc, exU rfl, rfl⟩)
  · refine k_nil ?_; refine run_seq ?_; refine run_no ?_; refine run_exit rfl ?_; refine rs1 (by kernel_rfl) ?_; refine aq rfl ?_; refine run_ret rfl ?_; refine run_res (h) rfl Tryz.func175 rfl weakSub ?_; refine hK _ _ ?_
    first
      | exact ⟨rfl, _, rfl, fun _ => ⟨k, by omega, hc⟩, fun _ => by omega⟩
      | (refine ⟨rfl, _, rfl, fun e => absurd e (by decide), ?_⟩; rintro ⟨i, h1, h2⟩; exact absurd h2 (he i (by omega)))
theorem f161_c (m : Md Tryz.prog B) (h : Hp) {p : Option Addr} {n c : Nat} {xs : List Ru} (rd : RdS B h 4 (.slice p n c) n (encs xs)) (hn : n ≤ 100000) {fid : Nat} {fc cp : Array Value} {pr : Nat → Prop} (hcall : callB Tryz.prog fid = true) (hf : ∀ i, i < n → ∀ H' : Hp, h.Sublist H' → FnC m fid (fc ++ [ruV (xs.getD i default)].toArray ++ cp) H' fun v h' => h' = H' ∧ IsB (pr i) v) : FnC m 161 #[.slice p n c, .func (.func fid) fc cp] h fun v h' => h' = h ∧ IsB (∃ i, i < n ∧ pr i) v := by
  refine fn_enter Tryz.func161 rfl rfl (l := (.slice p n c) :: (.func (.func fid) fc cp) :: uu7) rfl ?_
  intro cf cs K hK
  refine rs1 (by kernel_rfl) ?_; refine aq rfl ?_; refine rs5 (by kernel_rfl) ?_; refine mq rfl ?_; refine mq rfl ?_; refine k_calP (Post := fun v => ∃ j : Int, v = .int .i64 j ∧ (0 ≤ j ↔ ∃ i, i < n ∧ pr i)) rfl zq (by kernel_rfl) (fun H' hH => f175_c m H' (rd.keeps (sq hH)) hn hcall (fun i hi K hK => hf i hi K (SubH.sub.trans (hH.trans hK)))) ?_; rintro v ⟨j, rfl, hj⟩; refine k_put ?_; refine k_geqS rfl zq (fun hc => ?_) (fun hc => ?_)
  · refine aq rfl ?_; refine run_ret rfl ?_; refine run_res (h) rfl Tryz.func161 rfl weakSub ?_; refine hK _ _ ?_
    first | exact ⟨rfl, IsB.yes (hj.1 (by assumption))⟩ | exact ⟨rfl, IsB.no (fun e => absurd (hj.2 e) (by omega))⟩
  · refine aq rfl ?_; refine run_ret rfl ?_; refine run_res (h) rfl Tryz.func161 rfl weakSub ?_; refine hK _ _ ?_
    first | exact ⟨rfl, IsB.yes (hj.1 (by assumption))⟩ | exact ⟨rfl, IsB.no (fun e => absurd (hj.2 e) (by omega))⟩
theorem f203_c (m : Md Tryz.prog B) (h : Hp) (x : Sp) : FnC m 203 #[spV x] h fun v h' => h' = h ∧ IsB (¬ okM x) v := by
  refine fn_enter Tryz.func203 rfl rfl (l := [spV x, undef, undef, undef, undef, undef]) rfl ?_
  intro cf cs K hK
  refine rs2 (by kernel_rfl) ?_; refine k_box rfl zq (fun q1 => k_hp (k_put ?_)); refine aq rfl ?_; refine rs4 (by kernel_rfl) ?_; refine k_ldA rfl zq ?_; refine k_calP (Post := fun v => IsB _ v) rfl zq (by kernel_rfl) (fun H' hH => f140_c m H' _ _ _ _ _ (by decide) (by decide)) ?_; rintro v (⟨hc, rfl⟩ | ⟨hc, rfl⟩)
  · refine k_put ?_; refine k_notT rfl zq ?_; refine aq rfl ?_; refine run_ret rfl ?_; refine run_res (h) rfl Tryz.func203 rfl weakSub ?_; refine hK _ _ ?_
    first | exact ⟨rfl, IsB.yes (by unfold okM; omega)⟩ | exact ⟨rfl, IsB.no (by unfold okM; omega)⟩
  · refine k_put ?_; refine k_notF rfl zq ?_; refine aq rfl ?_; refine run_ret rfl ?_; refine run_res (h) rfl Tryz.func203 rfl weakSub ?_; refine hK _ _ ?_
    first | exact ⟨rfl, IsB.yes (by unfold okM; omega)⟩ | exact ⟨rfl, IsB.no (by unfold okM; omega)⟩
theorem f158_c (m : Md Tryz.prog B) (h : Hp) (x : Int) : FnC m 158 #[.int .i64 x] h fun v h' => h' = h ∧ IsB (¬ (0 ≤ x ∧ x ≤ 959)) v := by
  refine fn_enter Tryz.func158 rfl rfl (l := [.int .i64 x, undef, undef, undef, undef, undef]) rfl ?_
  intro cf cs K hK
  refine rs1 (by kernel_rfl) ?_; refine aq rfl ?_; refine rs4 (by kernel_rfl) ?_; refine mq rfl ?_; refine k_calP (Post := fun v => IsB _ v) rfl zq (by kernel_rfl) (fun H' hH => f117_c m H' _ _ _) ?_; rintro v (⟨hc, rfl⟩ | ⟨hc, rfl⟩)
  · refine k_put ?_; refine k_notT rfl zq ?_; refine aq rfl ?_; refine run_ret rfl ?_; refine run_res (h) rfl Tryz.func158 rfl weakSub ?_; refine hK _ _ ?_
    first | exact ⟨rfl, IsB.yes (by omega)⟩ | exact ⟨rfl, IsB.no (by omega)⟩
  · refine k_put ?_; refine k_notF rfl zq ?_; refine aq rfl ?_; refine run_ret rfl ?_; refine run_res (h) rfl Tryz.func158 rfl weakSub ?_; refine hK _ _ ?_
    first | exact ⟨rfl, IsB.yes (by omega)⟩ | exact ⟨rfl, IsB.no (by omega)⟩
theorem f199_c (m : Md Tryz.prog B) (h : Hp) {b : Bk} {pm : Option Addr} {nm cm : Nat} {pr : Option Addr} {nr cr : Nat} : FnC m 199 #[bkV b pm nm cm pr nr cr] h fun v h' => h' = h ∧ v = .int .i64 (if ¬ (0 ≤ b.bend ∧ b.bend ≤ 99) ∨ ¬ (0 ≤ b.twist ∧ b.twist ≤ 99) ∨ ¬ (0 ≤ b.turns ∧ b.turns ≤ 5) then 1 else 0) := by
  refine fn_enter Tryz.func199 rfl rfl (l := (bkV b pm nm cm pr nr cr) :: uu21) rfl ?_
  intro cf cs K hK
  refine rs2 (by kernel_rfl) ?_; refine k_box rfl zq (fun q1 => k_hp (k_put ?_)); refine aq rfl ?_; refine run_seq ?_; refine run_seq ?_; refine run_region [(0, .free), (1, .free), (2, .free), (3, .free), (4, .free), (5, .free), (6, .free), (7, .free), (8, .free), (9, .free), (10, .free), (11, .free), (12, .free), (13, .free), (14, .free), (15, .free), (16, .free), (17, .free), (18, .free)] (by kernel_rfl) (by kernel_rfl) ?_; first | refine k_fa0 rfl zq ?_ | refine k_fa rfl zq ?_
  first | refine k_fa0 rfl zq ?_ | refine k_fa rfl zq ?_
  refine k_ldh rfl zq ?_; refine k_calP (Post := fun v => IsB _ v) rfl zq (by kernel_rfl) (fun H' hH => f117_c m H' _ _ _) ?_; rintro v (⟨hc, rfl⟩ | ⟨hc, rfl⟩)
  · refine k_put ?_; refine k_notT rfl zq ?_; refine mq rfl ?_; first | refine k_fa0 rfl rfl ?_ | refine k_fa rfl rfl ?_
    first | refine k_fa0 rfl rfl ?_ | refine k_fa rfl rfl ?_
    refine k_ldh rfl rfl ?_; refine k_calP (Post := fun v => IsB _ v) rfl rfl (by kernel_rfl) (fun H' hH => f117_c m H' _ _ _) ?_; rintro v (⟨hc, rfl⟩ | ⟨hc, rfl⟩)
    · refine k_put ?_; refine k_notT rfl rfl ?_; refine k_pickF rfl zq ?_; refine mq rfl ?_; first | refine k_fa0 rfl rfl ?_ | refine k_fa rfl rfl ?_
      first | refine k_fa0 rfl rfl ?_ | refine k_fa rfl rfl ?_
      refine k_ldh rfl rfl ?_; refine k_calP (Post := fun v => IsB _ v) rfl rfl (by kernel_rfl) (fun H' hH => f117_c m H' _ _ _) ?_; rintro v (⟨hc, rfl⟩ | ⟨hc, rfl⟩)
      · refine k_put ?_; refine k_notT rfl rfl ?_; refine k_pickF rfl zq ?_; refine k_nil ?_; refine run_no ?_; refine run_skip ?_; refine rs1 (by kernel_rfl) ?_; refine aq rfl ?_; refine run_ret rfl ?_; refine run_res (h) rfl Tryz.func199 rfl weakSub ?_; refine hK _ _ ?_
        refine ⟨rfl, ?_⟩
        first | (rw [if_pos (by omega)]; done) | (rw [if_neg (by omega)]; done)
      · refine k_put ?_; refine k_notF rfl rfl ?_; refine k_pickF rfl zq ?_; refine k_nil ?_; refine run_yes ?_; refine rs1 (by kernel_rfl) ?_; refine aq rfl ?_; refine run_ret rfl ?_; refine run_res (h) rfl Tryz.func199 rfl weakSub ?_; refine hK _ _ ?_
        refine ⟨rfl, ?_⟩
        first | (rw [if_pos (by omega)]; done) | (rw [if_neg (by omega)]; done)
    · refine k_put ?_; refine k_notF rfl rfl ?_; refine k_pickF rfl zq ?_; refine mq rfl ?_; refine k_off rfl rfl ?_; refine k_off rfl rfl ?_; refine k_off rfl rfl ?_; refine k_off rfl rfl ?_; refine k_off rfl rfl ?_; refine k_pickT rfl zq ?_; refine k_nil ?_; refine run_yes ?_; refine rs1 (by kernel_rfl) ?_; refine aq rfl ?_; refine run_ret rfl ?_; refine run_res (h) rfl Tryz.func199 rfl weakSub ?_; refine hK _ _ ?_
      refine ⟨rfl, ?_⟩
      first | (rw [if_pos (by omega)]; done) | (rw [if_neg (by omega)]; done)
  · refine k_put ?_; refine k_notF rfl zq ?_; refine mq rfl ?_; refine k_off rfl rfl ?_; refine k_off rfl rfl ?_; refine k_off rfl rfl ?_; refine k_off rfl rfl ?_; refine k_off rfl rfl ?_; refine k_pickT rfl zq ?_; refine mq rfl ?_; refine k_off rfl rfl ?_; refine k_off rfl rfl ?_; refine k_off rfl rfl ?_; refine k_off rfl rfl ?_; refine k_off rfl rfl ?_; refine k_pickT rfl zq ?_; refine k_nil ?_; refine run_yes ?_; refine rs1 (by kernel_rfl) ?_; refine aq rfl ?_; refine run_ret rfl ?_; refine run_res (h) rfl Tryz.func199 rfl weakSub ?_; refine hK _ _ ?_
    refine ⟨rfl, ?_⟩
    first | (rw [if_pos (by omega)]; done) | (rw [if_neg (by omega)]; done)
theorem f200_c (m : Md Tryz.prog B) (h : Hp) {b : Bk} {pm : Option Addr} {nm cm : Nat} {pr : Option Addr} {nr cr : Nat} (rdm : RdS B h 2 (.slice pm nm cm) nm (encs b.marks)) (hm : nm ≤ 1000) : FnC m 200 #[bkV b pm nm cm pr nr cr] h fun v h' => h' = h ∧ v = .int .i64 (marksS b.marks) := by
  have hml := rdm.elen (by decide)
  refine fn_enter Tryz.func200 rfl rfl (l := (bkV b pm nm cm pr nr cr) :: uu12) rfl ?_
  intro cf cs K hK
  refine rs2 (by kernel_rfl) ?_; refine k_box rfl zq (fun q1 => k_hp (k_put ?_)); refine aq rfl ?_; refine run_seq ?_; refine run_block ?_; refine rs5 (by kernel_rfl) ?_; refine k_ldA rfl zq ?_; refine k_calP (Post := fun v => v = _) rfl zq (by kernel_rfl) (fun H' hH => f118_c m H' _ _ _ _ _ _ _ _ _) ?_; rintro v rfl; refine k_put ?_; refine k_calP (Post := fun v => IsB _ v) rfl zq (by kernel_rfl) (fun H' hH => f117_c m H' _ _ _) ?_; rintro v (⟨hc, rfl⟩ | ⟨hc, rfl⟩)
  · refine k_put ?_; refine k_notT rfl zq ?_; refine aq rfl ?_; refine run_no ?_; refine rs5 (by kernel_rfl) ?_; first | refine k_fa0 rfl zq ?_ | refine k_fa rfl zq ?_
    first | refine k_fa0 rfl zq ?_ | refine k_fa rfl zq ?_
    refine k_ldh rfl zq ?_; refine k_calP (Post := fun v => IsB _ v) rfl zq (by kernel_rfl) (fun H' hH => f202_c m H' (pr := fun i => ¬ okM (b.marks.getD i default)) (rdm.keeps (sq hH)) (by omega) (by kernel_rfl) (fun i hi K hK => f203_c m K _)) ?_; rintro v (⟨hc, rfl⟩ | ⟨hc, rfl⟩)
    · refine k_put ?_; refine aq rfl ?_; refine run_yes ?_; refine rs1 (by kernel_rfl) ?_; refine aq rfl ?_; refine run_ret rfl ?_; refine run_res (h) rfl Tryz.func200 rfl weakSub ?_; refine hK _ _ ?_
      refine ⟨rfl, ?_⟩
      first
        | (rw [marksS, if_pos (by omega)]; done)
        | (rw [marksS, if_neg (by omega), if_neg (fun e => by obtain ⟨i, h1, h2⟩ := hc; exact h2 (e _ (mem_getDR.2 ⟨i, by omega, rfl⟩)))]; done)
        | (rw [marksS, if_neg (by omega), if_pos (fun x hx => by obtain ⟨i, h1, rfl⟩ := mem_getDR.1 hx; exact Classical.byContradiction fun e => hc ⟨i, by omega, e⟩)]; done)
    · refine k_put ?_; refine aq rfl ?_; refine run_no ?_; refine run_skip ?_; refine run_inBlock ?_; refine rs1 (by kernel_rfl) ?_; refine aq rfl ?_; refine run_ret rfl ?_; refine run_res (h) rfl Tryz.func200 rfl weakSub ?_; refine hK _ _ ?_
      refine ⟨rfl, ?_⟩
      first
        | (rw [marksS, if_pos (by omega)]; done)
        | (rw [marksS, if_neg (by omega), if_neg (fun e => by obtain ⟨i, h1, h2⟩ := hc; exact h2 (e _ (mem_getDR.2 ⟨i, by omega, rfl⟩)))]; done)
        | (rw [marksS, if_neg (by omega), if_pos (fun x hx => by obtain ⟨i, h1, rfl⟩ := mem_getDR.1 hx; exact Classical.byContradiction fun e => hc ⟨i, by omega, e⟩)]; done)
  · refine k_put ?_; refine k_notF rfl zq ?_; refine aq rfl ?_; refine run_yes ?_; refine rs1 (by kernel_rfl) ?_; refine aq rfl ?_; refine run_ret rfl ?_; refine run_res (h) rfl Tryz.func200 rfl weakSub ?_; refine hK _ _ ?_
    refine ⟨rfl, ?_⟩
    first
      | (rw [marksS, if_pos (by omega)]; done)
      | (rw [marksS, if_neg (by omega), if_neg (fun e => by obtain ⟨i, h1, h2⟩ := hc; exact h2 (e _ (mem_getDR.2 ⟨i, by omega, rfl⟩)))]; done)
      | (rw [marksS, if_neg (by omega), if_pos (fun x hx => by obtain ⟨i, h1, rfl⟩ := mem_getDR.1 hx; exact Classical.byContradiction fun e => hc ⟨i, by omega, e⟩)]; done)
theorem f201_c (m : Md Tryz.prog B) (h : Hp) {b : Bk} {pm : Option Addr} {nm cm : Nat} {pr : Option Addr} {nr cr : Nat} (rdm : RdS B h 2 (.slice pm nm cm) nm (encs b.marks)) (hm : nm ≤ 1000) (rdr : RdS B h 4 (.slice pr nr cr) nr (encs b.rules)) (hr : nr ≤ 1000) : FnC m 201 #[bkV b pm nm cm pr nr cr] h fun v h' => h' = h ∧ v = .int .i64 (rulesS b.marks.length b.rules) := by
  have hml := rdm.elen (by decide)
  have hrl := rdr.elen (by decide)
  refine fn_enter Tryz.func201 rfl rfl (l := (bkV b pm nm cm pr nr cr) :: uu42) rfl ?_
  intro cf cs K hK
  refine rs2 (by kernel_rfl) ?_; refine k_box rfl zq (fun q1 => k_hp (k_put ?_)); refine aq rfl ?_; refine run_seq ?_; refine rs5 (by kernel_rfl) ?_; first | refine k_fa0 rfl zq ?_ | refine k_fa rfl zq ?_
  first | refine k_fa0 rfl zq ?_ | refine k_fa rfl zq ?_
  refine k_ldh rfl zq ?_; refine k_len rfl zq ?_; refine k_gtrS rfl zq (fun hc => ?_) (fun hc => ?_)
  · refine k_nil ?_; refine run_yes ?_; refine rs1 (by kernel_rfl) ?_; refine aq rfl ?_; refine run_ret rfl ?_; refine run_res (h) rfl Tryz.func201 rfl weakSub ?_; refine hK _ _ ?_
    refine ⟨rfl, ?_⟩
    first
      | (rw [rulesS, if_pos (by omega)]; done)
      | (rw [rulesS, if_neg (by omega), he, List.drop_eq_nil_of_le (by omega)]; rfl)
      | (rw [rulesS, if_neg (by omega), he, getD_dropR b.rules k (by omega), rules1, if_pos (by omega)]; done)
      | (rw [rulesS, if_neg (by omega), he, getD_dropR b.rules k (by omega), rules1, if_neg (by omega), if_pos (by omega)]; done)
      | (rw [rulesS, if_neg (by omega), he, getD_dropR b.rules k (by omega), rules1, if_neg (by omega), if_neg (by omega), if_pos (by omega)]; done)
  · refine k_nil ?_; refine run_no ?_; refine run_skip ?_; refine run_seq ?_; refine rs5 (by kernel_rfl) ?_; first | refine k_fa0 rfl zq ?_ | refine k_fa rfl zq ?_
    first | refine k_fa0 rfl zq ?_ | refine k_fa rfl zq ?_
    refine k_ldh rfl zq ?_; refine k_len rfl zq ?_; refine mq rfl ?_; refine k_nil ?_; refine run_block ?_; refine run_loop (fun nn l h' => ∃ (k : Nat), nn = nr - k ∧ (k ≤ nr) ∧ (rules1 b.marks.length b.rules = rules1 b.marks.length (b.rules.drop k)) ∧ (∃ U : Nat → Value, l = [bkV b pm nm cm pr nr cr, .pointer (some ⟨q1, 0, none⟩), U 2, U 3, U 4, U 5, U 6, U 7, U 8, U 9, U 10, U 11, .slice pr nr cr, .int .i64 (nr : Int), .int .i64 (k : Int), U 15, U 16, U 17, U 18, U 19, U 20, U 21, U 22, U 23, U 24, U 25, U 26, U 27, U 28, U 29, U 30, U 31, U 32, U 33, U 34, U 35, U 36, U 37, U 38, U 39, U 40, U 41, U 42]) ∧ h ++ [⟨true, q1, .cells (bkL b pm nm cm pr nr cr).toArray 109 (0, 0)⟩] = h') _ ⟨0, rfl, by omega, rfl, exU rfl, rfl⟩ ?_; rintro nn l h' ⟨k, rfl, hk, he, ⟨U, rfl⟩, rfl⟩ hnext; refine rs1 (by kernel_rfl) ?_; refine k_lssS rfl zq (fun hc => ?_) (fun hc => ?_)
    · refine k_nil ?_; refine run_seq ?_; refine run_yes ?_; refine run_skip ?_; refine run_seq ?_; refine run_block ?_; refine rs4 (by kernel_rfl) ?_; obtain ⟨rdr_b, rdr_o, rfl⟩ := rdr.ptr (by omega)
      refine k_ixs rfl zq (by first | rfl | assumption) (by omega) (by omega) ?_; refine k_ldN (vs := [.int .i64 (b.rules.getD k default).a, .int .i64 (b.rules.getD k default).b, .int .i64 (b.rules.getD k default).lo, .int .i64 (b.rules.getD k default).hi]) rfl zq rfl (rdr.eat k (by omega) (by omega)) ?_; refine k_new rfl zq (fun q4 => k_hp (k_put ?_)); refine k_stA rfl zq rfl ?_; refine k_nil ?_; refine run_block ?_; refine rs13 (by kernel_rfl) ?_; refine k_ldA rfl zq ?_; first | refine k_fa0 rfl zq ?_ | refine k_fa rfl zq ?_
      refine k_ldh rfl zq ?_; refine k_calP (Post := fun v => v = _) rfl zq (by kernel_rfl) (fun H' hH => f109_c m H' _ _ _ _ _ _ _ _ _ _ (by omega)) ?_; rintro v rfl; refine k_put ?_; refine k_neqS rfl zq (fun hc => ?_) (fun hc => ?_)
      · replace hc := st_ne hc
        refine mq rfl ?_; refine k_off rfl rfl ?_; refine k_off rfl rfl ?_; refine k_off rfl rfl ?_; refine k_off rfl rfl ?_; refine k_off rfl rfl ?_; refine k_pickT rfl zq ?_; refine aq rfl ?_; refine run_yes ?_; refine rs1 (by kernel_rfl) ?_; refine aq rfl ?_; refine run_ret rfl ?_; refine run_res (h) rfl Tryz.func201 rfl weakSub ?_; refine hK _ _ ?_
        refine ⟨rfl, ?_⟩
        first
          | (rw [rulesS, if_pos (by omega)]; done)
          | (rw [rulesS, if_neg (by omega), he, List.drop_eq_nil_of_le (by omega)]; rfl)
          | (rw [rulesS, if_neg (by omega), he, getD_dropR b.rules k (by omega), rules1, if_pos (by omega)]; done)
          | (rw [rulesS, if_neg (by omega), he, getD_dropR b.rules k (by omega), rules1, if_neg (by omega), if_pos (by omega)]; done)
          | (rw [rulesS, if_neg (by omega), he, getD_dropR b.rules k (by omega), rules1, if_neg (by omega), if_neg (by omega), if_pos (by omega)]; done)
      · replace hc := st_eq hc
        refine mq rfl ?_; refine k_ldA rfl rfl ?_; first | refine k_fa0 rfl rfl ?_ | refine k_fa rfl rfl ?_
        refine k_ldh rfl rfl ?_; refine k_calP (Post := fun v => v = _) rfl rfl (by kernel_rfl) (fun H' hH => f109_c m H' _ _ _ _ _ _ _ _ _ _ (by omega)) ?_; rintro v rfl; refine k_put ?_; refine k_neqS rfl rfl (fun hc => ?_) (fun hc => ?_)
        · replace hc := st_ne hc
          refine k_pickF rfl zq ?_; refine aq rfl ?_; refine run_yes ?_; refine rs1 (by kernel_rfl) ?_; refine aq rfl ?_; refine run_ret rfl ?_; refine run_res (h) rfl Tryz.func201 rfl weakSub ?_; refine hK _ _ ?_
          refine ⟨rfl, ?_⟩
          first
            | (rw [rulesS, if_pos (by omega)]; done)
            | (rw [rulesS, if_neg (by omega), he, List.drop_eq_nil_of_le (by omega)]; rfl)
            | (rw [rulesS, if_neg (by omega), he, getD_dropR b.rules k (by omega), rules1, if_pos (by omega)]; done)
            | (rw [rulesS, if_neg (by omega), he, getD_dropR b.rules k (by omega), rules1, if_neg (by omega), if_pos (by omega)]; done)
            | (rw [rulesS, if_neg (by omega), he, getD_dropR b.rules k (by omega), rules1, if_neg (by omega), if_neg (by omega), if_pos (by omega)]; done)
        · replace hc := st_eq hc
          refine k_pickF rfl zq ?_; refine aq rfl ?_; refine run_no ?_; refine rs6 (by kernel_rfl) ?_; first | refine k_fa0 rfl zq ?_ | refine k_fa rfl zq ?_
          refine k_ldh rfl zq ?_; first | refine k_fa0 rfl zq ?_ | refine k_fa rfl zq ?_
          refine k_ldh rfl zq ?_; refine k_geqS rfl zq (fun hc => ?_) (fun hc => ?_)
          · refine aq rfl ?_; refine run_yes ?_; refine rs1 (by kernel_rfl) ?_; refine aq rfl ?_; refine run_ret rfl ?_; refine run_res (h) rfl Tryz.func201 rfl weakSub ?_; refine hK _ _ ?_
            refine ⟨rfl, ?_⟩
            first
              | (rw [rulesS, if_pos (by omega)]; done)
              | (rw [rulesS, if_neg (by omega), he, List.drop_eq_nil_of_le (by omega)]; rfl)
              | (rw [rulesS, if_neg (by omega), he, getD_dropR b.rules k (by omega), rules1, if_pos (by omega)]; done)
              | (rw [rulesS, if_neg (by omega), he, getD_dropR b.rules k (by omega), rules1, if_neg (by omega), if_pos (by omega)]; done)
              | (rw [rulesS, if_neg (by omega), he, getD_dropR b.rules k (by omega), rules1, if_neg (by omega), if_neg (by omega), if_pos (by omega)]; done)
          · refine aq rfl ?_; refine run_no ?_; refine rs5 (by kernel_rfl) ?_; first | refine k_fa0 rfl zq ?_ | refine k_fa rfl zq ?_
            refine k_ldA rfl zq ?_; refine k_calP (Post := fun v => IsB _ v) rfl zq (by kernel_rfl) (fun H' hH => f140_c m H' _ _ _ _ _ (by decide) (by decide)) ?_; rintro v (⟨hc, rfl⟩ | ⟨hc, rfl⟩)
            · refine k_put ?_; refine k_notT rfl zq ?_; refine aq rfl ?_; refine run_no ?_; refine run_skip ?_; refine run_inBlock ?_; refine run_inBlock ?_; refine rr2 (by kernel_rfl) ?_; refine k_add rfl zq (by unfold In64; omega) ?_; refine mq rfl ?_; refine k_nil ?_; exact m.weak weakSub (hnext _ _ _ (by omega) ⟨k + 1, rfl, by omega, by rw [he, getD_dropR b.rules k (by omega), rules1, if_neg (by omega), if_neg (by omega), if_neg (by omega)], exU rfl, rfl⟩)
            · refine k_put ?_; refine k_notF rfl zq ?_; refine aq rfl ?_; refine run_yes ?_; refine rs1 (by kernel_rfl) ?_; refine aq rfl ?_; refine run_ret rfl ?_; refine run_res (h) rfl Tryz.func201 rfl weakSub ?_; refine hK _ _ ?_
              refine ⟨rfl, ?_⟩
              first
                | (rw [rulesS, if_pos (by omega)]; done)
                | (rw [rulesS, if_neg (by omega), he, List.drop_eq_nil_of_le (by omega)]; rfl)
                | (rw [rulesS, if_neg (by omega), he, getD_dropR b.rules k (by omega), rules1, if_pos (by omega)]; done)
                | (rw [rulesS, if_neg (by omega), he, getD_dropR b.rules k (by omega), rules1, if_neg (by omega), if_pos (by omega)]; done)
                | (rw [rulesS, if_neg (by omega), he, getD_dropR b.rules k (by omega), rules1, if_neg (by omega), if_neg (by omega), if_pos (by omega)]; done)
    · refine k_nil ?_; refine run_seq ?_; refine run_no ?_; refine run_exit rfl ?_; refine rs1 (by kernel_rfl) ?_; refine aq rfl ?_; refine run_ret rfl ?_; refine run_res (h) rfl Tryz.func201 rfl weakSub ?_; refine hK _ _ ?_
      refine ⟨rfl, ?_⟩
      first
        | (rw [rulesS, if_pos (by omega)]; done)
        | (rw [rulesS, if_neg (by omega), he, List.drop_eq_nil_of_le (by omega)]; rfl)
        | (rw [rulesS, if_neg (by omega), he, getD_dropR b.rules k (by omega), rules1, if_pos (by omega)]; done)
        | (rw [rulesS, if_neg (by omega), he, getD_dropR b.rules k (by omega), rules1, if_neg (by omega), if_pos (by omega)]; done)
        | (rw [rulesS, if_neg (by omega), he, getD_dropR b.rules k (by omega), rules1, if_neg (by omega), if_neg (by omega), if_pos (by omega)]; done)
end Go.Proofs
namespace Go.Proofs
open Go.Lo
open Go.Conc (G)
set_option maxRecDepth 100000
set_option synthInstance.maxSize 100000
set_option synthInstance.maxHeartbeats 1000000
set_option maxHeartbeats 4000000
variable {B : Array Obj}
variable [Laid B]
def chkS (b : Bk) (k : Nat) : Int := if k = 0 then (if ¬ (0 ≤ b.bend ∧ b.bend ≤ 99) ∨ ¬ (0 ≤ b.twist ∧ b.twist ≤ 99) ∨ ¬ (0 ≤ b.turns ∧ b.turns ≤ 5) then 1 else 0) else if k = 1 then marksS b.marks else rulesS b.marks.length b.rules
theorem chk_book {b : Bk} {k : Nat} (hk : k < 3) (h : ∀ i, i < k → chkS b i = 0) (hs : chkS b k ≠ 0) : bookS b = chkS b k := by
  unfold bookS
  rcases (by omega : k = 0 ∨ k = 1 ∨ k = 2) with rfl | rfl | rfl
  · simp only [chkS, if_true] at hs ⊢
    by_cases e : ¬ (0 ≤ b.bend ∧ b.bend ≤ 99) ∨ ¬ (0 ≤ b.twist ∧ b.twist ≤ 99) ∨ ¬ (0 ≤ b.turns ∧ b.turns ≤ 5)
    · rw [if_pos e, if_pos e]
    · rw [if_neg e] at hs; exact absurd rfl hs
  · have h0 := h 0 (by omega)
    simp only [chkS, if_true] at h0
    have hs' : marksS b.marks ≠ 0 := hs
    by_cases e : ¬ (0 ≤ b.bend ∧ b.bend ≤ 99) ∨ ¬ (0 ≤ b.twist ∧ b.twist ≤ 99) ∨ ¬ (0 ≤ b.turns ∧ b.turns ≤ 5)
    · rw [if_pos e] at h0; cases h0
    · rw [if_neg e, if_pos hs']; rfl
  · have h0 := h 0 (by omega)
    simp only [chkS, if_true] at h0
    have h1 : marksS b.marks = 0 := h 1 (by omega)
    by_cases e : ¬ (0 ≤ b.bend ∧ b.bend ≤ 99) ∨ ¬ (0 ≤ b.twist ∧ b.twist ≤ 99) ∨ ¬ (0 ≤ b.turns ∧ b.turns ≤ 5)
    · rw [if_pos e] at h0; cases h0
    · rw [if_neg e, if_neg (by omega)]; rfl
theorem chk_clear {b : Bk} (h : ∀ i, i < 3 → chkS b i = 0) : bookS b = 0 := by
  unfold bookS
  have h0 := h 0 (by omega)
  simp only [chkS, if_true] at h0
  have h1 : marksS b.marks = 0 := h 1 (by omega)
  by_cases e : ¬ (0 ≤ b.bend ∧ b.bend ≤ 99) ∨ ¬ (0 ≤ b.twist ∧ b.twist ≤ 99) ∨ ¬ (0 ≤ b.turns ∧ b.turns ≤ 5)
  · rw [if_pos e] at h0; cases h0
  · rw [if_neg e, if_neg (by omega)]; exact h 2 (by omega)
theorem chk_get (k : Nat) (hk : k < 3) : ([Value.func (.func 199) #[] #[], .func (.func 200) #[] #[], .func (.func 201) #[] #[]].toArray)[(k : Int).toNat * 1]? = some (.func (.func (199 + k)) #[] #[]) := by
  rcases (by omega : k = 0 ∨ k = 1 ∨ k = 2) with rfl | rfl | rfl <;> rfl
theorem chk_call (k : Nat) (hk : k < 3) : callB Tryz.prog (199 + k) = true := by
  rcases (by omega : k = 0 ∨ k = 1 ∨ k = 2) with rfl | rfl | rfl <;> kernel_rfl
theorem chk_c (m : Md Tryz.prog B) (h : Hp) {b : Bk} {pm : Option Addr} {nm cm : Nat} {pr : Option Addr} {nr cr : Nat} (rdm : RdS B h 2 (.slice pm nm cm) nm (encs b.marks)) (hm : nm ≤ 1000) (rdr : RdS B h 4 (.slice pr nr cr) nr (encs b.rules)) (hr : nr ≤ 1000) (k : Nat) (hk : k < 3) : FnC m (199 + k) #[bkV b pm nm cm pr nr cr] h fun v h' => h' = h ∧ v = .int .i64 (chkS b k) := by
  rcases (by omega : k = 0 ∨ k = 1 ∨ k = 2) with rfl | rfl | rfl
  · exact f199_c m h
  · exact f200_c m h rdm hm
  · exact f201_c m h rdm hm rdr hr
theorem f21_c (m : Md Tryz.prog B) (h : Hp) {b : Bk} {pm : Option Addr} {nm cm : Nat} {pr : Option Addr} {nr cr : Nat} (rdm : RdS B h 2 (.slice pm nm cm) nm (encs b.marks)) (hm : nm ≤ 1000) (rdr : RdS B h 4 (.slice pr nr cr) nr (encs b.rules)) (hr : nr ≤ 1000) : FnC m 21 #[bkV b pm nm cm pr nr cr] h fun v h' => h' = h ∧ v = .int .i64 (bookS b) := by
  refine fn_enter Tryz.func21 rfl rfl (l := (bkV b pm nm cm pr nr cr) :: uu17) rfl ?_
  intro cf cs K hK
  refine rs2 (by kernel_rfl) ?_; refine k_box rfl zq (fun q1 => k_hp (k_put ?_)); refine aq rfl ?_; refine run_seq ?_; refine rs2 (by kernel_rfl) ?_; refine k_ldN (vs := [.func (.func 199) #[] #[], .func (.func 200) #[] #[], .func (.func 201) #[] #[]]) rfl zq rfl laid_rdN ?_; refine mq rfl ?_; refine k_nil ?_; refine run_block ?_; refine run_loop (fun nn l h' => ∃ (k : Nat), nn = 3 - k ∧ (k ≤ 3) ∧ (∀ i, i < k → chkS b i = 0) ∧ (∃ U : Nat → Value, l = [bkV b pm nm cm pr nr cr, .pointer (some ⟨q1, 0, none⟩), U 2, U 3, U 4, U 5, .agg [.func (.func 199) #[] #[], .func (.func 200) #[] #[], .func (.func 201) #[] #[]].toArray, .int .i64 (k : Int), U 8, U 9, U 10, U 11, U 12, U 13, U 14, U 15, U 16, U 17]) ∧ h ++ [⟨true, q1, .cells (bkL b pm nm cm pr nr cr).toArray 25 (0, 0)⟩] = h') _ ⟨0, rfl, by omega, fun i hi => by omega, exU rfl, rfl⟩ ?_; rintro nn l h' ⟨k, rfl, hk, he, ⟨U, rfl⟩, rfl⟩ hnext; refine rs1 (by kernel_rfl) ?_; refine k_lssS rfl zq (fun hc => ?_) (fun hc => ?_)
  · refine k_nil ?_; refine run_seq ?_; refine run_yes ?_; refine run_skip ?_; refine run_seq ?_; refine run_block ?_; refine rs2 (by kernel_rfl) ?_; refine k_ixv rfl zq (by omega) (by omega) (chk_get k (by omega)) ?_; refine aq rfl ?_; refine rs5 (by kernel_rfl) ?_; refine mq rfl ?_; refine k_ldA rfl zq ?_; refine k_bld rfl zq ?_; refine k_valP (Post := fun v => v = _) rfl zq (chk_call k (by omega)) (fun H' hH => chk_c m H' (rdm.keeps (sq hH)) hm (rdr.keeps (sq hH)) hr k (by omega)) ?_; rintro v rfl; refine k_put ?_; refine aq rfl ?_; refine rs2 (by kernel_rfl) ?_; refine mq rfl ?_; refine k_neqS rfl zq (fun hc => ?_) (fun hc => ?_)
    · refine k_nil ?_; refine run_yes ?_; refine rs2 (by kernel_rfl) ?_; refine mq rfl ?_; refine aq rfl ?_; refine run_ret rfl ?_; refine run_res (h) rfl Tryz.func21 rfl weakSub ?_; refine hK _ _ ?_
      first
        | exact ⟨rfl, by rw [chk_book (by omega) he (by assumption)]⟩
        | exact ⟨rfl, by rw [chk_clear (fun i hi => he i (by omega))]⟩
    · refine k_nil ?_; refine run_no ?_; refine run_skip ?_; refine run_inBlock ?_; refine rr2 (by kernel_rfl) ?_; refine k_add rfl zq (by unfold In64; omega) ?_; refine mq rfl ?_; refine k_nil ?_; exact m.weak weakSub (hnext _ _ _ (by omega) ⟨k + 1, rfl, by omega, fun i hi => by
        rcases Nat.lt_or_ge i k with h1 | h1
        · exact he i h1
        · obtain rfl : i = k := by omega
          first | exact hc | exact Classical.byContradiction hc, exU rfl, rfl⟩)
  · refine k_nil ?_; refine run_seq ?_; refine run_no ?_; refine run_exit rfl ?_; refine rs1 (by kernel_rfl) ?_; refine aq rfl ?_; refine run_ret rfl ?_; refine run_res (h) rfl Tryz.func21 rfl weakSub ?_; refine hK _ _ ?_
    first
      | exact ⟨rfl, by rw [chk_book (by omega) he (by assumption)]⟩
      | exact ⟨rfl, by rw [chk_clear (fun i hi => he i (by omega))]⟩
theorem f142_c (m : Md Tryz.prog B) (h : Hp) {b : Bk} {pm : Option Addr} {nm cm : Nat} {pr : Option Addr} {nr cr : Nat} (rdm : RdS B h 2 (.slice pm nm cm) nm (encs b.marks)) (hm : nm ≤ 1000) {p : Option Addr} {n c : Nat} {xs : List Int} (rd : RdS B h 1 (.slice p n c) n (ints xs)) (hn : n ≤ 1000) : FnC m 142 #[bkV b pm nm cm pr nr cr, .slice p n c] h fun v h' => h' = h ∧ v = .int .i64 (lineS b.marks.length xs) := by
  have hml := rdm.elen (by decide)
  have hl := rd.ilen
  refine fn_enter Tryz.func142 rfl rfl (l := (bkV b pm nm cm pr nr cr) :: (.slice p n c) :: uu12) rfl ?_
  intro cf cs K hK
  refine rs2 (by kernel_rfl) ?_; refine k_box rfl zq (fun q2 => k_hp (k_put ?_)); refine aq rfl ?_; refine run_seq ?_; refine run_block ?_; refine rs6 (by kernel_rfl) ?_; refine mq rfl ?_; refine k_len rfl zq ?_; refine k_ldA rfl zq ?_; refine k_calP (Post := fun v => v = _) rfl zq (by kernel_rfl) (fun H' hH => f118_c m H' _ _ _ _ _ _ _ _ _) ?_; rintro v rfl; refine k_put ?_; refine k_neqS rfl zq (fun hc => ?_) (fun hc => ?_)
  · refine aq rfl ?_; refine run_yes ?_; refine rs1 (by kernel_rfl) ?_; refine aq rfl ?_; refine run_ret rfl ?_; refine run_res (h) rfl Tryz.func142 rfl weakSub ?_; refine hK _ _ ?_
    refine ⟨rfl, ?_⟩
    first
      | (rw [lineS, if_pos (by omega)]; done)
      | (rw [lineS, if_neg (by omega), if_neg (fun e => by obtain ⟨i, h1, h2⟩ := hc; exact h2 (e _ (mem_getD.2 ⟨i, by omega, rfl⟩)))]; done)
      | (rw [lineS, if_neg (by omega), if_pos (fun x hx => by obtain ⟨i, h1, rfl⟩ := mem_getD.1 hx; exact Classical.byContradiction fun e => hc ⟨i, by omega, e⟩)]; done)
  · refine aq rfl ?_; refine run_no ?_; refine rs3 (by kernel_rfl) ?_; refine mq rfl ?_; refine k_calP (Post := fun v => IsB _ v) rfl zq (by kernel_rfl) (fun H' hH => f147_c m H' (pr := fun i => ¬ (0 ≤ xs.getD i 0 ∧ xs.getD i 0 ≤ 959)) (rd.keeps (sq hH)) (by omega) (by kernel_rfl) (fun i hi K hK => f158_c m K _)) ?_; rintro v (⟨hc, rfl⟩ | ⟨hc, rfl⟩)
    · refine k_put ?_; refine aq rfl ?_; refine run_yes ?_; refine rs1 (by kernel_rfl) ?_; refine aq rfl ?_; refine run_ret rfl ?_; refine run_res (h) rfl Tryz.func142 rfl weakSub ?_; refine hK _ _ ?_
      refine ⟨rfl, ?_⟩
      first
        | (rw [lineS, if_pos (by omega)]; done)
        | (rw [lineS, if_neg (by omega), if_neg (fun e => by obtain ⟨i, h1, h2⟩ := hc; exact h2 (e _ (mem_getD.2 ⟨i, by omega, rfl⟩)))]; done)
        | (rw [lineS, if_neg (by omega), if_pos (fun x hx => by obtain ⟨i, h1, rfl⟩ := mem_getD.1 hx; exact Classical.byContradiction fun e => hc ⟨i, by omega, e⟩)]; done)
    · refine k_put ?_; refine aq rfl ?_; refine run_no ?_; refine run_skip ?_; refine run_inBlock ?_; refine rs1 (by kernel_rfl) ?_; refine aq rfl ?_; refine run_ret rfl ?_; refine run_res (h) rfl Tryz.func142 rfl weakSub ?_; refine hK _ _ ?_
      refine ⟨rfl, ?_⟩
      first
        | (rw [lineS, if_pos (by omega)]; done)
        | (rw [lineS, if_neg (by omega), if_neg (fun e => by obtain ⟨i, h1, h2⟩ := hc; exact h2 (e _ (mem_getD.2 ⟨i, by omega, rfl⟩)))]; done)
        | (rw [lineS, if_neg (by omega), if_pos (fun x hx => by obtain ⟨i, h1, rfl⟩ := mem_getD.1 hx; exact Classical.byContradiction fun e => hc ⟨i, by omega, e⟩)]; done)
theorem f143_c (m : Md Tryz.prog B) (h : Hp) {p : Option Addr} {n c : Nat} {xs : List Int} (rd : RdS B h 1 (.slice p n c) n (ints xs)) (hn : n ≤ 1000) : FnC m 143 #[.slice p n c] h fun v h' => h' = h ∧ v = htV xs := by
  refine fn_enter Tryz.func143 rfl rfl (l := (.slice p n c) :: uu7) rfl ?_
  intro cf cs K hK
  refine rs1 (by kernel_rfl) ?_; refine k_new rfl zq (fun q2 => k_hp (k_put ?_)); refine k_nil ?_; refine rs1 (by kernel_rfl) ?_; refine k_new rfl zq (fun q3 => k_hp (k_put ?_)); refine k_nil ?_; refine rs3 (by kernel_rfl) ?_; refine k_slAA rfl zq ?_; refine mq rfl ?_; refine k_copy (hts xs) rfl zq rd.up (ints_one _) (by decide) (by rw [hts_copy xs rd.ilen, hts_nil]) (k_put ?_); refine k_nil ?_; refine rs2 (by kernel_rfl) ?_; refine k_ldA rfl zq ?_; refine k_stA rfl zq (by first | rfl | exact hts_length _) ?_; refine k_nil ?_; refine run_ret rfl ?_; refine run_res (h) rfl Tryz.func143 rfl weakSub ?_; refine hK _ _ ?_
  exact ⟨rfl, rfl⟩
def Handed (s : Int) (bv : Value) (xs : List Int) (v : Value) : Prop := ∃ x y z p1 n1 c1 p2 n2 c2 yl, v = .tuple [bookV x y z (.slice p1 n1 c1) (.slice p2 n2 c2), htV yl, .int .i64 s].toArray ∧ (s = 0 → bookV x y z (.slice p1 n1 c1) (.slice p2 n2 c2) = bv ∧ yl = xs)
theorem handed_no {s : Int} {bv : Value} {xs : List Int} (h : s ≠ 0) : Handed s bv xs (.tuple [bookV 0 0 0 (.slice none 0 0) (.slice none 0 0), .agg [.int .i64 0, .int .i64 0, .int .i64 0, .int .i64 0, .int .i64 0, .int .i64 0, .int .i64 0].toArray, .int .i64 s].toArray) :=
  ⟨0, 0, 0, none, 0, 0, none, 0, 0, [], by rw [htV, hts_nil], fun e => absurd e h⟩
theorem f93_c (m : Md Tryz.prog B) (h : Hp) {b : Bk} {pm : Option Addr} {nm cm : Nat} {pr : Option Addr} {nr cr : Nat} (rdm : RdS B h 2 (.slice pm nm cm) nm (encs b.marks)) (hm : nm ≤ 1000) (rdr : RdS B h 4 (.slice pr nr cr) nr (encs b.rules)) (hr : nr ≤ 1000) {p : Option Addr} {n c : Nat} {xs : List Int} (rd : RdS B h 1 (.slice p n c) n (ints xs)) (hn : n ≤ 1000) : FnC m 93 #[bkV b pm nm cm pr nr cr, .slice p n c] h fun v h' => h' = h ∧ Handed (handedS b xs) (bkV b pm nm cm pr nr cr) xs v := by
  refine fn_enter Tryz.func93 rfl rfl (l := (bkV b pm nm cm pr nr cr) :: (.slice p n c) :: uu28) rfl ?_
  intro cf cs K hK
  refine rs4 (by kernel_rfl) ?_; refine k_box rfl zq (fun q2 => k_hp (k_put ?_)); refine k_new rfl zq (fun q4 => k_hp (k_put ?_)); refine k_new rfl zq (fun q5 => k_hp (k_put ?_)); refine aq rfl ?_; refine run_seq ?_; refine rs3 (by kernel_rfl) ?_; refine k_ldA rfl zq ?_; refine k_calP (Post := fun v => v = _) rfl zq (by kernel_rfl) (fun H' hH => f21_c m H' (rdm.keeps (sq hH)) hm (rdr.keeps (sq hH)) hr) ?_; rintro v rfl; refine k_put ?_; refine aq rfl ?_; refine rs2 (by kernel_rfl) ?_; refine mq rfl ?_; refine k_neqS rfl zq (fun hc => ?_) (fun hc => ?_)
  · refine k_nil ?_; refine run_yes ?_; refine rs6 (by kernel_rfl) ?_; refine k_bld rfl zq ?_; refine k_bldZ rfl zq ?_; refine mq rfl ?_; refine k_stA rfl zq rfl ?_; refine k_stA rfl zq (by first | rfl | exact hts_length _) ?_; refine aq rfl ?_; refine run_ret rfl ?_; refine run_res (h) rfl Tryz.func93 rfl weakSub ?_; refine hK _ _ ?_
    have e : handedS b xs = bookS b := by rw [handedS, if_pos (by assumption)]
    exact ⟨rfl, by rw [e]; exact handed_no (by assumption)⟩
  · refine k_nil ?_; refine run_no ?_; refine run_skip ?_; refine rs4 (by kernel_rfl) ?_; refine k_ldA rfl zq ?_; refine k_bld rfl zq ?_; refine k_new rfl zq (fun q8 => k_hp (k_put ?_)); refine k_stA rfl zq rfl ?_; refine k_nil ?_; refine run_seq ?_; refine rs4 (by kernel_rfl) ?_; refine k_ldA rfl zq ?_; refine mq rfl ?_; refine k_calP (Post := fun v => v = _) rfl zq (by kernel_rfl) (fun H' hH => f142_c m H' (rdm.keeps (sq hH)) hm (rd.keeps (sq hH)) hn) ?_; rintro v rfl; refine k_put ?_; refine aq rfl ?_; refine rs2 (by kernel_rfl) ?_; refine mq rfl ?_; refine k_neqS rfl zq (fun hc => ?_) (fun hc => ?_)
    · refine k_nil ?_; refine run_yes ?_; refine rs6 (by kernel_rfl) ?_; refine k_bld rfl zq ?_; refine k_bldZ rfl zq ?_; refine mq rfl ?_; refine k_stA rfl zq rfl ?_; refine k_stA rfl zq (by first | rfl | exact hts_length _) ?_; refine aq rfl ?_; refine run_ret rfl ?_; refine run_res (h) rfl Tryz.func93 rfl weakSub ?_; refine hK _ _ ?_
      have e : handedS b xs = lineS b.marks.length xs := by rw [handedS, if_neg (by omega)]
      exact ⟨rfl, by rw [e]; exact handed_no (by assumption)⟩
    · refine k_nil ?_; refine run_no ?_; refine run_skip ?_; refine run_seq ?_; refine run_draw [(1, .pure), (0, .read), (2, .keep), (3, .free), (4, .free), (5, .pure)] (by kernel_rfl) (by kernel_rfl) (List.Sublist.refl _) ?_; refine mq rfl ?_; refine k_ldA rfl zq ?_; refine k_calP (Post := fun v => v = _) rfl zq (by kernel_rfl) (fun H' hH => f143_c m H' (rd.keeps (sq hH)) hn) ?_; rintro v rfl; refine k_put ?_; refine k_stA rfl zq rfl ?_; refine k_stA rfl zq (by first | rfl | exact hts_length _) ?_; refine aq rfl ?_; refine run_ret rfl ?_; refine run_res (h) rfl Tryz.func93 rfl weakSub ?_; refine hK _ _ ?_
      have e : handedS b xs = 0 := by rw [handedS, if_neg (by omega)]; omega
      exact ⟨rfl, _, _, _, _, _, _, _, _, _, xs, by rw [e], fun _ => ⟨rfl, rfl⟩⟩
theorem f94_c (m : Md Tryz.prog B) (h : Hp) {b : Bk} {pm : Option Addr} {nm cm : Nat} {pr : Option Addr} {nr cr : Nat} {l : List Int} (hl : l.length = nm) (h7 : nm ≤ 7) (hs : Small 959 l) : FnC m 94 #[bkV b pm nm cm pr nr cr, htV l] h fun v h' => ∃ nw, h' = h ++ nw ∧ OwnS 3 1 v (nm - 2) (ints (bends l)) nw := by
  refine fn_enter Tryz.func94 rfl rfl (l := (bkV b pm nm cm pr nr cr) :: (htV l) :: uu8) rfl ?_
  intro cf cs K hK
  refine rs3 (by kernel_rfl) ?_; refine k_box rfl zq (fun q2 => k_hp (k_put ?_)); refine k_box rfl zq (fun q3 => k_hp (k_put ?_)); refine aq rfl ?_; refine rs6 (by kernel_rfl) ?_; refine k_ldA rfl zq ?_; refine k_calP (Post := fun v => v = _) rfl zq (by kernel_rfl) (fun H' hH => f118_c m H' _ _ _ _ _ _ _ _ _) ?_; rintro v rfl; refine k_put ?_; refine k_slA (c := nm) rfl zq rfl (by omega) ?_; refine k_calC rfl zq (by kernel_rfl) (Post := fun v nw => OwnS 3 1 v (nm - 1) (ints (diffs l)) nw) (fun H' hH => f144_c m H' _ l nm hl.symm (by omega) (hs.le (by omega)) ((rdS_hts (q := q3) hl (by omega) 7).keeps hH)) ?_; rintro v1 w1 o1; refine k_hpA (k_put ?_); have hsd := hs.diffs
  refine k_calC rfl zq (by kernel_rfl) (Post := fun v nw => OwnS 3 1 v (nm - 2) (ints (bends l)) nw) (fun H' hH => f144_c m H' v1 (diffs l) (nm - 1) (by rw [diffs_length]; omega) (by omega) (hsd.le (by omega)) (o1.rd'.keeps hH)) ?_; rintro v2 w2 o2; refine k_hpA (k_put ?_); refine aq rfl ?_; refine run_ret rfl ?_; refine run_res (h ++ w2) rfl Tryz.func94 rfl weakSub ?_; refine hK _ _ ?_
  exact ⟨w2, rfl, o2⟩
theorem f97_c (m : Md Tryz.prog B) (h : Hp) {b : Bk} {pm : Option Addr} {nm cm : Nat} {pr : Option Addr} {nr cr : Nat} {l : List Int} (hl : l.length = nm) (h7 : nm ≤ 7) (hs : Small 959 l) : FnC m 97 #[bkV b pm nm cm pr nr cr, htV l] h fun v h' => ∃ nw, h' = h ++ nw ∧ OwnS 3 1 v (nm - 3) (ints (diffs (bends l))) nw := by
  refine fn_enter Tryz.func97 rfl rfl (l := (bkV b pm nm cm pr nr cr) :: (htV l) :: uu7) rfl ?_
  intro cf cs K hK
  refine rs3 (by kernel_rfl) ?_; refine k_box rfl zq (fun q2 => k_hp (k_put ?_)); refine k_box rfl zq (fun q3 => k_hp (k_put ?_)); refine aq rfl ?_; refine rs5 (by kernel_rfl) ?_; refine k_ldA rfl zq ?_; refine k_ldA rfl zq ?_; refine k_calC rfl zq (by kernel_rfl) (fun H' hH => f94_c m H' hl h7 hs) ?_; rintro v1 w1 o1; refine k_hpA (k_put ?_); have hsb := hs.bends
  refine k_calC rfl zq (by kernel_rfl) (Post := fun v nw => OwnS 3 1 v (nm - 3) (ints (diffs (bends l))) nw) (fun H' hH => f144_c m H' v1 (bends l) (nm - 2) (by rw [bends_length]; omega) (by omega) (hsb.le (by omega)) (o1.rd'.keeps hH)) ?_; rintro v2 w2 o2; refine k_hpA (k_put ?_); refine aq rfl ?_; refine run_ret rfl ?_; refine run_res (h ++ w2) rfl Tryz.func97 rfl weakSub ?_; refine hK _ _ ?_
  exact ⟨w2, rfl, o2⟩
theorem f99_c (m : Md Tryz.prog B) (h : Hp) {b : Bk} {pm : Option Addr} {nm cm : Nat} {pr : Option Addr} {nr cr : Nat} {ln : List Int} (hl : ln.length = nm) (h7 : nm ≤ 7) (hs : Small 959 ln) : FnC m 99 #[bkV b pm nm cm pr nr cr, htV ln] h fun v h' => h' = h ∧ v = .int .i64 (turns ln) := by
  refine fn_enter Tryz.func99 rfl rfl (l := (bkV b pm nm cm pr nr cr) :: (htV ln) :: uu36) rfl ?_
  intro cf cs K hK
  refine rs3 (by kernel_rfl) ?_; refine k_box rfl zq (fun q2 => k_hp (k_put ?_)); refine k_box rfl zq (fun q3 => k_hp (k_put ?_)); refine aq rfl ?_; refine rs2 (by kernel_rfl) ?_; refine k_as rfl zq ?_; refine aq rfl ?_; refine run_seq ?_; refine rs5 (by kernel_rfl) ?_; refine k_ldA rfl zq ?_; refine k_ldA rfl zq ?_; refine k_calC rfl zq (by kernel_rfl) (fun H' hH => f94_c m H' hl h7 hs) ?_; rintro v1 w1 o1; obtain ⟨p1, c1, rfl, _⟩ := o1.len
  refine k_hpA (k_put ?_); have r1 : RdS B w1 1 (.slice p1 (nm - 2) c1) (nm - 2) (ints (bends ln)) := o1.rd (List.Sublist.refl _)
  have hbl := bends_length ln
  refine k_len rfl zq ?_; refine mq rfl ?_; refine k_nil ?_; refine run_block ?_; refine run_loop (fun nn l h' => ∃ (k : Nat) (s t : Int), nn = nm - k ∧ (k ≤ nm - 2) ∧ (turnF ((bends ln).take k) = (s, t)) ∧ (0 ≤ s) ∧ (s ≤ k) ∧ (∃ U : Nat → Value, l = [bkV b pm nm cm pr nr cr, htV ln, .pointer (some ⟨q2, 0, none⟩), .pointer (some ⟨q3, 0, none⟩), U 4, .int .i64 s, .int .i64 t, U 7, U 8, U 9, U 10, .slice p1 (nm - 2) c1, .int .i64 ((nm - 2 : Nat) : Int), .int .i64 (k : Int), U 14, U 15, U 16, U 17, U 18, U 19, U 20, U 21, U 22, U 23, U 24, U 25, U 26, U 27, U 28, U 29, U 30, U 31, U 32, U 33, U 34, U 35, U 36, U 37]) ∧ h ++ [⟨true, q2, .cells (bkL b pm nm cm pr nr cr).toArray 109 (0, 0)⟩, ⟨true, q3, .cells (hts ln).toArray 112 (0, 0)⟩] ++ w1 = h') _ ⟨0, 0, 0, rfl, by omega, rfl, by omega, by omega, exU rfl, by simp⟩ ?_; rintro nn l h' ⟨k, s, t, rfl, hk, hst, hs0, hs1, ⟨U, rfl⟩, rfl⟩ hnext; refine rs1 (by kernel_rfl) ?_; refine k_lssS rfl zq (fun hc => ?_) (fun hc => ?_)
  · refine k_nil ?_; refine run_seq ?_; refine run_yes ?_; refine run_skip ?_; refine run_seq ?_; refine run_block ?_; refine rs3 (by kernel_rfl) ?_; obtain ⟨r1_b, r1_o, rfl⟩ := r1.ptr (by omega)
    refine k_ixs rfl zq (by first | rfl | assumption) (by omega) (by omega) ?_; refine k_ld rfl zq (r1.iat k (by omega) (by omega)) ?_; refine aq rfl ?_; refine run_seq ?_; refine rs2 (by kernel_rfl) ?_; refine mq rfl ?_; refine k_eqlS rfl zq (fun hc => ?_) (fun hc => ?_)
    · refine k_nil ?_; refine run_yes ?_; refine run_exit rfl ?_; refine rr2 (by kernel_rfl) ?_; refine k_add rfl zq (by unfold In64; omega) ?_; refine mq rfl ?_; refine k_nil ?_; have ht := turnF_take (bends ln) k (by omega)
      rw [hst] at ht
      simp only [turnSt] at ht
      exact m.weak weakSub (hnext _ _ _ (by omega) ⟨k + 1, _, _, rfl, by omega, by first | (exfalso; omega) | (rw [ht]; repeat first | rw [if_pos (by omega)] | rw [if_neg (by omega)]), by omega, by omega, exU rfl, rfl⟩)
    · refine k_nil ?_; refine run_no ?_; refine run_skip ?_; refine run_seq ?_; refine run_seq ?_; refine run_region [(0, .free), (1, .free), (2, .free), (3, .free), (4, .free), (5, .free), (6, .free), (7, .free), (8, .free), (9, .free), (10, .free), (11, .free), (12, .free), (13, .free)] (by kernel_rfl) (by kernel_rfl) ?_; refine mq rfl ?_; refine k_gtrS rfl zq (fun hc => ?_) (fun hc => ?_)
      · refine mq rfl ?_; refine k_mv rfl rfl ?_; refine k_lssS rfl rfl (fun hc => ?_) (fun hc => ?_)
        · refine k_pickT rfl zq ?_; refine mq rfl ?_; refine k_off rfl rfl ?_; refine k_off rfl rfl ?_; refine k_off rfl rfl ?_; refine k_off rfl rfl ?_; refine k_off rfl rfl ?_; refine k_off rfl rfl ?_; refine k_pickT rfl zq ?_; refine k_nil ?_; refine run_yes ?_; refine rr3 (by kernel_rfl) ?_; refine mq rfl ?_; refine k_add rfl zq (by unfold In64; omega) ?_; refine aq rfl ?_; refine rr2 (by kernel_rfl) ?_; refine mq rfl ?_; refine aq rfl ?_; refine run_inBlock ?_; refine rr2 (by kernel_rfl) ?_; refine k_add rfl zq (by unfold In64; omega) ?_; refine mq rfl ?_; refine k_nil ?_; have ht := turnF_take (bends ln) k (by omega)
          rw [hst] at ht
          simp only [turnSt] at ht
          exact m.weak weakSub (hnext _ _ _ (by omega) ⟨k + 1, _, _, rfl, by omega, by first | (exfalso; omega) | (rw [ht]; repeat first | rw [if_pos (by omega)] | rw [if_neg (by omega)]), by omega, by omega, exU rfl, rfl⟩)
        · refine k_pickT rfl zq ?_; refine mq rfl ?_; refine k_mv rfl rfl ?_; refine k_lssS rfl rfl (fun hc => ?_) (fun hc => ?_)
          · refine k_mv rfl rfl ?_; refine k_mv rfl rfl ?_; refine k_gtrS rfl rfl (fun hc => ?_) (fun hc => ?_)
            · refine k_pickT rfl rfl ?_; refine k_pickF rfl zq ?_; refine k_nil ?_; refine run_yes ?_; refine rr3 (by kernel_rfl) ?_; refine mq rfl ?_; refine k_add rfl zq (by unfold In64; omega) ?_; refine aq rfl ?_; refine rr2 (by kernel_rfl) ?_; refine mq rfl ?_; refine aq rfl ?_; refine run_inBlock ?_; refine rr2 (by kernel_rfl) ?_; refine k_add rfl zq (by unfold In64; omega) ?_; refine mq rfl ?_; refine k_nil ?_; have ht := turnF_take (bends ln) k (by omega)
              rw [hst] at ht
              simp only [turnSt] at ht
              exact m.weak weakSub (hnext _ _ _ (by omega) ⟨k + 1, _, _, rfl, by omega, by first | (exfalso; omega) | (rw [ht]; repeat first | rw [if_pos (by omega)] | rw [if_neg (by omega)]), by omega, by omega, exU rfl, rfl⟩)
            · refine k_pickT rfl rfl ?_; refine k_pickF rfl zq ?_; refine k_nil ?_; refine run_no ?_; refine run_skip ?_; refine rr2 (by kernel_rfl) ?_; refine mq rfl ?_; refine aq rfl ?_; refine run_inBlock ?_; refine rr2 (by kernel_rfl) ?_; refine k_add rfl zq (by unfold In64; omega) ?_; refine mq rfl ?_; refine k_nil ?_; have ht := turnF_take (bends ln) k (by omega)
              rw [hst] at ht
              simp only [turnSt] at ht
              exact m.weak weakSub (hnext _ _ _ (by omega) ⟨k + 1, _, _, rfl, by omega, by first | (exfalso; omega) | (rw [ht]; repeat first | rw [if_pos (by omega)] | rw [if_neg (by omega)]), by omega, by omega, exU rfl, rfl⟩)
          · refine k_mv rfl rfl ?_; refine k_off rfl rfl ?_; refine k_off rfl rfl ?_; refine k_pickF rfl rfl ?_; refine k_pickF rfl zq ?_; refine k_nil ?_; refine run_no ?_; refine run_skip ?_; refine rr2 (by kernel_rfl) ?_; refine mq rfl ?_; refine aq rfl ?_; refine run_inBlock ?_; refine rr2 (by kernel_rfl) ?_; refine k_add rfl zq (by unfold In64; omega) ?_; refine mq rfl ?_; refine k_nil ?_; have ht := turnF_take (bends ln) k (by omega)
            rw [hst] at ht
            simp only [turnSt] at ht
            exact m.weak weakSub (hnext _ _ _ (by omega) ⟨k + 1, _, _, rfl, by omega, by first | (exfalso; omega) | (rw [ht]; repeat first | rw [if_pos (by omega)] | rw [if_neg (by omega)]), by omega, by omega, exU rfl, rfl⟩)
      · refine mq rfl ?_; refine k_off rfl rfl ?_; refine k_off rfl rfl ?_; refine k_pickF rfl zq ?_; refine mq rfl ?_; refine k_mv rfl rfl ?_; refine k_lssS rfl rfl (fun hc => ?_) (fun hc => ?_)
        · refine k_mv rfl rfl ?_; refine k_mv rfl rfl ?_; refine k_gtrS rfl rfl (fun hc => ?_) (fun hc => ?_)
          · refine k_pickT rfl rfl ?_; refine k_pickF rfl zq ?_; refine k_nil ?_; refine run_yes ?_; refine rr3 (by kernel_rfl) ?_; refine mq rfl ?_; refine k_add rfl zq (by unfold In64; omega) ?_; refine aq rfl ?_; refine rr2 (by kernel_rfl) ?_; refine mq rfl ?_; refine aq rfl ?_; refine run_inBlock ?_; refine rr2 (by kernel_rfl) ?_; refine k_add rfl zq (by unfold In64; omega) ?_; refine mq rfl ?_; refine k_nil ?_; have ht := turnF_take (bends ln) k (by omega)
            rw [hst] at ht
            simp only [turnSt] at ht
            exact m.weak weakSub (hnext _ _ _ (by omega) ⟨k + 1, _, _, rfl, by omega, by first | (exfalso; omega) | (rw [ht]; repeat first | rw [if_pos (by omega)] | rw [if_neg (by omega)]), by omega, by omega, exU rfl, rfl⟩)
          · refine k_pickT rfl rfl ?_; refine k_pickF rfl zq ?_; refine k_nil ?_; refine run_no ?_; refine run_skip ?_; refine rr2 (by kernel_rfl) ?_; refine mq rfl ?_; refine aq rfl ?_; refine run_inBlock ?_; refine rr2 (by kernel_rfl) ?_; refine k_add rfl zq (by unfold In64; omega) ?_; refine mq rfl ?_; refine k_nil ?_; have ht := turnF_take (bends ln) k (by omega)
            rw [hst] at ht
            simp only [turnSt] at ht
            exact m.weak weakSub (hnext _ _ _ (by omega) ⟨k + 1, _, _, rfl, by omega, by first | (exfalso; omega) | (rw [ht]; repeat first | rw [if_pos (by omega)] | rw [if_neg (by omega)]), by omega, by omega, exU rfl, rfl⟩)
        · refine k_mv rfl rfl ?_; refine k_off rfl rfl ?_; refine k_off rfl rfl ?_; refine k_pickF rfl rfl ?_; refine k_pickF rfl zq ?_; refine k_nil ?_; refine run_no ?_; refine run_skip ?_; refine rr2 (by kernel_rfl) ?_; refine mq rfl ?_; refine aq rfl ?_; refine run_inBlock ?_; refine rr2 (by kernel_rfl) ?_; refine k_add rfl zq (by unfold In64; omega) ?_; refine mq rfl ?_; refine k_nil ?_; have ht := turnF_take (bends ln) k (by omega)
          rw [hst] at ht
          simp only [turnSt] at ht
          exact m.weak weakSub (hnext _ _ _ (by omega) ⟨k + 1, _, _, rfl, by omega, by first | (exfalso; omega) | (rw [ht]; repeat first | rw [if_pos (by omega)] | rw [if_neg (by omega)]), by omega, by omega, exU rfl, rfl⟩)
  · refine k_nil ?_; refine run_seq ?_; refine run_no ?_; refine run_exit rfl ?_; refine rs2 (by kernel_rfl) ?_; refine mq rfl ?_; refine aq rfl ?_; refine run_ret rfl ?_; refine run_res (h) rfl Tryz.func99 rfl weakSub ?_; refine hK _ _ ?_
    obtain rfl : k = nm - 2 := by omega
    rw [List.take_of_length_le (by omega)] at hst
    exact ⟨rfl, by rw [turns, hst]⟩
theorem f145_c (m : Md Tryz.prog B) (h : Hp) (x : Int) : FnC m 145 #[.int .i64 x] h fun v h' => ∃ nw, h' = h ++ nw ∧ ∃ q, nw = [⟨true, q, .cells [.int .i64 x].toArray 3 (0, 0)⟩] ∧ v = .func (.func 146) #[] [.pointer (some ⟨q, 0, none⟩)].toArray := by
  refine fn_enter Tryz.func145 rfl rfl (l := [.int .i64 x, undef, undef, undef]) rfl ?_
  intro cf cs K hK
  refine rs2 (by kernel_rfl) ?_; refine k_box rfl zq (fun q1 => k_hp (k_put ?_)); refine aq rfl ?_; refine rs2 (by kernel_rfl) ?_; refine k_fun rfl zq ?_; refine aq rfl ?_; refine run_ret rfl ?_; refine run_res (h ++ [⟨true, q1, .cells [.int .i64 x].toArray 3 (0, 0)⟩]) rfl Tryz.func145 rfl weakSub ?_; refine hK _ _ ?_
  exact ⟨_, rfl, q1, rfl, rfl⟩
theorem f146_c (m : Md Tryz.prog B) (h : Hp) (x y : Int) {q : Nat} (rd : Rd B h ⟨q, 0, none⟩ (.int .i64 y)) (hy : -100000 ≤ y ∧ y ≤ 100000) : FnC m 146 #[.int .i64 x, .pointer (some ⟨q, 0, none⟩)] h fun v h' => h' = h ∧ IsB (¬ (-y ≤ x ∧ x ≤ y)) v := by
  refine fn_enter Tryz.func146 rfl rfl (l := (.int .i64 x) :: (.pointer (some ⟨q, 0, none⟩)) :: uu8) rfl ?_
  intro cf cs K hK
  refine rs1 (by kernel_rfl) ?_; refine aq rfl ?_; refine rs7 (by kernel_rfl) ?_; refine mq rfl ?_; refine k_ld rfl zq rd ?_; refine k_neg rfl zq (by unfold In64; omega) ?_; refine k_ld rfl zq rd ?_; refine k_calP (Post := fun v => IsB _ v) rfl zq (by kernel_rfl) (fun H' hH => f117_c m H' _ _ _) ?_; rintro v (⟨hc, rfl⟩ | ⟨hc, rfl⟩)
  · refine k_put ?_; refine k_notT rfl zq ?_; refine aq rfl ?_; refine run_ret rfl ?_; refine run_res (h) rfl Tryz.func146 rfl weakSub ?_; refine hK _ _ ?_
    first | exact ⟨rfl, IsB.yes (by omega)⟩ | exact ⟨rfl, IsB.no (by omega)⟩
  · refine k_put ?_; refine k_notF rfl zq ?_; refine aq rfl ?_; refine run_ret rfl ?_; refine run_res (h) rfl Tryz.func146 rfl weakSub ?_; refine hK _ _ ?_
    first | exact ⟨rfl, IsB.yes (by omega)⟩ | exact ⟨rfl, IsB.no (by omega)⟩
theorem callB146 : callB Tryz.prog 146 = true := by kernel_rfl
theorem rd_has {B : Array Obj} {h : Hp} {q t : Nat} {rw : Bool} {f : Nat × Nat} {v : Value} [x : Has h q rw (.cells [v].toArray t f)] : Rd B h ⟨q, 0, none⟩ v := Rd.held x.mem rfl
theorem f101_c (m : Md Tryz.prog B) (h : Hp) {b : Bk} {pm : Option Addr} {nm cm : Nat} {pr : Option Addr} {nr cr : Nat} {ln : List Int} (hl : ln.length = nm) (h7 : nm ≤ 7) (hs : Small 959 ln) (hv : Valid b) : FnC m 101 #[bkV b pm nm cm pr nr cr, htV ln] h fun v h' => h' = h ∧ IsB (fair b.bend b.twist b.turns ln) v := by
  have hbl := bends_length ln
  have hdl := diffs_length (bends ln)
  have hv1 := hv.bend
  have hv2 := hv.twist
  refine fn_enter Tryz.func101 rfl rfl (l := (bkV b pm nm cm pr nr cr) :: (htV ln) :: uu35) rfl ?_
  intro cf cs K hK
  refine rs3 (by kernel_rfl) ?_; refine k_box rfl zq (fun q2 => k_hp (k_put ?_)); refine k_box rfl zq (fun q3 => k_hp (k_put ?_)); refine aq rfl ?_; refine rs1 (by kernel_rfl) ?_; refine aq rfl ?_; refine run_seq ?_; refine run_draw [(3, .pure), (4, .pure), (5, .pure), (0, .read), (1, .read), (6, .read), (2, .keep), (7, .keep), (8, .keep), (9, .pure), (10, .pure), (14, .pure), (15, .pure), (16, .pure), (11, .read), (12, .read), (17, .read), (13, .keep), (18, .keep), (19, .keep), (20, .pure), (21, .pure), (22, .pure), (26, .pure), (27, .pure), (23, .read), (24, .read), (28, .read), (25, .keep), (29, .pure), (30, .pure), (31, .pure)] (by kernel_rfl) (by kernel_rfl) (List.Sublist.refl _) ?_; refine mq rfl ?_; first | refine k_fa0 rfl zq ?_ | refine k_fa rfl zq ?_
  first | refine k_fa0 rfl zq ?_ | refine k_fa rfl zq ?_
  refine k_ldA rfl zq ?_; refine k_ldA rfl zq ?_; refine k_ldh rfl zq ?_; refine k_calC rfl zq (by kernel_rfl) (fun H' hH => f94_c m H' hl h7 hs) ?_; rintro v1 w1 o1; obtain ⟨p1, c1, rfl, _⟩ := o1.len
  refine k_hpA (k_put ?_); refine k_callC (Post := fun v nw => ∃ q, nw = [⟨true, q, .cells [.int .i64 b.bend].toArray 3 (0, 0)⟩] ∧ v = .func (.func 146) #[] [.pointer (some ⟨q, 0, none⟩)].toArray) rfl zq (by kernel_rfl) (fun H' hH => f145_c m H' _) ?_; rintro _ _ ⟨qa, rfl, rfl⟩; refine k_hpA (k_put ?_); refine k_calP (Post := fun v => IsB _ v) rfl zq (by kernel_rfl) (fun H' hH => f147_c m H' (pr := fun i => ¬ (-b.bend ≤ (bends ln).getD i 0 ∧ (bends ln).getD i 0 ≤ b.bend)) (o1.rd'.keeps hH) (by omega) callB146 (fun i hi K hK => by simpa using f146_c m K ((bends ln).getD i 0) b.bend ((rd_has (q := qa)).keeps (hH.trans hK)) (by omega))) ?_; rintro v (⟨hc, rfl⟩ | ⟨hc, rfl⟩)
  · refine k_put ?_; have hA := hc
    refine k_notT rfl zq ?_; refine mq rfl ?_; refine k_off rfl rfl ?_; refine k_off rfl rfl ?_; refine k_off rfl rfl ?_; refine k_off rfl rfl ?_; refine k_off rfl rfl ?_; refine k_off rfl rfl ?_; refine k_off rfl rfl ?_; refine k_off rfl rfl ?_; refine k_off rfl rfl ?_; refine k_off rfl rfl ?_; refine k_pickF rfl zq ?_; refine mq rfl ?_; refine k_off rfl rfl ?_; refine k_off rfl rfl ?_; refine k_off rfl rfl ?_; refine k_off rfl rfl ?_; refine k_off rfl rfl ?_; refine k_off rfl rfl ?_; refine k_off rfl rfl ?_; refine k_pickF rfl zq ?_; refine aq rfl ?_; refine run_ret rfl ?_; refine run_res (h) rfl Tryz.func101 rfl weakSub ?_; refine hK _ _ ?_
    first
      | exact ⟨rfl, IsB.no fun e => by
          obtain ⟨i, h1, h2⟩ := hA
          exact h2 (e.1 _ (mem_getD.2 ⟨i, by omega, rfl⟩))⟩
      | exact ⟨rfl, IsB.no fun e => by
          obtain ⟨i, h1, h2⟩ := hC
          exact h2 (e.2.1 _ (mem_getD.2 ⟨i, by omega, rfl⟩))⟩
      | exact ⟨rfl, IsB.no fun e => by have := e.2.2; omega⟩
      | exact ⟨rfl, IsB.yes ⟨fun x hx => by
          obtain ⟨i, h1, rfl⟩ := mem_getD.1 hx
          exact Classical.byContradiction fun e => hA ⟨i, by omega, e⟩, fun x hx => by
          obtain ⟨i, h1, rfl⟩ := mem_getD.1 hx
          exact Classical.byContradiction fun e => hC ⟨i, by omega, e⟩, by omega⟩⟩
  · refine k_put ?_; have hA := hc
    refine k_notF rfl zq ?_; refine mq rfl ?_; refine k_mv rfl rfl ?_; first | refine k_fa0 rfl rfl ?_ | refine k_fa rfl rfl ?_
    first | refine k_fa0 rfl rfl ?_ | refine k_fa rfl rfl ?_
    refine k_ldA rfl rfl ?_; refine k_ldA rfl rfl ?_; refine k_ldh rfl rfl ?_; refine k_calC rfl rfl (by kernel_rfl) (fun H' hH => f97_c m H' hl h7 hs) ?_; rintro v2 w2 o2; obtain ⟨p2, c2, rfl, _⟩ := o2.len
    refine k_hpA (k_put ?_); refine k_callC (Post := fun v nw => ∃ q, nw = [⟨true, q, .cells [.int .i64 b.twist].toArray 3 (0, 0)⟩] ∧ v = .func (.func 146) #[] [.pointer (some ⟨q, 0, none⟩)].toArray) rfl rfl (by kernel_rfl) (fun H' hH => f145_c m H' _) ?_; rintro _ _ ⟨qb, rfl, rfl⟩; refine k_hpA (k_put ?_); refine k_calP (Post := fun v => IsB _ v) rfl rfl (by kernel_rfl) (fun H' hH => f147_c m H' (pr := fun i => ¬ (-b.twist ≤ (diffs (bends ln)).getD i 0 ∧ (diffs (bends ln)).getD i 0 ≤ b.twist)) (o2.rd'.keeps hH) (by omega) callB146 (fun i hi K hK => by simpa using f146_c m K ((diffs (bends ln)).getD i 0) b.twist ((rd_has (q := qb)).keeps (hH.trans hK)) (by omega))) ?_; rintro v (⟨hc, rfl⟩ | ⟨hc, rfl⟩)
    · refine k_put ?_; have hC := hc
      refine k_notT rfl rfl ?_; refine k_pickT rfl zq ?_; refine mq rfl ?_; refine k_off rfl rfl ?_; refine k_off rfl rfl ?_; refine k_off rfl rfl ?_; refine k_off rfl rfl ?_; refine k_off rfl rfl ?_; refine k_off rfl rfl ?_; refine k_off rfl rfl ?_; refine k_pickF rfl zq ?_; refine aq rfl ?_; refine run_ret rfl ?_; refine run_res (h) rfl Tryz.func101 rfl weakSub ?_; refine hK _ _ ?_
      first
        | exact ⟨rfl, IsB.no fun e => by
            obtain ⟨i, h1, h2⟩ := hA
            exact h2 (e.1 _ (mem_getD.2 ⟨i, by omega, rfl⟩))⟩
        | exact ⟨rfl, IsB.no fun e => by
            obtain ⟨i, h1, h2⟩ := hC
            exact h2 (e.2.1 _ (mem_getD.2 ⟨i, by omega, rfl⟩))⟩
        | exact ⟨rfl, IsB.no fun e => by have := e.2.2; omega⟩
        | exact ⟨rfl, IsB.yes ⟨fun x hx => by
            obtain ⟨i, h1, rfl⟩ := mem_getD.1 hx
            exact Classical.byContradiction fun e => hA ⟨i, by omega, e⟩, fun x hx => by
            obtain ⟨i, h1, rfl⟩ := mem_getD.1 hx
            exact Classical.byContradiction fun e => hC ⟨i, by omega, e⟩, by omega⟩⟩
    · refine k_put ?_; have hC := hc
      refine k_notF rfl rfl ?_; refine k_pickT rfl zq ?_; refine mq rfl ?_; first | refine k_fa0 rfl rfl ?_ | refine k_fa rfl rfl ?_
      first | refine k_fa0 rfl rfl ?_ | refine k_fa rfl rfl ?_
      refine k_ldA rfl rfl ?_; refine k_ldA rfl rfl ?_; refine k_ldh rfl rfl ?_; refine k_calP (Post := fun v => v = _) rfl rfl (by kernel_rfl) (fun H' hH => f99_c m H' hl h7 hs) ?_; rintro v rfl; refine k_put ?_; refine k_leqS rfl rfl (fun hc => ?_) (fun hc => ?_)
      · refine k_pickT rfl zq ?_; refine aq rfl ?_; refine run_ret rfl ?_; refine run_res (h) rfl Tryz.func101 rfl weakSub ?_; refine hK _ _ ?_
        first
          | exact ⟨rfl, IsB.no fun e => by
              obtain ⟨i, h1, h2⟩ := hA
              exact h2 (e.1 _ (mem_getD.2 ⟨i, by omega, rfl⟩))⟩
          | exact ⟨rfl, IsB.no fun e => by
              obtain ⟨i, h1, h2⟩ := hC
              exact h2 (e.2.1 _ (mem_getD.2 ⟨i, by omega, rfl⟩))⟩
          | exact ⟨rfl, IsB.no fun e => by have := e.2.2; omega⟩
          | exact ⟨rfl, IsB.yes ⟨fun x hx => by
              obtain ⟨i, h1, rfl⟩ := mem_getD.1 hx
              exact Classical.byContradiction fun e => hA ⟨i, by omega, e⟩, fun x hx => by
              obtain ⟨i, h1, rfl⟩ := mem_getD.1 hx
              exact Classical.byContradiction fun e => hC ⟨i, by omega, e⟩, by omega⟩⟩
      · refine k_pickT rfl zq ?_; refine aq rfl ?_; refine run_ret rfl ?_; refine run_res (h) rfl Tryz.func101 rfl weakSub ?_; refine hK _ _ ?_
        first
          | exact ⟨rfl, IsB.no fun e => by
              obtain ⟨i, h1, h2⟩ := hA
              exact h2 (e.1 _ (mem_getD.2 ⟨i, by omega, rfl⟩))⟩
          | exact ⟨rfl, IsB.no fun e => by
              obtain ⟨i, h1, h2⟩ := hC
              exact h2 (e.2.1 _ (mem_getD.2 ⟨i, by omega, rfl⟩))⟩
          | exact ⟨rfl, IsB.no fun e => by have := e.2.2; omega⟩
          | exact ⟨rfl, IsB.yes ⟨fun x hx => by
              obtain ⟨i, h1, rfl⟩ := mem_getD.1 hx
              exact Classical.byContradiction fun e => hA ⟨i, by omega, e⟩, fun x hx => by
              obtain ⟨i, h1, rfl⟩ := mem_getD.1 hx
              exact Classical.byContradiction fun e => hC ⟨i, by omega, e⟩, by omega⟩⟩
theorem rdN_hts {B : Array Obj} {h : Hp} {q : Nat} {ln : List Int} (rd : RdN B h q 0 (hts ln)) {H : Hp} [s : SubH h H] {j : Int} (h0 : 0 ≤ j) (h1 : j < 7) : Rd B H ⟨q, 0 + j.toNat * 1, none⟩ (.int .i64 (ln.getD j.toNat 0)) := by
  have := rd j.toNat (by rw [hts_length]; omega)
  rw [List.getD_eq_getElem?_getD, hts_get (by omega)] at this
  rw [Nat.mul_one]; exact this.keeps s.sub
theorem rdN_has {B : Array Obj} {h : Hp} {q t : Nat} {rw : Bool} {f : Nat × Nat} {vs : List Value} [x : Has h q rw (.cells vs.toArray t f)] : RdN B h q 0 vs := fun j hj => Rd.held x.mem (by
  rw [Nat.zero_add, List.getElem?_toArray, List.getD_eq_getElem?_getD, List.getElem?_eq_getElem hj]; rfl)
theorem callB162 : callB Tryz.prog 162 = true := by kernel_rfl
def ruleOk (ln : List Int) (r : Ru) : Prop := r.lo ≤ ln.getD r.b.toNat 0 - ln.getD r.a.toNat 0 ∧ ln.getD r.b.toNat 0 - ln.getD r.a.toNat 0 ≤ r.hi
def right (b : Bk) (ln : List Int) : Prop := ∀ r ∈ b.rules, ruleOk ln r
theorem f162_c (m : Md Tryz.prog B) (h : Hp) (r : Ru) {q : Nat} {ln : List Int} (rd : RdN B h q 0 (hts ln)) (hs : Small 959 ln) (ha : 0 ≤ r.a ∧ r.a < 7) (hb : 0 ≤ r.b ∧ r.b < 7) : FnC m 162 #[ruV r, .pointer (some ⟨q, 0, none⟩)] h fun v h' => h' = h ∧ IsB (¬ ruleOk ln r) v := by
  refine fn_enter Tryz.func162 rfl rfl (l := (ruV r) :: (.pointer (some ⟨q, 0, none⟩)) :: uu19) rfl ?_
  intro cf cs K hK
  refine rs2 (by kernel_rfl) ?_; refine k_box rfl zq (fun q2 => k_hp (k_put ?_)); refine aq rfl ?_; refine run_seq ?_; refine run_draw [(0, .pure), (4, .pure), (9, .pure), (10, .pure), (12, .pure), (13, .pure), (1, .read), (2, .pure), (3, .read), (5, .read), (6, .pure), (7, .read), (8, .pure), (11, .read), (14, .read), (15, .keep), (16, .pure), (17, .pure)] (by kernel_rfl) (by kernel_rfl) (List.Sublist.refl _) ?_; first | refine k_fa0 rfl zq ?_ | refine k_fa rfl zq ?_
  first | refine k_fa0 rfl zq ?_ | refine k_fa rfl zq ?_
  first | refine k_fa0 rfl zq ?_ | refine k_fa rfl zq ?_
  first | refine k_fa0 rfl zq ?_ | refine k_fa rfl zq ?_
  first | refine k_fa0 rfl zq ?_ | refine k_fa rfl zq ?_
  first | refine k_fa0 rfl zq ?_ | refine k_fa rfl zq ?_
  refine k_ldh rfl zq ?_; refine k_ixa rfl zq (by omega) (by omega) ?_; have hs1 := hs r.b.toNat
  refine k_ld rfl zq (rdN_hts rd (by omega) (by omega)) ?_; refine k_ldh rfl zq ?_; refine k_ixa rfl zq (by omega) (by omega) ?_; have hs2 := hs r.a.toNat
  refine k_ld rfl zq (rdN_hts rd (by omega) (by omega)) ?_; refine k_sub rfl zq (by unfold In64; omega) ?_; refine k_ldh rfl zq ?_; refine k_ldh rfl zq ?_; refine k_calP (Post := fun v => IsB _ v) rfl zq (by kernel_rfl) (fun H' hH => f117_c m H' _ _ _) ?_; rintro v (⟨hc, rfl⟩ | ⟨hc, rfl⟩)
  · refine k_put ?_; refine k_notT rfl zq ?_; refine aq rfl ?_; refine run_ret rfl ?_; refine run_res (h) rfl Tryz.func162 rfl weakSub ?_; refine hK _ _ ?_
    first | exact ⟨rfl, IsB.yes (by unfold ruleOk; omega)⟩ | exact ⟨rfl, IsB.no (by unfold ruleOk; omega)⟩
  · refine k_put ?_; refine k_notF rfl zq ?_; refine aq rfl ?_; refine run_ret rfl ?_; refine run_res (h) rfl Tryz.func162 rfl weakSub ?_; refine hK _ _ ?_
    first | exact ⟨rfl, IsB.yes (by unfold ruleOk; omega)⟩ | exact ⟨rfl, IsB.no (by unfold ruleOk; omega)⟩
theorem f151_c (m : Md Tryz.prog B) (h : Hp) {b : Bk} {pm : Option Addr} {nm cm : Nat} {pr : Option Addr} {nr cr : Nat} {ln : List Int} (hl : ln.length = nm) (h7 : nm ≤ 7) (hs : Small 959 ln) (hm : b.marks.length = nm) (rdr : RdS B h 4 (.slice pr nr cr) nr (encs b.rules)) (hr : nr ≤ 1000) (hv : Valid b) : FnC m 151 #[bkV b pm nm cm pr nr cr, htV ln] h fun v h' => h' = h ∧ IsB (right b ln) v := by
  have hrl := rdr.elen (by decide)
  have hru : ∀ i, i < b.rules.length → (0 ≤ (b.rules.getD i default).a ∧ (b.rules.getD i default).a < 7) ∧ (0 ≤ (b.rules.getD i default).b ∧ (b.rules.getD i default).b < 7) := fun i hi => by
    have := hv.rules _ (mem_getDR.2 ⟨i, hi, rfl⟩)
    omega
  refine fn_enter Tryz.func151 rfl rfl (l := (bkV b pm nm cm pr nr cr) :: (htV ln) :: uu9) rfl ?_
  intro cf cs K hK
  refine rs3 (by kernel_rfl) ?_; refine k_box rfl zq (fun q2 => k_hp (k_put ?_)); refine k_box rfl zq (fun q3 => k_hp (k_put ?_)); refine aq rfl ?_; refine rs7 (by kernel_rfl) ?_; first | refine k_fa0 rfl zq ?_ | refine k_fa rfl zq ?_
  first | refine k_fa0 rfl zq ?_ | refine k_fa rfl zq ?_
  refine k_ldh rfl zq ?_; refine k_fun rfl zq ?_; refine k_calP (Post := fun v => IsB _ v) rfl zq (by kernel_rfl) (fun H' hH => f161_c m H' (pr := fun i => ¬ ruleOk ln (b.rules.getD i default)) (rdr.keeps (sq hH)) (by omega) callB162 (fun i hi K hK => by simpa using f162_c m K (b.rules.getD i default) ((rdN_has (q := q3)).keeps (hH.trans hK)) hs (hru i (by omega)).1 (hru i (by omega)).2)) ?_; rintro v (⟨hc, rfl⟩ | ⟨hc, rfl⟩)
  · refine k_put ?_; refine k_notT rfl zq ?_; refine aq rfl ?_; refine run_ret rfl ?_; refine run_res (h) rfl Tryz.func151 rfl weakSub ?_; refine hK _ _ ?_
    first
      | exact ⟨rfl, IsB.no fun e => by
          obtain ⟨i, h1, h2⟩ := hc
          exact h2 (e _ (mem_getDR.2 ⟨i, by omega, rfl⟩))⟩
      | exact ⟨rfl, IsB.yes fun r hr => by
          obtain ⟨i, h1, rfl⟩ := mem_getDR.1 hr
          exact Classical.byContradiction fun e => hc ⟨i, by omega, e⟩⟩
  · refine k_put ?_; refine k_notF rfl zq ?_; refine aq rfl ?_; refine run_ret rfl ?_; refine run_res (h) rfl Tryz.func151 rfl weakSub ?_; refine hK _ _ ?_
    first
      | exact ⟨rfl, IsB.no fun e => by
          obtain ⟨i, h1, h2⟩ := hc
          exact h2 (e _ (mem_getDR.2 ⟨i, by omega, rfl⟩))⟩
      | exact ⟨rfl, IsB.yes fun r hr => by
          obtain ⟨i, h1, rfl⟩ := mem_getDR.1 hr
          exact Classical.byContradiction fun e => hc ⟨i, by omega, e⟩⟩
theorem hand_zero {b : Bk} {xs : List Int} (h : handedS b xs = 0) : Valid b ∧ lineS b.marks.length xs = 0 := by
  unfold handedS at h
  split at h
  · omega
  · exact ⟨valid_of (by omega), h⟩
theorem f23_c (m : Md Tryz.prog B) (h : Hp) {b : Bk} {pm : Option Addr} {nm cm : Nat} {pr : Option Addr} {nr cr : Nat} (rdm : RdS B h 2 (.slice pm nm cm) nm (encs b.marks)) (hm : nm ≤ 1000) (rdr : RdS B h 4 (.slice pr nr cr) nr (encs b.rules)) (hr : nr ≤ 1000) {p : Option Addr} {n c : Nat} {xs : List Int} (rd : RdS B h 1 (.slice p n c) n (ints xs)) (hn : n ≤ 1000) : FnC m 23 #[bkV b pm nm cm pr nr cr, .slice p n c] h fun v h' => ∃ new, h' = h ++ new ∧ ∃ w, v = .tuple [w, .int .i64 (handedS b xs)].toArray ∧ RdI B new w (if handedS b xs ≠ 0 then [] else bends xs) := by
  refine fn_enter Tryz.func23 rfl rfl (l := (bkV b pm nm cm pr nr cr) :: (.slice p n c) :: uu20) rfl ?_
  intro cf cs K hK
  refine rs3 (by kernel_rfl) ?_; refine k_box rfl zq (fun q2 => k_hp (k_put ?_)); refine k_as rfl zq ?_; refine aq rfl ?_; refine rs12 (by kernel_rfl) ?_; refine k_ldA rfl zq ?_; refine mq rfl ?_; refine k_calP (Post := Handed (handedS b xs) (bkV b pm nm cm pr nr cr) xs) rfl zq (by kernel_rfl) (fun H' hH => f93_c m H' (rdm.keeps (sq hH)) hm (rdr.keeps (sq hH)) hr (rd.keeps (sq hH)) hn) ?_; rintro v ⟨x1, x2, x3, y1, y2, y3, y4, y5, y6, yl, rfl, hz⟩; refine k_put ?_; refine mq rfl ?_; refine k_ext0 rfl zq ?_; refine k_ext1 rfl zq ?_; refine k_ext2 rfl zq ?_; refine k_new rfl zq (fun q6 => k_hp (k_put ?_)); refine k_new rfl zq (fun q7 => k_hp (k_put ?_)); refine k_stA rfl zq rfl ?_; refine k_stA rfl zq (by first | rfl | exact hts_length _) ?_; refine aq rfl ?_; refine run_seq ?_; refine rs2 (by kernel_rfl) ?_; refine mq rfl ?_; refine k_neqS rfl zq (fun hc => ?_) (fun hc => ?_)
  · refine k_nil ?_; refine run_yes ?_; refine rs3 (by kernel_rfl) ?_; refine mq rfl ?_; refine k_as rfl zq ?_; refine aq rfl ?_; refine run_ret rfl ?_; refine run_res (h) rfl Tryz.func23 rfl weakSub ?_; refine hK _ _ ?_
    exact ⟨[], by simp, _, rfl, by rw [if_pos (by assumption)]; exact RdI.nil⟩
  · refine k_nil ?_; refine run_no ?_; refine run_skip ?_; refine rs5 (by kernel_rfl) ?_; have hz0 : handedS b xs = 0 := by omega
    obtain ⟨hz1, rfl⟩ := hz hz0
    injection hz1 with hz1
    injection hz1 with hz1
    injection hz1 with z1 hz1; injection hz1 with z2 hz1; injection hz1 with z3 hz1; injection hz1 with z4 hz1; injection hz1 with z5 hz1
    injection z1 with _ z1; injection z2 with _ z2; injection z3 with _ z3; injection z4 with u1 u2 u3; injection z5 with u4 u5 u6
    subst z1 z2 z3 u1 u2 u3 u4 u5 u6
    obtain ⟨hv, hlo⟩ := hand_zero hz0
    have hln := (lineS_zero hlo).1
    have hml := rdm.elen (by decide)
    have h7 := hv.many
    have hsm := lineS_small hlo
    refine k_ldA rfl zq ?_; refine k_ldA rfl zq ?_; refine k_calC rfl zq (by kernel_rfl) (fun H' hH => f94_c m H' (by omega) (by omega) hsm) ?_; rintro v nw o; refine k_hpA (k_put ?_); refine k_as rfl zq ?_; refine aq rfl ?_; refine run_ret rfl ?_; refine run_res (h ++ nw) rfl Tryz.func23 rfl weakSub ?_; refine hK _ _ ?_
    exact ⟨nw, rfl, _, by rw [hz0], by rw [if_neg (fun e => e hz0)]; exact RdI.owned o⟩
theorem f25_c (m : Md Tryz.prog B) (h : Hp) {b : Bk} {pm : Option Addr} {nm cm : Nat} {pr : Option Addr} {nr cr : Nat} (rdm : RdS B h 2 (.slice pm nm cm) nm (encs b.marks)) (hm : nm ≤ 1000) (rdr : RdS B h 4 (.slice pr nr cr) nr (encs b.rules)) (hr : nr ≤ 1000) {p : Option Addr} {n c : Nat} {xs : List Int} (rd : RdS B h 1 (.slice p n c) n (ints xs)) (hn : n ≤ 1000) : FnC m 25 #[bkV b pm nm cm pr nr cr, .slice p n c] h fun v h' => ∃ new, h' = h ++ new ∧ ∃ w, v = .tuple [w, .int .i64 (handedS b xs)].toArray ∧ RdI B new w (if handedS b xs ≠ 0 then [] else diffs (bends xs)) := by
  refine fn_enter Tryz.func25 rfl rfl (l := (bkV b pm nm cm pr nr cr) :: (.slice p n c) :: uu20) rfl ?_
  intro cf cs K hK
  refine rs3 (by kernel_rfl) ?_; refine k_box rfl zq (fun q2 => k_hp (k_put ?_)); refine k_as rfl zq ?_; refine aq rfl ?_; refine rs12 (by kernel_rfl) ?_; refine k_ldA rfl zq ?_; refine mq rfl ?_; refine k_calP (Post := Handed (handedS b xs) (bkV b pm nm cm pr nr cr) xs) rfl zq (by kernel_rfl) (fun H' hH => f93_c m H' (rdm.keeps (sq hH)) hm (rdr.keeps (sq hH)) hr (rd.keeps (sq hH)) hn) ?_; rintro v ⟨x1, x2, x3, y1, y2, y3, y4, y5, y6, yl, rfl, hz⟩; refine k_put ?_; refine mq rfl ?_; refine k_ext0 rfl zq ?_; refine k_ext1 rfl zq ?_; refine k_ext2 rfl zq ?_; refine k_new rfl zq (fun q6 => k_hp (k_put ?_)); refine k_new rfl zq (fun q7 => k_hp (k_put ?_)); refine k_stA rfl zq rfl ?_; refine k_stA rfl zq (by first | rfl | exact hts_length _) ?_; refine aq rfl ?_; refine run_seq ?_; refine rs2 (by kernel_rfl) ?_; refine mq rfl ?_; refine k_neqS rfl zq (fun hc => ?_) (fun hc => ?_)
  · refine k_nil ?_; refine run_yes ?_; refine rs3 (by kernel_rfl) ?_; refine mq rfl ?_; refine k_as rfl zq ?_; refine aq rfl ?_; refine run_ret rfl ?_; refine run_res (h) rfl Tryz.func25 rfl weakSub ?_; refine hK _ _ ?_
    exact ⟨[], by simp, _, rfl, by rw [if_pos (by assumption)]; exact RdI.nil⟩
  · refine k_nil ?_; refine run_no ?_; refine run_skip ?_; refine rs5 (by kernel_rfl) ?_; have hz0 : handedS b xs = 0 := by omega
    obtain ⟨hz1, rfl⟩ := hz hz0
    injection hz1 with hz1
    injection hz1 with hz1
    injection hz1 with z1 hz1; injection hz1 with z2 hz1; injection hz1 with z3 hz1; injection hz1 with z4 hz1; injection hz1 with z5 hz1
    injection z1 with _ z1; injection z2 with _ z2; injection z3 with _ z3; injection z4 with u1 u2 u3; injection z5 with u4 u5 u6
    subst z1 z2 z3 u1 u2 u3 u4 u5 u6
    obtain ⟨hv, hlo⟩ := hand_zero hz0
    have hln := (lineS_zero hlo).1
    have hml := rdm.elen (by decide)
    have h7 := hv.many
    have hsm := lineS_small hlo
    refine k_ldA rfl zq ?_; refine k_ldA rfl zq ?_; refine k_calC rfl zq (by kernel_rfl) (fun H' hH => f97_c m H' (by omega) (by omega) hsm) ?_; rintro v nw o; refine k_hpA (k_put ?_); refine k_as rfl zq ?_; refine aq rfl ?_; refine run_ret rfl ?_; refine run_res (h ++ nw) rfl Tryz.func25 rfl weakSub ?_; refine hK _ _ ?_
    exact ⟨nw, rfl, _, by rw [hz0], by rw [if_neg (fun e => e hz0)]; exact RdI.owned o⟩
theorem f27_c (m : Md Tryz.prog B) (h : Hp) {b : Bk} {pm : Option Addr} {nm cm : Nat} {pr : Option Addr} {nr cr : Nat} (rdm : RdS B h 2 (.slice pm nm cm) nm (encs b.marks)) (hm : nm ≤ 1000) (rdr : RdS B h 4 (.slice pr nr cr) nr (encs b.rules)) (hr : nr ≤ 1000) {p : Option Addr} {n c : Nat} {xs : List Int} (rd : RdS B h 1 (.slice p n c) n (ints xs)) (hn : n ≤ 1000) : FnC m 27 #[bkV b pm nm cm pr nr cr, .slice p n c] h fun v h' => h' = h ∧ v = .tuple [.int .i64 (if handedS b xs ≠ 0 then 0 else turns xs), .int .i64 (handedS b xs)].toArray := by
  refine fn_enter Tryz.func27 rfl rfl (l := (bkV b pm nm cm pr nr cr) :: (.slice p n c) :: uu20) rfl ?_
  intro cf cs K hK
  refine rs3 (by kernel_rfl) ?_; refine k_box rfl zq (fun q2 => k_hp (k_put ?_)); refine k_as rfl zq ?_; refine aq rfl ?_; refine rs12 (by kernel_rfl) ?_; refine k_ldA rfl zq ?_; refine mq rfl ?_; refine k_calP (Post := Handed (handedS b xs) (bkV b pm nm cm pr nr cr) xs) rfl zq (by kernel_rfl) (fun H' hH => f93_c m H' (rdm.keeps (sq hH)) hm (rdr.keeps (sq hH)) hr (rd.keeps (sq hH)) hn) ?_; rintro v ⟨x1, x2, x3, y1, y2, y3, y4, y5, y6, yl, rfl, hz⟩; refine k_put ?_; refine mq rfl ?_; refine k_ext0 rfl zq ?_; refine k_ext1 rfl zq ?_; refine k_ext2 rfl zq ?_; refine k_new rfl zq (fun q6 => k_hp (k_put ?_)); refine k_new rfl zq (fun q7 => k_hp (k_put ?_)); refine k_stA rfl zq rfl ?_; refine k_stA rfl zq (by first | rfl | exact hts_length _) ?_; refine aq rfl ?_; refine run_seq ?_; refine rs2 (by kernel_rfl) ?_; refine mq rfl ?_; refine k_neqS rfl zq (fun hc => ?_) (fun hc => ?_)
  · refine k_nil ?_; refine run_yes ?_; refine rs3 (by kernel_rfl) ?_; refine mq rfl ?_; refine k_as rfl zq ?_; refine aq rfl ?_; refine run_ret rfl ?_; refine run_res (h) rfl Tryz.func27 rfl weakSub ?_; refine hK _ _ ?_
    exact ⟨rfl, by rw [if_pos (by assumption)]⟩
  · refine k_nil ?_; refine run_no ?_; refine run_skip ?_; refine rs5 (by kernel_rfl) ?_; have hz0 : handedS b xs = 0 := by omega
    obtain ⟨hz1, rfl⟩ := hz hz0
    injection hz1 with hz1
    injection hz1 with hz1
    injection hz1 with z1 hz1; injection hz1 with z2 hz1; injection hz1 with z3 hz1; injection hz1 with z4 hz1; injection hz1 with z5 hz1
    injection z1 with _ z1; injection z2 with _ z2; injection z3 with _ z3; injection z4 with u1 u2 u3; injection z5 with u4 u5 u6
    subst z1 z2 z3 u1 u2 u3 u4 u5 u6
    obtain ⟨hv, hlo⟩ := hand_zero hz0
    have hln := (lineS_zero hlo).1
    have hml := rdm.elen (by decide)
    have h7 := hv.many
    have hsm := lineS_small hlo
    refine k_ldA rfl zq ?_; refine k_ldA rfl zq ?_; refine k_calP (Post := fun v => v = _) rfl zq (by kernel_rfl) (fun H' hH => f99_c m H' (by omega) (by omega) hsm) ?_; rintro v rfl; refine k_put ?_; refine k_as rfl zq ?_; refine aq rfl ?_; refine run_ret rfl ?_; refine run_res (h) rfl Tryz.func27 rfl weakSub ?_; refine hK _ _ ?_
    exact ⟨rfl, by rw [hz0, if_neg (fun e => e rfl)]⟩
theorem f29_c (m : Md Tryz.prog B) (h : Hp) {b : Bk} {pm : Option Addr} {nm cm : Nat} {pr : Option Addr} {nr cr : Nat} (rdm : RdS B h 2 (.slice pm nm cm) nm (encs b.marks)) (hm : nm ≤ 1000) (rdr : RdS B h 4 (.slice pr nr cr) nr (encs b.rules)) (hr : nr ≤ 1000) {p : Option Addr} {n c : Nat} {xs : List Int} (rd : RdS B h 1 (.slice p n c) n (ints xs)) (hn : n ≤ 1000) : FnC m 29 #[bkV b pm nm cm pr nr cr, .slice p n c] h fun v h' => h' = h ∧ ∃ w, v = .tuple [w, .int .i64 (handedS b xs)].toArray ∧ IsB (handedS b xs = 0 ∧ fair b.bend b.twist b.turns xs) w := by
  refine fn_enter Tryz.func29 rfl rfl (l := (bkV b pm nm cm pr nr cr) :: (.slice p n c) :: uu22) rfl ?_
  intro cf cs K hK
  refine rs3 (by kernel_rfl) ?_; refine k_box rfl zq (fun q2 => k_hp (k_put ?_)); refine k_as rfl zq ?_; refine aq rfl ?_; refine rs12 (by kernel_rfl) ?_; refine k_ldA rfl zq ?_; refine mq rfl ?_; refine k_calP (Post := Handed (handedS b xs) (bkV b pm nm cm pr nr cr) xs) rfl zq (by kernel_rfl) (fun H' hH => f93_c m H' (rdm.keeps (sq hH)) hm (rdr.keeps (sq hH)) hr (rd.keeps (sq hH)) hn) ?_; rintro v ⟨x1, x2, x3, y1, y2, y3, y4, y5, y6, yl, rfl, hz⟩; refine k_put ?_; refine mq rfl ?_; refine k_ext0 rfl zq ?_; refine k_ext1 rfl zq ?_; refine k_ext2 rfl zq ?_; refine k_new rfl zq (fun q6 => k_hp (k_put ?_)); refine k_new rfl zq (fun q7 => k_hp (k_put ?_)); refine k_stA rfl zq rfl ?_; refine k_stA rfl zq (by first | rfl | exact hts_length _) ?_; refine aq rfl ?_; refine rs10 (by kernel_rfl) ?_; refine mq rfl ?_; refine k_eqlS rfl zq (fun hc => ?_) (fun hc => ?_)
  · have hz0 : handedS b xs = 0 := by omega
    obtain ⟨hz1, rfl⟩ := hz hz0
    injection hz1 with hz1
    injection hz1 with hz1
    injection hz1 with z1 hz1; injection hz1 with z2 hz1; injection hz1 with z3 hz1; injection hz1 with z4 hz1; injection hz1 with z5 hz1
    injection z1 with _ z1; injection z2 with _ z2; injection z3 with _ z3; injection z4 with u1 u2 u3; injection z5 with u4 u5 u6
    subst z1 z2 z3 u1 u2 u3 u4 u5 u6
    obtain ⟨hv, hlo⟩ := hand_zero hz0
    have hln := (lineS_zero hlo).1
    have hml := rdm.elen (by decide)
    have h7 := hv.many
    have hsm := lineS_small hlo
    refine mq rfl ?_; refine k_ldA rfl rfl ?_; refine k_ldA rfl rfl ?_; refine k_calP (Post := fun v => IsB _ v) rfl rfl (by kernel_rfl) (fun H' hH => f101_c m H' (by omega) (by omega) hsm hv) ?_; rintro v (⟨hc, rfl⟩ | ⟨hc, rfl⟩)
    · refine k_put ?_; refine k_pickT rfl zq ?_; refine mq rfl ?_; refine k_as rfl zq ?_; refine aq rfl ?_; refine run_ret rfl ?_; refine run_res (h) rfl Tryz.func29 rfl weakSub ?_; refine hK _ _ ?_
      first
        | exact ⟨rfl, _, rfl, IsB.no (fun e => absurd e.1 (by omega))⟩
        | exact ⟨rfl, _, rfl, IsB.yes ⟨hz0, by assumption⟩⟩
        | exact ⟨rfl, _, rfl, IsB.no (fun e => absurd e.2 (by assumption))⟩
    · refine k_put ?_; refine k_pickT rfl zq ?_; refine mq rfl ?_; refine k_as rfl zq ?_; refine aq rfl ?_; refine run_ret rfl ?_; refine run_res (h) rfl Tryz.func29 rfl weakSub ?_; refine hK _ _ ?_
      first
        | exact ⟨rfl, _, rfl, IsB.no (fun e => absurd e.1 (by omega))⟩
        | exact ⟨rfl, _, rfl, IsB.yes ⟨hz0, by assumption⟩⟩
        | exact ⟨rfl, _, rfl, IsB.no (fun e => absurd e.2 (by assumption))⟩
  · refine mq rfl ?_; refine k_off rfl rfl ?_; refine k_off rfl rfl ?_; refine k_off rfl rfl ?_; refine k_pickF rfl zq ?_; refine mq rfl ?_; refine k_as rfl zq ?_; refine aq rfl ?_; refine run_ret rfl ?_; refine run_res (h) rfl Tryz.func29 rfl weakSub ?_; refine hK _ _ ?_
    first
      | exact ⟨rfl, _, rfl, IsB.no (fun e => absurd e.1 (by omega))⟩
      | exact ⟨rfl, _, rfl, IsB.yes ⟨hz0, by assumption⟩⟩
      | exact ⟨rfl, _, rfl, IsB.no (fun e => absurd e.2 (by assumption))⟩
def okN (be : Int) (pre : List Int) (n : Int) : Prop := 2 ≤ pre.length → -be ≤ n - 2 * pre.getD (pre.length - 1) 0 + pre.getD (pre.length - 2) 0 ∧ n - 2 * pre.getD (pre.length - 1) 0 + pre.getD (pre.length - 2) 0 ≤ be
instance (be : Int) (pre : List Int) (n : Int) : Decidable (okN be pre n) := by unfold okN; infer_instance
def genL (be : Int) : List Sp → List Int → List (List Int)
  | [], pre => [pre]
  | x :: ms, pre => (spanL x).flatMap fun n => if okN be pre n then genL be ms (pre ++ [n]) else []
def genJ (be : Int) (x : Sp) (ms : List Sp) (pre : List Int) (j : Nat) : List (List Int) := ((spanL x).take j).flatMap fun n => if okN be pre n then genL be ms (pre ++ [n]) else []
theorem genJ_zero (be : Int) (x : Sp) (ms : List Sp) (pre : List Int) : genJ be x ms pre 0 = [] := rfl
theorem genJ_succ (be : Int) (x : Sp) (ms : List Sp) (pre : List Int) (j : Nat) (h : j < (x.hi - x.lo + 1).toNat) : genJ be x ms pre (j + 1) = genJ be x ms pre j ++ if okN be pre (x.lo + j) then genL be ms (pre ++ [x.lo + j]) else [] := by
  unfold genJ
  rw [take_snoc' _ j (by rw [spanL_length]; exact h), spanL_getD x j h, List.flatMap_append]; simp
theorem genJ_full (be : Int) (x : Sp) (ms : List Sp) (pre : List Int) (j : Nat) (h : (x.hi - x.lo + 1).toNat ≤ j) : genJ be x ms pre j = genL be (x :: ms) pre := by
  unfold genJ
  rw [List.take_of_length_le (by rw [spanL_length]; exact h)]; rfl
theorem genJ_le (be : Int) (x : Sp) (ms : List Sp) (pre : List Int) (j : Nat) : (genJ be x ms pre j).length ≤ (genL be (x :: ms) pre).length := by
  have : genL be (x :: ms) pre = genJ be x ms pre j ++ ((spanL x).drop j).flatMap fun n => if okN be pre n then genL be ms (pre ++ [n]) else [] := by
    unfold genJ
    rw [← List.flatMap_append, List.take_append_drop]; rfl
  rw [this, List.length_append]; omega
theorem genL_le (be : Int) : ∀ (ms : List Sp) (pre : List Int), (∀ x ∈ ms, okM x) → (genL be ms pre).length ≤ 3 ^ ms.length
  | [], pre, _ => by simp [genL]
  | x :: ms, pre, h => by
    have hx := h x List.mem_cons_self
    unfold okM at hx
    have hs : (spanL x).length ≤ 3 := by rw [spanL_length]; omega
    have gen : ∀ (ns : List Int), (ns.flatMap fun n => if okN be pre n then genL be ms (pre ++ [n]) else []).length ≤ ns.length * 3 ^ ms.length := by
      intro ns
      induction ns with
      | nil => simp
      | cons n ns ih =>
        rw [List.flatMap_cons, List.length_append, List.length_cons, Nat.add_mul, Nat.one_mul]; have h1 := genL_le be ms (pre ++ [n]) (fun y hy => h y (List.mem_cons_of_mem _ hy))
        have h2 : (if okN be pre n then genL be ms (pre ++ [n]) else []).length ≤ 3 ^ ms.length := by
          split
          · exact h1
          · simp
        omega
    have h1 := gen (spanL x)
    have h2 : (spanL x).length * 3 ^ ms.length ≤ 3 * 3 ^ ms.length := Nat.mul_le_mul_right _ hs
    have h3 : 3 ^ (x :: ms).length = 3 * 3 ^ ms.length := by rw [List.length_cons, Nat.pow_succ, Nat.mul_comm]
    rw [h3]; exact Nat.le_trans h1 h2
theorem hts_rep {n : Nat} (hn : n ≤ 7) : hts (List.replicate n 0) = [.int .i64 0, .int .i64 0, .int .i64 0, .int .i64 0, .int .i64 0, .int .i64 0, .int .i64 0] := by
  rw [← hts_nil]; simp only [hts, padL, List.replicate_append_replicate, List.take_replicate, List.nil_append]
  congr 2
theorem take_set {ln : List Int} {i : Nat} {n : Int} (h : i < ln.length) : (ln.set i n).take (i + 1) = ln.take i ++ [n] := by
  rw [List.take_succ_eq_append_getElem (by simpa using h)]; simp [List.take_set_of_le]
theorem take_getD {ln l2 : List Int} {i j : Nat} (e : ln.take i = l2.take i) (h : j < i) : ln.getD j 0 = l2.getD j 0 := by
  have := congrArg (fun l : List Int => l[j]?) e
  simp only [List.getElem?_take, if_pos h] at this
  rw [List.getD_eq_getElem?_getD, List.getD_eq_getElem?_getD, this]
theorem take_len {ln : List Int} {i n : Nat} (h : ln.length = n) (hi : i ≤ n) : (ln.take i).length = i := by rw [List.length_take]; omega
theorem Small.set {m : Int} {ln : List Int} {i : Nat} {n : Int} (h : Small m ln) (hn : -m ≤ n ∧ n ≤ m) : Small m (ln.set i n) := fun j => by
  by_cases e : i = j
  · subst e
    by_cases hl : i < ln.length
    · rw [List.getD_eq_getElem?_getD, List.getElem?_set_self hl]; exact hn
    · rw [List.set_eq_of_length_le (by omega)]; exact h i
  · rw [List.getD_eq_getElem?_getD, List.getElem?_set_ne e, ← List.getD_eq_getElem?_getD]; exact h j
theorem hts_set {ln : List Int} {i : Nat} {n : Int} (hl : ln.length ≤ 7) (hi : i < ln.length) : hts (ln.set i n) = (hts ln).set i (.int .i64 n) := by
  simp only [hts, ints, padL]
  rw [← List.map_set]; congr 1
  rw [← List.take_set, List.set_append_left _ _ hi]
theorem setSeg_hts {ln : List Int} {i : Nat} {n : Int} (hl : ln.length ≤ 7) (hi : i < ln.length) : SetSeg (hts ln) (0 + (i : Int).toNat * 1) [.int .i64 n] (hts (ln.set i n)) := ⟨by
  rw [hts_set hl hi, Int.toNat_natCast, Nat.mul_one, Nat.zero_add]; have : i < (hts ln).length := by rw [hts_length]; omega
  rw [List.set_eq_take_append_cons_drop, if_pos this]; simp, by rw [hts_length]; simp; omega⟩
def walkH (h0 : Hp) (bl : List Value) (yv : Value) (ln : List Int) (qb qy qa qn : Nat) : Hp :=
  h0 ++ [⟨true, qb, .cells bl.toArray 109 (0, 0)⟩, ⟨true, qy, .cells [yv].toArray 118 (0, 0)⟩, ⟨true, qa, .cells (hts ln).toArray 112 (0, 0)⟩, ⟨true, qn, .cells [.func (.func 160) #[] [.pointer (some ⟨qb, 0, none⟩), .pointer (some ⟨qy, 0, none⟩), .pointer (some ⟨qa, 0, none⟩), .pointer (some ⟨qn, 0, none⟩)].toArray].toArray 159 (0, 0)⟩]
def EachL {P : Program} {B : Array Obj} (m : Md P B) (h0 : Hp) (nm : Nat) (yv : Value) (YI : List (List Int) → Hp → Prop) : Prop :=
  ∀ (F R : Hp) (dn : List (List Int)) (ln : List Int), h0.Sublist F → ln.length = nm → Small 959 ln → dn.length < 2187 → YI dn R → CallV m yv [htV ln] (F ++ R) fun v h' => v = .bool true ∧ ∃ R', h' = F ++ R' ∧ YI (dn ++ [ln]) R'
theorem take_getD2 {ln l2 : List Int} {i j : Nat} (e : l2.take i = ln.take i) (h : j < i) : l2.getD j 0 = (ln.take i).getD j 0 := by
  rw [take_getD e h, List.getD_eq_getElem?_getD, List.getD_eq_getElem?_getD, List.getElem?_take, if_pos h]
theorem CallV.fn' {P : Program} {B : Array Obj} {m : Md P B} {f : FuncId} {first cap vs : Array Value} {args : List Value} {h : Hp} {Post : Value → Hp → Prop} (hf : callB P f = true) (e : first ++ args.toArray ++ cap = vs) (c : FnC m f vs h Post) : CallV m (.func (.func f) first cap) args h Post := CallV.fn hf (e ▸ c)
theorem callB160 : callB Tryz.prog 160 = true := by kernel_rfl
theorem f160_c (m : Md Tryz.prog B) {h0 : Hp} {b : Bk} {pm : Option Addr} {nm cm : Nat} {pr : Option Addr} {nr cr : Nat} (rdm : RdS B h0 2 (.slice pm nm cm) nm (encs b.marks)) (hv : Valid b) {yv : Value} [CellsV yv [yv]] {YI : List (List Int) → Hp → Prop} (hY : EachL m h0 nm yv YI) (qb qy qa qn : Nat) :
    ∀ (d i : Nat) (ln : List Int) (dn : List (List Int)) (R : Hp), i + d = nm → ln.length = nm → Small 959 ln → dn.length + (genL b.bend (b.marks.drop i) (ln.take i)).length ≤ 2187 → YI dn R →
      FnC m 160 #[.int .i64 (i : Int), .pointer (some ⟨qb, 0, none⟩), .pointer (some ⟨qy, 0, none⟩), .pointer (some ⟨qa, 0, none⟩), .pointer (some ⟨qn, 0, none⟩)] (walkH h0 (bkL b pm nm cm pr nr cr) yv ln qb qy qa qn ++ R) fun v h' => v = .bool true ∧ ∃ ln' R', h' = walkH h0 (bkL b pm nm cm pr nr cr) yv ln' qb qy qa qn ++ R' ∧ ln'.length = nm ∧ Small 959 ln' ∧ ln'.take i = ln.take i ∧ YI (dn ++ genL b.bend (b.marks.drop i) (ln.take i)) R' := by
  intro d
  induction d using Nat.strongRecOn
  rename_i d ih
  intro i ln dn R hid hln hsm hdn hR
  have hml := rdm.elen (by decide)
  have hv1 := hv.many
  have hv2 := hv.bend
  unfold walkH at ih ⊢
  refine fn_enter Tryz.func160 rfl rfl (l := (.int .i64 (i : Int)) :: (.pointer (some ⟨qb, 0, none⟩)) :: (.pointer (some ⟨qy, 0, none⟩)) :: (.pointer (some ⟨qa, 0, none⟩)) :: (.pointer (some ⟨qn, 0, none⟩)) :: uu63) rfl ?_
  intro cf cs K hK
  refine rs1 (by kernel_rfl) ?_; refine aq rfl ?_; refine run_seq ?_; refine rs4 (by kernel_rfl) ?_; refine mq rfl ?_; refine k_ldA rfl zq ?_; refine k_calP (Post := fun v => v = _) rfl zq (by kernel_rfl) (fun H' hH => f118_c m H' _ _ _ _ _ _ _ _ _) ?_; rintro v rfl; refine k_put ?_; refine k_eqlS rfl zq (fun hc => ?_) (fun hc => ?_)
  · refine k_nil ?_; refine run_yes ?_; refine rs4 (by kernel_rfl) ?_; refine k_ldh rfl zq ?_; refine k_ldA rfl zq ?_; refine k_callV rfl zq (hY _ R dn ln (List.sublist_append_left _ _) hln hsm (by
      rw [List.drop_eq_nil_of_le (by omega)] at hdn
      simp [genL] at hdn
      omega) hR) ?_
    rintro v h' ⟨rfl, R', rfl, hR'⟩; refine k_put ?_; refine aq rfl ?_; refine run_ret rfl ?_; refine run_res ((h0 ++ [⟨true, qb, .cells (bkL b pm nm cm pr nr cr).toArray 109 (0, 0)⟩, ⟨true, qy, .cells [yv].toArray 118 (0, 0)⟩, ⟨true, qa, .cells (hts ln).toArray 112 (0, 0)⟩, ⟨true, qn, .cells [.func (.func 160) #[] [.pointer (some ⟨qb, 0, none⟩), .pointer (some ⟨qy, 0, none⟩), .pointer (some ⟨qa, 0, none⟩), .pointer (some ⟨qn, 0, none⟩)].toArray].toArray 159 (0, 0)⟩]) ++ R') rfl Tryz.func160 rfl weakSub ?_; refine hK _ _ ?_
    refine ⟨rfl, ln, R', rfl, hln, hsm, rfl, ?_⟩
    rw [List.drop_eq_nil_of_le (by omega), List.take_of_length_le (by omega)]; exact hR'
  · refine k_nil ?_; refine run_no ?_; refine run_skip ?_; refine run_seq ?_; refine rs8 (by kernel_rfl) ?_; have hok := hv.marks _ (mem_getDR.2 ⟨i, by omega, rfl⟩)
    unfold okM at hok
    have hdrop := getD_dropR b.marks i (by omega)
    first | refine k_fa0 rfl zq ?_ | refine k_fa rfl zq ?_
    first | refine k_fa0 rfl zq ?_ | refine k_fa rfl zq ?_
    refine k_ldh rfl zq ?_; refine mq rfl ?_; obtain ⟨rdm_b, rdm_o, rfl⟩ := rdm.ptr (by omega)
    refine k_ixs rfl zq (by first | rfl | assumption) (by omega) (by omega) ?_; first | refine k_fa0 rfl zq ?_ | refine k_fa rfl zq ?_
    refine k_ld rfl zq (rdm.fat (v := .int .i64 (b.marks.getD i default).lo) i 0 (by omega) (by omega) rfl) ?_; refine aq rfl ?_; refine run_block ?_; refine run_loop (fun nn l h' => ∃ (j : Nat) (n7 : Int) (l1 : List Int) (R1 : Hp), nn = ((b.marks.getD i default).hi - (b.marks.getD i default).lo + 1).toNat - j ∧ (n7 = (b.marks.getD i default).lo + (j : Int)) ∧ (j ≤ ((b.marks.getD i default).hi - (b.marks.getD i default).lo + 1).toNat) ∧ (l1.length = nm) ∧ (Small 959 l1) ∧ (l1.take i = ln.take i) ∧ (YI (dn ++ genJ b.bend (b.marks.getD i default) (b.marks.drop (i + 1)) (ln.take i) j) R1) ∧ (∃ U : Nat → Value, l = [.int .i64 (i : Int), .pointer (some ⟨qb, 0, none⟩), .pointer (some ⟨qy, 0, none⟩), .pointer (some ⟨qa, 0, none⟩), .pointer (some ⟨qn, 0, none⟩), U 5, U 6, .int .i64 n7, U 8, U 9, U 10, U 11, U 12, U 13, U 14, U 15, U 16, U 17, U 18, U 19, U 20, U 21, U 22, U 23, U 24, U 25, U 26, U 27, U 28, U 29, U 30, U 31, U 32, U 33, U 34, U 35, U 36, U 37, U 38, U 39, U 40, U 41, U 42, U 43, U 44, U 45, U 46, U 47, U 48, U 49, U 50, U 51, U 52, U 53, U 54, U 55, U 56, U 57, U 58, U 59, U 60, U 61, U 62, U 63, U 64, U 65, U 66, U 67]) ∧ (h0 ++ [⟨true, qb, .cells (bkL b (some ⟨rdm_b, rdm_o, none⟩) nm cm pr nr cr).toArray 109 (0, 0)⟩, ⟨true, qy, .cells [yv].toArray 118 (0, 0)⟩, ⟨true, qa, .cells (hts l1).toArray 112 (0, 0)⟩, ⟨true, qn, .cells [.func (.func 160) #[] [.pointer (some ⟨qb, 0, none⟩), .pointer (some ⟨qy, 0, none⟩), .pointer (some ⟨qa, 0, none⟩), .pointer (some ⟨qn, 0, none⟩)].toArray].toArray 159 (0, 0)⟩]) ++ R1 = h') _ ⟨0, _, ln, R, rfl, by exact (Int.add_zero _).symm, by omega, hln, hsm, rfl, by rw [genJ_zero, List.append_nil]; exact hR, exU rfl, rfl⟩ ?_; rintro nn l h' ⟨j, n7, l1, R1, rfl, rfl, hj, hl1, hs1, ht1, hR1, ⟨U, rfl⟩, rfl⟩ hnext1; refine run_seq ?_; refine rs9 (by kernel_rfl) ?_; refine mq rfl ?_; first | refine k_fa0 rfl zq ?_ | refine k_fa rfl zq ?_
    first | refine k_fa0 rfl zq ?_ | refine k_fa rfl zq ?_
    refine k_ldh rfl zq ?_; refine mq rfl ?_; refine k_ixs rfl zq (by first | rfl | assumption) (by omega) (by omega) ?_; first | refine k_fa0 rfl zq ?_ | refine k_fa rfl zq ?_
    refine k_ld rfl zq (rdm.fat (v := .int .i64 (b.marks.getD i default).hi) i 1 (by omega) (by omega) rfl) ?_; refine k_leqS rfl zq (fun hc => ?_) (fun hc => ?_)
    · refine k_nil ?_; refine run_yes ?_; refine run_skip ?_; refine run_seq ?_; refine run_block ?_; refine rs4 (by kernel_rfl) ?_; have hgs := genJ_succ b.bend (b.marks.getD i default) (b.marks.drop (i + 1)) (ln.take i) j (by omega)
      have hss := setSeg_hts (n := ((b.marks.getD i default).lo + (j : Int))) (show l1.length ≤ 7 by omega) (show i < l1.length by omega)
      have htk : (l1.set i ((b.marks.getD i default).lo + (j : Int))).take i = ln.take i := by rw [List.take_set_of_le (Nat.le_refl _), ht1]
      have hsS : Small 959 (l1.set i ((b.marks.getD i default).lo + (j : Int))) := hs1.set (by omega)
      have hA := hsS i
      have hB := hsS (i - 1)
      have hC := hsS (i - 2)
      have hpl : (ln.take i).length = i := take_len hln (by omega)
      have e0 : (l1.set i ((b.marks.getD i default).lo + (j : Int))).getD i 0 = ((b.marks.getD i default).lo + (j : Int)) := by rw [List.getD_eq_getElem?_getD, List.getElem?_set_self (by omega)]; rfl
      have e1 : 1 ≤ i → (l1.set i ((b.marks.getD i default).lo + (j : Int))).getD (i - 1) 0 = (ln.take i).getD (i - 1) 0 := fun h => take_getD2 htk (by omega)
      have e2 : 2 ≤ i → (l1.set i ((b.marks.getD i default).lo + (j : Int))).getD (i - 2) 0 = (ln.take i).getD (i - 2) 0 := fun h => take_getD2 htk (by omega)
      refine mq rfl ?_; refine mq rfl ?_; refine k_ixa rfl zq (by omega) (by omega) ?_; refine k_st1 rfl zq ?_; refine k_nil ?_; refine run_seq ?_; refine run_seq ?_; refine run_draw [(0, .pure), (1, .pure), (2, .pure), (3, .pure), (4, .pure), (6, .pure), (7, .pure), (8, .pure), (12, .pure), (13, .pure), (14, .pure), (17, .pure), (18, .pure), (21, .pure), (22, .pure), (5, .read), (9, .read), (10, .pure), (11, .pure), (15, .read), (16, .pure), (19, .read), (20, .pure), (23, .read), (24, .keep), (25, .pure), (26, .pure)] (by kernel_rfl) (by kernel_rfl) (List.Sublist.refl _) ?_; refine mq rfl ?_; refine k_geqS rfl zq (fun hc => ?_) (fun hc => ?_)
      · refine mq rfl ?_; refine k_mv rfl rfl ?_; refine k_ixa rfl rfl (by omega) (by omega) ?_; refine k_mv rfl rfl ?_; refine k_sub rfl rfl (by unfold In64; omega) ?_; refine k_ixa rfl rfl (by omega) (by omega) ?_; refine k_mv rfl rfl ?_; refine k_sub rfl rfl (by unfold In64; omega) ?_; refine k_ixa rfl rfl (by omega) (by omega) ?_; first | refine k_fa0 rfl rfl ?_ | refine k_fa rfl rfl ?_
        first | refine k_fa0 rfl rfl ?_ | refine k_fa rfl rfl ?_
        first | refine k_fa0 rfl rfl ?_ | refine k_fa rfl rfl ?_
        first | refine k_fa0 rfl rfl ?_ | refine k_fa rfl rfl ?_
        refine k_ld rfl rfl (rd_hts (q := qa) i rfl (by omega)) ?_; refine k_ld rfl rfl (rd_hts (q := qa) (i - 1) (by omega) (by omega)) ?_; refine k_mul rfl rfl (by unfold In64; omega) ?_; refine k_sub rfl rfl (by unfold In64; omega) ?_; refine k_ld rfl rfl (rd_hts (q := qa) (i - 2) (by omega) (by omega)) ?_; refine k_add rfl rfl (by unfold In64; omega) ?_; refine k_ldh rfl rfl ?_; refine k_neg rfl rfl (by unfold In64; omega) ?_; refine k_ldh rfl rfl ?_; refine k_calP (Post := fun v => IsB _ v) rfl rfl (by kernel_rfl) (fun H' hH => f117_c m H' _ _ _) ?_; rintro v (⟨hc, rfl⟩ | ⟨hc, rfl⟩)
        · refine k_put ?_; have hyes : okN b.bend (ln.take i) ((b.marks.getD i default).lo + (j : Int)) := fun _ => by
            rw [hpl, ← e1 (by omega), ← e2 (by omega)]; rw [e0] at hc
            omega
          refine k_notT rfl rfl ?_; refine k_pickT rfl zq ?_; refine k_nil ?_; refine run_no ?_; refine run_skip ?_; refine rs5 (by kernel_rfl) ?_; refine k_ldh rfl zq ?_; refine mq rfl ?_; refine k_add rfl zq (by unfold In64; omega) ?_; have hrec := ih (d - 1) (by omega) (i + 1) (l1.set i ((b.marks.getD i default).lo + (j : Int))) (dn ++ genJ b.bend (b.marks.getD i default) (b.marks.drop (i + 1)) (ln.take i) j) R1 (by omega) (by simp [hl1]) hsS (by
            rw [take_set (by omega), ht1, List.length_append]; have h1 := genJ_le b.bend (b.marks.getD i default) (b.marks.drop (i + 1)) (ln.take i) (j + 1)
            rw [hgs, if_pos hyes, List.length_append] at h1
            rw [hdrop] at hdn
            omega) hR1
          rw [show ((i + 1 : Nat) : Int) = (i : Int) + 1 by omega] at hrec
          have hcv := CallV.fn' (first := #[]) (args := [.int .i64 ((i : Int) + 1)]) (cap := [Value.pointer (some ⟨qb, 0, none⟩), Value.pointer (some ⟨qy, 0, none⟩), Value.pointer (some ⟨qa, 0, none⟩), Value.pointer (some ⟨qn, 0, none⟩)].toArray) callB160 (by simp) hrec
          refine k_callV rfl zq hcv ?_; clear hcv hrec
          rintro v h' ⟨rfl, ln2, R2, rfl, hl2, hs2, ht2', hR2⟩; have ht2 : ln2.take i = ln.take i := by
            have := congrArg (List.take i) ht2'
            rw [List.take_take, List.take_take, Nat.min_eq_left (by omega)] at this
            rw [this, htk]
          rw [take_set (by omega), ht1] at hR2
          refine k_put ?_; refine k_notT rfl zq ?_; refine k_nil ?_; refine run_no ?_; refine run_skip ?_; refine run_inBlock ?_; refine rr3 (by kernel_rfl) ?_; refine mq rfl ?_; refine k_add rfl zq (by unfold In64; omega) ?_; refine aq rfl ?_; exact m.weak weakSub (hnext1 _ _ _ (by omega) ⟨j + 1, _, ln2, R2, rfl, by omega, by omega, hl2, hs2, ht2, by rw [hgs, if_pos hyes, ← List.append_assoc]; exact hR2, exU rfl, rfl⟩)
        · refine k_put ?_; have hno : ¬ okN b.bend (ln.take i) ((b.marks.getD i default).lo + (j : Int)) := fun e => hc (by
            have := e (by omega)
            rw [hpl, ← e1 (by omega), ← e2 (by omega)] at this
            rw [e0]; omega)
          refine k_notF rfl rfl ?_; refine k_pickT rfl zq ?_; refine k_nil ?_; refine run_yes ?_; refine run_exit rfl ?_; refine rr3 (by kernel_rfl) ?_; refine mq rfl ?_; refine k_add rfl zq (by unfold In64; omega) ?_; refine aq rfl ?_; rw [if_neg hno, List.append_nil] at hgs
          rw [← hgs] at hR1
          exact m.weak weakSub (hnext1 _ _ _ (by omega) ⟨j + 1, _, l1.set i ((b.marks.getD i default).lo + (j : Int)), R1, rfl, by omega, by omega, by simp [hl1], hsS, htk, hR1, exU rfl, rfl⟩)
      · have hyes : okN b.bend (ln.take i) ((b.marks.getD i default).lo + (j : Int)) := fun h2 => by exfalso; omega
        refine mq rfl ?_; refine k_off rfl rfl ?_; refine k_off rfl rfl ?_; refine k_off rfl rfl ?_; refine k_off rfl rfl ?_; refine k_off rfl rfl ?_; refine k_off rfl rfl ?_; refine k_off rfl rfl ?_; refine k_off rfl rfl ?_; refine k_off rfl rfl ?_; refine k_off rfl rfl ?_; refine k_off rfl rfl ?_; refine k_off rfl rfl ?_; refine k_off rfl rfl ?_; refine k_off rfl rfl ?_; refine k_off rfl rfl ?_; refine k_off rfl rfl ?_; refine k_off rfl rfl ?_; refine k_off rfl rfl ?_; refine k_off rfl rfl ?_; refine k_off rfl rfl ?_; refine k_off rfl rfl ?_; refine k_off rfl rfl ?_; refine k_off rfl rfl ?_; refine k_pickF rfl zq ?_; refine k_nil ?_; refine run_no ?_; refine run_skip ?_; refine rs5 (by kernel_rfl) ?_; refine k_ldh rfl zq ?_; refine mq rfl ?_; refine k_add rfl zq (by unfold In64; omega) ?_; have hrec := ih (d - 1) (by omega) (i + 1) (l1.set i ((b.marks.getD i default).lo + (j : Int))) (dn ++ genJ b.bend (b.marks.getD i default) (b.marks.drop (i + 1)) (ln.take i) j) R1 (by omega) (by simp [hl1]) hsS (by
          rw [take_set (by omega), ht1, List.length_append]; have h1 := genJ_le b.bend (b.marks.getD i default) (b.marks.drop (i + 1)) (ln.take i) (j + 1)
          rw [hgs, if_pos hyes, List.length_append] at h1
          rw [hdrop] at hdn
          omega) hR1
        rw [show ((i + 1 : Nat) : Int) = (i : Int) + 1 by omega] at hrec
        have hcv := CallV.fn' (first := #[]) (args := [.int .i64 ((i : Int) + 1)]) (cap := [Value.pointer (some ⟨qb, 0, none⟩), Value.pointer (some ⟨qy, 0, none⟩), Value.pointer (some ⟨qa, 0, none⟩), Value.pointer (some ⟨qn, 0, none⟩)].toArray) callB160 (by simp) hrec
        refine k_callV rfl zq hcv ?_; clear hcv hrec
        rintro v h' ⟨rfl, ln2, R2, rfl, hl2, hs2, ht2', hR2⟩; have ht2 : ln2.take i = ln.take i := by
          have := congrArg (List.take i) ht2'
          rw [List.take_take, List.take_take, Nat.min_eq_left (by omega)] at this
          rw [this, htk]
        rw [take_set (by omega), ht1] at hR2
        refine k_put ?_; refine k_notT rfl zq ?_; refine k_nil ?_; refine run_no ?_; refine run_skip ?_; refine run_inBlock ?_; refine rr3 (by kernel_rfl) ?_; refine mq rfl ?_; refine k_add rfl zq (by unfold In64; omega) ?_; refine aq rfl ?_; exact m.weak weakSub (hnext1 _ _ _ (by omega) ⟨j + 1, _, ln2, R2, rfl, by omega, by omega, hl2, hs2, ht2, by rw [hgs, if_pos hyes, ← List.append_assoc]; exact hR2, exU rfl, rfl⟩)
    · refine k_nil ?_; refine run_no ?_; refine run_exit rfl ?_; refine rs1 (by kernel_rfl) ?_; refine aq rfl ?_; refine run_ret rfl ?_; refine run_res ((h0 ++ [⟨true, qb, .cells (bkL b (some ⟨rdm_b, rdm_o, none⟩) nm cm pr nr cr).toArray 109 (0, 0)⟩, ⟨true, qy, .cells [yv].toArray 118 (0, 0)⟩, ⟨true, qa, .cells (hts l1).toArray 112 (0, 0)⟩, ⟨true, qn, .cells [.func (.func 160) #[] [.pointer (some ⟨qb, 0, none⟩), .pointer (some ⟨qy, 0, none⟩), .pointer (some ⟨qa, 0, none⟩), .pointer (some ⟨qn, 0, none⟩)].toArray].toArray 159 (0, 0)⟩]) ++ R1) rfl Tryz.func160 rfl weakSub ?_; refine hK _ _ ?_
      refine ⟨rfl, l1, R1, rfl, hl1, hs1, ht1, ?_⟩
      rw [hdrop, ← genJ_full _ _ _ _ j (by omega)]; exact hR1
theorem f150_c (m : Md Tryz.prog B) {h0 : Hp} {b : Bk} {pm : Option Addr} {nm cm : Nat} {pr : Option Addr} {nr cr : Nat} (rdm : RdS B h0 2 (.slice pm nm cm) nm (encs b.marks)) (hv : Valid b) {yv : Value} [CellsV yv [yv]] {YI : List (List Int) → Hp → Prop} (hY : EachL m h0 nm yv YI) {R : Hp} (hR : YI [] R) :
    FnC m 150 #[bkV b pm nm cm pr nr cr, yv] (h0 ++ R) fun v h' => v = .tuple [].toArray ∧ ∃ R', h' = h0 ++ R' ∧ YI (genL b.bend b.marks []) R' := by
  have hml := rdm.elen (by decide)
  have hv1 := hv.many
  refine fn_enter Tryz.func150 rfl rfl (l := (bkV b pm nm cm pr nr cr) :: yv :: uu7) rfl ?_
  intro cf cs K hK
  refine rs2 (by kernel_rfl) ?_; refine k_box rfl zq (fun q2 => k_hp (k_put ?_)); refine k_box rfl zq (fun q3 => k_hp (k_put ?_)); refine k_nil ?_; refine rs1 (by kernel_rfl) ?_; refine k_new rfl zq (fun q4 => k_hp (k_put ?_)); refine k_nil ?_; refine rs1 (by kernel_rfl) ?_; refine k_new rfl zq (fun q5 => k_hp (k_put ?_)); refine k_nil ?_; refine rs2 (by kernel_rfl) ?_; refine k_fun rfl zq ?_; refine k_st1 rfl zq ?_; refine k_nil ?_; refine rr2 (by kernel_rfl) ?_; refine k_ldh rfl zq ?_; refine k_weak (Weak.mid h0 R _) ?_; have hw := f160_c m (pr := pr) (nr := nr) (cr := cr) rdm hv hY q2 q3 q4 q5 nm 0 (List.replicate nm 0) [] R (by omega) (by simp) (fun j => by rw [List.getD_eq_getElem?_getD, List.getElem?_replicate]; split <;> simp) (by
    have h1 := genL_le b.bend b.marks [] hv.marks
    have h2 : 3 ^ b.marks.length ≤ 3 ^ 7 := Nat.pow_le_pow_right (by omega) (by omega)
    simp only [List.drop_zero, List.take_zero, List.length_nil]
    omega) hR
  unfold walkH at hw
  rw [hts_rep (by omega)] at hw
  simp only [List.drop_zero, List.take_zero, List.nil_append] at hw
  have hcv := CallV.fn' (first := #[]) (args := [.int .i64 0]) (cap := [Value.pointer (some ⟨q2, 0, none⟩), Value.pointer (some ⟨q3, 0, none⟩), Value.pointer (some ⟨q4, 0, none⟩), Value.pointer (some ⟨q5, 0, none⟩)].toArray) callB160 (by simp) hw
  refine k_callV rfl zq hcv ?_; clear hcv hw
  rintro v h' ⟨rfl, ln2, R2, rfl, hl2, hs2, ht2, hR2⟩; refine k_put ?_; refine k_nil ?_; refine run_end rfl ?_; refine run_res (h0 ++ R2) rfl Tryz.func150 rfl weakSub ?_; refine hK _ _ ?_
  exact ⟨rfl, R2, rfl, hR2⟩
def genA : List Sp → List Int → List (List Int)
  | [], pre => [pre]
  | x :: ms, pre => (spanL x).flatMap fun n => genA ms (pre ++ [n])
theorem foldl_genA : ∀ (ms : List Sp) (all : List (List Int)), ms.foldl extL all = all.flatMap (genA ms)
  | [], all => by
    simp only [List.foldl_nil]
    induction all with
    | nil => rfl
    | cons a r ih => rw [List.flatMap_cons, ← ih]; rfl
  | x :: ms, all => by
    rw [List.foldl_cons, foldl_genA ms (extL all x), extL, List.flatMap_assoc]; congr 1
    funext l
    rw [ext1, List.flatMap_map]; rfl
theorem linesOf_genA (ms : List Sp) : linesOf ms = genA ms [] := by rw [linesOf, foldl_genA]; simp
theorem genA_pre : ∀ (ms : List Sp) (pre l : List Int), l ∈ genA ms pre → ∃ t, l = pre ++ t
  | [], pre, l, h => ⟨[], by simpa [genA] using h⟩
  | x :: ms, pre, l, h => by
    simp only [genA, List.mem_flatMap] at h
    obtain ⟨n, _, h⟩ := h
    obtain ⟨t, rfl⟩ := genA_pre ms _ l h
    exact ⟨n :: t, by simp⟩
theorem okN_fair {be tw tu : Int} {pre t : List Int} {n : Int} (h : fair be tw tu (pre ++ [n] ++ t)) : okN be pre n := fun hp => by
  have hg : ∀ k, k ≤ pre.length → (pre ++ [n] ++ t).getD k 0 = if k = pre.length then n else pre.getD k 0 := fun k hk => by
    rw [List.append_assoc, List.getD_eq_getElem?_getD]; split
    · rename_i e; subst e; simp
    · rw [List.getElem?_append_left (by omega), List.getD_eq_getElem?_getD]
  have hb := bends_getD (pre ++ [n] ++ t) (pre.length - 2) (by simp; omega)
  have hm := h.1 _ (mem_getD.2 ⟨pre.length - 2, by rw [bends_length]; simp; omega, rfl⟩)
  rw [hb, hg _ (by omega), hg _ (by omega), hg _ (by omega), if_neg (by omega), if_pos (by omega), if_neg (by omega)] at hm
  rw [show pre.length - 2 + 1 = pre.length - 1 by omega] at hm
  omega
def goodB (b : Bk) (l : List Int) : Bool := decide (fair b.bend b.twist b.turns l) && decide (∀ r ∈ b.rules, r.lo ≤ l.getD r.b.toNat 0 - l.getD r.a.toNat 0 ∧ l.getD r.b.toNat 0 - l.getD r.a.toNat 0 ≤ r.hi)
theorem goodB_iff {b : Bk} {l : List Int} : goodB b l = true ↔ fair b.bend b.twist b.turns l ∧ right b l := by
  simp only [goodB, Bool.and_eq_true, decide_eq_true_eq]; rfl
theorem genL_good (b : Bk) : ∀ (ms : List Sp) (pre : List Int), (genL b.bend ms pre).filter (goodB b) = (genA ms pre).filter (goodB b)
  | [], pre => rfl
  | x :: ms, pre => by
    simp only [genL, genA, List.filter_flatMap]
    congr 1
    funext n
    split
    · exact genL_good b ms _
    · rename_i hno
      symm
      rw [List.filter_nil, List.filter_eq_nil_iff]; intro l hl hg
      obtain ⟨t, rfl⟩ := genA_pre ms _ l hl
      exact hno (okN_fair (goodB_iff.1 hg).1)
def goodL (b : Bk) (dn : List (List Int)) : List (List Int) := dn.filter (goodB b)
theorem good_boats {b : Bk} : goodL b (genL b.bend b.marks []) = boatsOf b := by
  rw [goodL, genL_good, ← linesOf_genA, boatsOf]; refine List.filter_congr fun l hl => ?_
  rw [Bool.eq_iff_iff, goodB_iff, decide_eq_true_iff]; obtain ⟨h1, h2⟩ := line_of hl
  exact ⟨fun ⟨x, y⟩ => ⟨fun i hi => h2 i (by omega), y, x⟩, fun ⟨_, y, x⟩ => ⟨x, y⟩⟩
theorem goodL_yes {b : Bk} {dn : List (List Int)} {l : List Int} (h : fair b.bend b.twist b.turns l ∧ right b l) : goodL b (dn ++ [l]) = goodL b dn ++ [l] := by
  rw [goodL, List.filter_append, List.filter_cons, if_pos (goodB_iff.2 h)]; rfl
theorem goodL_no {b : Bk} {dn : List (List Int)} {l : List Int} (h : ¬ (fair b.bend b.twist b.turns l ∧ right b l)) : goodL b (dn ++ [l]) = goodL b dn := by
  rw [goodL, List.filter_append, List.filter_cons, if_neg (fun e => h (goodB_iff.1 e))]; simp [goodL]
theorem goodL_le (b : Bk) (dn : List (List Int)) : (goodL b dn).length ≤ dn.length := List.length_filter_le _ _
instance {a : List Value} : AppL a [] a := ⟨List.append_nil a⟩
theorem weak_pre {B : Array Obj} {h A X : Hp} (e : h = A ++ X) : Weak B h A := e ▸ Weak.sub (List.sublist_append_left _ _)
theorem encs_one1 {l : List Int} : encs [l] = hts l := by simp [encs, Enc.enc]
theorem f104_c (m : Md Tryz.prog B) (h : Hp) {b : Bk} {pm : Option Addr} {nm cm : Nat} {pr : Option Addr} {nr cr : Nat} (rdm : RdS B h 2 (.slice pm nm cm) nm (encs b.marks)) (hm : nm ≤ 1000) (rdr : RdS B h 4 (.slice pr nr cr) nr (encs b.rules)) (hr : nr ≤ 1000) (hv : Valid b) : FnC m 104 #[bkV b pm nm cm pr nr cr] h fun v h' => ∃ nw, h' = h ++ nw ∧ OwnS 112 7 v (boatsOf b).length (encs (boatsOf b)) nw := by
  have hml := rdm.elen (by decide)
  have hv1 := hv.many
  refine fn_enter Tryz.func104 rfl rfl (l := (bkV b pm nm cm pr nr cr) :: uu20) rfl ?_
  intro cf cs K hK
  refine rs2 (by kernel_rfl) ?_; refine k_box rfl zq (fun q1 => k_hp (k_put ?_)); refine aq rfl ?_; refine rs1 (by kernel_rfl) ?_; refine k_new rfl zq (fun q3 => k_hp (k_put ?_)); refine k_nil ?_; refine run_seq ?_; refine rs2 (by kernel_rfl) ?_; refine k_ldA rfl zq ?_; refine k_fun rfl zq ?_; refine k_nil ?_; refine run_block ?_; refine run_rangeF rfl rfl (by kernel_rfl) (fun q11 q12 => ?_); generalize hrec : lrec _ _ _ _ _ _ LoopState.ready = rec0
  have hY : EachL m h nm (.func (.yield q12) #[] #[]) (fun dn R => ∃ bp bc nw, R = [⟨true, q1, .cells (bkL b pm nm cm pr nr cr).toArray 109 (0, 0)⟩, ⟨true, q3, .cells [.slice bp (goodL b dn).length bc].toArray 120 (0, 0)⟩, ⟨true, q11, .deferred (some [])⟩, ⟨true, q12, rec0⟩] ++ nw ∧ OwnS 112 7 (.slice bp (goodL b dn).length bc) (goodL b dn).length (encs (goodL b dn)) nw) := ?hY
  rotate_left
  intro F R dn ln hF hln hsm hdn hR
  obtain ⟨bp, bc, nw, rfl, ho⟩ := hR
  subst hrec
  haveI hsF : SubH h F := ⟨hF⟩
  have hgl := goodL_le b dn
  refine CallV.yield (rw := true) (q1 := q11) (st := .ready) (List.mem_append_right _ (List.mem_append_left _ (List.mem_cons_of_mem _ (List.mem_cons_of_mem _ (List.mem_cons_of_mem _ List.mem_cons_self))))) rfl (by simp; rfl) ?_
  intro cf2 cs2 K2 hK2
  · refine rr2 (by kernel_rfl) ?_; refine k_new rfl zq (fun q4 => k_hp (k_put ?_)); refine k_stA rfl zq (by first | rfl | exact hts_length _) ?_; refine k_nil ?_; apply run_beginRound (F := F ++ [⟨true, q1, .cells (bkL b pm nm cm pr nr cr).toArray 109 (0, 0)⟩, ⟨true, q3, .cells [.slice bp (goodL b dn).length bc].toArray 120 (0, 0)⟩, ⟨true, q11, .deferred (some [])⟩]) (E := nw ++ [⟨true, q4, .cells (hts ln).toArray 112 (0, 0)⟩])
    case hh =>
      simp only [List.append_assoc, List.cons_append, List.nil_append]
      rfl
    generalize hbz : lrec _ _ _ _ _ _ LoopState.busy = rec1
    refine run_block ?_; refine rs8 (by kernel_rfl) ?_; refine k_ldA rfl zq ?_; refine k_ldA rfl zq ?_; refine k_calP (Post := fun v => IsB _ v) rfl zq (by kernel_rfl) (fun H' hH => f101_c m H' (nm := nm) hln (by omega) hsm hv) ?_; rintro v (⟨hc, rfl⟩ | ⟨hc, rfl⟩)
    · refine k_put ?_; have hA := hc
      refine mq rfl ?_; refine k_ldA rfl rfl ?_; refine k_ldA rfl rfl ?_; refine k_calP (Post := fun v => IsB _ v) rfl rfl (by kernel_rfl) (fun H' hH => f151_c m H' (nm := nm) hln (by omega) hsm hml (rdr.keeps (hF.trans (sq hH))) hr hv) ?_; rintro v (⟨hc, rfl⟩ | ⟨hc, rfl⟩)
      · refine k_put ?_; refine k_pickT rfl zq ?_; refine k_nil ?_; refine run_yes ?_; refine rr5 (by kernel_rfl) ?_; refine k_ldh rfl zq ?_; refine k_ldA rfl zq ?_; refine k_bs kdq rfl zq (by decide) (by decide) rfl (fun q18 => k_hp (k_put ?_)); refine k_appW (F := F ++ [⟨true, q1, .cells (bkL b pm nm cm pr nr cr).toArray 109 (0, 0)⟩, ⟨true, q3, .cells [.slice bp (goodL b dn).length bc].toArray 120 (0, 0)⟩, ⟨true, q11, .deferred (some [])⟩, ⟨true, q12, rec1⟩]) rfl zq (by simp [hts_length]) ho (weak_pre (X := [⟨true, q4, .cells (hts ln).toArray 112 (0, 0)⟩, ⟨true, q18, .cells (hts ln).toArray 112 (0, 0)⟩]) (by simp)) (.inl rfl) (by omega) (by omega) (fun w19 nw2 ho2 => k_put ?_); obtain ⟨bp2, bc2, rfl, _⟩ := ho2.len
        have hyes := goodL_yes (b := b) (dn := dn) (l := ln) ⟨hA, hc⟩
        have e1 : (goodL b dn).length + 1 = (goodL b (dn ++ [ln])).length := by rw [hyes]; simp
        have e2 : encs (goodL b dn) ++ hts ln = encs (goodL b (dn ++ [ln])) := by rw [hyes, encs_append, encs_one1]
        rw [e2, e1] at ho2
        rw [e1]; refine k_st1 rfl zq ?_; refine k_nil ?_; refine run_inBlock ?_; subst hbz
        apply run_endRound (F := F ++ [⟨true, q1, .cells (bkL b pm nm cm pr nr cr).toArray 109 (0, 0)⟩, ⟨true, q3, .cells [.slice bp2 (goodL b (dn ++ [ln])).length bc2].toArray 120 (0, 0)⟩, ⟨true, q11, .deferred (some [])⟩]) (E := nw2)
        case hh =>
          simp only [List.append_assoc, List.cons_append, List.nil_append]
          rfl
        rw [show F ++ [⟨true, q1, .cells (bkL b pm nm cm pr nr cr).toArray 109 (0, 0)⟩, ⟨true, q3, .cells [.slice bp2 (goodL b (dn ++ [ln])).length bc2].toArray 120 (0, 0)⟩, ⟨true, q11, .deferred (some [])⟩] ++ (_ :: nw2) = F ++ ([⟨true, q1, .cells (bkL b pm nm cm pr nr cr).toArray 109 (0, 0)⟩, ⟨true, q3, .cells [.slice bp2 (goodL b (dn ++ [ln])).length bc2].toArray 120 (0, 0)⟩, ⟨true, q11, .deferred (some [])⟩, _] ++ nw2) by simp; rfl]; exact hK2 _ _ ⟨rfl, _, rfl, _, _, nw2, rfl, ho2⟩
      · refine k_put ?_; refine k_pickT rfl zq ?_; refine k_nil ?_; refine run_no ?_; refine run_skip ?_; refine run_inBlock ?_; subst hbz
        have hno := goodL_no (b := b) (dn := dn) (l := ln) (by intro e; first | exact hc e.1 | exact hc e.2)
        apply run_endRound (F := F ++ [⟨true, q1, .cells (bkL b pm nm cm pr nr cr).toArray 109 (0, 0)⟩, ⟨true, q3, .cells [.slice bp (goodL b dn).length bc].toArray 120 (0, 0)⟩, ⟨true, q11, .deferred (some [])⟩]) (E := nw ++ [⟨true, q4, .cells (hts ln).toArray 112 (0, 0)⟩])
        case hh =>
          simp only [List.append_assoc, List.cons_append, List.nil_append]
          rfl
        refine m.weak (h' := F ++ ([⟨true, q1, .cells (bkL b pm nm cm pr nr cr).toArray 109 (0, 0)⟩, ⟨true, q3, .cells [.slice bp (goodL b dn).length bc].toArray 120 (0, 0)⟩, ⟨true, q11, .deferred (some [])⟩, _] ++ nw)) (weak_pre (X := [⟨true, q4, .cells (hts ln).toArray 112 (0, 0)⟩]) (by simp; rfl)) ?_
        exact hK2 _ _ ⟨rfl, _, rfl, bp, bc, nw, by rw [hno], by rw [hno]; exact ho⟩
    · refine k_put ?_; refine mq rfl ?_; refine k_off rfl rfl ?_; refine k_off rfl rfl ?_; refine k_off rfl rfl ?_; refine k_pickF rfl zq ?_; refine k_nil ?_; refine run_no ?_; refine run_skip ?_; refine run_inBlock ?_; subst hbz
      have hno := goodL_no (b := b) (dn := dn) (l := ln) (by intro e; first | exact hc e.1 | exact hc e.2)
      apply run_endRound (F := F ++ [⟨true, q1, .cells (bkL b pm nm cm pr nr cr).toArray 109 (0, 0)⟩, ⟨true, q3, .cells [.slice bp (goodL b dn).length bc].toArray 120 (0, 0)⟩, ⟨true, q11, .deferred (some [])⟩]) (E := nw ++ [⟨true, q4, .cells (hts ln).toArray 112 (0, 0)⟩])
      case hh =>
        simp only [List.append_assoc, List.cons_append, List.nil_append]
        rfl
      refine m.weak (h' := F ++ ([⟨true, q1, .cells (bkL b pm nm cm pr nr cr).toArray 109 (0, 0)⟩, ⟨true, q3, .cells [.slice bp (goodL b dn).length bc].toArray 120 (0, 0)⟩, ⟨true, q11, .deferred (some [])⟩, _] ++ nw)) (weak_pre (X := [⟨true, q4, .cells (hts ln).toArray 112 (0, 0)⟩]) (by simp; rfl)) ?_
      exact hK2 _ _ ⟨rfl, _, rfl, bp, bc, nw, by rw [hno], by rw [hno]; exact ho⟩
  · have hl := f150_c m (pr := pr) (nr := nr) (cr := cr) rdm hv hY (R := [⟨true, q1, .cells (bkL b pm nm cm pr nr cr).toArray 109 (0, 0)⟩, ⟨true, q3, .cells [.slice none 0 0].toArray 120 (0, 0)⟩, ⟨true, q11, .deferred (some [])⟩, ⟨true, q12, rec0⟩]) ⟨none, 0, [], by simp; rfl, OwnS.nil⟩
    rw [show h ++ [⟨true, q1, .cells (bkL b pm nm cm pr nr cr).toArray 109 (0, 0)⟩, ⟨true, q3, .cells [.slice none 0 0].toArray 120 (0, 0)⟩, ⟨true, q11, .deferred (some [])⟩, ⟨true, q12, rec0⟩] = h ++ [⟨true, q1, .cells (bkL b pm nm cm pr nr cr).toArray 109 (0, 0)⟩, ⟨true, q3, .cells [.slice none 0 0].toArray 120 (0, 0)⟩] ++ [⟨true, q11, .deferred (some [])⟩, ⟨true, q12, rec0⟩] by simp] at hl
    refine CallF.mono hl ?_
    rintro v h' ⟨rfl, R', rfl, bp, bc, nw, rfl, ho⟩; subst hrec
    rw [good_boats] at ho ⊢
    apply run_endRange (F := h ++ [⟨true, q1, .cells (bkL b pm nm cm pr nr cr).toArray 109 (0, 0)⟩, ⟨true, q3, .cells [.slice bp (boatsOf b).length bc].toArray 120 (0, 0)⟩, ⟨true, q11, .deferred (some [])⟩]) (E := nw)
    case hh =>
      simp only [List.append_assoc, List.cons_append, List.nil_append]
      rfl
    case hst => exact .inl rfl
    refine run_inBlock ?_; refine rs2 (by kernel_rfl) ?_; refine k_ldh rfl zq ?_; refine aq rfl ?_; refine run_ret rfl ?_; refine run_collected (F := h ++ [⟨true, q1, .cells (bkL b pm nm cm pr nr cr).toArray 109 (0, 0)⟩, ⟨true, q3, .cells [.slice bp (boatsOf b).length bc].toArray 120 (0, 0)⟩]) (E := nw) (by simp) ?_; refine run_res (h ++ nw) rfl Tryz.func104 rfl weakSub ?_; refine hK _ _ ?_
    exact ⟨nw, rfl, ho⟩
end Go.Proofs
