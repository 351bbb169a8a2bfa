/- A part of the proof of a law: my own separation logic over the machine, and walks of the program. Condition of each theorem: as its statement says. -/
import Derived.Test.YtlbkicemccikgaaGreatDoorWLNews9
import Derived.SevenTiedAt
import Derived.LaidOnce
import Derived.Test.YtlbkicemccikgaaGreatDoorCards
import Derived.Test.YtlbkicemccikgaaGreatDoorTie
set_option linter.all false
namespace Go.Proofs
open Go.Lo
open Go.Conc (G)
set_option maxRecDepth 100000
set_option synthInstance.maxSize 100000
set_option synthInstance.maxHeartbeats 1000000
set_option maxHeartbeats 1000000
variable {B : Array Obj}
variable [Laid B]
def BkW (B : Array Obj) (b : Bk) (h : Hp) (w : Value) : Prop := ∃ pm nm cm pr nr cr, w = bkV b pm nm cm pr nr cr ∧ RdS B h 2 (.slice pm nm cm) nm (encs b.marks) ∧ RdS B h 4 (.slice pr nr cr) nr (encs b.rules)
theorem BkW.zero {B : Array Obj} {h : Hp} : BkW B noBk h (.agg [.int .i64 0, .int .i64 0, .int .i64 0, .slice none 0 0, .slice none 0 0].toArray) :=
  ⟨none, 0, 0, none, 0, 0, rfl, ⟨none, 0, rfl, rfl, .inl ⟨rfl, rfl⟩⟩, ⟨none, 0, rfl, rfl, .inl ⟨rfl, rfl⟩⟩⟩
abbrev zeroV : Value := .agg [.int .i64 0, .int .i64 0, .int .i64 0, .slice none 0 0, .slice none 0 0].toArray
theorem ite_bk {p : Prop} [Decidable p] {b : Bk} {pm : Option Addr} {nm cm : Nat} {pr : Option Addr} {nr cr : Nat} {w : Value} (h : w = if p then bkV b pm nm cm pr nr cr else zeroV) : ∃ b' pm' nm' cm' pr' nr' cr', w = bkV b' pm' nm' cm' pr' nr' cr' := by
  subst h
  split
  · exact ⟨_, _, _, _, _, _, _, rfl⟩
  · exact ⟨noBk, none, 0, 0, none, 0, 0, rfl⟩
theorem agree_w {B : Array Obj} {b : Bk} {h : Hp} {v w : Value} (hw : w = if agreeS b = 0 then v else zeroV) (hv : BkW B b h v) : BkW B (agreeB b) h w := by
  subst hw
  unfold agreeB
  by_cases e : agreeS b = 0
  · rw [if_pos e, if_pos (show openS b 0 = 0 from e)]; exact hv
  · rw [if_neg e, if_neg (show ¬ openS b 0 = 0 from e)]; exact BkW.zero
theorem f141_c (m : Md Tryz.prog B) (h : Hp) {b : Bk} {pm : Option Addr} {nm cm : Nat} {pr : Option Addr} {nr cr : Nat} (rdm : RdS B h 2 (.slice pm nm cm) nm (encs b.marks)) (hm : nm ≤ 1000) (rdr : RdS B h 4 (.slice pr nr cr) nr (encs b.rules)) (hr : nr ≤ 1000) (hb0 : bookS b = 0) : FnC m 141 #[bkV b pm nm cm pr nr cr] h fun v h' => h' = h ∧ ∃ w, v = .tuple [w, .int .i64 (agreeS b)].toArray ∧ w = if agreeS b = 0 then bkV b pm nm cm pr nr cr else zeroV := by
  have hml := rdm.elen (by decide)
  have hrl := rdr.elen (by decide)
  refine fn_enter Tryz.func141 rfl rfl (l := (bkV b pm nm cm pr nr cr) :: uu9) rfl ?_
  intro cf cs K hK
  refine rs3 (by kernel_rfl) ?_; refine k_box rfl zq (fun q1 => k_hp (k_put ?_)); refine k_new rfl zq (fun q2 => k_hp (k_put ?_)); refine aq rfl ?_; refine run_seq ?_; refine rs4 (by kernel_rfl) ?_; refine k_ldA rfl zq ?_; refine k_calC rfl zq (by kernel_rfl) (Post := fun v new => ∃ vs, RdS B new 1 v (boatsOf b).length vs ∧ RdE B new vs (boatsOf b)) (fun H' hH => f55_c _ H' (b := b) (rdm.keeps (sq hH)) hm (rdr.keeps (sq hH)) hr (valid_of hb0)) ?_; rintro v n55 ⟨vs, ⟨pv, cv, rfl, hvl, hvr⟩, rde⟩; refine k_hpA (k_put ?_); refine k_len rfl zq ?_; refine k_eqlS rfl zq (fun hc => ?_) (fun hc => ?_)
  · refine k_nil ?_; refine run_yes ?_; refine rs3 (by kernel_rfl) ?_; refine k_bld rfl zq ?_; refine k_stA rfl zq rfl ?_; refine aq rfl ?_; refine run_ret rfl ?_; refine run_res (h) rfl Tryz.func141 rfl weakSub ?_; refine hK _ _ ?_
    have he : boatsOf b = [] := List.length_eq_zero_iff.1 (by omega)
    have ha : agreeS b = 9 := by rw [agreeS, openS, if_neg (fun e => e hb0), if_neg (by omega), if_pos he]
    exact ⟨rfl, _, by rw [ha], by rw [ha, if_neg (by decide)]⟩
  · refine k_nil ?_; refine run_no ?_; refine run_skip ?_; refine rs3 (by kernel_rfl) ?_; refine k_ldA rfl zq ?_; refine k_stA rfl zq rfl ?_; refine aq rfl ?_; refine run_ret rfl ?_; refine run_res (h) rfl Tryz.func141 rfl weakSub ?_; refine hK _ _ ?_
    have he : boatsOf b ≠ [] := fun e => by rw [e] at hc; exact hc rfl
    have ha : agreeS b = 0 := by rw [agreeS, openS, if_neg (fun e => e hb0), if_neg (by omega), if_neg he]
    exact ⟨rfl, _, by rw [ha], by rw [ha, if_pos rfl]⟩
theorem f80_c (m : Md Tryz.prog B) (h : Hp) {b : Bk} {pm : Option Addr} {nm cm : Nat} {pr : Option Addr} {nr cr : Nat} (rdm : RdS B h 2 (.slice pm nm cm) nm (encs b.marks)) (hm : nm ≤ 1000) (rdr : RdS B h 4 (.slice pr nr cr) nr (encs b.rules)) (hr : nr ≤ 1000) (st : Int) (x : Sp) : FnC m 80 #[bkV b pm nm cm pr nr cr, .int .i64 st, spV x] h fun v h' => ∃ nw, h' = h ++ nw ∧ ∃ w, v = .tuple [w, .int .i64 (measS b st x)].toArray ∧ ∀ S, RdS B S 2 (.slice pm nm cm) nm (encs b.marks) → RdS B S 4 (.slice pr nr cr) nr (encs b.rules) → BkW B (measB b st x) (S ++ nw) w := by
  have hml := rdm.elen (by decide)
  have hrl := rdr.elen (by decide)
  refine fn_enter Tryz.func80 rfl rfl (l := (bkV b pm nm cm pr nr cr) :: (.int .i64 st) :: (spV x) :: uu42) rfl ?_
  intro cf cs K hK
  refine rs4 (by kernel_rfl) ?_; refine k_box rfl zq (fun q3 => k_hp (k_put ?_)); refine k_box rfl zq (fun q5 => k_hp (k_put ?_)); refine k_new rfl zq (fun q6 => k_hp (k_put ?_)); refine aq rfl ?_; refine run_seq ?_; refine rs3 (by kernel_rfl) ?_; refine k_ldA rfl zq ?_; refine k_calP (Post := fun v => v = _) rfl zq (by kernel_rfl) (fun H' hH => f22_c m H' (rdm.keeps (sq hH)) hm (rdr.keeps (sq hH)) hr) ?_; rintro v rfl; refine k_put ?_; refine aq rfl ?_; refine rs2 (by kernel_rfl) ?_; refine mq rfl ?_; refine k_neqS rfl zq (fun hc => ?_) (fun hc => ?_)
  · refine k_nil ?_; refine run_yes ?_; refine rs4 (by kernel_rfl) ?_; have hS : measS0 b st x = bookS b := by rw [measS0, if_pos hc]
    refine k_bld rfl zq ?_; refine mq rfl ?_; refine k_stA rfl zq rfl ?_; refine aq rfl ?_; refine run_ret rfl ?_; refine run_res (h) rfl Tryz.func80 rfl weakSub ?_; refine hK _ _ ?_
    exact ⟨[], by simp, _, by rw [measS, if_pos (by rw [hS]; first | decide | assumption), hS], fun S _ _ => by rw [measB, if_pos (by rw [hS]; first | decide | assumption)]; exact BkW.zero⟩
  · refine k_nil ?_; refine run_no ?_; refine run_skip ?_; refine run_seq ?_; refine run_seq ?_; have hz : bookS b = 0 := by assumption
    have hv := valid_of hz
    have hvm := hv.many
    have hS0 : measS0 b st x = measS0 b st x := rfl
    conv at hS0 => rhs; rw [measS0, if_neg (fun e => e hz)]
    refine rr4 (by kernel_rfl) ?_; refine k_ldA rfl zq ?_; refine mq rfl ?_; refine k_calP (Post := fun v => IsB _ v) rfl zq (by kernel_rfl) (fun H' hH => f114_c m H' _ _ _ _ _ _ _ _ _ _ hm) ?_; rintro v (⟨hc, rfl⟩ | ⟨hc, rfl⟩)
    · refine k_put ?_; refine k_notT rfl zq ?_; refine k_nil ?_; refine run_no ?_; refine run_skip ?_; refine run_seq ?_; refine rs3 (by kernel_rfl) ?_; refine k_ldA rfl zq ?_; refine k_calP (Post := fun v => IsB _ v) rfl zq (by kernel_rfl) (fun H' hH => f132_c m H' _ _ _ _) ?_; rintro v (⟨hc, rfl⟩ | ⟨hc, rfl⟩)
      · refine k_put ?_; refine k_notT rfl zq ?_; refine k_nil ?_; refine run_no ?_; refine run_skip ?_; refine run_seq ?_; obtain ⟨i, rfl⟩ := Int.eq_ofNat_of_zero_le (show 0 ≤ st by omega)
        obtain ⟨mb, mo, rfl⟩ := rdm.ptr (by omega)
        refine run_draw [(0, .pure), (2, .pure), (1, .read), (3, .pure), (4, .read), (5, .read), (6, .call), (7, .alloc), (8, .free)] (by kernel_rfl) (by kernel_rfl) (List.Sublist.refl _) ?_; first | refine k_fa0 rfl zq ?_ | refine k_fa rfl zq ?_
        refine mq rfl ?_; refine k_ldh rfl zq ?_; refine k_ixs rfl zq (by first | rfl | assumption) (by omega) (by omega) ?_; refine k_ldN (vs := spL (b.marks.getD i default)) rfl zq rfl (rdm.eat i rfl (by omega)) ?_; refine k_ldA rfl zq ?_; refine k_calP (Post := fun v => v = spV (meetSp (b.marks.getD i default) x)) rfl zq (by kernel_rfl) (fun H' hH => f86_c _ H' _ _ _ _) ?_; rintro v rfl; refine k_put ?_; refine k_new rfl zq (fun q9 => k_hp (k_put ?_)); refine k_stA rfl zq rfl ?_; refine k_nil ?_; refine run_seq ?_; refine rs5 (by kernel_rfl) ?_; first | refine k_fa0 rfl zq ?_ | refine k_fa rfl zq ?_
        refine k_ldh rfl zq ?_; first | refine k_fa0 rfl zq ?_ | refine k_fa rfl zq ?_
        refine k_ldh rfl zq ?_; refine k_gtrS rfl zq (fun hc => ?_) (fun hc => ?_)
        · refine k_nil ?_; refine run_yes ?_; refine rs3 (by kernel_rfl) ?_; have hS : measS0 b (i : Int) x = 9 := by rw [hS0, if_neg (fun e => e (by omega)), if_neg (fun e => e (by omega)), if_pos (by rw [Int.toNat_natCast]; show ¬ (meetSp (b.marks.getD i default) x).lo ≤ (meetSp (b.marks.getD i default) x).hi; omega)]
          refine k_bld rfl zq ?_; refine k_stA rfl zq rfl ?_; refine aq rfl ?_; refine run_ret rfl ?_; refine run_res (h) rfl Tryz.func80 rfl weakSub ?_; refine hK _ _ ?_
          exact ⟨[], by simp, _, by rw [measS, if_pos (by rw [hS]; first | decide | assumption), hS], fun S _ _ => by rw [measB, if_pos (by rw [hS]; first | decide | assumption)]; exact BkW.zero⟩
        · refine k_nil ?_; refine run_no ?_; refine run_skip ?_; refine run_seq ?_; have hle : (meetSp (b.marks.getD i default) x).lo ≤ (meetSp (b.marks.getD i default) x).hi := by omega
          have hS : measS0 b (i : Int) x = 0 := by rw [hS0, if_neg (fun e => e (by omega)), if_neg (fun e => e (by omega)), if_neg (by rw [Int.toNat_natCast]; exact fun e => e hle)]
          have hok := hv.marks _ (mem_getDR.2 ⟨i, by omega, rfl⟩)
          obtain ⟨hb0, _⟩ := setX_facts hz (show i < b.marks.length by omega) (x := (meetSp (b.marks.getD i default) x)) (by unfold okM meetSp at *; simp only at *; omega)
          refine rr9 (by kernel_rfl) ?_; refine k_ldA rfl zq ?_; refine mq rfl ?_; refine k_ldA rfl zq ?_; refine k_calC rfl zq (by kernel_rfl) (Post := fun v new => ∃ pm2 cm2, v = bkV (setB b i (meetSp (b.marks.getD i default) x)) pm2 nm cm2 pr nr cr ∧ nm ≤ cm2 ∧ RdS B new 2 (.slice pm2 nm cm2) nm (encs (setB b i (meetSp (b.marks.getD i default) x)).marks)) (fun H' hH => f85_c _ H' (rdm.keeps (sq hH)) hm (by omega) (meetSp (b.marks.getD i default) x)) ?_; rintro v n85 ⟨pm2, cm2, rfl, hcm2, rm85⟩; refine k_hpA (k_put ?_); refine k_calP (Post := fun v => ∃ w, v = .tuple [w, .int .i64 (agreeS (setB b i (meetSp (b.marks.getD i default) x)))].toArray ∧ w = if agreeS (setB b i (meetSp (b.marks.getD i default) x)) = 0 then (bkV (setB b i (meetSp (b.marks.getD i default) x)) pm2 nm cm2 pr nr cr) else zeroV) rfl zq (by kernel_rfl) (fun H' hH => f141_c m H' (b := (setB b i (meetSp (b.marks.getD i default) x))) (rm85.keeps (sq hH)) hm (rdr.keeps (sq hH)) hr hb0) ?_; rintro v ⟨w141, rfl, hw141⟩; obtain ⟨b1, pm1, nm1, cm1, pr1, nr1, cr1, rfl⟩ := ite_bk hw141
          refine k_put ?_; refine k_ext0 rfl zq ?_; refine k_ext1 rfl zq ?_; refine k_stA rfl zq rfl ?_; refine aq rfl ?_; refine run_ret rfl ?_; refine run_res (h ++ n85) rfl Tryz.func80 rfl weakSub ?_; refine hK _ _ ?_
          have eB0 : measB0 b (i : Int) x = (setB b i (meetSp (b.marks.getD i default) x)) := by rw [measB0, Int.toNat_natCast]
          exact ⟨n85, rfl, _, by rw [measS, if_neg (fun e => e hS), eB0], fun S s1 s2 => by rw [measB, if_neg (fun e => e hS), eB0]; exact agree_w hw141 ⟨_, _, _, _, _, _, rfl, rm85.keeps (List.sublist_append_right _ _), s2.keeps (List.sublist_append_left _ _)⟩⟩
      · refine k_put ?_; refine k_notF rfl zq ?_; refine k_nil ?_; refine run_yes ?_; refine rs3 (by kernel_rfl) ?_; have hS : measS0 b st x = 1 := by rw [hS0, if_neg (fun e => e (by omega)), if_pos (by omega)]
        refine k_bld rfl zq ?_; refine k_stA rfl zq rfl ?_; refine aq rfl ?_; refine run_ret rfl ?_; refine run_res (h) rfl Tryz.func80 rfl weakSub ?_; refine hK _ _ ?_
        exact ⟨[], by simp, _, by rw [measS, if_pos (by rw [hS]; first | decide | assumption), hS], fun S _ _ => by rw [measB, if_pos (by rw [hS]; first | decide | assumption)]; exact BkW.zero⟩
    · refine k_put ?_; refine k_notF rfl zq ?_; refine k_nil ?_; refine run_yes ?_; refine rs3 (by kernel_rfl) ?_; have hS : measS0 b st x = 6 := by rw [hS0, if_pos (by omega)]
      refine k_bld rfl zq ?_; refine k_stA rfl zq rfl ?_; refine aq rfl ?_; refine run_ret rfl ?_; refine run_res (h) rfl Tryz.func80 rfl weakSub ?_; refine hK _ _ ?_
      exact ⟨[], by simp, _, by rw [measS, if_pos (by rw [hS]; first | decide | assumption), hS], fun S _ _ => by rw [measB, if_pos (by rw [hS]; first | decide | assumption)]; exact BkW.zero⟩
theorem f82_c (m : Md Tryz.prog B) (h : Hp) {b : Bk} {pm : Option Addr} {nm cm : Nat} {pr : Option Addr} {nr cr : Nat} (rdm : RdS B h 2 (.slice pm nm cm) nm (encs b.marks)) (hm : nm ≤ 1000) (rdr : RdS B h 4 (.slice pr nr cr) nr (encs b.rules)) (hr : nr ≤ 1000) (r : Ru) : FnC m 82 #[bkV b pm nm cm pr nr cr, ruV r] h fun v h' => ∃ nw, h' = h ++ nw ∧ ∃ w, v = .tuple [w, .int .i64 (noteS b r)].toArray ∧ ∀ S, RdS B S 2 (.slice pm nm cm) nm (encs b.marks) → RdS B S 4 (.slice pr nr cr) nr (encs b.rules) → BkW B (noteB b r) (S ++ nw) w := by
  have hml := rdm.elen (by decide)
  have hrl := rdr.elen (by decide)
  refine fn_enter Tryz.func82 rfl rfl (l := (bkV b pm nm cm pr nr cr) :: (ruV r) :: uu26) rfl ?_
  intro cf cs K hK
  refine rs4 (by kernel_rfl) ?_; refine k_box rfl zq (fun q2 => k_hp (k_put ?_)); refine k_box rfl zq (fun q3 => k_hp (k_put ?_)); refine k_new rfl zq (fun q4 => k_hp (k_put ?_)); refine aq rfl ?_; refine run_seq ?_; refine rs3 (by kernel_rfl) ?_; refine k_ldA rfl zq ?_; refine k_calP (Post := fun v => v = .int .i64 (bookS b)) rfl zq (by kernel_rfl) (fun H' hH => f22_c m H' (rdm.keeps (sq hH)) hm (rdr.keeps (sq hH)) hr) ?_; rintro v rfl; refine k_put ?_; refine aq rfl ?_; refine rs2 (by kernel_rfl) ?_; refine mq rfl ?_; refine k_neqS rfl zq (fun hc => ?_) (fun hc => ?_)
  · refine k_nil ?_; refine run_yes ?_; refine rs4 (by kernel_rfl) ?_; refine k_bld rfl zq ?_; refine mq rfl ?_; refine k_stA rfl zq rfl ?_; refine aq rfl ?_; refine run_ret rfl ?_; refine run_res (h) rfl Tryz.func82 rfl weakSub ?_; refine hK _ _ ?_
    exact ⟨[], by simp, _, by rw [noteS, if_pos hc], fun S _ _ => by rw [noteB, if_pos hc]; exact BkW.zero⟩
  · refine k_nil ?_; refine run_no ?_; refine run_skip ?_; refine rs5 (by kernel_rfl) ?_; have hz : bookS b = 0 := by assumption
    have hv := valid_of hz
    have hfew := hv.few
    refine k_ldA rfl zq ?_; refine k_ldA rfl zq ?_; refine k_calC rfl zq (by kernel_rfl) (Post := fun v new => ∃ rp rc, v = bkV (moreB b r) pm nm cm rp (nr + 1) rc ∧ RdS B new 4 (.slice rp (nr + 1) rc) (nr + 1) (encs (moreB b r).rules)) (fun H' hH => f87_c _ H' (b := b) (rdr.keeps (sq hH)) hr r) ?_; rintro v n87 ⟨rp87, rc87, rfl, rr87⟩; refine k_hpA (k_put ?_); refine k_new rfl zq (fun q7 => k_hp (k_put ?_)); refine k_stA rfl zq rfl ?_; refine k_nil ?_; refine run_seq ?_; refine rs3 (by kernel_rfl) ?_; refine k_ldA rfl zq ?_; refine k_calP (Post := fun v => v = .int .i64 (bookS (moreB b r))) rfl zq (by kernel_rfl) (fun H' hH => f22_c m H' (b := moreB b r) (rdm.keeps (sq hH)) hm (rr87.keeps (sq hH)) (by omega)) ?_; rintro v rfl; refine k_put ?_; refine aq rfl ?_; refine rs2 (by kernel_rfl) ?_; refine mq rfl ?_; refine k_neqS rfl zq (fun hc => ?_) (fun hc => ?_)
    · refine k_nil ?_; refine run_yes ?_; refine rs4 (by kernel_rfl) ?_; refine k_bld rfl zq ?_; refine mq rfl ?_; refine k_stA rfl zq rfl ?_; refine aq rfl ?_; refine run_ret rfl ?_; refine run_res (h) rfl Tryz.func82 rfl weakSub ?_; refine hK _ _ ?_
      have ha : agreeS (moreB b r) = bookS (moreB b r) := by rw [agreeS, openS, if_pos (by assumption)]
      exact ⟨[], by simp, _, by rw [noteS, if_neg (fun e => e hz), ha], fun S _ _ => by rw [noteB, if_neg (fun e => e hz), agreeB, if_neg (by rw [show openS (moreB b r) 0 = bookS (moreB b r) from ha]; assumption)]; exact BkW.zero⟩
    · refine k_nil ?_; refine run_no ?_; refine run_skip ?_; refine rs6 (by kernel_rfl) ?_; have hb0 : bookS (moreB b r) = 0 := by assumption
      refine k_ldA rfl zq ?_; refine k_calP (Post := fun v => ∃ w, v = .tuple [w, .int .i64 (agreeS (moreB b r))].toArray ∧ w = if agreeS (moreB b r) = 0 then (bkV (moreB b r) pm nm cm rp87 (nr + 1) rc87) else zeroV) rfl zq (by kernel_rfl) (fun H' hH => f141_c m H' (b := (moreB b r)) (rdm.keeps (sq hH)) hm (rr87.keeps (sq hH)) (by omega) hb0) ?_; rintro v ⟨w141, rfl, hw141⟩; obtain ⟨b1, pm1, nm1, cm1, pr1, nr1, cr1, rfl⟩ := ite_bk hw141
      refine k_put ?_; refine k_ext0 rfl zq ?_; refine k_ext1 rfl zq ?_; refine k_stA rfl zq rfl ?_; refine aq rfl ?_; refine run_ret rfl ?_; refine run_res (h ++ n87) rfl Tryz.func82 rfl weakSub ?_; refine hK _ _ ?_
      exact ⟨n87, rfl, _, by rw [noteS, if_neg (fun e => e hz)], fun S s1 s2 => by rw [noteB, if_neg (fun e => e hz)]; exact agree_w hw141 ⟨_, _, _, _, _, _, rfl, s1.keeps (List.sublist_append_left _ _), rr87.keeps (List.sublist_append_right _ _)⟩⟩
theorem f83_c (m : Md Tryz.prog B) (h : Hp) {b : Bk} {pm : Option Addr} {nm cm : Nat} {pr : Option Addr} {nr cr : Nat} (rdm : RdS B h 2 (.slice pm nm cm) nm (encs b.marks)) (hm : nm ≤ 1000) (rdr : RdS B h 4 (.slice pr nr cr) nr (encs b.rules)) (hr : nr ≤ 1000) {b2 : Bk} {pm2 : Option Addr} {nm2 cm2 : Nat} {pr2 : Option Addr} {nr2 cr2 : Nat} (rdm2 : RdS B h 2 (.slice pm2 nm2 cm2) nm2 (encs b2.marks)) (hm2 : nm2 ≤ 1000) (hcm2 : nm2 ≤ cm2) (rdr2 : RdS B h 4 (.slice pr2 nr2 cr2) nr2 (encs b2.rules)) (hr2 : nr2 ≤ 1000) (k : Int) (hk64 : In64 k) : FnC m 83 #[bkV b pm nm cm pr nr cr, bkV b2 pm2 nm2 cm2 pr2 nr2 cr2, .int .i64 k] h fun v h' => ∃ nw, h' = h ++ nw ∧ ∃ w, v = .tuple [w, .int .i64 (spliceS b b2 k)].toArray ∧ BkW B (spliceB b b2 k) nw w := by
  have hml := rdm.elen (by decide)
  have hrl := rdr.elen (by decide)
  have hml2 := rdm2.elen (by decide)
  have hrl2 := rdr2.elen (by decide)
  refine fn_enter Tryz.func83 rfl rfl (l := (bkV b pm nm cm pr nr cr) :: (bkV b2 pm2 nm2 cm2 pr2 nr2 cr2) :: (.int .i64 k) :: uu67) rfl ?_
  intro cf cs K hK
  refine rs4 (by kernel_rfl) ?_; refine k_box rfl zq (fun q3 => k_hp (k_put ?_)); refine k_box rfl zq (fun q4 => k_hp (k_put ?_)); refine k_new rfl zq (fun q6 => k_hp (k_put ?_)); refine aq rfl ?_; refine run_seq ?_; refine rs3 (by kernel_rfl) ?_; refine k_ldA rfl zq ?_; refine k_calP (Post := fun v => v = .int .i64 (bookS b)) rfl zq (by kernel_rfl) (fun H' hH => f22_c m H' (rdm.keeps (sq hH)) hm (rdr.keeps (sq hH)) hr) ?_; rintro v rfl; refine k_put ?_; refine aq rfl ?_; refine rs2 (by kernel_rfl) ?_; refine mq rfl ?_; refine k_neqS rfl zq (fun hc => ?_) (fun hc => ?_)
  · refine k_nil ?_; refine run_yes ?_; refine rs4 (by kernel_rfl) ?_; have hS : spS0 b b2 k = bookS b := by rw [spS0, if_pos hc]
    refine k_bld rfl zq ?_; refine mq rfl ?_; refine k_stA rfl zq rfl ?_; refine aq rfl ?_; refine run_ret rfl ?_; refine run_res (h) rfl Tryz.func83 rfl weakSub ?_; refine hK _ _ ?_
    exact ⟨[], by simp, _, by rw [spliceS, if_pos (by rw [hS]; first | decide | assumption), hS], by rw [spliceB, if_pos (by rw [hS]; first | decide | assumption)]; exact BkW.zero⟩
  · refine k_nil ?_; refine run_no ?_; refine run_skip ?_; refine run_seq ?_; refine run_seq ?_; have hz1 : bookS b = 0 := by assumption
    have hv := valid_of hz1
    have hvm := hv.many
    have hvf := hv.few
    refine rr3 (by kernel_rfl) ?_; refine k_ldA rfl zq ?_; refine k_calP (Post := fun v => v = .int .i64 (bookS b2)) rfl zq (by kernel_rfl) (fun H' hH => f22_c m H' (b := b2) (rdm2.keeps (sq hH)) hm2 (rdr2.keeps (sq hH)) hr2) ?_; rintro v rfl; refine k_put ?_; refine aq rfl ?_; refine rs2 (by kernel_rfl) ?_; refine mq rfl ?_; refine k_neqS rfl zq (fun hc => ?_) (fun hc => ?_)
    · refine k_nil ?_; refine run_yes ?_; refine rs4 (by kernel_rfl) ?_; have hS : spS0 b b2 k = bookS b2 := by rw [spS0, if_neg (fun e => e hz1), if_pos (by assumption)]
      refine k_bld rfl zq ?_; refine mq rfl ?_; refine k_stA rfl zq rfl ?_; refine aq rfl ?_; refine run_ret rfl ?_; refine run_res (h) rfl Tryz.func83 rfl weakSub ?_; refine hK _ _ ?_
      exact ⟨[], by simp, _, by rw [spliceS, if_pos (by rw [hS]; first | decide | assumption), hS], by rw [spliceB, if_pos (by rw [hS]; first | decide | assumption)]; exact BkW.zero⟩
    · refine k_nil ?_; refine run_no ?_; refine run_skip ?_; refine run_seq ?_; refine run_seq ?_; have hz2 : bookS b2 = 0 := by assumption
      have hv2 := valid_of hz2
      have hvm2 := hv2.many
      have hvf2 := hv2.few
      have hS0 : spS0 b b2 k = spS0 b b2 k := rfl
      conv at hS0 => rhs; rw [spS0, if_neg (fun e => e hz1), if_neg (fun e => e hz2)]
      refine rr10 (by kernel_rfl) ?_; refine mq rfl ?_; first | refine k_fa0 rfl zq ?_ | refine k_fa rfl zq ?_
      refine k_ldh rfl zq ?_; refine k_len rfl zq ?_; first | refine k_fa0 rfl zq ?_ | refine k_fa rfl zq ?_
      refine k_ldh rfl zq ?_; refine k_len rfl zq ?_; refine k_min rfl zq ?_; refine k_calP (Post := fun v => IsB _ v) rfl zq (by kernel_rfl) (fun H' hH => f72_c m H' _ _ _) ?_; rintro v (⟨hc, rfl⟩ | ⟨hc, rfl⟩)
      · refine k_put ?_; refine k_notT rfl zq ?_; refine k_nil ?_; refine run_no ?_; refine run_skip ?_; refine run_seq ?_; refine run_seq ?_; rw [if_neg (by omega)] at hS0
        refine run_region [(0, .free), (1, .free), (2, .free), (3, .free), (4, .free), (5, .free), (6, .free), (7, .free), (8, .free), (9, .free), (10, .free), (11, .free), (12, .free), (13, .free), (14, .free), (15, .free), (16, .free), (17, .free), (18, .free), (19, .free)] (by kernel_rfl) (by kernel_rfl) ?_; first | refine k_fa0 rfl zq ?_ | refine k_fa rfl zq ?_
        refine k_ldh rfl zq ?_; refine k_len rfl zq ?_; first | refine k_fa0 rfl zq ?_ | refine k_fa rfl zq ?_
        refine k_ldh rfl zq ?_; refine k_len rfl zq ?_; refine k_add rfl zq (by unfold In64; omega) ?_; refine mq rfl ?_; refine k_sub rfl zq (by unfold In64; omega) ?_; refine k_gtrS rfl zq (fun hc => ?_) (fun hc => ?_)
        · refine mq rfl ?_; refine k_off rfl rfl ?_; refine k_off rfl rfl ?_; refine k_off rfl rfl ?_; refine k_off rfl rfl ?_; refine k_off rfl rfl ?_; refine k_off rfl rfl ?_; refine k_off rfl rfl ?_; refine k_off rfl rfl ?_; refine k_pickT rfl zq ?_; refine k_nil ?_; refine run_yes ?_; refine rs3 (by kernel_rfl) ?_; have hS : spS0 b b2 k = 2 := by rw [hS0, if_pos (by omega)]
          refine k_bld rfl zq ?_; refine k_stA rfl zq rfl ?_; refine aq rfl ?_; refine run_ret rfl ?_; refine run_res (h) rfl Tryz.func83 rfl weakSub ?_; refine hK _ _ ?_
          exact ⟨[], by simp, _, by rw [spliceS, if_pos (by rw [hS]; first | decide | assumption), hS], by rw [spliceB, if_pos (by rw [hS]; first | decide | assumption)]; exact BkW.zero⟩
        · refine mq rfl ?_; first | refine k_fa0 rfl rfl ?_ | refine k_fa rfl rfl ?_
          refine k_ldh rfl rfl ?_; refine k_len rfl rfl ?_; first | refine k_fa0 rfl rfl ?_ | refine k_fa rfl rfl ?_
          refine k_ldh rfl rfl ?_; refine k_len rfl rfl ?_; refine k_add rfl rfl (by unfold In64; omega) ?_; refine k_gtrS rfl rfl (fun hc => ?_) (fun hc => ?_)
          · refine k_pickF rfl zq ?_; refine k_nil ?_; refine run_yes ?_; refine rs3 (by kernel_rfl) ?_; have hS : spS0 b b2 k = 2 := by rw [hS0, if_pos (by omega)]
            refine k_bld rfl zq ?_; refine k_stA rfl zq rfl ?_; refine aq rfl ?_; refine run_ret rfl ?_; refine run_res (h) rfl Tryz.func83 rfl weakSub ?_; refine hK _ _ ?_
            exact ⟨[], by simp, _, by rw [spliceS, if_pos (by rw [hS]; first | decide | assumption), hS], by rw [spliceB, if_pos (by rw [hS]; first | decide | assumption)]; exact BkW.zero⟩
          · refine k_pickF rfl zq ?_; refine k_nil ?_; refine run_no ?_; refine run_skip ?_; refine run_seq ?_; rw [if_neg (by omega)] at hS0
            obtain ⟨j, rfl⟩ := Int.eq_ofNat_of_zero_le (show 0 ≤ k by omega)
            by_cases hms : misses b b2 j
            · rw [if_pos hms] at hS0
              have hS : spS0 b b2 (j : Int) = 9 := hS0
              refine rr10 (by kernel_rfl) ?_; refine k_ldA rfl zq ?_; refine k_ldA rfl zq ?_; refine mq rfl ?_; refine k_calC rfl zq (by kernel_rfl) (Post := fun v new => ∃ w, v = .tuple [w, .bool false].toArray ∧ BkR B noBk new w) (fun H' hH => (f76_c _ H' (b := b) (b2 := b2) (rdm.keeps (sq hH)) hm (rdr.keeps (sq hH)) hr (rdm2.keeps (sq hH)) hm2 hcm2 (rdr2.keeps (sq hH)) hr2 (by omega) (by omega) (by omega) (fun r hr => by have := hv2.rules r hr; omega)).mono fun v h' ⟨new, e1, w, t, e2, e3⟩ => by rw [if_pos hms] at e3; obtain ⟨rfl, e4⟩ := e3; exact ⟨new, e1, w, e2, e4⟩) ?_; rintro v n76 ⟨w6, rfl, pm6, nm6, cm6, pr6, nr6, cr6, rfl, en6, er6, hcm6, hcr6, rm6, rr6⟩; refine k_hpA (k_put ?_); refine mq rfl ?_; refine k_ext0 rfl zq ?_; refine k_ext1 rfl zq ?_; refine k_new rfl zq (fun q10 => k_hp (k_put ?_)); refine k_stA rfl zq rfl ?_; refine aq rfl ?_; refine run_seq ?_; refine rs2 (by kernel_rfl) ?_; refine mq rfl ?_; refine k_notF rfl zq ?_; refine k_nil ?_; refine run_yes ?_; refine rs3 (by kernel_rfl) ?_; refine k_bld rfl zq ?_; refine k_stA rfl zq rfl ?_; refine aq rfl ?_; refine run_ret rfl ?_; refine run_res (h) rfl Tryz.func83 rfl weakSub ?_; refine hK _ _ ?_
              exact ⟨[], by simp, _, by rw [spliceS, if_pos (by rw [hS]; first | decide | assumption), hS], by rw [spliceB, if_pos (by rw [hS]; first | decide | assumption)]; exact BkW.zero⟩
            · rw [if_neg hms] at hS0
              have hS : spS0 b b2 (j : Int) = 0 := hS0
              obtain ⟨hb0, _⟩ := sp_facts hz1 hz2 (show 2 ≤ j by omega) (by omega) (by omega) hS
              have hvS := valid_of hb0
              have hmS := hvS.many
              have hfS := hvS.few
              refine rr10 (by kernel_rfl) ?_; refine k_ldA rfl zq ?_; refine k_ldA rfl zq ?_; refine mq rfl ?_; refine k_calC rfl zq (by kernel_rfl) (Post := fun v new => ∃ w, v = .tuple [w, .bool true].toArray ∧ BkR B (spB b b2 j) new w) (fun H' hH => (f76_c _ H' (b := b) (b2 := b2) (rdm.keeps (sq hH)) hm (rdr.keeps (sq hH)) hr (rdm2.keeps (sq hH)) hm2 hcm2 (rdr2.keeps (sq hH)) hr2 (by omega) (by omega) (by omega) (fun r hr => by have := hv2.rules r hr; omega)).mono fun v h' ⟨new, e1, w, t, e2, e3⟩ => by rw [if_neg hms] at e3; obtain ⟨rfl, e4⟩ := e3; exact ⟨new, e1, w, e2, e4⟩) ?_; rintro v n76 ⟨w6, rfl, pm6, nm6, cm6, pr6, nr6, cr6, rfl, en6, er6, hcm6, hcr6, rm6, rr6⟩; refine k_hpA (k_put ?_); refine mq rfl ?_; refine k_ext0 rfl zq ?_; refine k_ext1 rfl zq ?_; refine k_new rfl zq (fun q10 => k_hp (k_put ?_)); refine k_stA rfl zq rfl ?_; refine aq rfl ?_; refine run_seq ?_; refine rs2 (by kernel_rfl) ?_; refine mq rfl ?_; refine k_notT rfl zq ?_; refine k_nil ?_; refine run_no ?_; refine run_skip ?_; refine rs6 (by kernel_rfl) ?_; refine k_ldA rfl zq ?_; refine k_calP (Post := fun v => ∃ w, v = .tuple [w, .int .i64 (agreeS (spB b b2 j))].toArray ∧ w = if agreeS (spB b b2 j) = 0 then (bkV (spB b b2 j) pm6 nm6 cm6 pr6 nr6 cr6) else zeroV) rfl zq (by kernel_rfl) (fun H' hH => f141_c m H' (b := (spB b b2 j)) (rm6.keeps (sq hH)) (by omega) (rr6.keeps (sq hH)) (by omega) hb0) ?_; rintro v ⟨w141, rfl, hw141⟩; obtain ⟨b1, pm1, nm1, cm1, pr1, nr1, cr1, rfl⟩ := ite_bk hw141
              refine k_put ?_; refine k_ext0 rfl zq ?_; refine k_ext1 rfl zq ?_; refine k_stA rfl zq rfl ?_; refine aq rfl ?_; refine run_ret rfl ?_; refine run_res (h ++ n76) rfl Tryz.func83 rfl weakSub ?_; refine hK _ _ ?_
              exact ⟨n76, rfl, _, by rw [spliceS, if_neg (fun e => e hS)], by rw [spliceB, if_neg (fun e => e hS)]; exact agree_w hw141 ⟨_, _, _, _, _, _, rfl, rm6, rr6⟩⟩
      · refine k_put ?_; refine k_notF rfl zq ?_; refine k_nil ?_; refine run_yes ?_; refine rs3 (by kernel_rfl) ?_; have hS : spS0 b b2 k = 1 := by rw [hS0, if_pos (by omega)]
        refine k_bld rfl zq ?_; refine k_stA rfl zq rfl ?_; refine aq rfl ?_; refine run_ret rfl ?_; refine run_res (h) rfl Tryz.func83 rfl weakSub ?_; refine hK _ _ ?_
        exact ⟨[], by simp, _, by rw [spliceS, if_pos (by rw [hS]; first | decide | assumption), hS], by rw [spliceB, if_pos (by rw [hS]; first | decide | assumption)]; exact BkW.zero⟩
theorem f78_c (m : Md Tryz.prog B) (h : Hp) {b : Bk} {pm : Option Addr} {nm cm : Nat} {pr : Option Addr} {nr cr : Nat} (rdm : RdS B h 2 (.slice pm nm cm) nm (encs b.marks)) (hm : nm ≤ 1000) (rdr : RdS B h 4 (.slice pr nr cr) nr (encs b.rules)) (hr : nr ≤ 1000) : FnC m 78 #[bkV b pm nm cm pr nr cr] h fun v h' => h' = h ∧ v = .tuple [.int .i64 (askAt b), .int .i64 (askLeft b), .int .i64 (openS b 0)].toArray := by
  refine fn_enter Tryz.func78 rfl rfl (l := (bkV b pm nm cm pr nr cr) :: uu37) rfl ?_
  intro cf cs K hK
  refine rs4 (by kernel_rfl) ?_; refine k_box rfl zq (fun q1 => k_hp (k_put ?_)); refine k_as rfl zq ?_; refine k_as rfl zq ?_; refine aq rfl ?_; refine rs7 (by kernel_rfl) ?_; refine k_ldA rfl zq ?_; refine k_calC rfl zq (by kernel_rfl) (fun H' hH => f112_c m H' (rdm.keeps (sq hH)) hm (rdr.keeps (sq hH)) hr _) ?_; rintro v nw ⟨w, rfl, bp, bc, vs, rfl, rdv, rde⟩; refine k_hpA (k_put ?_); have hle := openL_le rde
  have hmem := openL_mem rde
  generalize hll : openL b _ = ll at rdv rde hle hmem ⊢
  have hml := rdm.elen (by decide)
  refine mq rfl ?_; refine k_ext0 rfl zq ?_; refine k_ext1 rfl zq ?_; refine k_as rfl zq ?_; refine aq rfl ?_; refine run_seq ?_; refine rs2 (by kernel_rfl) ?_; refine mq rfl ?_; refine k_neqS rfl zq (fun hc => ?_) (fun hc => ?_)
  · refine k_nil ?_; refine run_yes ?_; refine rs4 (by kernel_rfl) ?_; refine mq rfl ?_; refine k_as rfl zq ?_; refine k_as rfl zq ?_; refine aq rfl ?_; refine run_ret rfl ?_; refine run_res (h) rfl Tryz.func78 rfl weakSub ?_; refine hK _ _ ?_
    exact ⟨rfl, by rw [askAt, if_pos hc, askLeft, if_pos hc]⟩
  · refine k_nil ?_; refine run_no ?_; refine run_skip ?_; refine run_seq ?_; have ho : openS b 0 = 0 := by assumption
    have hlb : ll = boatsOf b := by subst hll; rw [openL, if_pos ho]
    subst hlb
    have hb0 := (openS_zero ho).1
    have hmany := (valid_of hb0).many
    refine rr4 (by kernel_rfl) ?_; refine mq rfl ?_; refine k_len rfl zq ?_; refine k_as rfl zq ?_; refine aq rfl ?_; refine run_seq ?_; refine rs1 (by kernel_rfl) ?_; refine aq rfl ?_; refine run_block ?_; refine run_loop (fun nn l h' => ∃ (j : Nat) (a c : Int), nn = nm - j ∧ (j ≤ nm) ∧ ((a, c) = askP (boatsOf b) j) ∧ (∃ U : Nat → Value, l = [bkV b pm nm cm pr nr cr, .pointer (some ⟨q1, 0, none⟩), U 2, U 3, U 4, .slice bp (boatsOf b).length bc, U 6, .int .i64 a, .int .i64 c, .int .i64 (j : Int), U 10, U 11, U 12, U 13, U 14, U 15, U 16, U 17, U 18, U 19, U 20, U 21, U 22, U 23, U 24, U 25, U 26, U 27, U 28, U 29, U 30, U 31, U 32, U 33, U 34, U 35, U 36, U 37]) ∧ h ++ [⟨true, q1, .cells (bkL b pm nm cm pr nr cr).toArray 25 (0, 0)⟩] ++ nw = h') _ ⟨0, -1, ((boatsOf b).length : Int), rfl, by omega, rfl, exU rfl, rfl⟩ ?_; rintro nn l h' ⟨j, a, c, rfl, hj, hac, ⟨U, rfl⟩, rfl⟩ hnext1; refine run_seq ?_; refine rs5 (by kernel_rfl) ?_; refine mq rfl ?_; first | refine k_fa0 rfl zq ?_ | refine k_fa rfl zq ?_
    refine k_ldh rfl zq ?_; refine k_len rfl zq ?_; refine k_lssS rfl zq (fun hc => ?_) (fun hc => ?_)
    · refine k_nil ?_; refine run_yes ?_; refine run_skip ?_; refine run_seq ?_; refine run_block ?_; refine rs4 (by kernel_rfl) ?_; refine mq rfl ?_; refine mq rfl ?_; refine k_calP (Post := fun v => v = .int .i64 (leftOf (boatsOf b) j)) rfl zq (by kernel_rfl) (fun H' hH => f139_c m H' (rdv.keeps (sq hH)) (rde.keeps (sq hH)) hle (fun i hi => by have := (boat_handed hb0 (mem_getDR.2 ⟨i, hi, rfl⟩)).2.2.1; show j < ((boatsOf b).getD i default).length; omega)) ?_; rintro v rfl; refine k_put ?_; refine aq rfl ?_; refine rs3 (by kernel_rfl) ?_; refine mq rfl ?_; refine mq rfl ?_; refine k_lssS rfl zq (fun hc => ?_) (fun hc => ?_)
      · refine k_nil ?_; refine run_yes ?_; refine rr4 (by kernel_rfl) ?_; refine mq rfl ?_; refine mq rfl ?_; refine k_as rfl zq ?_; refine aq rfl ?_; refine run_inBlock ?_; refine rr3 (by kernel_rfl) ?_; refine mq rfl ?_; refine k_add rfl zq (by unfold In64; omega) ?_; refine aq rfl ?_; exact m.weak weakSub (hnext1 _ _ _ (by omega) ⟨j + 1, _, _, rfl, by omega, by rw [askP, ← hac, if_pos hc], exU rfl, rfl⟩)
      · refine k_nil ?_; refine run_no ?_; refine run_skip ?_; refine run_inBlock ?_; refine rr3 (by kernel_rfl) ?_; refine mq rfl ?_; refine k_add rfl zq (by unfold In64; omega) ?_; refine aq rfl ?_; exact m.weak weakSub (hnext1 _ _ _ (by omega) ⟨j + 1, _, _, rfl, by omega, by rw [askP, ← hac, if_neg (by show ¬ leftOf (boatsOf b) j < c; omega)], exU rfl, rfl⟩)
    · refine k_nil ?_; refine run_no ?_; refine run_exit rfl ?_; refine rs5 (by kernel_rfl) ?_; refine mq rfl ?_; refine mq rfl ?_; refine k_as rfl zq ?_; refine k_as rfl zq ?_; refine aq rfl ?_; refine run_ret rfl ?_; refine run_res (h) rfl Tryz.func78 rfl weakSub ?_; refine hK _ _ ?_
      obtain rfl : nm = j := by omega
      exact ⟨rfl, by rw [askAt, if_neg (fun e => e ho), askLeft, if_neg (fun e => e ho), hml, ← hac, ho]⟩
end Go.Proofs
namespace Go.Proofs
open Go.Lo
open Go.Conc (G)
set_option maxRecDepth 100000
set_option synthInstance.maxSize 100000
set_option synthInstance.maxHeartbeats 1000000
set_option maxHeartbeats 1000000
variable {B : Array Obj}
def lift (t : Int) (l : List Int) : List Int := l.map (· + t)
def liftS (t : Int) (x : Sp) : Sp := ⟨x.lo + t, x.hi + t⟩
def liftB (b : Bk) (t : Int) : Bk := ⟨b.bend, b.twist, b.turns, b.marks.map (liftS t), b.rules⟩
end Go.Proofs
namespace Go.Proofs
open Go.Lo
open Go.Conc (G)
set_option maxRecDepth 100000
set_option synthInstance.maxSize 100000
set_option synthInstance.maxHeartbeats 1000000
set_option maxHeartbeats 1000000
variable {B : Array Obj}
variable [Laid B]
class Off (h new : Hp) (F : outParam Hp) : Prop where
  perm : h.Perm (F ++ new)
instance (priority := 2000) {A new : Hp} : Off (A ++ new) new A := ⟨List.Perm.refl _⟩
instance (priority := 1000) {A X new F : Hp} [o : Off A new F] : Off (A ++ X) new (F ++ X) := ⟨by
  refine (o.perm.append_right X).trans ?_
  rw [List.append_assoc, List.append_assoc]; exact List.Perm.append_left F List.perm_append_comm⟩
section
variable {P : Program} {B : Array Obj} {m : Md P B} {ops : Array Oper} {l l' : List Value} {S h h' H : Hp} {C : List Value → Hp → Prop} {i : Nat} {kd : Kd} {r : List (Nat × Kd)}
  {d : Option Tmp} {ty : TypeId} {pos : String} {af : Array Edge} {g : Option (Nat × Bool)}
theorem k_app1O {t t2 t3 e k by' q c : Nat} {x y : Operand} {s : Value} {n mm : Nat} {rw : Bool} {f : Nat × Nat} {cs ys : List Value} {F new : Hp} (ho : ops[i]? = some ⟨d, .call ⟨.builtin .append, [x, y].toArray, #[t, t2]⟩, ty, pos, af, g⟩) (hg : Wt ops l g)
    [ex : OpV l x s] [ey : OpV l y (.slice (some ⟨q, 0, none⟩) mm c)] [SliceT P t e k] [SliceT P t2 e k] [ElemT P e k by'] [hh : Has h q rw (.cells ys.toArray t3 f)] [on : Ones ys] (hy : ys.length = mm * k) (o : OwnS e k s n cs new) [w : Off h new F] (hk : kd = .free ∨ (kd = .keep ∧ S.Sublist F)) (hb : 2 * (n + mm) * by' ≤ 2 ^ 48) (hmax : n + mm ≤ 2 ^ 62)
    (cc : ∀ v' new', OwnS e k v' (n + mm) (cs ++ ys) new' → RegK m S ops r (put l d v') (F ++ new') C) : RegK m S ops ((i, kd) :: r) l h C :=
  k_app ho hg (Weak.perm w.perm) o (rdS_has hy) on.one hk hb hmax cc
end
theorem weakOff2 {B : Array Obj} {h' F1 F2 H M L : Hp} [a : Off h' L F1] [b : Off F1 M F2] [s : SubH H F2] : Weak B h' (H ++ M ++ L) :=
  (Weak.perm a.perm).trans (((Weak.perm b.perm).trans ((Weak.sub s.sub).apps M)).apps L)
def liftK (t : Int) (k : Nat) (ys : List Int) : List Int := lift t (ys.take k) ++ ys.drop k
theorem setSeg_ints {xs : List Int} {junk : List Value} {j : Int} {i : Nat} (a : Int) (hj : j = i) (hi : i < xs.length) : SetSeg (ints xs ++ junk) (0 + j.toNat * 1) [.int .i64 a] (ints (xs.set i a) ++ junk) := by
  subst hj
  have hl : (ints xs).length = xs.length := List.length_map ..
  refine ⟨?_, by rw [Int.toNat_natCast, List.length_append, hl]; simp only [List.length_cons, List.length_nil]; omega⟩
  rw [Int.toNat_natCast, Nat.zero_add, Nat.mul_one, List.take_append_of_le_length (by omega), List.drop_append_of_le_length (by simp only [List.length_cons, List.length_nil]; omega), ← ints_take, ← ints_drop, List.set_eq_take_append_cons_drop, if_pos hi, ints_append]; simp [ints]
theorem offL_perm {A X new F : Hp} (o : X.Perm (F ++ new)) : (A ++ X).Perm ((A ++ F) ++ new) := by
  rw [List.append_assoc]; exact List.Perm.append_left A o
instance (priority := 900) {A X new F : Hp} [o : Off X new F] : Off (A ++ X) new (A ++ F) := ⟨offL_perm o.perm⟩
instance {x : Chunk} {l : Hp} : Off (x :: l) [x] l := ⟨by
  have := List.perm_append_comm (l₁ := [x]) (l₂ := l)
  exact this⟩
instance (priority := 900) {y : Chunk} {l new F : Hp} [o : Off l new F] : Off (y :: l) new (y :: F) := ⟨o.perm.cons y⟩
section
variable {P : Program} {B : Array Obj} {m : Md P B} {ops : Array Oper} {l l' : List Value} {S h h' H : Hp} {C : List Value → Hp → Prop} {i : Nat} {kd : Kd} {r : List (Nat × Kd)}
  {d : Option Tmp} {ty : TypeId} {pos : String} {af : Array Edge} {g : Option (Nat × Bool)}
theorem k_appO {t t2 e k by' : Nat} {x y : Operand} {s u : Value} {n mm : Nat} {cs ys : List Value} {F new : Hp} (ho : ops[i]? = some ⟨d, .call ⟨.builtin .append, [x, y].toArray, #[t, t2]⟩, ty, pos, af, g⟩) (hg : Wt ops l g)
    [ex : OpV l x s] [ey : OpV l y u] [SliceT P t e k] [SliceT P t2 e k] [ElemT P e k by'] (o : OwnS e k s n cs new) (rx : RdS B h k u mm ys) (h1 : ∀ u ∈ ys, u.oneCell' = true) [w : Off h new F] (hk : kd = .free ∨ (kd = .keep ∧ S.Sublist F)) (hb : 2 * (n + mm) * by' ≤ 2 ^ 48) (hmax : n + mm ≤ 2 ^ 62)
    (c : ∀ v' new', OwnS e k v' (n + mm) (cs ++ ys) new' → RegK m S ops r (put l d v') (F ++ new') C) : RegK m S ops ((i, kd) :: r) l h C :=
  k_app ho hg (Weak.perm w.perm) o rx h1 hk hb hmax c
end
def subsL : Nat → List (List Int)
  | 0 => [[]]
  | i + 1 => subsL i ++ (subsL i).map (· ++ [(i : Int)])
def subP (i k : Nat) : List (List Int) := subsL i ++ ((subsL i).take k).map (· ++ [(i : Int)])
theorem subsL_length : ∀ n, (subsL n).length = 2 ^ n
  | 0 => rfl
  | n + 1 => by
    rw [subsL, List.length_append, List.length_map, subsL_length n]; omega
theorem subP_zero (i : Nat) : subP i 0 = subsL i := by unfold subP; rw [List.take_zero, List.map_nil, List.append_nil]
theorem subP_all (i : Nat) : subP i (subsL i).length = subsL (i + 1) := by unfold subP; rw [List.take_length]; rfl
theorem subP_succ {i k : Nat} (h : k < (subsL i).length) : subP i (k + 1) = subP i k ++ [(subsL i).getD k [] ++ [(i : Int)]] := by
  unfold subP
  rw [take_snocL _ _ h, List.map_append, ← List.append_assoc]; rfl
theorem subP_length {i k : Nat} (h : k ≤ (subsL i).length) : (subP i k).length = (subsL i).length + k := by
  unfold subP
  rw [List.length_append, List.length_map, List.length_take]; omega
theorem subP_at {i k j : Nat} (h : j < (subsL i).length) : (subP i k).getD j [] = (subsL i).getD j [] := by
  unfold subP
  rw [List.getD_eq_getElem?_getD, List.getElem?_append_left h, ← List.getD_eq_getElem?_getD]
theorem asc_snoc {xs : List Int} {n : Int} (h : Asc xs) (hx : ∀ x ∈ xs, x < n) : Asc (xs ++ [n]) :=
  List.pairwise_append.2 ⟨h, List.pairwise_singleton _ _, fun a ha b hb => by rw [List.mem_singleton.1 hb]; exact hx a ha⟩
theorem subs_asc : ∀ n : Nat, ∀ xs ∈ subsL n, Asc xs ∧ (∀ x ∈ xs, 0 ≤ x ∧ x < n) ∧ xs.length ≤ n
  | 0, xs, h => by
    rw [subsL, List.mem_singleton] at h
    subst h
    exact ⟨List.Pairwise.nil, fun x hx => by simp at hx, Nat.le_refl _⟩
  | n + 1, xs, h => by
    rw [subsL, List.mem_append] at h
    rcases h with h | h
    · obtain ⟨h1, h2, h3⟩ := subs_asc n xs h
      exact ⟨h1, fun x hx => by have := h2 x hx; omega, by omega⟩
    · obtain ⟨ys, hy, rfl⟩ := List.mem_map.1 h
      obtain ⟨h1, h2, h3⟩ := subs_asc n ys hy
      refine ⟨asc_snoc h1 fun x hx => (h2 x hx).2, fun x hx => ?_, by rw [List.length_append]; simp only [List.length_cons, List.length_nil]; omega⟩
      rcases List.mem_append.1 hx with hx | hx
      · have := h2 x hx; omega
      · rw [List.mem_singleton.1 hx]; omega
theorem kept_subs (mm : Nat) : ∀ n, keptI mm n ∈ subsL n
  | 0 => by rw [subsL]; exact List.mem_singleton.2 rfl
  | n + 1 => by
    rw [subsL, List.mem_append]; by_cases h : bitN mm n = 1
    · exact .inr (List.mem_map.2 ⟨_, kept_subs mm n, (keptI_yes h).symm⟩)
    · rw [keptI_no h]; exact .inl (kept_subs mm n)
theorem subs_len {i k : Nat} (h : k < (subsL i).length) : ((subsL i).getD k []).length ≤ i := (subs_asc i _ (mem_getDR.2 ⟨k, h, rfl⟩)).2.2
theorem onlyI_all (b : Bk) : onlyI b (firsts b.rules.length) = b := by
  have e : onlyR b.rules (firsts b.rules.length) = b.rules := by
    unfold onlyR firsts
    rw [List.map_map]; refine List.ext_getElem (by simp) fun i h1 h2 => ?_
    rw [List.getElem_map, List.getElem_range]; show b.rules.getD ((i : Int).toNat) default = _
    rw [Int.toNat_natCast, List.getD_eq_getElem?_getD, List.getElem?_eq_getElem h2]; rfl
  unfold onlyI
  rw [e]
theorem pow4 : ∀ i : Nat, i ≤ 4 → 2 ^ i ≤ 16 := by decide
theorem firsts_at {n i : Nat} (h : i < n) : (firsts n).getD i 0 = (i : Int) := by
  unfold firsts
  rw [List.getD_eq_getElem?_getD, List.getElem?_map, List.getElem?_range h]; rfl
theorem f138_c (m : Md Tryz.prog B) (h : Hp) {p : Option Addr} {n c : Nat} (rd : RdS B h 1 (.slice p n c) n (ints (firsts n))) (hn : n ≤ 4) : FnC m 138 #[.slice p n c, .int .i64 (n : Int)] h fun v h' => ∃ new, h' = h ++ new ∧ RdLL B new v (subsL n) := by
  refine fn_enter Tryz.func138 rfl rfl (l := (.slice p n c) :: (.int .i64 (n : Int)) :: uu44) rfl ?_
  intro cf cs K hK
  refine rs1 (by kernel_rfl) ?_; refine aq rfl ?_; refine rs2 (by kernel_rfl) ?_; refine k_bs kdq rfl zq (by decide) (by decide) rfl (fun q9 => k_hp (k_put ?_)); refine aq rfl ?_; refine run_seq ?_; refine run_seq ?_; rcases Nat.eq_zero_or_pos n with h3 | h3
  · subst h3
    refine rr1 (by kernel_rfl) ?_; refine aq rfl ?_; refine run_block ?_; refine run_loop (fun nn l h' => ∃ (i : Nat), nn = i ∧ (i = 0) ∧ (∃ U : Nat → Value, l = [.slice p 0 c, .int .i64 0, U 2, U 3, U 4, .slice (some ⟨q9, 0, none⟩) 1 1, .int .i64 (i : Int), U 7, U 8, U 9, U 10, U 11, U 12, U 13, U 14, U 15, U 16, U 17, U 18, U 19, U 20, U 21, U 22, U 23, U 24, U 25, U 26, U 27, U 28, U 29, U 30, U 31, U 32, U 33, U 34, U 35, U 36, U 37, U 38, U 39, U 40, U 41, U 42, U 43, U 44, U 45]) ∧ h ++ [⟨true, q9, .cells ([.slice none 0 0] : List Value).toArray 26 (0, 0)⟩] = h') _ ⟨0, rfl, rfl, exU rfl, rfl⟩ ?_; rintro nn l h' ⟨i, rfl, hi, ⟨U, rfl⟩, rfl⟩ hnext1; refine run_seq ?_; refine rs4 (by kernel_rfl) ?_; refine mq rfl ?_; refine mq rfl ?_; refine k_len rfl zq ?_; refine k_lssS rfl zq (fun hc => ?_) (fun hc => ?_)
    · exfalso; omega
    · refine k_nil ?_; refine run_no ?_; refine run_exit rfl ?_; refine rs2 (by kernel_rfl) ?_; refine mq rfl ?_; refine aq rfl ?_; refine run_ret rfl ?_; refine run_res (h ++ [⟨true, q9, .cells ([.slice none 0 0] : List Value).toArray 26 (0, 0)⟩]) rfl Tryz.func138 rfl weakSub ?_; refine hK _ _ ?_
      exact ⟨_, rfl, _, _, _, rfl, rdS_has rfl, RdE.nil.snoc (xs := []) rfl ⟨none, 0, rfl, rfl, .inl ⟨rfl, rfl⟩⟩ (Nat.le_refl _)⟩
  · obtain ⟨pb, po, rfl⟩ := rd.ptr (by omega)
    refine rr1 (by kernel_rfl) ?_; refine aq rfl ?_; refine run_block ?_; refine run_loop (fun nn l h' => ∃ (i : Nat) (op : Option Addr) (on oc : Nat) (ws : List Value) (M W : Hp), nn = n - i ∧ (i ≤ n) ∧ (on = (subsL i).length) ∧ (OwnS 26 1 (.slice op on oc) on ws W) ∧ (RdE B M ws (subsL i)) ∧ (∃ U : Nat → Value, l = [.slice (some ⟨pb, po, none⟩) n c, .int .i64 (n : Int), U 2, U 3, U 4, .slice op on oc, .int .i64 (i : Int), U 7, U 8, U 9, U 10, U 11, U 12, U 13, U 14, U 15, U 16, U 17, U 18, U 19, U 20, U 21, U 22, U 23, U 24, U 25, U 26, U 27, U 28, U 29, U 30, U 31, U 32, U 33, U 34, U 35, U 36, U 37, U 38, U 39, U 40, U 41, U 42, U 43, U 44, U 45]) ∧ h ++ M ++ W = h') _ ⟨0, some ⟨q9, 0, none⟩, 1, 1, [.slice none 0 0], [], [⟨true, q9, .cells ([.slice none 0 0] : List Value).toArray 26 (0, 0)⟩], rfl, by omega, rfl, OwnS.blk (t := 26) (k := 1) (n := 1) (cap := 1) (b := q9) (cs := [.slice none 0 0]) (junk := []) rfl rfl (Nat.le_refl _), RdE.nil.snoc (xs := []) rfl ⟨none, 0, rfl, rfl, .inl ⟨rfl, rfl⟩⟩ (Nat.le_refl _), exU rfl, (by simp)⟩ ?_; rintro nn l h' ⟨i, op, on, oc, ws, M, W, rfl, hi, hon, how, hew, ⟨U, rfl⟩, rfl⟩ hnext1; refine run_seq ?_; refine rs4 (by kernel_rfl) ?_; refine mq rfl ?_; refine mq rfl ?_; refine k_len rfl zq ?_; refine k_lssS rfl zq (fun hc => ?_) (fun hc => ?_)
    · refine k_nil ?_; refine run_yes ?_; refine run_skip ?_; refine run_seq ?_; refine run_block ?_; refine run_seq ?_; have hsl := subsL_length i
      have hp4 := pow4 i (by omega)
      refine rr3 (by kernel_rfl) ?_; refine mq rfl ?_; refine k_len rfl zq ?_; refine aq rfl ?_; refine rs1 (by kernel_rfl) ?_; refine aq rfl ?_; refine run_block ?_; obtain ⟨sz, hsz⟩ : ∃ sz, sz = (subsL i).length := ⟨_, rfl⟩
      rw [hon, ← hsz]; refine run_loop (fun nn l h' => ∃ (k : Nat) (op : Option Addr) (on oc : Nat) (ws : List Value) (M W : Hp), nn = sz - k ∧ (k ≤ sz) ∧ (on = sz + k) ∧ (OwnS 26 1 (.slice op on oc) on ws W) ∧ (RdE B M ws (subP i k)) ∧ (∃ U : Nat → Value, l = [.slice (some ⟨pb, po, none⟩) n c, .int .i64 (n : Int), U 2, U 3, U 4, .slice op on oc, .int .i64 (i : Int), .int .i64 (sz : Int), .int .i64 (k : Int), U 9, U 10, U 11, U 12, U 13, U 14, U 15, U 16, U 17, U 18, U 19, U 20, U 21, U 22, U 23, U 24, U 25, U 26, U 27, U 28, U 29, U 30, U 31, U 32, U 33, U 34, U 35, U 36, U 37, U 38, U 39, U 40, U 41, U 42, U 43, U 44, U 45]) ∧ h ++ M ++ W = h') _ ⟨0, op, sz, oc, ws, M, W, rfl, by omega, by omega, by rw [hsz, ← hon]; exact how, by rw [subP_zero]; exact hew, exU rfl, rfl⟩ ?_; rintro nn l h' ⟨k, op, on, oc, ws, M, W, rfl, hk, hon2, how2, hew2, ⟨U, rfl⟩, rfl⟩ hnext2; refine run_seq ?_; refine rs3 (by kernel_rfl) ?_; refine mq rfl ?_; refine mq rfl ?_; refine k_lssS rfl zq (fun hc => ?_) (fun hc => ?_)
      · refine k_nil ?_; refine run_yes ?_; refine run_skip ?_; refine run_seq ?_; refine run_block ?_; refine rs7 (by kernel_rfl) ?_; obtain ⟨ob, oo, rfl⟩ := (how2.rd (List.Sublist.refl _) : RdS B W 1 _ _ _).ptr (by omega)
        have rdo : RdS B W 1 (.slice (some ⟨ob, oo, none⟩) on oc) on ws := how2.rd (List.Sublist.refl _)
        obtain ⟨ep, ec, ee, er⟩ := hew2.2 k (by rw [subP_length (by omega)]; omega)
        rw [subP_at (by omega)] at ee er
        have hlk := subs_len (i := i) (k := k) (by omega)
        refine mq rfl ?_; refine mq rfl ?_; refine k_ixs rfl zq (by first | rfl | assumption) (by omega) (by omega) ?_; refine k_ld (v := .slice ep ((subsL i).getD k []).length ec) rfl zq (by rw [← ee]; exact rdo.vat k (by omega) (by omega)) ?_; refine k_len rfl zq ?_; refine mq rfl ?_; refine k_lssS rfl zq (fun hc => ?_) (fun hc => ?_)
        · refine k_nil ?_; refine run_yes ?_; refine run_drawC (fun l' h' => ∃ (op2 : Option Addr) (oc2 : Nat) (ws2 : List Value) (M2 W2 : Hp), (∃ U : Nat → Value, l' = [.slice (some ⟨pb, po, none⟩) n c, .int .i64 (n : Int), U 2, U 3, U 4, .slice op2 (on + 1) oc2, .int .i64 (i : Int), .int .i64 (sz : Int), .int .i64 (k : Int), U 9, U 10, U 11, U 12, U 13, U 14, U 15, U 16, U 17, U 18, U 19, U 20, U 21, U 22, U 23, U 24, U 25, U 26, U 27, U 28, U 29, U 30, U 31, U 32, U 33, U 34, U 35, U 36, U 37, U 38, U 39, U 40, U 41, U 42, U 43, U 44, U 45]) ∧ OwnS 26 1 (.slice op2 (on + 1) oc2) (on + 1) ws2 W2 ∧ RdE B M2 ws2 (subP i (k + 1)) ∧ Weak B h' (h ++ M2 ++ W2)) [0, 1, 2, 3, 4, 5, 6, 7, 8, 9, 10, 11, 12, 13, 14, 15] (by kernel_rfl) (by kernel_rfl) (List.Sublist.refl _) ?_ ?_
          · refine DrawT.split 1 11 (by decide) ?_ ?_
            · refine DrawT.split 6 11 (by decide) ?_ ?_
              · refine DrawT.leaf [(0, .pure), (2, .pure), (3, .pure), (4, .pure), (7, .pure), (8, .pure), (9, .pure), (5, .read), (10, .read), (1, .keep), (6, .keep), (11, .keep), (12, .keep), (13, .keep), (14, .free), (15, .pure)] (by kernel_rfl) ?_
                refine mq rfl ?_; refine mq rfl ?_; refine mq rfl ?_; refine k_ixs rfl zq (by first | rfl | assumption) (by omega) (by omega) ?_; refine mq rfl ?_; refine mq rfl ?_; refine k_ixs rfl zq (by first | rfl | assumption) (by omega) (by omega) ?_; refine k_ld (v := .slice ep ((subsL i).getD k []).length ec) rfl zq (by rw [← ee]; exact rdo.vat k (by omega) (by omega)) ?_; refine k_ld rfl zq (rd.iat i (by omega) (by omega)) ?_; refine k_bs0 kdq rfl zq (fun q31 => k_hp (k_put ?_)); refine k_appO rfl zq (OwnS.zero (q := q31)) er.up (ints_one _) kdq (by omega) (by omega) (fun w26 n26 o26 => k_put ?_); replace o26 : OwnS 3 1 w26 ((subsL i).getD k []).length (ints ((subsL i).getD k [])) n26 := by simpa using o26
                refine k_bs kdq rfl zq (by decide) (by decide) rfl (fun q41 => k_hp (k_put ?_)); refine k_app1O rfl zq rfl o26 kdq (by omega) (by omega) (fun w42 n42 o42 => k_put ?_); obtain ⟨p42, c42, rfl, _⟩ := o42.len
                have hcap42 := o42.cap
                have r42 : RdS B n42 1 (.slice p42 (((subsL i).getD k []).length + 1) c42) _ _ := o42.rd (List.Sublist.refl _)
                refine k_bs kdq rfl zq (by decide) (by decide) rfl (fun q43 => k_hp (k_put ?_)); refine k_app1O rfl zq rfl how2 kdq (by omega) (by omega) (fun w44 n44 o44 => k_put ?_); obtain ⟨p44, c44, rfl, _⟩ := o44.len
                refine aq rfl ?_; exact ⟨_, _, _, M ++ n42, _, exU rfl, o44, by rw [subP_succ (by omega)]; exact (hew2.keeps (List.sublist_append_left _ _)).snoc (by rw [List.length_append]; rfl) (by rw [ints_append]; have := r42.keeps (List.sublist_append_right M n42); rw [firsts_at (by omega)] at this; exact this) hcap42, by rw [← List.append_assoc]; exact weakOff2⟩
              · refine DrawT.leaf [(0, .pure), (2, .pure), (3, .pure), (4, .pure), (7, .pure), (8, .pure), (9, .pure), (5, .read), (10, .read), (1, .keep), (11, .keep), (6, .keep), (12, .keep), (13, .keep), (14, .free), (15, .pure)] (by kernel_rfl) ?_
                refine mq rfl ?_; refine mq rfl ?_; refine mq rfl ?_; refine k_ixs rfl zq (by first | rfl | assumption) (by omega) (by omega) ?_; refine mq rfl ?_; refine mq rfl ?_; refine k_ixs rfl zq (by first | rfl | assumption) (by omega) (by omega) ?_; refine k_ld (v := .slice ep ((subsL i).getD k []).length ec) rfl zq (by rw [← ee]; exact rdo.vat k (by omega) (by omega)) ?_; refine k_ld rfl zq (rd.iat i (by omega) (by omega)) ?_; refine k_bs0 kdq rfl zq (fun q31 => k_hp (k_put ?_)); refine k_bs kdq rfl zq (by decide) (by decide) rfl (fun q41 => k_hp (k_put ?_)); refine k_appO rfl zq (OwnS.zero (q := q31)) er.up (ints_one _) kdq (by omega) (by omega) (fun w26 n26 o26 => k_put ?_); replace o26 : OwnS 3 1 w26 ((subsL i).getD k []).length (ints ((subsL i).getD k [])) n26 := by simpa using o26
                refine k_app1O rfl zq rfl o26 kdq (by omega) (by omega) (fun w42 n42 o42 => k_put ?_); obtain ⟨p42, c42, rfl, _⟩ := o42.len
                have hcap42 := o42.cap
                have r42 : RdS B n42 1 (.slice p42 (((subsL i).getD k []).length + 1) c42) _ _ := o42.rd (List.Sublist.refl _)
                refine k_bs kdq rfl zq (by decide) (by decide) rfl (fun q43 => k_hp (k_put ?_)); refine k_app1O rfl zq rfl how2 kdq (by omega) (by omega) (fun w44 n44 o44 => k_put ?_); obtain ⟨p44, c44, rfl, _⟩ := o44.len
                refine aq rfl ?_; exact ⟨_, _, _, M ++ n42, _, exU rfl, o44, by rw [subP_succ (by omega)]; exact (hew2.keeps (List.sublist_append_left _ _)).snoc (by rw [List.length_append]; rfl) (by rw [ints_append]; have := r42.keeps (List.sublist_append_right M n42); rw [firsts_at (by omega)] at this; exact this) hcap42, by rw [← List.append_assoc]; exact weakOff2⟩
            · refine DrawT.leaf [(0, .pure), (2, .pure), (3, .pure), (4, .pure), (7, .pure), (8, .pure), (9, .pure), (5, .read), (10, .read), (11, .keep), (1, .keep), (6, .keep), (12, .keep), (13, .keep), (14, .free), (15, .pure)] (by kernel_rfl) ?_
              refine mq rfl ?_; refine mq rfl ?_; refine mq rfl ?_; refine k_ixs rfl zq (by first | rfl | assumption) (by omega) (by omega) ?_; refine mq rfl ?_; refine mq rfl ?_; refine k_ixs rfl zq (by first | rfl | assumption) (by omega) (by omega) ?_; refine k_ld (v := .slice ep ((subsL i).getD k []).length ec) rfl zq (by rw [← ee]; exact rdo.vat k (by omega) (by omega)) ?_; refine k_ld rfl zq (rd.iat i (by omega) (by omega)) ?_; refine k_bs kdq rfl zq (by decide) (by decide) rfl (fun q41 => k_hp (k_put ?_)); refine k_bs0 kdq rfl zq (fun q31 => k_hp (k_put ?_)); refine k_appO rfl zq (OwnS.zero (q := q31)) er.up (ints_one _) kdq (by omega) (by omega) (fun w26 n26 o26 => k_put ?_); replace o26 : OwnS 3 1 w26 ((subsL i).getD k []).length (ints ((subsL i).getD k [])) n26 := by simpa using o26
              refine k_app1O rfl zq rfl o26 kdq (by omega) (by omega) (fun w42 n42 o42 => k_put ?_); obtain ⟨p42, c42, rfl, _⟩ := o42.len
              have hcap42 := o42.cap
              have r42 : RdS B n42 1 (.slice p42 (((subsL i).getD k []).length + 1) c42) _ _ := o42.rd (List.Sublist.refl _)
              refine k_bs kdq rfl zq (by decide) (by decide) rfl (fun q43 => k_hp (k_put ?_)); refine k_app1O rfl zq rfl how2 kdq (by omega) (by omega) (fun w44 n44 o44 => k_put ?_); obtain ⟨p44, c44, rfl, _⟩ := o44.len
              refine aq rfl ?_; exact ⟨_, _, _, M ++ n42, _, exU rfl, o44, by rw [subP_succ (by omega)]; exact (hew2.keeps (List.sublist_append_left _ _)).snoc (by rw [List.length_append]; rfl) (by rw [ints_append]; have := r42.keeps (List.sublist_append_right M n42); rw [firsts_at (by omega)] at this; exact this) hcap42, by rw [← List.append_assoc]; exact weakOff2⟩
          · rintro l' h' ⟨op2, oc2, ws2, M2, W2, ⟨U, rfl⟩, how3, hew3, hwk⟩; refine m.weak hwk ?_
            refine run_inBlock ?_; refine rr3 (by kernel_rfl) ?_; refine mq rfl ?_; refine k_add rfl zq (by unfold In64; omega) ?_; refine aq rfl ?_; exact m.weak weakSub (hnext2 _ _ _ (by omega) ⟨k + 1, op2, _, oc2, ws2, M2, W2, rfl, by omega, by omega, how3, hew3, exU rfl, rfl⟩)
        · exfalso; have := subs_len (i := i) (k := k) (by omega); omega
      · refine k_nil ?_; refine run_no ?_; refine run_exit rfl ?_; refine run_inBlock ?_; refine rr3 (by kernel_rfl) ?_; refine mq rfl ?_; refine k_add rfl zq (by unfold In64; omega) ?_; refine aq rfl ?_; have hkn : k = (subsL i).length := by omega
        rw [hkn, subP_all] at hew2
        exact m.weak weakSub (hnext1 _ _ _ (by omega) ⟨i + 1, op, _, oc, ws, M, W, rfl, by omega, by rw [← subP_all, subP_length (Nat.le_refl _)]; omega, how2, hew2, exU rfl, rfl⟩)
    · refine k_nil ?_; refine run_no ?_; refine run_exit rfl ?_; refine rs2 (by kernel_rfl) ?_; refine mq rfl ?_; refine aq rfl ?_; refine run_ret rfl ?_; refine run_res (h ++ M ++ W) rfl Tryz.func138 rfl weakSub ?_; refine hK _ _ ?_
      obtain rfl : i = n := by omega
      subst hon
      exact ⟨M ++ W, by rw [← List.append_assoc], _, _, _, rfl, how.rd (List.sublist_append_right _ _), hew.keeps (List.sublist_append_left _ _)⟩
theorem clash_uniq {b : Bk} {g g2 : List Int} (h : ClashOk b g) (h2 : ClashOk b g2) : g = g2 := by
  unfold ClashOk at h h2
  split at h
  · rename_i e; rw [if_pos e] at h2; rw [h, h2]
  · rename_i e
    rw [if_neg e] at h2
    obtain ⟨⟨mm, m1, m2, rfl⟩, m3⟩ := h
    obtain ⟨⟨nn, n1, n2, rfl⟩, n3⟩ := h2
    rcases fewer_or (keptI mm b.rules.length) (keptI nn b.rules.length) with e | e | e
    · exact e
    · exact absurd e (n3 mm m1 m2)
    · exact absurd e (m3 nn n1 n2)
theorem clash_len {b : Bk} {g : List Int} (h : ClashOk b g) : g.length ≤ b.rules.length := by
  unfold ClashOk at h
  split at h
  · subst h; exact Nat.zero_le _
  · obtain ⟨⟨mm, m1, m2, rfl⟩, m3⟩ := h
    exact keptI_le _ _
theorem f77_c (m : Md Tryz.prog B) (h : Hp) {b : Bk} {pm : Option Addr} {nm cm : Nat} {pr : Option Addr} {nr cr : Nat} (rdm : RdS B h 2 (.slice pm nm cm) nm (encs b.marks)) (hm : nm ≤ 1000) (rdr : RdS B h 4 (.slice pr nr cr) nr (encs b.rules)) (hr : nr ≤ 1000) : FnC m 77 #[bkV b pm nm cm pr nr cr] h fun v h' => ∃ nw, h' = h ++ nw ∧ ∃ w g, v = .tuple [w, .int .i64 (clashS b)].toArray ∧ RdI B nw w g ∧ ClashOk b g := by
  have hml := rdm.elen (by decide)
  have hrl := rdr.elen (by decide)
  refine fn_enter Tryz.func77 rfl rfl (l := (bkV b pm nm cm pr nr cr) :: uu57) rfl ?_
  intro cf cs K hK
  refine rs3 (by kernel_rfl) ?_; refine k_box rfl zq (fun q1 => k_hp (k_put ?_)); refine k_as rfl zq ?_; refine aq rfl ?_; refine run_seq ?_; refine rs3 (by kernel_rfl) ?_; refine k_ldA rfl zq ?_; refine k_calP (Post := fun v => v = .int .i64 (bookS b)) rfl zq (by kernel_rfl) (fun H' hH => f22_c m H' (rdm.keeps (sq hH)) hm (rdr.keeps (sq hH)) hr) ?_; rintro v rfl; refine k_put ?_; refine aq rfl ?_; refine rs2 (by kernel_rfl) ?_; refine mq rfl ?_; refine k_neqS rfl zq (fun hc => ?_) (fun hc => ?_)
  · refine k_nil ?_; refine run_yes ?_; refine rs3 (by kernel_rfl) ?_; refine mq rfl ?_; refine k_as rfl zq ?_; refine aq rfl ?_; refine run_ret rfl ?_; refine run_res (h) rfl Tryz.func77 rfl weakSub ?_; refine hK _ _ ?_
    exact ⟨[], by simp, _, [], by rw [clashS, if_pos hc], RdI.nil, by rw [ClashOk, if_pos (.inl hc)]⟩
  · refine k_nil ?_; refine run_no ?_; refine run_skip ?_; refine run_seq ?_; refine run_seq ?_; have hb0 : bookS b = 0 := by assumption
    have hv := valid_of hb0
    have hbl := boats_le hv
    have hfew := hv.few
    have hmany := hv.many
    refine rr4 (by kernel_rfl) ?_; refine k_ldA rfl zq ?_; refine k_calC rfl zq (by kernel_rfl) (Post := fun v new => ∃ vs, RdS B new 1 v (boatsOf b).length vs ∧ RdE B new vs (boatsOf b)) (fun H' hH => f55_c _ H' (b := b) (rdm.keeps (sq hH)) hm (rdr.keeps (sq hH)) hr hv) ?_; rintro v n55 ⟨vs, ⟨pv, cv, rfl, hvl, hvr⟩, rde⟩; refine k_hpA (k_put ?_); refine k_len rfl zq ?_; refine k_gtrS rfl zq (fun hc => ?_) (fun hc => ?_)
    · refine k_nil ?_; refine run_yes ?_; refine rs2 (by kernel_rfl) ?_; refine k_as rfl zq ?_; refine aq rfl ?_; refine run_ret rfl ?_; refine run_res (h) rfl Tryz.func77 rfl weakSub ?_; refine hK _ _ ?_
      have hbn : boatsOf b ≠ [] := fun e => by rw [e] at hc; exact absurd hc (by decide)
      exact ⟨[], by simp, _, [], by rw [clashS, if_neg (fun e => e hb0), if_pos hbn], RdI.nil, by rw [ClashOk, if_pos (.inr (.inl hbn))]⟩
    · refine k_nil ?_; refine run_no ?_; refine run_skip ?_; refine run_seq ?_; refine run_seq ?_; have hbe : boatsOf b = [] := List.length_eq_zero_iff.1 (by omega)
      have hov := valid_of (onlyI_facts (b := b) hb0 (xs := []) (fun x hx => by simp at hx) (by simp))
      have hol := boats_le hov
      refine rr5 (by kernel_rfl) ?_; refine k_ldA rfl zq ?_; refine k_calC rfl zq (by kernel_rfl) (Post := fun v new => ∃ rp rc, v = bkV (onlyI b []) pm nm cm rp (0) rc ∧ RdS B new 4 (.slice rp (0) rc) (0) (encs (onlyI b []).rules)) (fun H' hH => f70_c _ H' (b := b) (rdm.keeps (sq hH)) (rdr.keeps (sq hH)) hr (xs := []) (⟨none, 0, rfl, rfl, .inl ⟨rfl, rfl⟩⟩ : RdS B H' 1 (.slice none 0 0) 0 (ints [])) (by omega) (fun x hx => by simp at hx)) ?_; rintro v n70a ⟨rpa, rca, rfl, rra⟩; refine k_hpA (k_put ?_); refine k_calC rfl zq (by kernel_rfl) (Post := fun v new => ∃ vs, RdS B new 1 v (boatsOf (onlyI b [])).length vs ∧ RdE B new vs (boatsOf (onlyI b []))) (fun H' hH => f55_c _ H' (b := (onlyI b [])) (rdm.keeps (sq hH)) hm (rra.keeps (sq hH)) (by omega) hov) ?_; rintro v n55b ⟨vs, ⟨pv, cv, rfl, hvl, hvr⟩, rde⟩; refine k_hpA (k_put ?_); refine k_len rfl zq ?_; refine k_eqlS rfl zq (fun hc => ?_) (fun hc => ?_)
      · refine k_nil ?_; refine run_yes ?_; refine rs2 (by kernel_rfl) ?_; refine k_as rfl zq ?_; refine aq rfl ?_; refine run_ret rfl ?_; refine run_res (h) rfl Tryz.func77 rfl weakSub ?_; refine hK _ _ ?_
        have hoe : boatsOf (onlyI b []) = [] := List.length_eq_zero_iff.1 (by omega)
        rw [onlyI_nil] at hoe
        exact ⟨[], by simp, _, [], by rw [clashS, if_neg (fun e => e hb0), if_neg (fun e => e hbe), if_pos hoe], RdI.nil, by rw [ClashOk, if_pos (.inr (.inr hoe))]⟩
      · refine k_nil ?_; refine run_no ?_; refine run_skip ?_; refine run_seq ?_; have hon : boatsOf (onlyB b 0) ≠ [] := fun e => by
          rw [← onlyI_nil] at e
          have : (boatsOf (onlyI b [])).length = 0 := by rw [e]; rfl
          omega
        refine rr5 (by kernel_rfl) ?_; first | refine k_fa0 rfl zq ?_ | refine k_fa rfl zq ?_
        refine k_ldh rfl zq ?_; refine k_len rfl zq ?_; refine k_calC rfl zq (by kernel_rfl) (Post := fun v new => OwnS 3 1 v nr (ints (firsts nr)) new) (fun H' hH => f65_c m H' nr (by omega)) ?_; rintro v n65 o65; obtain ⟨p65, c65, rfl, _, r65⟩ := own_rdA (B := B) o65
        have hfl := firsts_length nr
        refine k_hpA (k_put ?_); refine aq rfl ?_; refine rs5 (by kernel_rfl) ?_; refine mq rfl ?_; refine mq rfl ?_; refine k_len rfl zq ?_; refine k_calC rfl zq (by kernel_rfl) (Post := fun v new => RdLL B new v (subsL nr)) (fun H' hH => f138_c m H' (r65.keeps (sq hH)) (by omega)) ?_; rintro v n138 ⟨ap, ac, vs, rfl, rdv, rde⟩; have hsl := subsL_length nr
        have hp4 := pow4 nr (by omega)
        refine k_hpA (k_put ?_); refine aq rfl ?_; refine run_seq ?_; refine rs1 (by kernel_rfl) ?_; refine aq rfl ?_; refine run_block ?_; refine m.weak (h' := h ++ [⟨true, q1, .cells (bkL b pm nm cm pr nr cr).toArray 25 (0, 0)⟩] ++ n65 ++ n138) weakSub ?_
        refine run_loop (fun nn l h' => ∃ (k : Nat) (gp : Option Addr) (gn gc : Nat) (gg : List Int), nn = (subsL nr).length - k ∧ (k ≤ (subsL nr).length) ∧ (RdS B (n65 ++ n138) 1 (.slice gp gn gc) gn (ints gg)) ∧ (Asc gg ∧ (∀ x ∈ gg, 0 ≤ x ∧ x < nr) ∧ gn ≤ nr ∧ boatsOf (onlyI b gg) = []) ∧ (∀ j : Nat, j < k → boatsOf (onlyI b ((subsL nr).getD j [])) = [] → ¬ fewer ((subsL nr).getD j []) gg) ∧ (∃ U : Nat → Value, l = [bkV b pm nm cm pr nr cr, .pointer (some ⟨q1, 0, none⟩), U 2, U 3, U 4, .slice gp gn gc, .slice ap (subsL nr).length ac, .int .i64 (k : Int), U 8, U 9, U 10, U 11, U 12, U 13, U 14, U 15, U 16, U 17, U 18, U 19, U 20, U 21, U 22, U 23, U 24, U 25, U 26, U 27, U 28, U 29, U 30, U 31, U 32, U 33, U 34, U 35, U 36, U 37, U 38, U 39, U 40, U 41, U 42, U 43, U 44, U 45, U 46, U 47, U 48, U 49, U 50, U 51, U 52, U 53, U 54, U 55, U 56, U 57]) ∧ h ++ [⟨true, q1, .cells (bkL b pm nm cm pr nr cr).toArray 25 (0, 0)⟩] ++ n65 ++ n138 = h') _ ⟨0, p65, nr, c65, firsts nr, rfl, by omega, r65.keeps (List.sublist_append_left _ _), ⟨asc_firsts _, fun x hx => by obtain ⟨i, hi, rfl⟩ := List.mem_map.1 hx; have := List.mem_range.1 hi; omega, Nat.le_refl _, by have := onlyI_all b; rw [hrl] at this; rw [this]; exact hbe⟩, fun j hj => by omega, exU rfl, rfl⟩ ?_; rintro nn l h' ⟨k, gp, gn, gc, gg, rfl, hk, hgr, hgf, hgm, ⟨U, rfl⟩, rfl⟩ hnext1; refine run_seq ?_; refine rs4 (by kernel_rfl) ?_; refine mq rfl ?_; refine mq rfl ?_; refine k_len rfl zq ?_; refine k_lssS rfl zq (fun hc => ?_) (fun hc => ?_)
        · refine k_nil ?_; refine run_yes ?_; refine run_skip ?_; refine run_seq ?_; refine run_block ?_; refine run_seq ?_; refine run_draw [(0, .pure), (1, .pure), (2, .pure), (4, .pure), (3, .read), (5, .keep), (6, .pure), (8, .pure), (9, .pure), (10, .pure), (7, .read), (11, .read), (12, .keep), (13, .keep), (14, .pure), (15, .pure), (16, .pure)] (by kernel_rfl) (by kernel_rfl) (List.Sublist.refl _) ?_; obtain ⟨ep, ec, ee, er⟩ := rde.2 k (by omega)
          have hx2 := subs_asc nr _ (mem_getDR.2 ⟨k, by omega, rfl⟩ : ((subsL nr).getD k []) ∈ subsL nr)
          have hov2 := valid_of (onlyI_facts (b := b) hb0 (xs := ((subsL nr).getD k [])) (fun x hx => by have := hx2.2.1 x hx; omega) (by omega))
          have hol2 := boats_le hov2
          refine mq rfl ?_; refine mq rfl ?_; obtain ⟨rdv_b, rdv_o, rfl⟩ := rdv.ptr (by omega)
          refine k_ixs rfl zq (by first | rfl | assumption) (by omega) (by omega) ?_; refine mq rfl ?_; refine k_ld (v := .slice ep ((subsL nr).getD k []).length ec) rfl zq (by rw [← ee]; exact rdv.vat k (by omega) (by omega)) ?_; refine k_calP (Post := fun v => IsB _ v) rfl zq (by kernel_rfl) (fun H' hH => f61_c _ H' (er.keeps (sq hH)) (by omega) (hgr.keeps (sq hH))) ?_; rintro v (⟨hc, rfl⟩ | ⟨hc, rfl⟩)
          · refine k_put ?_; have hfk := hc
            refine mq rfl ?_; refine k_mv rfl rfl ?_; refine k_mv rfl rfl ?_; refine k_ixs rfl rfl (by first | rfl | assumption) (by omega) (by omega) ?_; refine k_ldA rfl rfl ?_; refine k_ld (v := .slice ep ((subsL nr).getD k []).length ec) rfl rfl (by rw [← ee]; exact rdv.vat k (by omega) (by omega)) ?_; refine k_calC rfl rfl (by kernel_rfl) (Post := fun v new => ∃ rp rc, v = bkV (onlyI b ((subsL nr).getD k [])) pm nm cm rp (((subsL nr).getD k []).length) rc ∧ RdS B new 4 (.slice rp (((subsL nr).getD k []).length) rc) (((subsL nr).getD k []).length) (encs (onlyI b ((subsL nr).getD k [])).rules)) (fun H' hH => f70_c _ H' (b := b) (rdm.keeps (sq hH)) (rdr.keeps (sq hH)) hr (xs := ((subsL nr).getD k [])) (er.keeps (sq hH)) (by omega) (fun x hx => hx2.2.1 x hx)) ?_; rintro v n70b ⟨rpb, rcb, rfl, rrb⟩; refine k_hpA (k_put ?_); refine k_calC rfl rfl (by kernel_rfl) (Post := fun v new => ∃ vs2, RdS B new 1 v (boatsOf (onlyI b ((subsL nr).getD k []))).length vs2 ∧ RdE B new vs2 (boatsOf (onlyI b ((subsL nr).getD k [])))) (fun H' hH => f55_c _ H' (b := (onlyI b ((subsL nr).getD k []))) (rdm.keeps (sq hH)) hm (rrb.keeps (sq hH)) (by omega) hov2) ?_; rintro v n55c ⟨vs2, ⟨pv, cv, rfl, hvl2, hvr2⟩, rde2⟩; refine k_hpA (k_put ?_); refine k_len rfl rfl ?_; refine k_eqlS rfl rfl (fun hc => ?_) (fun hc => ?_)
            · have hfo : boatsOf (onlyI b ((subsL nr).getD k [])) = [] := List.length_eq_zero_iff.1 (by omega)
              refine k_pickT rfl zq ?_; refine k_nil ?_; refine run_yes ?_; refine rr5 (by kernel_rfl) ?_; refine mq rfl ?_; refine mq rfl ?_; refine k_ixs rfl zq (by first | rfl | assumption) (by omega) (by omega) ?_; refine k_ld (v := .slice ep ((subsL nr).getD k []).length ec) rfl zq (by rw [← ee]; exact rdv.vat k (by omega) (by omega)) ?_; refine aq rfl ?_; refine run_inBlock ?_; refine rr3 (by kernel_rfl) ?_; refine mq rfl ?_; refine k_add rfl zq (by unfold In64; omega) ?_; refine aq rfl ?_; have hx2 := subs_asc nr _ (mem_getDR.2 ⟨k, by omega, rfl⟩ : ((subsL nr).getD k []) ∈ subsL nr)
              exact m.weak weakSub (hnext1 _ _ _ (by omega) ⟨k + 1, ep, _, ec, ((subsL nr).getD k []), rfl, by omega, er.keeps (List.sublist_append_right _ _), ⟨hx2.1, hx2.2.1, hx2.2.2, by assumption⟩, fun j hj hf hfw => by
                rcases Nat.lt_or_ge j k with h1 | h1
                · exact hgm j h1 hf (fewer_trans hfw hfk)
                · obtain rfl : j = k := by omega
                  exact fewer_irrefl _ hfw, exU rfl, rfl⟩)
            · have hnf : ¬ boatsOf (onlyI b ((subsL nr).getD k [])) = [] := fun e => by rw [e] at hc; exact hc rfl
              refine k_pickT rfl zq ?_; refine k_nil ?_; refine run_no ?_; refine run_skip ?_; refine run_inBlock ?_; refine rr3 (by kernel_rfl) ?_; refine mq rfl ?_; refine k_add rfl zq (by unfold In64; omega) ?_; refine aq rfl ?_; exact m.weak weakSub (hnext1 _ _ _ (by omega) ⟨k + 1, gp, gn, gc, gg, rfl, by omega, hgr, hgf, fun j hj hf hfw => by
                rcases Nat.lt_or_ge j k with h1 | h1
                · exact hgm j h1 hf hfw
                · obtain rfl : j = k := by omega
                  exact hnf hf, exU rfl, rfl⟩)
          · refine k_put ?_; refine mq rfl ?_; refine k_off rfl rfl ?_; refine k_off rfl rfl ?_; refine k_off rfl rfl ?_; refine k_off rfl rfl ?_; refine k_off rfl rfl ?_; refine k_off rfl rfl ?_; refine k_off rfl rfl ?_; refine k_off rfl rfl ?_; refine k_off rfl rfl ?_; refine k_pickF rfl zq ?_; refine k_nil ?_; refine run_no ?_; refine run_skip ?_; refine run_inBlock ?_; refine rr3 (by kernel_rfl) ?_; refine mq rfl ?_; refine k_add rfl zq (by unfold In64; omega) ?_; refine aq rfl ?_; exact m.weak weakSub (hnext1 _ _ _ (by omega) ⟨k + 1, gp, gn, gc, gg, rfl, by omega, hgr, hgf, fun j hj hf hfw => by
              rcases Nat.lt_or_ge j k with h1 | h1
              · exact hgm j h1 hf hfw
              · obtain rfl : j = k := by omega
                exact absurd hfw (by assumption), exU rfl, rfl⟩)
        · refine k_nil ?_; refine run_no ?_; refine run_exit rfl ?_; refine rs3 (by kernel_rfl) ?_; refine mq rfl ?_; refine k_as rfl zq ?_; refine aq rfl ?_; refine run_ret rfl ?_; refine run_res (h ++ n65 ++ n138) rfl Tryz.func77 rfl weakSub ?_; refine hK _ _ ?_
          obtain rfl : k = (subsL nr).length := by omega
          obtain ⟨g1, g2, g3, g4⟩ := hgf
          have hgl := hgr.ilen
          subst hgl
          refine ⟨n65 ++ n138, by rw [← List.append_assoc], _, gg, by rw [clashS, if_neg (fun e => e hb0), if_neg (fun e => e hbe), if_neg hon], ⟨_, _, rfl, hgr⟩, ?_⟩
          obtain ⟨mm, m1, m2⟩ := kept_of g1 g2
          rw [ClashOk, if_neg (by rintro (e | e | e); exact e hb0; exact e hbe; exact hon e), hrl]; refine ⟨⟨mm, m1, by unfold foulM; rw [← onlyI_kept, hrl, ← m2]; exact g4, m2⟩, fun nn n1 n2 => ?_⟩
          obtain ⟨j, hj, ej⟩ := mem_getDR.1 (kept_subs nn nr)
          have := hgm j hj
          rw [show (subsL nr).getD j [] = keptI nn nr from ej] at this
          exact this (by have := onlyI_kept b nn; rw [hrl] at this; rw [this]; exact n2)
theorem agree_len {b : Bk} : (agreeB b).marks.length ≤ b.marks.length ∧ (agreeB b).rules.length ≤ b.rules.length := by
  unfold agreeB
  split
  · exact ⟨Nat.le_refl _, Nat.le_refl _⟩
  · exact ⟨Nat.zero_le _, Nat.zero_le _⟩
theorem meas_len {b : Bk} {st : Int} {x : Sp} : (measB b st x).marks.length ≤ b.marks.length ∧ (measB b st x).rules.length ≤ b.rules.length := by
  unfold measB
  split
  · exact ⟨Nat.zero_le _, Nat.zero_le _⟩
  · have h := agree_len (b := measB0 b st x)
    have h1 : (measB0 b st x).marks.length = b.marks.length := List.length_set
    have h2 : (measB0 b st x).rules.length = b.rules.length := rfl
    omega
theorem note_len {b : Bk} {r : Ru} : (noteB b r).marks.length ≤ b.marks.length ∧ (noteB b r).rules.length ≤ b.rules.length + 1 := by
  unfold noteB
  split
  · exact ⟨Nat.zero_le _, Nat.zero_le _⟩
  · have h := agree_len (b := moreB b r)
    have h1 : (moreB b r).marks.length = b.marks.length := rfl
    have h2 : (moreB b r).rules.length = b.rules.length + 1 := by unfold moreB; simp
    omega
theorem splice_len {a b : Bk} {k : Int} : (spliceB a b k).marks.length ≤ a.marks.length + b.marks.length ∧ (spliceB a b k).rules.length ≤ a.rules.length + b.rules.length := by
  unfold spliceB
  split
  · exact ⟨Nat.zero_le _, Nat.zero_le _⟩
  · rename_i e
    have e0 : spS0 a b k = 0 := Classical.not_not.1 e
    obtain ⟨j, rfl⟩ : ∃ j : Nat, k = (j : Int) := by
      refine Int.eq_ofNat_of_zero_le ?_
      unfold spS0 at e0
      split at e0
      · contradiction
      · split at e0
        · contradiction
        · split at e0
          · omega
          · omega
    have h := agree_len (b := spB a b j)
    have h1 := spB_len (a := a) (b := b) (k := j)
    have h3 : atS a (j : Int) ≤ a.marks.length := by unfold atS; omega
    have h2 : (spB a b j).rules.length = a.rules.length + b.rules.length := by
      show (spRules a b j b.rules.length).length = _
      unfold spRules
      rw [List.length_append, List.length_map, List.length_take]; omega
    omega
theorem f16_t (h : Hp) {b : Bk} {pm : Option Addr} {nm cm : Nat} {pr : Option Addr} {nr cr : Nat} (rdm : RdS B h 2 (.slice pm nm cm) nm (encs b.marks)) (hcm : nm ≤ cm) (rdr : RdS B h 4 (.slice pr nr cr) nr (encs b.rules)) {b2 : Bk} {pm2 : Option Addr} {nm2 cm2 : Nat} {pr2 : Option Addr} {nr2 cr2 : Nat} (rdm2 : RdS B h 2 (.slice pm2 nm2 cm2) nm2 (encs b2.marks)) (hcm2 : nm2 ≤ cm2) (rdr2 : RdS B h 4 (.slice pr2 nr2 cr2) nr2 (encs b2.rules)) (st : Int) (x : Sp) (r : Ru) (k : Int) (hk64 : In64 k) : (Md.star Tryz.prog B).R (AtEnd Tryz.prog B fun v _ => v = .bool true) (G (Frame.enter Tryz.prog 16 #[bkV b pm nm cm pr nr cr, bkV b2 pm2 nm2 cm2 pr2 nr2 cr2, .int .i64 st, spV x, ruV r, .int .i64 k] .normal) []) h := by
  refine top_enter Tryz.func16 rfl rfl (l := (bkV b pm nm cm pr nr cr) :: (bkV b2 pm2 nm2 cm2 pr2 nr2 cr2) :: (.int .i64 st) :: (spV x) :: (ruV r) :: (.int .i64 k) :: uu137) rfl ?_
  refine rs5 (by kernel_rfl) ?_; refine k_box rfl zq (fun q6 => k_hp (k_put ?_)); refine k_box rfl zq (fun q7 => k_hp (k_put ?_)); refine k_box rfl zq (fun q9 => k_hp (k_put ?_)); refine k_box rfl zq (fun q10 => k_hp (k_put ?_)); refine aq rfl ?_; refine run_seq ?_; refine rs6 (by kernel_rfl) ?_; refine k_ldA rfl zq ?_; refine k_calP (Post := fun v => IsB _ v) rfl zq (by kernel_rfl) (fun H' hH => f19_c _ H') ?_; rintro v (⟨hc, rfl⟩ | ⟨hc, rfl⟩)
  · refine k_put ?_; refine mq rfl ?_; refine k_off rfl rfl ?_; refine k_off rfl rfl ?_; refine k_pickT rfl zq ?_; refine k_nil ?_; refine run_yes ?_; refine rs2 (by kernel_rfl) ?_; refine k_cal rfl zq (by kernel_rfl) (f20_c _) ?_; rintro v h' ⟨nF, rfl, rfl⟩; refine k_put ?_; refine aq rfl ?_; refine run_ret rfl ?_; refine run_top rfl Tryz.func16 (by kernel_rfl) rfl ?_; rfl
  · refine k_put ?_; refine mq rfl ?_; refine k_ldA rfl rfl ?_; refine k_calP (Post := fun v => IsB _ v) rfl rfl (by kernel_rfl) (fun H' hH => f19_c _ H') ?_; rintro v (⟨hc, rfl⟩ | ⟨hc, rfl⟩)
    · refine k_put ?_; refine k_pickF rfl zq ?_; refine k_nil ?_; refine run_yes ?_; refine rs2 (by kernel_rfl) ?_; refine k_cal rfl zq (by kernel_rfl) (f20_c _) ?_; rintro v h' ⟨nF, rfl, rfl⟩; refine k_put ?_; refine aq rfl ?_; refine run_ret rfl ?_; refine run_top rfl Tryz.func16 (by kernel_rfl) rfl ?_; rfl
    · refine k_put ?_; refine k_pickF rfl zq ?_; refine k_nil ?_; refine run_no ?_; refine run_skip ?_; refine run_seq ?_; have hm : nm ≤ 1000 := by omega
      have hr : nr ≤ 1000 := by omega
      have hm2 : nm2 ≤ 1000 := by omega
      have hr2 : nr2 ≤ 1000 := by omega
      have hml := rdm.elen (by decide)
      have hrl := rdr.elen (by decide)
      have hml2 := rdm2.elen (by decide)
      have hrl2 := rdr2.elen (by decide)
      refine rr7 (by kernel_rfl) ?_; refine k_ldA rfl zq ?_; refine k_cal rfl zq (by kernel_rfl) (f51_c _ (b := b) (rdm.keeps SubH.sub) hm (rdr.keeps SubH.sub) hr) ?_; rintro v h' ⟨nC, rfl, wC, gC, rfl, ⟨pC, cC, rfl, rdC⟩, okC, _⟩; refine k_put ?_; replace rdm := rdm.ro
      replace rdr := rdr.ro
      replace rdm2 := rdm2.ro
      replace rdr2 := rdr2.ro
      have hgl := clash_len okC
      refine mq rfl ?_; refine k_ext0 rfl zq ?_; refine k_ext1 rfl zq ?_; refine k_as rfl zq ?_; refine aq rfl ?_; refine rs7 (by kernel_rfl) ?_; refine k_ldA rfl zq ?_; refine k_calC rfl zq (by kernel_rfl) (Post := fun v new => ∃ w g, v = .tuple [w, .int .i64 (clashS b)].toArray ∧ RdI B new w g ∧ ClashOk b g) (fun H' hH => f77_c _ H' (b := b) (rdm.keeps (sq hH)) hm (rdr.keeps (sq hH)) hr) ?_; rintro v n77 ⟨w77, g77, rfl, ⟨p77, c77, rfl, r77⟩, ok77⟩; obtain rfl := clash_uniq okC ok77
      refine k_hpA (k_put ?_); refine mq rfl ?_; refine k_ext0 rfl zq ?_; refine k_ext1 rfl zq ?_; refine k_as rfl zq ?_; refine aq rfl ?_; refine run_seq ?_; refine rs9 (by kernel_rfl) ?_; refine mq rfl ?_; refine mq rfl ?_; refine k_calP (Post := fun v => IsB _ v) rfl zq (by kernel_rfl) (fun H' hH => f31_c _ H' (rdC.keeps (sq hH)) (by omega) (r77.keeps (sq hH))) ?_; rintro v (⟨hc, rfl⟩ | ⟨hc, rfl⟩)
      · refine k_put ?_; refine k_notT rfl zq ?_; refine mq rfl ?_; refine k_mv rfl rfl ?_; refine k_mv rfl rfl ?_; refine k_neqF rfl rfl rfl ?_; refine k_pickF rfl zq ?_; refine k_nil ?_; refine run_no ?_; refine run_skip ?_; refine rs9 (by kernel_rfl) ?_; refine k_ldA rfl zq ?_; refine k_calP (Post := fun v => v = .tuple [.int .i64 (askAt b), .int .i64 (askLeft b), .int .i64 (openS b 0)].toArray) rfl zq (by kernel_rfl) (fun H' hH => f71_c _ H' (b := b) (rdm.keeps (sq hH)) hm (rdr.keeps (sq hH)) hr) ?_; rintro v rfl; refine k_put ?_; refine mq rfl ?_; refine k_ext0 rfl zq ?_; refine k_ext1 rfl zq ?_; refine k_ext2 rfl zq ?_; refine k_as rfl zq ?_; refine k_as rfl zq ?_; refine aq rfl ?_; refine rs9 (by kernel_rfl) ?_; refine k_ldA rfl zq ?_; refine k_calP (Post := fun v => v = .tuple [.int .i64 (askAt b), .int .i64 (askLeft b), .int .i64 (openS b 0)].toArray) rfl zq (by kernel_rfl) (fun H' hH => f78_c _ H' (b := b) (rdm.keeps (sq hH)) hm (rdr.keeps (sq hH)) hr) ?_; rintro v rfl; refine k_put ?_; refine mq rfl ?_; refine k_ext0 rfl zq ?_; refine k_ext1 rfl zq ?_; refine k_ext2 rfl zq ?_; refine k_as rfl zq ?_; refine k_as rfl zq ?_; refine aq rfl ?_; refine run_seq ?_; refine rs13 (by kernel_rfl) ?_; refine mq rfl ?_; refine mq rfl ?_; refine k_neqF rfl zq rfl ?_; refine mq rfl ?_; refine k_mv rfl rfl ?_; refine k_mv rfl rfl ?_; refine k_neqF rfl rfl rfl ?_; refine k_pickF rfl zq ?_; refine mq rfl ?_; refine k_mv rfl rfl ?_; refine k_mv rfl rfl ?_; refine k_neqF rfl rfl rfl ?_; refine k_pickF rfl zq ?_; refine k_nil ?_; refine run_no ?_; refine run_skip ?_; refine rs10 (by kernel_rfl) ?_; refine k_ldA rfl zq ?_; refine mq rfl ?_; refine k_ldA rfl zq ?_; refine k_calC rfl zq (by kernel_rfl) (Post := fun v new => ∃ w, v = .tuple [w, .int .i64 (measS b st x)].toArray ∧ BkR B (measB b st x) new w) (fun H' hH => f79_c _ H' (b := b) (rdm.keeps (sq hH)) hm (rdr.keeps (sq hH)) hr st x) ?_
        rintro v n79 ⟨w79, rfl, pm79, nm79, cm79, pr79, nr79, cr79, rfl, en79, er79, _, _, rm79, rr79⟩; refine k_hpA (k_put ?_); refine mq rfl ?_; refine k_ext0 rfl zq ?_; refine k_ext1 rfl zq ?_; refine k_new rfl zq (fun q21 => k_hp (k_put ?_)); refine k_stA rfl zq rfl ?_; refine aq rfl ?_; refine rs10 (by kernel_rfl) ?_; refine k_ldA rfl zq ?_; refine mq rfl ?_; refine k_ldA rfl zq ?_; refine k_calC rfl zq (by kernel_rfl) (Post := fun v new => ∃ w, v = .tuple [w, .int .i64 (measS b st x)].toArray ∧ ∀ S, RdS B S 2 (.slice pm nm cm) nm (encs b.marks) → RdS B S 4 (.slice pr nr cr) nr (encs b.rules) → BkW B (measB b st x) (S ++ new) w) (fun H' hH => f80_c _ H' (b := b) (rdm.keeps (sq hH)) hm (rdr.keeps (sq hH)) hr st x) ?_; rintro v n80 ⟨w80, rfl, hw80⟩; obtain ⟨pm80, nm80, cm80, pr80, nr80, cr80, rfl, rm80, rr80⟩ := hw80 (ro h) rdm rdr
        have hma80 := rm80.elen (by decide)
        have hra80 := rr80.elen (by decide)
        have hln := meas_len (b := b) (st := st) (x := x)
        refine k_hpA (k_put ?_); refine mq rfl ?_; refine k_ext0 rfl zq ?_; refine k_ext1 rfl zq ?_; refine k_new rfl zq (fun q22 => k_hp (k_put ?_)); refine k_stA rfl zq rfl ?_; refine aq rfl ?_; refine run_seq ?_; refine rs9 (by kernel_rfl) ?_; refine k_ldA rfl zq ?_; refine k_ldA rfl zq ?_; refine k_calP (Post := fun v => IsB _ v) rfl zq (by kernel_rfl) (fun H' hH => f75_c _ H' (b := measB b st x) (b2 := measB b st x) (rm79.keeps (sq hH)) (by omega) (rr79.keeps (sq hH)) (by omega) (rm80.keeps (sq hH)) (by omega) (rr80.keeps (sq hH)) (by omega)) ?_; rintro v (⟨hc, rfl⟩ | ⟨hc, rfl⟩)
        · refine k_put ?_; refine k_notT rfl zq ?_; refine mq rfl ?_; refine k_mv rfl rfl ?_; refine k_mv rfl rfl ?_; refine k_neqF rfl rfl rfl ?_; refine k_pickF rfl zq ?_; refine k_nil ?_; refine run_no ?_; refine run_skip ?_; refine rs8 (by kernel_rfl) ?_; refine k_ldA rfl zq ?_; refine k_ldA rfl zq ?_; refine k_calC rfl zq (by kernel_rfl) (Post := fun v new => ∃ w, v = .tuple [w, .int .i64 (noteS b r)].toArray ∧ BkR B (noteB b r) new w) (fun H' hH => f81_c _ H' (b := b) (rdm.keeps (sq hH)) hm (rdr.keeps (sq hH)) hr r) ?_; rintro v n81 ⟨w81, rfl, pm81, nm81, cm81, pr81, nr81, cr81, rfl, en81, er81, _, _, rm81, rr81⟩; refine k_hpA (k_put ?_); refine mq rfl ?_; refine k_ext0 rfl zq ?_; refine k_ext1 rfl zq ?_; refine k_stA rfl zq rfl ?_; refine aq rfl ?_; refine rs8 (by kernel_rfl) ?_; refine k_ldA rfl zq ?_; refine k_ldA rfl zq ?_; refine k_calC rfl zq (by kernel_rfl) (Post := fun v new => ∃ w, v = .tuple [w, .int .i64 (noteS b r)].toArray ∧ ∀ S, RdS B S 2 (.slice pm nm cm) nm (encs b.marks) → RdS B S 4 (.slice pr nr cr) nr (encs b.rules) → BkW B (noteB b r) (S ++ new) w) (fun H' hH => f82_c _ H' (b := b) (rdm.keeps (sq hH)) hm (rdr.keeps (sq hH)) hr r) ?_; rintro v n82 ⟨w82, rfl, hw82⟩; obtain ⟨pm82, nm82, cm82, pr82, nr82, cr82, rfl, rm82, rr82⟩ := hw82 (ro h) rdm rdr
          have hma82 := rm82.elen (by decide)
          have hra82 := rr82.elen (by decide)
          have hln := note_len (b := b) (r := r)
          refine k_hpA (k_put ?_); refine mq rfl ?_; refine k_ext0 rfl zq ?_; refine k_ext1 rfl zq ?_; refine k_stA rfl zq rfl ?_; refine aq rfl ?_; refine run_seq ?_; refine rs9 (by kernel_rfl) ?_; refine k_ldA rfl zq ?_; refine k_ldA rfl zq ?_; refine k_calP (Post := fun v => IsB _ v) rfl zq (by kernel_rfl) (fun H' hH => f75_c _ H' (b := noteB b r) (b2 := noteB b r) (rm81.keeps (sq hH)) (by omega) (rr81.keeps (sq hH)) (by omega) (rm82.keeps (sq hH)) (by omega) (rr82.keeps (sq hH)) (by omega)) ?_; rintro v (⟨hc, rfl⟩ | ⟨hc, rfl⟩)
          · refine k_put ?_; refine k_notT rfl zq ?_; refine mq rfl ?_; refine k_mv rfl rfl ?_; refine k_mv rfl rfl ?_; refine k_neqF rfl rfl rfl ?_; refine k_pickF rfl zq ?_; refine k_nil ?_; refine run_no ?_; refine run_skip ?_; refine rs9 (by kernel_rfl) ?_; refine k_ldA rfl zq ?_; refine k_ldA rfl zq ?_; refine mq rfl ?_; refine k_calC rfl zq (by kernel_rfl) (Post := fun v new => ∃ w, v = .tuple [w, .int .i64 (spliceS b b2 k)].toArray ∧ BkR B (spliceB b b2 k) new w) (fun H' hH => f74_c _ H' (b := b) (b2 := b2) (rdm.keeps (sq hH)) hm hcm (rdr.keeps (sq hH)) hr (rdm2.keeps (sq hH)) hm2 (rdr2.keeps (sq hH)) hr2 k hk64) ?_; rintro v n74 ⟨w74, rfl, pm74, nm74, cm74, pr74, nr74, cr74, rfl, en74, er74, _, _, rm74, rr74⟩; refine k_hpA (k_put ?_); refine mq rfl ?_; refine k_ext0 rfl zq ?_; refine k_ext1 rfl zq ?_; refine k_stA rfl zq rfl ?_; refine aq rfl ?_; refine rs9 (by kernel_rfl) ?_; refine k_ldA rfl zq ?_; refine k_ldA rfl zq ?_; refine mq rfl ?_; refine k_calC rfl zq (by kernel_rfl) (Post := fun v new => ∃ w, v = .tuple [w, .int .i64 (spliceS b b2 k)].toArray ∧ BkW B (spliceB b b2 k) new w) (fun H' hH => f83_c _ H' (b := b) (b2 := b2) (rdm.keeps (sq hH)) hm (rdr.keeps (sq hH)) hr (rdm2.keeps (sq hH)) hm2 hcm2 (rdr2.keeps (sq hH)) hr2 k hk64) ?_; rintro v n83 ⟨w83, rfl, pm83, nm83, cm83, pr83, nr83, cr83, rfl, rm83, rr83⟩; have hma83 := rm83.elen (by decide)
            have hra83 := rr83.elen (by decide)
            have hln := splice_len (a := b) (b := b2) (k := k)
            refine k_hpA (k_put ?_); refine mq rfl ?_; refine k_ext0 rfl zq ?_; refine k_ext1 rfl zq ?_; refine k_stA rfl zq rfl ?_; refine aq rfl ?_; refine rs12 (by kernel_rfl) ?_; refine k_ldA rfl zq ?_; refine k_ldA rfl zq ?_; refine k_calP (Post := fun v => IsB _ v) rfl zq (by kernel_rfl) (fun H' hH => f75_c _ H' (b := spliceB b b2 k) (b2 := spliceB b b2 k) (rm74.keeps (sq hH)) (by omega) (rr74.keeps (sq hH)) (by omega) (rm83.keeps (sq hH)) (by omega) (rr83.keeps (sq hH)) (by omega)) ?_; rintro v (⟨hc, rfl⟩ | ⟨hc, rfl⟩)
            · refine k_put ?_; refine mq rfl ?_; refine k_mv rfl rfl ?_; refine k_mv rfl rfl ?_; refine k_eqlT rfl rfl rfl ?_; refine k_pickT rfl zq ?_; refine mq rfl ?_; refine k_cal rfl rfl (by kernel_rfl) (f20_c _) ?_; rintro v h' ⟨nF, rfl, rfl⟩; refine k_put ?_; refine k_pickT rfl zq ?_; refine aq rfl ?_; refine run_ret rfl ?_; refine run_top rfl Tryz.func16 (by kernel_rfl) rfl ?_; rfl
            · refine k_put ?_; exact absurd ⟨rfl, rfl, rfl, rfl, rfl⟩ hc
          · refine k_put ?_; exact absurd ⟨rfl, rfl, rfl, rfl, rfl⟩ hc
        · refine k_put ?_; exact absurd ⟨rfl, rfl, rfl, rfl, rfl⟩ hc
      · refine k_put ?_; exact absurd rfl hc
end Go.Proofs
namespace Go.Lo
set_option maxRecDepth 100000
section
variable {H : Type} {enc : TypeId × Value → H} {P : Program} {w : World} {base : Nat} {sp : Nat → Bool} {held : Bool}
theorem slice_open {kd : IntKind} {t e : TypeId} {k fuel : Nat} {cs : List Value} {x : DataW H × List MemPlace} (hu : P.underlying t = some (.slice e)) (hB : intsB P kd 3 e k = true) (h : DataW.trod enc P w base sp held fuel t cs = some x) (hs : ∀ a n c, cs = [.slice (some a) n c] → a.spot = none) :
    ∃ (p : Option Addr) (n c : Nat) (zs : List Int), cs = [.slice p n c] ∧ n ≤ c ∧ zs.length = n * k ∧ RdS w.heap [] k (.slice p n c) n (zs.map (Value.int kd)) ∧ ∀ z ∈ zs, (Lit.int kd z).wf = true := by
  rcases Deep.open_slice hu h with ⟨rfl, _⟩ | ⟨a, len, cap, m, n, D, Pl, rfl, hb, hl, hm, hmm, _, hx⟩
  · exact ⟨none, 0, 0, [], rfl, Nat.le_refl _, by simp, ⟨none, 0, rfl, by simp, .inl ⟨rfl, rfl⟩⟩, fun z hz => by simp at hz⟩
  · have hlm : len ≤ m := by rw [hmm]; split <;> omega
    have hc : P.cellsOf e = k := intsB_size hB
    obtain ⟨ab, ao, sx⟩ := a
    obtain rfl : sx = none := hs _ _ _ rfl
    obtain ⟨V, hV⟩ := Deep.choose_lt (α := Int) (n := len * k) (p := fun q z => w.cell? ⟨ab, ao + q, none⟩ = some (.int kd z) ∧ (Lit.int kd z).wf = true) (fun q hq => by
      have hk : 0 < k := by rcases Nat.eq_zero_or_pos k with e0 | e0; subst e0; simp at hq; exact e0
      have hi : q / k < len := Nat.div_lt_of_lt_mul (by rw [Nat.mul_comm]; exact hq)
      obtain ⟨cs', h1, h2⟩ := hx (q / k) (by omega)
      obtain ⟨_, hlen, hcell⟩ := World.cells?_some h1
      obtain ⟨_, hall⟩ := trod_cells 3 hB h2
      obtain ⟨z, hz, hw⟩ := hall (q % k) (Nat.mod_lt _ hk)
      refine ⟨z, ?_, hw⟩
      have := hcell (q % k) (by rw [hc]; exact Nat.mod_lt _ hk)
      rw [hz, Addr.add_none, Addr.add_none, hc] at this
      rw [← this]; have e := Nat.div_add_mod q k
      have e2 : q / k * k = k * (q / k) := Nat.mul_comm _ _
      congr 2; omega)
    refine ⟨some ⟨ab, ao, none⟩, len, cap, (List.range (len * k)).map V, rfl, hl, by simp, ⟨_, cap, rfl, by simp, .inr ⟨ab, ao, rfl, fun j hj => ?_⟩⟩, fun z hz => ?_⟩
    · have hj' : j < len * k := by simpa using hj
      have : (((List.range (len * k)).map V).map (Value.int kd)).getD j undef = .int kd (V j) := by
        rw [List.getD_eq_getElem?_getD, List.getElem?_map, List.getElem?_map, List.getElem?_range hj']; rfl
      rw [this]; exact rd_of_cell (hV j hj').1
    · obtain ⟨q, hq, rfl⟩ := List.mem_map.1 hz
      exact (hV q (List.mem_range.1 hq)).2
theorem spot_of {r : Reach} {b0 : Nat} {t e : TypeId} {v : Value} (hu : P.underlying t = some (.slice e)) (h : Cell.okWide P w r b0 t v) : ∀ a n c, [v] = [.slice (some a) n c] → a.spot = none := fun a n c e1 => by
  obtain rfl := List.head_eq_of_cons_eq e1
  unfold Cell.okWide at h
  rw [hu] at h
  simp only [Cell.ok, hu] at h
  exact h.2.2.2.1
end
def spsOf : List Int → List Sp
  | a :: b :: r => ⟨a, b⟩ :: spsOf r
  | _ => []
theorem spsOf_enc : ∀ (n : Nat) (zs : List Int), zs.length = n * 2 → encs (spsOf zs) = ints zs
  | 0, zs, h => by
    obtain rfl := List.length_eq_zero_iff.1 (by simpa using h)
    rfl
  | n + 1, a :: b :: r, h => by
    have := spsOf_enc n r (by simp only [List.length_cons] at h; omega)
    simp only [spsOf, encs, this]
    rfl
  | n + 1, [], h => by simp at h
  | n + 1, [a], h => by simp at h; omega
def rusOf : List Int → List Ru
  | a :: b :: c :: d :: r => ⟨a, b, c, d⟩ :: rusOf r
  | _ => []
theorem rusOf_enc : ∀ (n : Nat) (zs : List Int), zs.length = n * 4 → encs (rusOf zs) = ints zs
  | 0, zs, h => by
    obtain rfl := List.length_eq_zero_iff.1 (by simpa using h)
    rfl
  | n + 1, a :: b :: c :: d :: r, h => by
    have := rusOf_enc n r (by simp only [List.length_cons] at h; omega)
    simp only [rusOf, encs, this]
    rfl
  | n + 1, [], h => by simp at h
  | n + 1, [a], h => by simp at h; omega
  | n + 1, [a, b], h => by simp at h; omega
  | n + 1, [a, b, c], h => by simp at h; omega
end Go.Lo
namespace Go.Proofs
open Go.Lo
set_option maxRecDepth 100000
section
variable {H : Type} {enc : TypeId × Value → H} {w : World} {sp : Nat → Bool} {held : Bool}
theorem int_arg {r : Reach} {b0 : Nat} {t : TypeId} {kd : IntKind} {v : Value} {d : DataW H} {ps : List MemPlace} (ht : Tryz.prog.underlying t = some (.int kd)) (hv : Value.okWide Tryz.prog w r b0 t v) (h : DataW.Trod enc Tryz.prog w 0 sp held t v d ps) :
    ∃ n, v = .int kd n ∧ (Lit.int kd n).wf = true := by
  obtain ⟨n, e, _, _, hw⟩ := ChangeShapes.open_int ht hv h
  exact ⟨n, e, hw⟩
theorem i64_arg {r : Reach} {b0 : Nat} {v : Value} {d : DataW H} {ps : List MemPlace} (hv : Value.okWide Tryz.prog w r b0 3 v) (h : DataW.Trod enc Tryz.prog w 0 sp held 3 v d ps) : ∃ z : Int, v = .int .i64 z ∧ In64 z := by
  obtain ⟨n, e, hw⟩ := int_arg (kd := .i64) (by kernel_rfl) hv h
  refine ⟨n, e, ?_⟩
  simp [Lit.wf, IntKind.min, IntKind.max, IntKind.signed, IntKind.bits] at hw
  unfold In64; omega
theorem trodAll_cons {P : Program} {base : Nat} {t : TypeId} {ts : List TypeId} {vs : List Value} {ds : List (DataW H)} {ps : List MemPlace} (h : DataW.TrodAll enc P w base sp held (t :: ts) vs ds ps) :
    ∃ v vr d dr p q, vs = v :: vr ∧ ds = d :: dr ∧ ps = p ++ q ∧ DataW.Trod enc P w base sp held t v d p ∧ DataW.TrodAll enc P w base sp held ts vr dr q := by
  cases vs with
  | nil => cases ds <;> exact absurd h id
  | cons v vr =>
    cases ds with
    | nil => exact absurd h id
    | cons d dr =>
      obtain ⟨p, q, h1, h2, e⟩ := h
      exact ⟨v, vr, d, dr, p, q, rfl, rfl, e, h1, h2⟩
theorem trodAll_end {P : Program} {base : Nat} {vs : List Value} {ds : List (DataW H)} {ps : List MemPlace} (h : DataW.TrodAll enc P w base sp held [] vs ds ps) : vs = [] ∧ ds = [] ∧ ps = [] := by
  cases vs with
  | nil =>
    cases ds with
    | nil => exact ⟨rfl, rfl, h⟩
    | cons d dr => exact absurd h id
  | cons v vr => cases ds <;> exact absurd h id
theorem trodAll_more {P : Program} {base : Nat} {t : TypeId} {ts : List TypeId} {v : Value} {vs : List Value} {d : DataW H} {ds : List (DataW H)} {p q : List MemPlace} (h : DataW.Trod enc P w base sp held t v d p) (k : DataW.TrodAll enc P w base sp held ts vs ds q) : DataW.TrodAll enc P w base sp held (t :: ts) (v :: vs) (d :: ds) (p ++ q) := ⟨p, q, h, k, rfl⟩
theorem book_arg {r : Reach} {b0 : Nat} {v : Value} {d : DataW H} {ps : List MemPlace} (hv : Value.okWide Tryz.prog w r b0 25 v) (h : DataW.Trod enc Tryz.prog w 0 sp held 25 v d ps) :
    ∃ b pm nm cm pr nr cr, v = bkV b pm nm cm pr nr cr ∧ nm ≤ cm ∧ nr ≤ cr ∧ RdS w.heap [] 2 (.slice pm nm cm) nm (encs b.marks) ∧ RdS w.heap [] 4 (.slice pr nr cr) nr (encs b.rules) ∧ (Lit.int .i64 b.bend).wf = true ∧ (Lit.int .i64 b.twist).wf = true ∧ (Lit.int .i64 b.turns).wf = true := by
  obtain ⟨fs, hu, hfs⟩ : ∃ fs, Tryz.prog.underlying 25 = some (.struct fs) ∧ fs.toList.map (fun f => (f.offset, f.type)) = [(0, 3), (1, 3), (2, 3), (3, 22), (4, 23)] := ⟨_, Tryz.underlying25, by kernel_rfl⟩
  have hct : Tryz.prog.cellTypes Tryz.prog.depth 25 = some [3, 3, 3, 22, 23] := by kernel_rfl
  have h3 : Tryz.prog.underlying 3 = some (.int .i64) := by kernel_rfl
  have h22 : Tryz.prog.underlying 22 = some (.slice 92) := by kernel_rfl
  have h23 : Tryz.prog.underlying 23 = some (.slice 94) := by kernel_rfl
  unfold Value.okWide at hv
  rw [hu] at hv
  obtain ⟨cs, rfl, hsz, ts, hts, _, hall⟩ := hv
  rw [hct] at hts
  obtain rfl := Option.some.inj hts
  obtain ⟨fuel, h⟩ := h
  obtain ⟨xs, m, _, _, hl, hxl, hx⟩ := DataW.trod_struct hu h
  have hl5 : cs.size = 5 := hsz.trans (by kernel_rfl)
  obtain ⟨cl⟩ := cs
  have hl5' : cl.length = 5 := hl5
  obtain ⟨c0, c1, c2, c3, c4, rfl⟩ : ∃ c0 c1 c2 c3 c4, cl = [c0, c1, c2, c3, c4] := by
    match cl, hl5' with
    | [c0, c1, c2, c3, c4], _ => exact ⟨_, _, _, _, _, rfl⟩
  obtain ⟨f0, f1, f2, f3, f4, rfl⟩ : ∃ f0 f1 f2 f3 f4, fs = #[f0, f1, f2, f3, f4] := by
    obtain ⟨fl⟩ := fs
    have hlen : fl.length = 5 := by simpa using congrArg List.length hfs
    match fl, hlen with
    | [f0, f1, f2, f3, f4], _ => exact ⟨_, _, _, _, _, rfl⟩
  simp only [List.map_cons, List.map_nil, List.cons.injEq, Prod.mk.injEq, and_true] at hfs
  obtain ⟨⟨o0, t0⟩, ⟨o1, t1⟩, ⟨o2, t2⟩, ⟨o3, t3⟩, o4, t4⟩ := hfs
  have s3 : Tryz.prog.cellsOf 3 = 1 := by kernel_rfl
  have s22 : Tryz.prog.cellsOf 22 = 1 := by kernel_rfl
  have s23 : Tryz.prog.cellsOf 23 = 1 := by kernel_rfl
  have go : ∀ i, i < 5 → ∃ y, xs[i]? = some y := fun i hi => ⟨_, List.getElem?_eq_getElem (by rw [hxl]; exact hi)⟩
  obtain ⟨y0, e0⟩ := go 0 (by omega); obtain ⟨y1, e1⟩ := go 1 (by omega); obtain ⟨y2, e2⟩ := go 2 (by omega); obtain ⟨y3, e3⟩ := go 3 (by omega); obtain ⟨y4, e4⟩ := go 4 (by omega)
  have g0 := (hx 0 f0 rfl).trans e0
  have g1 := (hx 1 f1 rfl).trans e1
  have g2 := (hx 2 f2 rfl).trans e2
  have g3 := (hx 3 f3 rfl).trans e3
  have g4 := (hx 4 f4 rfl).trans e4
  rw [t0, o0, s3] at g0
  rw [t1, o1, s3] at g1
  rw [t2, o2, s3] at g2
  rw [t3, o3, s22] at g3
  rw [t4, o4, s23] at g4
  obtain ⟨n0, q0, _, w0⟩ := DataW.trod_int h3 g0
  obtain ⟨n1, q1, _, w1⟩ := DataW.trod_int h3 g1
  obtain ⟨n2, q2, _, w2⟩ := DataW.trod_int h3 g2
  obtain rfl := List.head_eq_of_cons_eq (show [c0] = [Value.int .i64 n0] from q0)
  obtain rfl := List.head_eq_of_cons_eq (show [c1] = [Value.int .i64 n1] from q1)
  obtain rfl := List.head_eq_of_cons_eq (show [c2] = [Value.int .i64 n2] from q2)
  obtain ⟨u3, hu3, k3⟩ := hall 3 c3 rfl
  obtain ⟨u4, hu4, k4⟩ := hall 4 c4 rfl
  obtain rfl : 22 = u3 := Option.some.inj hu3
  obtain rfl : 23 = u4 := Option.some.inj hu4
  obtain ⟨pm, nm, cm, zm, em, hcm, hzm, rdm, _⟩ := slice_open (cs := [c3]) h22 (by kernel_rfl : intsB Tryz.prog .i64 3 92 2 = true) g3 (spot_of h22 k3)
  obtain ⟨pr, nr, cr, zr, er, hcr, hzr, rdr, _⟩ := slice_open (cs := [c4]) h23 (by kernel_rfl : intsB Tryz.prog .i64 3 94 4 = true) g4 (spot_of h23 k4)
  obtain rfl := List.head_eq_of_cons_eq em
  obtain rfl := List.head_eq_of_cons_eq er
  exact ⟨⟨n0, n1, n2, spsOf zm, rusOf zr⟩, pm, nm, cm, pr, nr, cr, rfl, hcm, hcr, by rw [spsOf_enc _ _ hzm]; exact rdm, by rw [rusOf_enc _ _ hzr]; exact rdr, w0, w1, w2⟩
end
end Go.Proofs
namespace Go.Proofs
open Go.Lo
set_option maxRecDepth 100000
section
variable {H : Type} {enc : TypeId × Value → H} {w : World} {sp : Nat → Bool} {held : Bool}
theorem sp_arg {r : Reach} {b0 : Nat} {v : Value} {d : DataW H} {ps : List MemPlace} (hv : Value.okWide Tryz.prog w r b0 92 v) (h : DataW.Trod enc Tryz.prog w 0 sp held 92 v d ps) :
    ∃ x : Sp, v = spV x := by
  obtain ⟨fs, hu, hfs⟩ : ∃ fs, Tryz.prog.underlying 92 = some (.struct fs) ∧ fs.toList.map (fun f => (f.offset, f.type)) = [(0, 3), (1, 3)] := ⟨_, Tryz.underlying92, by kernel_rfl⟩
  have h3 : Tryz.prog.underlying 3 = some (.int .i64) := by kernel_rfl
  unfold Value.okWide at hv
  rw [hu] at hv
  obtain ⟨cs, rfl, hsz, _⟩ := hv
  obtain ⟨fuel, h⟩ := h
  obtain ⟨xs, m, _, _, hl, hxl, hx⟩ := DataW.trod_struct hu h
  have hl2 : cs.size = 2 := hsz.trans (by kernel_rfl)
  obtain ⟨cl⟩ := cs
  obtain ⟨c0, c1, rfl⟩ : ∃ c0 c1, cl = [c0, c1] := by
    match cl, (show cl.length = 2 from hl2) with
    | [c0, c1], _ => exact ⟨_, _, rfl⟩
  obtain ⟨f0, f1, rfl⟩ : ∃ f0 f1, fs = #[f0, f1] := by
    obtain ⟨fl⟩ := fs
    have hlen : fl.length = 2 := by simpa using congrArg List.length hfs
    match fl, hlen with
    | [f0, f1], _ => exact ⟨_, _, rfl⟩
  simp only [List.map_cons, List.map_nil, List.cons.injEq, Prod.mk.injEq, and_true] at hfs
  obtain ⟨⟨o0, t0⟩, o1, t1⟩ := hfs
  have s3 : Tryz.prog.cellsOf 3 = 1 := by kernel_rfl
  have go : ∀ i, i < 2 → ∃ y, xs[i]? = some y := fun i hi => ⟨_, List.getElem?_eq_getElem (by rw [hxl]; exact hi)⟩
  obtain ⟨y0, e0⟩ := go 0 (by omega); obtain ⟨y1, e1⟩ := go 1 (by omega)
  have g0 := (hx 0 f0 rfl).trans e0
  have g1 := (hx 1 f1 rfl).trans e1
  rw [t0, o0, s3] at g0
  rw [t1, o1, s3] at g1
  obtain ⟨n0, q0, _, w0⟩ := DataW.trod_int h3 g0
  obtain ⟨n1, q1, _, w1⟩ := DataW.trod_int h3 g1
  obtain rfl := List.head_eq_of_cons_eq (show [c0] = [Value.int .i64 n0] from q0)
  obtain rfl := List.head_eq_of_cons_eq (show [c1] = [Value.int .i64 n1] from q1)
  exact ⟨⟨n0, n1⟩, rfl⟩
theorem ru_arg {r : Reach} {b0 : Nat} {v : Value} {d : DataW H} {ps : List MemPlace} (hv : Value.okWide Tryz.prog w r b0 94 v) (h : DataW.Trod enc Tryz.prog w 0 sp held 94 v d ps) :
    ∃ x : Ru, v = ruV x := by
  obtain ⟨fs, hu, hfs⟩ : ∃ fs, Tryz.prog.underlying 94 = some (.struct fs) ∧ fs.toList.map (fun f => (f.offset, f.type)) = [(0, 3), (1, 3), (2, 92)] := ⟨_, Tryz.underlying94, by kernel_rfl⟩
  obtain ⟨gs, hu2, hgs⟩ : ∃ fs, Tryz.prog.underlying 92 = some (.struct fs) ∧ fs.toList.map (fun f => (f.offset, f.type)) = [(0, 3), (1, 3)] := ⟨_, Tryz.underlying92, by kernel_rfl⟩
  have h3 : Tryz.prog.underlying 3 = some (.int .i64) := by kernel_rfl
  unfold Value.okWide at hv
  rw [hu] at hv
  obtain ⟨cs, rfl, hsz, _⟩ := hv
  obtain ⟨fuel, h⟩ := h
  obtain ⟨xs, m, _, _, hl, hxl, hx⟩ := DataW.trod_struct hu h
  have hl2 : cs.size = 4 := hsz.trans (by kernel_rfl)
  obtain ⟨cl⟩ := cs
  obtain ⟨c0, c1, c2, c3, rfl⟩ : ∃ c0 c1 c2 c3, cl = [c0, c1, c2, c3] := by
    match cl, (show cl.length = 4 from hl2) with
    | [c0, c1, c2, c3], _ => exact ⟨_, _, _, _, rfl⟩
  obtain ⟨f0, f1, f2, rfl⟩ : ∃ f0 f1 f2, fs = #[f0, f1, f2] := by
    obtain ⟨fl⟩ := fs
    have hlen : fl.length = 3 := by simpa using congrArg List.length hfs
    match fl, hlen with
    | [f0, f1, f2], _ => exact ⟨_, _, _, rfl⟩
  obtain ⟨f3, f4, rfl⟩ : ∃ f0 f1, gs = #[f0, f1] := by
    obtain ⟨fl⟩ := gs
    have hlen : fl.length = 2 := by simpa using congrArg List.length hgs
    match fl, hlen with
    | [f0, f1], _ => exact ⟨_, _, rfl⟩
  simp only [List.map_cons, List.map_nil, List.cons.injEq, Prod.mk.injEq, and_true] at hfs hgs
  obtain ⟨⟨o0, t0⟩, ⟨o1, t1⟩, o2, t2⟩ := hfs
  obtain ⟨⟨o3, t3⟩, o4, t4⟩ := hgs
  have s3 : Tryz.prog.cellsOf 3 = 1 := by kernel_rfl
  have s92 : Tryz.prog.cellsOf 92 = 2 := by kernel_rfl
  have go : ∀ i, i < 3 → ∃ y, xs[i]? = some y := fun i hi => ⟨_, List.getElem?_eq_getElem (by rw [hxl]; exact hi)⟩
  obtain ⟨y0, e0⟩ := go 0 (by omega); obtain ⟨y1, e1⟩ := go 1 (by omega); obtain ⟨y2, e2⟩ := go 2 (by omega)
  have g0 := (hx 0 f0 rfl).trans e0
  have g1 := (hx 1 f1 rfl).trans e1
  have g2 := (hx 2 f2 rfl).trans e2
  rw [t0, o0, s3] at g0
  rw [t1, o1, s3] at g1
  rw [t2, o2, s92] at g2
  obtain ⟨n0, q0, _, w0⟩ := DataW.trod_int h3 g0
  obtain ⟨n1, q1, _, w1⟩ := DataW.trod_int h3 g1
  obtain ⟨ys, m2, _, _, hl3, hyl, hy⟩ := DataW.trod_struct hu2 g2
  have go2 : ∀ i, i < 2 → ∃ y, ys[i]? = some y := fun i hi => ⟨_, List.getElem?_eq_getElem (by rw [hyl]; exact hi)⟩
  obtain ⟨y3, e3⟩ := go2 0 (by omega); obtain ⟨y4, e4⟩ := go2 1 (by omega)
  have g3 := (hy 0 f3 rfl).trans e3
  have g4 := (hy 1 f4 rfl).trans e4
  rw [t3, o3, s3] at g3
  rw [t4, o4, s3] at g4
  obtain ⟨n3, q3, _, w3⟩ := DataW.trod_int h3 g3
  obtain ⟨n4, q4, _, w4⟩ := DataW.trod_int h3 g4
  obtain rfl := List.head_eq_of_cons_eq (show [c0] = [Value.int .i64 n0] from q0)
  obtain rfl := List.head_eq_of_cons_eq (show [c1] = [Value.int .i64 n1] from q1)
  obtain rfl := List.head_eq_of_cons_eq (show [c2] = [Value.int .i64 n3] from q3)
  obtain rfl := List.head_eq_of_cons_eq (show [c3] = [Value.int .i64 n4] from q4)
  exact ⟨⟨n0, n1, n3, n4⟩, rfl⟩
end
end Go.Proofs
namespace Go.Proofs.YtlbkicemccikgaaGreatDoor
open Go Go.Lo Go.ChangeShapes Go.WideShapes Go.ChangeAt Go.RowKit Go.Conc
set_option maxRecDepth 100000
theorem tied_goes_at (Lk : Looks) {p : Pinned} {s : OpenSpec} {k : StoodClaim8} {ks : List StandKind} (kinds : List LaidKind) (tests : Bool) (h : Claim7.holdsNew p (.plain s) { stood := k, kinds := ks }) (hw : k.row.wfByText s = true) :
    Claim7.holdsNew p (.plain s) { stood := k, kinds := ks, goes := true, laidByText := true, laidKinds := kinds, laidTests := tests, laidLooks := Lk } := by
  obtain ⟨_, rest⟩ := h
  exact ⟨hw, rest⟩
theorem card_of (Lk : Looks) {p : Pinned} {s : OpenSpec} {c : OpenClaim} (kinds : List LaidKind) (tests : Bool) (har : Bool × String) (lk : Bool)
    (hc : c.holds p s) (hw : c.wfByText s = true) (htie : c.laidByTextAt Lk p kinds tests)
    (hst : c.start = .entering) (hnb : c.noBlocks = false ∧ c.again = false) (hm : p.checked.prog.mainIs = some (har.1, har.2.toList)) (hn : (!har.1 && har.2.isEmpty && !lk) = false)
    (hl : ∀ f fn, p.checked.prog.funcNamed c.func = some f → p.checked.prog.funcs[f]? = some fn → lk = p.checked.prog.looks [] ∧ ∀ (j : Nat) t, fn.params[j]? = some t → p.checked.prog.wantsStandIn t = false)
    (hg : true = c.goesBy p.checked.prog) :
    Claim7.holds p (.plain s) { stood := { row := c, standIns := [], harness := har, looks := lk }, kinds := [], alts := [], goes := true, laidByText := true, laidKinds := kinds, laidTests := tests, laidLooks := Lk } := by
  have h6 : ∀ r : OpenClaim, Claim7.isSixth { stood := { row := r, standIns := [], harness := har, looks := lk }, kinds := [] } = false := fun r => by simpa [Claim7.isSixth] using hn
  exact ⟨tied_goes_at Lk kinds tests (Claim7.new_of_sixth hc har lk hst hnb hm (h6 c) hl) hw, (fun D hD => by cases hD), htie, (fun h => by cases h), hg⟩
theorem own : ownKnob Tryz.prog.godebug = none := by kernel_rfl
theorem laidOut : laidOutB Tryz.prog = true := by kernel_rfl
theorem laidOutP : laidOutB Tryz.pinned.checked.prog = true := laidOut
def laidL : List (String × DataW Unit) := [("ribband/batten.checks", Rows.laid_ribband_batten_checks)]
theorem door_met (os : Os) (args : Array Value) : laidMetH Tryz.prog laidL ((World.doorLaid Tryz.prog 14 os).forCall (fun _ _ => 0) ⟨#[], args, []⟩).memory :=
  laidMetH_of_parts3 (fuel := 8) (laidMet_nil _ _) (by kernel_rfl) (by kernel_rfl)
theorem laid_of {W : World} (h : laidMetH Tryz.prog laidL W) : Laid W.heap := by
  obtain ⟨g, t, cs, fuel, p, hg, ht, hv, hd⟩ := h.funcs (n := "ribband/batten.checks") (List.mem_cons_self ..)
  obtain rfl := Option.some.inj ((show Tryz.prog.globalNamed "ribband/batten.checks" = some 0 by kernel_rfl).symm.trans hg)
  obtain rfl := Option.some.inj ((show (Tryz.prog.globals[0]?).map (·.type) = some 107 by kernel_rfl).symm.trans ht)
  have hu : Tryz.prog.underlying 107 = some (.array 3 106) := by kernel_rfl
  have hc1 : Tryz.prog.cellsOf 106 = 1 := by kernel_rfl
  obtain ⟨ps, rs, va, h106⟩ : ∃ ps rs va, Tryz.prog.underlying 106 = some (.func ps rs va) := ⟨_, _, _, Tryz.underlying106⟩
  obtain ⟨xs, m, _, ex, hl, hxl, hx⟩ := DataW.trod_array hu hd
  have hl3 : cs.toList.length = 3 := hl.trans (by kernel_rfl)
  obtain ⟨cl⟩ := cs
  obtain ⟨c0, c1, c2, rfl⟩ : ∃ c0 c1 c2, cl = [c0, c1, c2] := by
    match cl, hl3 with
    | [c0, c1, c2], _ => exact ⟨_, _, _, rfl⟩
  obtain ⟨y0, y1, y2, rfl⟩ : ∃ y0 y1 y2, xs = [y0, y1, y2] := by
    match xs, hxl with
    | [y0, y1, y2], _ => exact ⟨_, _, _, rfl⟩
  have e2 : ∃ a b c : List UInt8, (Rows.laid_ribband_batten_checks : DataW Unit) = .iface "func table" (.agg [.iface "func" (.lit (.string a)), .iface "func" (.lit (.string b)), .iface "func" (.lit (.string c))]) ∧
      ((List.range Tryz.prog.funcs.size).filter fun f => (Tryz.prog.funcs[f]?).any (·.name.toUTF8.data.toList == a)) = [199] ∧ ((List.range Tryz.prog.funcs.size).filter fun f => (Tryz.prog.funcs[f]?).any (·.name.toUTF8.data.toList == b)) = [200] ∧
      ((List.range Tryz.prog.funcs.size).filter fun f => (Tryz.prog.funcs[f]?).any (·.name.toUTF8.data.toList == c)) = [201] ∧ a ≠ [] ∧ b ≠ [] ∧ c ≠ [] ∧
      [y0.1, y1.1, y2.1] = [.held a, .held b, .held c] := by
    refine ⟨_, _, _, rfl, by kernel_rfl, by kernel_rfl, by kernel_rfl, by simp, by simp, by simp, ?_⟩
    have := congrArg Prod.fst ex
    simp only [DataW.funcsOut] at this
    injection this with this
    exact this.symm
  obtain ⟨a, b, c, _, fa, fb, fc, na, nb, nc, e3⟩ := e2
  simp only [List.cons.injEq, and_true] at e3
  obtain ⟨z0, z1, z2⟩ := e3
  have g0 := hx 0 (by omega)
  have g1 := hx 1 (by omega)
  have g2 := hx 2 (by omega)
  rw [hc1] at g0 g1 g2
  have key : ∀ (v : Value) (y : DataW (List UInt8) × List MemPlace) (l : List UInt8) (f0 : FuncId), DataW.trod (funcToken Tryz.prog) Tryz.prog W 0 (fun _ => true) true m 106 [v] = some y → y.1 = .held l → l ≠ [] → ((List.range Tryz.prog.funcs.size).filter fun f => (Tryz.prog.funcs[f]?).any (·.name.toUTF8.data.toList == l)) = [f0] → v = .func (.func f0) #[] #[] := by
    intro v y l f0 h1 h2 h3 h4
    obtain ⟨y1, y2⟩ := y
    obtain rfl : y1 = .held l := h2
    cases l with
    | nil => exact absurd rfl h3
    | cons b0 r0 => exact func_of_trod h106 h4 h1
  obtain rfl := key c0 y0 a 199 g0 z0 na fa
  obtain rfl := key c1 y1 b 200 g1 z1 nb fb
  obtain rfl := key c2 y2 c 201 g2 z2 nc fc
  unfold World.var? at hv
  rw [hg] at hv
  simp only [Option.bind_some] at hv
  split at hv
  · rename_i cs t f hb
    obtain rfl := Option.some.inj hv
    exact ⟨t, f, hb⟩
  · cases hv
end Go.Proofs.YtlbkicemccikgaaGreatDoor
