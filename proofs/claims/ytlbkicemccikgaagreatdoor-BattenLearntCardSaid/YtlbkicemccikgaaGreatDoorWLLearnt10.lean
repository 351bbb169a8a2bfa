/- A part of the proof of a law: my own separation logic over the machine, and walks of the program. Condition of each theorem: as its statement says. -/
import Derived.Test.YtlbkicemccikgaaGreatDoorWLLearnt9
import Derived.SevenTiedAt
import Derived.LaidOnce
import Derived.Test.YtlbkicemccikgaaGreatDoorCards
import Derived.Test.YtlbkicemccikgaaGreatDoorTie
set_option linter.all false
namespace Go.Proofs
open Go.Lo
open Go.Conc (G)
set_option maxRecDepth 100000
set_option synthInstance.maxSize 100000
set_option synthInstance.maxHeartbeats 1000000
set_option maxHeartbeats 4000000
variable {B : Array Obj}
variable [Laid B]
theorem pw_sub {α : Type} {R : α → α → Prop} (irr : ∀ a, ¬ R a a) (asym : ∀ a b, R a b → ¬ R b a) : ∀ {ys xs : List α}, xs.Pairwise R → ys.Pairwise R → (∀ z ∈ xs, z ∈ ys) → xs.Sublist ys
  | [], xs, _, _, h => by
    have : xs = [] := List.eq_nil_iff_forall_not_mem.2 fun z hz => by have := h z hz; simp at this
    subst this; exact List.Sublist.refl _
  | y :: ys, xs, ax, ay, h => by
    have ay' := List.pairwise_cons.1 ay
    cases xs with
    | nil => exact List.nil_sublist _
    | cons x xs =>
      have ax' := List.pairwise_cons.1 ax
      rcases List.mem_cons.1 (h x (List.mem_cons_self ..)) with e | e
      · subst e
        refine (pw_sub irr asym (ys := ys) ax'.2 ay'.2 fun z hz => ?_).cons_cons x
        rcases List.mem_cons.1 (h z (List.mem_cons_of_mem _ hz)) with e | e
        · subst e; exact absurd (ax'.1 z hz) (irr z)
        · exact e
      · refine (pw_sub irr asym (ys := ys) ax ay'.2 fun z hz => ?_).cons y
        rcases List.mem_cons.1 (h z hz) with e2 | e2
        · have h1 := ay'.1 x e
          rcases List.mem_cons.1 hz with e3 | e3
          · subst e3; subst e2; exact absurd h1 (irr z)
          · have h2 := ax'.1 z e3
            subst e2; exact absurd h1 (asym _ _ h2)
        · exact e2
theorem boats_sub {b c : Bk} (h : ∀ l ∈ boatsOf c, l ∈ boatsOf b) : (boatsOf c).Sublist (boatsOf b) :=
  pw_sub (R := fun a b => before a b = true) (fun a e => by rw [before_irrefl] at e; cases e) (fun a b e f => by rw [before_asym _ _ e] at f; cases f) (boats_sorted c) (boats_sorted b) h
theorem meas_zero {b : Bk} (h0 : bookS b = 0) {st : Nat} (hst : st < b.marks.length) {x : Sp} (hS : measS b (st : Int) x = 0) :
    measB b (st : Int) x = setB b st (meetSp (b.marks.getD st default) x) ∧ bookS (setB b st (meetSp (b.marks.getD st default) x)) = 0 ∧ (boatsOf (setB b st (meetSp (b.marks.getD st default) x))).Sublist (boatsOf b) := by
  have e0 : measS0 b (st : Int) x = 0 := Classical.byContradiction fun e => by rw [measS, if_pos e] at hS; exact e hS
  have eA : agreeS (measB0 b (st : Int) x) = 0 := by rw [measS, if_neg (fun e => e e0)] at hS; exact hS
  have eB0 : measB0 b (st : Int) x = setB b st (meetSp (b.marks.getD st default) x) := by rw [measB0, Int.toNat_natCast]
  have eB : measB b (st : Int) x = setB b st (meetSp (b.marks.getD st default) x) := by
    rw [measB, if_neg (fun e => e e0), agreeB, if_pos (show openS _ 0 = 0 from eA), eB0]
  have hk := (valid_of h0).marks _ (mem_getDR.2 ⟨st, hst, rfl⟩)
  unfold okM at hk
  have hmeet : max (b.marks.getD st default).lo x.lo ≤ min (b.marks.getD st default).hi x.hi := by
    rw [measS0, if_neg (fun e => e h0), if_neg (fun e => e (by omega))] at e0
    split at e0
    · omega
    · rw [Int.toNat_natCast] at e0
      split at e0
      · omega
      · omega
  obtain ⟨f1, f2⟩ := setX_facts h0 hst (x := meetSp (b.marks.getD st default) x) (by unfold meetSp; simp only; omega)
  exact ⟨eB, f1, boats_sub fun l hl => ((f2 l).1 hl).1⟩
theorem meas_not {b : Bk} {st : Int} {x : Sp} (hS : measS b st x ≠ 0) : measB b st x = noBk := by
  unfold measS at hS
  unfold measB
  split at hS
  · rename_i h; rw [if_pos h]
  · rename_i h; rw [if_neg h, agreeB, if_neg (show ¬ openS _ 0 = 0 from hS)]
theorem note_zero {b : Bk} (h0 : bookS b = 0) {r : Ru} (hS : noteS b r = 0) : noteB b r = moreB b r ∧ bookS (moreB b r) = 0 ∧ (boatsOf (moreB b r)).Sublist (boatsOf b) := by
  rw [noteS, if_neg (fun e => e h0), agreeS] at hS
  obtain ⟨f1, _, _⟩ := openS_zero hS
  refine ⟨by rw [noteB, if_neg (fun e => e h0), agreeB, if_pos hS], f1, boats_sub fun l hl => ?_⟩
  exact onlyI_boats (b := moreB b r) (c := b) f1 (fun r hr => List.mem_append_left _ hr) rfl ⟨rfl, rfl, rfl⟩ hl
theorem note_not {b : Bk} {r : Ru} (hS : noteS b r ≠ 0) : noteB b r = noBk := by
  unfold noteS at hS
  unfold noteB
  split at hS
  · rename_i h; rw [if_pos h]
  · rename_i h; rw [if_neg h, agreeB, if_neg (show ¬ openS _ 0 = 0 from hS)]
theorem f87_c (m : Md Tryz.prog B) (h : Hp) {b : Bk} {pm : Option Addr} {nm cm : Nat} {pr : Option Addr} {nr cr : Nat} (rdr : RdS B h 4 (.slice pr nr cr) nr (encs b.rules)) (hr : nr ≤ 1000) (r : Ru) : FnC m 87 #[bkV b pm nm cm pr nr cr, ruV r] h fun v h' => ∃ new, h' = h ++ new ∧ ∃ rp rc, v = bkV (moreB b r) pm nm cm rp (nr + 1) rc ∧ RdS B new 4 (.slice rp (nr + 1) rc) (nr + 1) (encs (moreB b r).rules) := by
  have hrl := rdr.elen (by decide)
  refine fn_enter Tryz.func87 rfl rfl (l := (bkV b pm nm cm pr nr cr) :: (ruV r) :: uu14) rfl ?_
  intro cf cs K hK
  refine rs3 (by kernel_rfl) ?_; refine k_box rfl zq (fun q2 => k_hp (k_put ?_)); refine k_box rfl zq (fun q3 => k_hp (k_put ?_)); refine k_new rfl zq (fun q4 => k_hp (k_put ?_)); refine k_nil ?_; refine rs3 (by kernel_rfl) ?_; refine k_ldA rfl zq ?_; refine k_new rfl zq (fun q5 => k_hp (k_put ?_)); refine k_stA rfl zq rfl ?_; refine k_nil ?_; refine run_seq ?_; refine run_drawT [0, 1, 2, 3, 4, 5, 6, 7, 8] (by kernel_rfl) (by kernel_rfl) (List.Sublist.refl _) ?_; refine DrawT.split 3 5 (by decide) ?_ ?_
  · refine DrawT.leaf [(1, .pure), (2, .read), (4, .read), (0, .keep), (3, .keep), (5, .keep), (6, .free), (7, .pure), (8, .free)] (by kernel_rfl) ?_
    first | refine k_fa0 rfl zq ?_ | refine k_fa rfl zq ?_
    refine k_ldh rfl zq ?_; refine k_ldA rfl zq ?_; refine k_bs0 kdq rfl zq (fun q7 => k_hp (k_put ?_)); refine k_app (F := h ++ [⟨true, q2, .cells (bkL b pm nm cm pr nr cr).toArray 25 (0, 0)⟩, ⟨true, q3, .cells (ruL r).toArray 94 (0, 0)⟩, ⟨true, q4, .cells ([.int .i64 0, .int .i64 0, .int .i64 0, .slice none 0 0, .slice none 0 0] : List Value).toArray 25 (0, 0)⟩, ⟨true, q5, .cells ([.int .i64 b.bend, .int .i64 b.twist, .int .i64 b.turns, .slice pm nm cm, .slice pr nr cr] : List Value).toArray 25 (0, 0)⟩]) rfl zq (Weak.sub (by simp)) OwnS.zero rdr.up (encs_one _) kdq (by omega) (by omega) (fun w9 n9 o9 => k_put ?_); replace o9 : OwnS 94 4 w9 nr (encs b.rules) n9 := by simpa using o9
    refine k_bs kdq rfl zq (by decide) (by decide) rfl (fun q12 => k_hp (k_put ?_)); refine k_app1 (F := h ++ [⟨true, q2, .cells (bkL b pm nm cm pr nr cr).toArray 25 (0, 0)⟩, ⟨true, q3, .cells (ruL r).toArray 94 (0, 0)⟩, ⟨true, q4, .cells ([.int .i64 0, .int .i64 0, .int .i64 0, .slice none 0 0, .slice none 0 0] : List Value).toArray 25 (0, 0)⟩, ⟨true, q5, .cells ([.int .i64 b.bend, .int .i64 b.twist, .int .i64 b.turns, .slice pm nm cm, .slice pr nr cr] : List Value).toArray 25 (0, 0)⟩]) rfl zq rfl o9 kdq (by omega) (by omega) (fun w8 n8 o8 => k_put ?_); replace o8 : OwnS 94 4 w8 (nr + 1) (encs (moreB b r).rules) n8 := by rw [show encs (moreB b r).rules = encs b.rules ++ ruL r by rw [moreB, encs_append, encs_ruL]]; exact o8
    obtain ⟨p8, c8, rfl, hc8, r8⟩ := own_rdA (B := B) o8
    first | refine k_fa0 rfl zq ?_ | refine k_fa rfl zq ?_
    refine k_st1 rfl zq ?_; refine k_nil ?_; refine rs2 (by kernel_rfl) ?_; refine k_ldA rfl zq ?_; refine k_stA rfl zq rfl ?_; refine k_nil ?_; refine run_ret rfl ?_; refine run_res (h ++ n8) rfl Tryz.func87 rfl weakSub ?_; refine hK _ _ ?_
    exact ⟨n8, rfl, p8, c8, rfl, r8⟩
  · refine DrawT.split 0 5 (by decide) ?_ ?_
    · refine DrawT.leaf [(1, .pure), (2, .read), (4, .read), (0, .keep), (5, .keep), (3, .keep), (6, .free), (7, .pure), (8, .free)] (by kernel_rfl) ?_
      first | refine k_fa0 rfl zq ?_ | refine k_fa rfl zq ?_
      refine k_ldh rfl zq ?_; refine k_ldA rfl zq ?_; refine k_bs0 kdq rfl zq (fun q7 => k_hp (k_put ?_)); refine k_bs kdq rfl zq (by decide) (by decide) rfl (fun q12 => k_hp (k_put ?_)); refine k_app (F := h ++ [⟨true, q2, .cells (bkL b pm nm cm pr nr cr).toArray 25 (0, 0)⟩, ⟨true, q3, .cells (ruL r).toArray 94 (0, 0)⟩, ⟨true, q4, .cells ([.int .i64 0, .int .i64 0, .int .i64 0, .slice none 0 0, .slice none 0 0] : List Value).toArray 25 (0, 0)⟩, ⟨true, q5, .cells ([.int .i64 b.bend, .int .i64 b.twist, .int .i64 b.turns, .slice pm nm cm, .slice pr nr cr] : List Value).toArray 25 (0, 0)⟩] ++ [⟨true, q12, .cells (ruL r).toArray 94 (0, 0)⟩]) rfl zq (by have := Weak.mid (B := B) (h ++ [⟨true, q2, .cells (bkL b pm nm cm pr nr cr).toArray 25 (0, 0)⟩, ⟨true, q3, .cells (ruL r).toArray 94 (0, 0)⟩, ⟨true, q4, .cells ([.int .i64 0, .int .i64 0, .int .i64 0, .slice none 0 0, .slice none 0 0] : List Value).toArray 25 (0, 0)⟩, ⟨true, q5, .cells ([.int .i64 b.bend, .int .i64 b.twist, .int .i64 b.turns, .slice pm nm cm, .slice pr nr cr] : List Value).toArray 25 (0, 0)⟩]) [⟨true, q7, .cells #[] 94 (0, 0)⟩] [⟨true, q12, .cells (ruL r).toArray 94 (0, 0)⟩]; simpa only [List.append_assoc, List.cons_append, List.nil_append] using this) OwnS.zero rdr.up (encs_one _) kdq (by omega) (by omega) (fun w9 n9 o9 => k_put ?_); replace o9 : OwnS 94 4 w9 nr (encs b.rules) n9 := by simpa using o9
      refine k_app1 (F := h ++ [⟨true, q2, .cells (bkL b pm nm cm pr nr cr).toArray 25 (0, 0)⟩, ⟨true, q3, .cells (ruL r).toArray 94 (0, 0)⟩, ⟨true, q4, .cells ([.int .i64 0, .int .i64 0, .int .i64 0, .slice none 0 0, .slice none 0 0] : List Value).toArray 25 (0, 0)⟩, ⟨true, q5, .cells ([.int .i64 b.bend, .int .i64 b.twist, .int .i64 b.turns, .slice pm nm cm, .slice pr nr cr] : List Value).toArray 25 (0, 0)⟩]) rfl zq rfl o9 kdq (by omega) (by omega) (fun w8 n8 o8 => k_put ?_); replace o8 : OwnS 94 4 w8 (nr + 1) (encs (moreB b r).rules) n8 := by rw [show encs (moreB b r).rules = encs b.rules ++ ruL r by rw [moreB, encs_append, encs_ruL]]; exact o8
      obtain ⟨p8, c8, rfl, hc8, r8⟩ := own_rdA (B := B) o8
      first | refine k_fa0 rfl zq ?_ | refine k_fa rfl zq ?_
      refine k_st1 rfl zq ?_; refine k_nil ?_; refine rs2 (by kernel_rfl) ?_; refine k_ldA rfl zq ?_; refine k_stA rfl zq rfl ?_; refine k_nil ?_; refine run_ret rfl ?_; refine run_res (h ++ n8) rfl Tryz.func87 rfl weakSub ?_; refine hK _ _ ?_
      exact ⟨n8, rfl, p8, c8, rfl, r8⟩
    · refine DrawT.leaf [(1, .pure), (2, .read), (4, .read), (5, .keep), (0, .keep), (3, .keep), (6, .free), (7, .pure), (8, .free)] (by kernel_rfl) ?_
      first | refine k_fa0 rfl zq ?_ | refine k_fa rfl zq ?_
      refine k_ldh rfl zq ?_; refine k_ldA rfl zq ?_; refine k_bs kdq rfl zq (by decide) (by decide) rfl (fun q12 => k_hp (k_put ?_)); refine k_bs0 kdq rfl zq (fun q7 => k_hp (k_put ?_)); refine k_app (F := h ++ [⟨true, q2, .cells (bkL b pm nm cm pr nr cr).toArray 25 (0, 0)⟩, ⟨true, q3, .cells (ruL r).toArray 94 (0, 0)⟩, ⟨true, q4, .cells ([.int .i64 0, .int .i64 0, .int .i64 0, .slice none 0 0, .slice none 0 0] : List Value).toArray 25 (0, 0)⟩, ⟨true, q5, .cells ([.int .i64 b.bend, .int .i64 b.twist, .int .i64 b.turns, .slice pm nm cm, .slice pr nr cr] : List Value).toArray 25 (0, 0)⟩] ++ [⟨true, q12, .cells (ruL r).toArray 94 (0, 0)⟩]) rfl zq (Weak.sub (by simp)) OwnS.zero rdr.up (encs_one _) kdq (by omega) (by omega) (fun w9 n9 o9 => k_put ?_); replace o9 : OwnS 94 4 w9 nr (encs b.rules) n9 := by simpa using o9
      refine k_app1 (F := h ++ [⟨true, q2, .cells (bkL b pm nm cm pr nr cr).toArray 25 (0, 0)⟩, ⟨true, q3, .cells (ruL r).toArray 94 (0, 0)⟩, ⟨true, q4, .cells ([.int .i64 0, .int .i64 0, .int .i64 0, .slice none 0 0, .slice none 0 0] : List Value).toArray 25 (0, 0)⟩, ⟨true, q5, .cells ([.int .i64 b.bend, .int .i64 b.twist, .int .i64 b.turns, .slice pm nm cm, .slice pr nr cr] : List Value).toArray 25 (0, 0)⟩]) rfl zq rfl o9 kdq (by omega) (by omega) (fun w8 n8 o8 => k_put ?_); replace o8 : OwnS 94 4 w8 (nr + 1) (encs (moreB b r).rules) n8 := by rw [show encs (moreB b r).rules = encs b.rules ++ ruL r by rw [moreB, encs_append, encs_ruL]]; exact o8
      obtain ⟨p8, c8, rfl, hc8, r8⟩ := own_rdA (B := B) o8
      first | refine k_fa0 rfl zq ?_ | refine k_fa rfl zq ?_
      refine k_st1 rfl zq ?_; refine k_nil ?_; refine rs2 (by kernel_rfl) ?_; refine k_ldA rfl zq ?_; refine k_stA rfl zq rfl ?_; refine k_nil ?_; refine run_ret rfl ?_; refine run_res (h ++ n8) rfl Tryz.func87 rfl weakSub ?_; refine hK _ _ ?_
      exact ⟨n8, rfl, p8, c8, rfl, r8⟩
theorem f18_t (h : Hp) {b : Bk} {pm : Option Addr} {nm cm : Nat} {pr : Option Addr} {nr cr : Nat} (rdm : RdS B h 2 (.slice pm nm cm) nm (encs b.marks)) (rdr : RdS B h 4 (.slice pr nr cr) nr (encs b.rules)) {u y : Nat} (hu : u ≤ 255) (hy : y ≤ 255) (x : Sp) (r : Ru) : (Md.star Tryz.prog B).R (AtEnd Tryz.prog B fun v _ => v = .bool true) (G (Frame.enter Tryz.prog 18 #[bkV b pm nm cm pr nr cr, .int .u8 (u : Int), .int .u8 (y : Int), spV x, ruV r] .normal) []) h := by
  refine top_enter Tryz.func18 rfl rfl (l := (bkV b pm nm cm pr nr cr) :: (.int .u8 (u : Int)) :: (.int .u8 (y : Int)) :: (spV x) :: (ruV r) :: uu95) rfl ?_
  refine rs4 (by kernel_rfl) ?_; refine k_box rfl zq (fun q5 => k_hp (k_put ?_)); refine k_box rfl zq (fun q8 => k_hp (k_put ?_)); refine k_box rfl zq (fun q9 => k_hp (k_put ?_)); refine aq rfl ?_; refine run_seq ?_; refine rs3 (by kernel_rfl) ?_; refine k_ldA rfl zq ?_; refine k_calP (Post := fun v => IsB _ v) rfl zq (by kernel_rfl) (fun H' hH => f48_c _ H' (rdm.keeps (sq hH)) (rdr.keeps (sq hH))) ?_; rintro v (⟨hc, rfl⟩ | ⟨hc, rfl⟩)
  · refine k_put ?_; refine k_notT rfl zq ?_; refine k_nil ?_; refine run_no ?_; refine run_skip ?_; refine run_seq ?_; obtain ⟨hm20, hr20, hb0⟩ : nm ≤ 20 ∧ nr ≤ 20 ∧ bookS b = 0 := by assumption
    have hm : nm ≤ 1000 := by omega
    have hr : nr ≤ 1000 := by omega
    have hml := rdm.elen (by decide)
    have hv := valid_of hb0
    have hbl := boats_le hv
    have hmany := hv.many
    have hrl := rdr.elen (by decide)
    obtain ⟨mb, mo, rfl⟩ := rdm.ptr (by omega)
    refine run_draw [(0, .pure), (1, .pure), (2, .pure), (6, .pure), (7, .pure), (8, .pure), (3, .read), (4, .pure), (5, .pure), (12, .pure), (9, .read), (10, .pure), (11, .pure), (13, .pure)] (by kernel_rfl) (by kernel_rfl) (List.Sublist.refl _) ?_; refine mq rfl ?_; refine k_conv rfl zq (by kernel_rfl) (n' := (u : Int)) (by unfold IntKind.wrap; simp [IntKind.bits, IntKind.signed]; omega) ?_; first | refine k_fa0 rfl zq ?_ | refine k_fa rfl zq ?_
    refine mq rfl ?_; refine k_conv rfl zq (by kernel_rfl) (n' := (y : Int)) (by unfold IntKind.wrap; simp [IntKind.bits, IntKind.signed]; omega) ?_; first | refine k_fa0 rfl zq ?_ | refine k_fa rfl zq ?_
    refine k_ldh rfl zq ?_; refine k_len rfl zq ?_; refine k_rem (a := u) (b := nm) rfl zq (by omega) ?_; have hst := Nat.mod_lt u (show nm > 0 by omega)
    generalize u % nm = st at hst ⊢
    refine k_as rfl zq ?_; refine k_ldh rfl zq ?_; refine k_len rfl zq ?_; refine k_rem (a := y) (b := nm) rfl zq (by omega) ?_; have hst2 := Nat.mod_lt y (show nm > 0 by omega)
    generalize y % nm = s2 at hst2 ⊢
    refine aq rfl ?_; refine rs10 (by kernel_rfl) ?_; refine k_ldA rfl zq ?_; refine mq rfl ?_; refine k_ldA rfl zq ?_; refine k_calC rfl zq (by kernel_rfl) (Post := fun v new => ∃ w, v = .tuple [w, .int .i64 (measS b (st : Int) x)].toArray ∧ BkR B (measB b (st : Int) x) new w) (fun H' hH => f79_c _ H' (b := b) (rdm.keeps (sq hH)) hm (rdr.keeps (sq hH)) hr (st : Int) x) ?_; rintro v n4 ⟨w4, rfl, pm4, nm4, cm4, pr4, nr4, cr4, rfl, en4, er4, _, _, rm4, rr4⟩; refine k_hpA (k_put ?_); refine mq rfl ?_; refine k_ext0 rfl zq ?_; refine k_ext1 rfl zq ?_; refine k_new rfl zq (fun q13 => k_hp (k_put ?_)); refine k_stA rfl zq rfl ?_; refine aq rfl ?_; refine run_seq ?_; refine run_seq ?_; rcases Classical.em (measS b (st : Int) x = 0) with eS | eS
    · obtain ⟨eB, sf1, sf2⟩ := meas_zero hb0 (show st < b.marks.length by omega) eS
      rw [eS, eB]; rw [eB] at en4 er4 rm4 rr4
      have hlen : (setB b st (meetSp (b.marks.getD st default) x)).marks.length = b.marks.length := List.length_set
      obtain rfl : nm = nm4 := by omega
      have hrr : (setB b st (meetSp (b.marks.getD st default) x)).rules.length = b.rules.length := rfl
      obtain rfl : nr = nr4 := by omega
      refine run_draw [(0, .pure), (1, .pure), (2, .pure), (5, .pure), (6, .pure), (8, .pure), (3, .read), (4, .read), (7, .read), (9, .pure), (10, .read), (11, .read), (12, .keep), (13, .keep), (14, .keep), (15, .pure), (16, .pure), (19, .pure), (17, .read), (18, .read), (20, .keep), (21, .pure), (22, .pure), (23, .pure), (24, .pure), (25, .pure), (26, .pure), (27, .pure), (29, .pure), (28, .read), (30, .keep), (31, .pure), (32, .pure), (33, .pure)] (by kernel_rfl) (by kernel_rfl) (List.Sublist.refl _) ?_; refine mq rfl ?_; refine k_eqlT rfl zq rfl ?_; refine mq rfl ?_; refine k_mv rfl rfl ?_; first | refine k_fa0 rfl rfl ?_ | refine k_fa rfl rfl ?_
      refine k_mv rfl rfl ?_; refine k_ldA rfl rfl ?_; refine k_ldA rfl rfl ?_; refine k_ldh rfl rfl ?_; refine k_ixs rfl rfl (by first | rfl | assumption) (by omega) (by omega) ?_; refine k_ldN (vs := spL (b.marks.getD st default)) rfl rfl rfl (rdm.eat st rfl (by omega)) ?_; refine k_ldA rfl rfl ?_; refine k_calP (Post := fun v => v = spV (meetSp (b.marks.getD st default) x)) rfl rfl (by kernel_rfl) (fun H' hH => f86_c _ H' _ _ _ _) ?_; rintro v rfl; refine k_put ?_; refine k_calC rfl rfl (by kernel_rfl) (Post := fun v new => ∃ pm2 cm2, v = bkV (setB b st (meetSp (b.marks.getD st default) x)) pm2 nm cm2 pr nr cr ∧ nm ≤ cm2 ∧ RdS B new 2 (.slice pm2 nm cm2) nm (encs (setB b st (meetSp (b.marks.getD st default) x)).marks)) (fun H' hH => f85_c _ H' (rdm.keeps (sq hH)) hm (by omega) (meetSp (b.marks.getD st default) x)) ?_; rintro v n85 ⟨pm2, cm2, rfl, hcm2, rm85⟩; refine k_hpA (k_put ?_); refine k_calP (Post := fun v => IsB _ v) rfl rfl (by kernel_rfl) (fun H' hH => f75_c _ H' (b := (setB b st (meetSp (b.marks.getD st default) x))) (b2 := (setB b st (meetSp (b.marks.getD st default) x))) (rm4.keeps (sq hH)) hm (rr4.keeps (sq hH)) hr (rm85.keeps (sq hH)) hm (rdr.keeps (sq hH)) hr) ?_; rintro v (⟨hc, rfl⟩ | ⟨hc, rfl⟩)
      · refine k_put ?_; refine k_notT rfl rfl ?_; refine k_mv rfl rfl ?_; refine k_mv rfl rfl ?_; refine k_ldA rfl rfl ?_; refine k_ldA rfl rfl ?_; refine k_calC rfl rfl (by kernel_rfl) (Post := fun v new => v = .bool true) (fun H' hH => f69_c (Md.star Tryz.prog B) H' (b := b) (b2 := (setB b st (meetSp (b.marks.getD st default) x))) (rdm.keeps (sq hH)) hm (rdr.keeps (sq hH)) hr (rm4.keeps (sq hH)) hm (rr4.keeps (sq hH)) hr hb0 sf1 rfl sf2 (s2 : Int) (by omega)) ?_; rintro v n69 rfl; refine k_hpA (k_put ?_); refine k_notT rfl rfl ?_; refine k_pickF rfl rfl ?_; refine k_pickT rfl zq ?_; refine mq rfl ?_; refine k_mv rfl rfl ?_; refine k_neqF rfl rfl rfl ?_; refine k_mv rfl rfl ?_; refine k_off rfl rfl ?_; refine k_off rfl rfl ?_; refine k_off rfl rfl ?_; refine k_off rfl rfl ?_; refine k_pickF rfl rfl ?_; refine k_pickF rfl zq ?_; refine k_nil ?_; refine run_no ?_; refine run_skip ?_; refine rs8 (by kernel_rfl) ?_; refine k_ldA rfl zq ?_; refine k_ldA rfl zq ?_; refine k_calC rfl zq (by kernel_rfl) (Post := fun v new => ∃ w, v = .tuple [w, .int .i64 (noteS b r)].toArray ∧ BkR B (noteB b r) new w) (fun H' hH => f81_c _ H' (b := b) (rdm.keeps (sq hH)) hm (rdr.keeps (sq hH)) hr r) ?_; rintro v n7 ⟨w7, rfl, pm7, nm7, cm7, pr7, nr7, cr7, rfl, en7, er7, _, _, rm7, rr7⟩; refine k_hpA (k_put ?_); refine mq rfl ?_; refine k_ext0 rfl zq ?_; refine k_ext1 rfl zq ?_; refine k_stA rfl zq rfl ?_; refine aq rfl ?_; refine run_seq ?_; refine run_seq ?_; rcases Classical.em (noteS b r = 0) with eN | eN
        · obtain ⟨eC, tf1, tf2⟩ := note_zero hb0 eN
          rw [eN, eC]; rw [eC] at en7 er7 rm7 rr7
          have hlen7 : (moreB b r).marks.length = b.marks.length := rfl
          obtain rfl : nm = nm7 := by omega
          have hrr7 : (moreB b r).rules.length = b.rules.length + 1 := by unfold moreB; simp
          obtain rfl : nr7 = nr + 1 := by omega
          refine rr2 (by kernel_rfl) ?_; refine mq rfl ?_; refine k_neqF rfl zq rfl ?_; refine k_nil ?_; refine run_no ?_; refine run_skip ?_; refine run_seq ?_; refine run_draw [(0, .read), (1, .read), (2, .read), (3, .keep), (4, .keep), (5, .pure), (8, .pure), (6, .read), (7, .read), (9, .keep), (10, .pure), (11, .pure), (12, .free), (13, .pure), (14, .pure)] (by kernel_rfl) (by kernel_rfl) (List.Sublist.refl _) ?_; refine k_ldA rfl zq ?_; refine k_ldA rfl zq ?_; refine k_ldA rfl zq ?_; refine k_calC rfl zq (by kernel_rfl) (Post := fun v new => ∃ rp rc, v = bkV (moreB b r) (some ⟨mb, mo, none⟩) nm cm rp (nr + 1) rc ∧ RdS B new 4 (.slice rp (nr + 1) rc) (nr + 1) (encs (moreB b r).rules)) (fun H' hH => f87_c _ H' (b := b) (rdr.keeps (sq hH)) hr r) ?_; rintro v n87 ⟨rp87, rc87, rfl, rr87⟩; refine k_hpA (k_put ?_); refine k_calP (Post := fun v => IsB _ v) rfl zq (by kernel_rfl) (fun H' hH => f75_c _ H' (b := moreB b r) (b2 := moreB b r) (rm7.keeps (sq hH)) hm (rr7.keeps (sq hH)) (by omega) (rdm.keeps (sq hH)) hm (rr87.keeps (sq hH)) (by omega)) ?_; rintro v (⟨hc, rfl⟩ | ⟨hc, rfl⟩)
          · refine k_put ?_; refine mq rfl ?_; refine k_mv rfl rfl ?_; refine k_ldA rfl rfl ?_; refine k_ldA rfl rfl ?_; refine k_calC rfl rfl (by kernel_rfl) (Post := fun v new => v = .bool true) (fun H' hH => f69_c (Md.star Tryz.prog B) H' (b := b) (b2 := moreB b r) (rdm.keeps (sq hH)) hm (rdr.keeps (sq hH)) hr (rm7.keeps (sq hH)) hm (rr7.keeps (sq hH)) (by omega) hb0 tf1 rfl tf2 (s2 : Int) (by omega)) ?_; rintro v n69 rfl; refine k_hpA (k_put ?_); refine k_pickT rfl zq ?_; refine mq rfl ?_; refine k_cal rfl rfl (by kernel_rfl) (f20_c _) ?_; rintro v h' ⟨nF, rfl, rfl⟩; refine k_put ?_; refine k_pickT rfl zq ?_; refine aq rfl ?_; refine run_ret rfl ?_; refine run_top rfl Tryz.func18 (by kernel_rfl) rfl ?_; rfl
          · refine k_put ?_; exact absurd ⟨rfl, rfl, rfl, rfl, rfl⟩ hc
        · have eC := note_not eN
          rw [eC]; rw [eC] at en7 er7 rm7 rr7
          have en0 : noBk.marks.length = 0 := rfl
          have er0 : noBk.rules.length = 0 := rfl
          refine rr2 (by kernel_rfl) ?_; refine mq rfl ?_; refine k_neqT rfl zq eN ?_; refine k_nil ?_; refine run_yes ?_; refine rs7 (by kernel_rfl) ?_; refine k_ldA rfl zq ?_; refine k_bld rfl zq ?_; refine k_calP (Post := fun v => IsB _ v) rfl zq (by kernel_rfl) (fun H' hH => f75_c _ H' (b := noBk) (b2 := noBk) (rm7.keeps (sq hH)) (by omega) (rr7.keeps (sq hH)) (by omega) (⟨none, 0, rfl, rfl, .inl ⟨rfl, rfl⟩⟩ : RdS B H' 2 (.slice none 0 0) 0 (encs noBk.marks)) (by decide) (⟨none, 0, rfl, rfl, .inl ⟨rfl, rfl⟩⟩ : RdS B H' 4 (.slice none 0 0) 0 (encs noBk.rules)) (by decide)) ?_; rintro v (⟨hc, rfl⟩ | ⟨hc, rfl⟩)
          · refine k_put ?_; refine mq rfl ?_; refine k_cal rfl rfl (by kernel_rfl) (f20_c _) ?_; rintro v h' ⟨nF, rfl, rfl⟩; refine k_put ?_; refine k_pickT rfl zq ?_; refine aq rfl ?_; refine run_ret rfl ?_; refine run_top rfl Tryz.func18 (by kernel_rfl) rfl ?_; rfl
          · refine k_put ?_; exact absurd ⟨rfl, rfl, rfl, rfl, rfl⟩ hc
      · refine k_put ?_; exact absurd ⟨rfl, rfl, rfl, rfl, rfl⟩ hc
    · have eB := meas_not eS
      rw [eB]; rw [eB] at en4 er4 rm4 rr4
      have en0 : noBk.marks.length = 0 := rfl
      have er0 : noBk.rules.length = 0 := rfl
      refine run_draw [(0, .pure), (1, .pure), (2, .pure), (5, .pure), (6, .pure), (8, .pure), (3, .read), (4, .read), (7, .read), (9, .pure), (10, .read), (11, .read), (12, .keep), (13, .keep), (14, .keep), (15, .pure), (16, .pure), (19, .pure), (17, .read), (18, .read), (20, .keep), (21, .pure), (22, .pure), (23, .pure), (24, .pure), (25, .pure), (26, .pure), (27, .pure), (29, .pure), (28, .read), (30, .keep), (31, .pure), (32, .pure), (33, .pure)] (by kernel_rfl) (by kernel_rfl) (List.Sublist.refl _) ?_; refine mq rfl ?_; refine k_eqlF rfl zq eS ?_; refine mq rfl ?_; refine k_off rfl rfl ?_; refine k_off rfl rfl ?_; refine k_off rfl rfl ?_; refine k_off rfl rfl ?_; refine k_off rfl rfl ?_; refine k_off rfl rfl ?_; refine k_off rfl rfl ?_; refine k_off rfl rfl ?_; refine k_off rfl rfl ?_; refine k_off rfl rfl ?_; refine k_off rfl rfl ?_; refine k_off rfl rfl ?_; refine k_off rfl rfl ?_; refine k_off rfl rfl ?_; refine k_off rfl rfl ?_; refine k_off rfl rfl ?_; refine k_off rfl rfl ?_; refine k_off rfl rfl ?_; refine k_off rfl rfl ?_; refine k_off rfl rfl ?_; refine k_pickF rfl zq ?_; refine mq rfl ?_; refine k_mv rfl rfl ?_; refine k_neqT rfl rfl eS ?_; refine k_mv rfl rfl ?_; refine k_bld rfl rfl ?_; refine k_ldA rfl rfl ?_; refine k_calP (Post := fun v => IsB _ v) rfl rfl (by kernel_rfl) (fun H' hH => f75_c _ H' (b := noBk) (b2 := noBk) (rm4.keeps (sq hH)) (by omega) (rr4.keeps (sq hH)) (by omega) (⟨none, 0, rfl, rfl, .inl ⟨rfl, rfl⟩⟩ : RdS B H' 2 (.slice none 0 0) 0 (encs noBk.marks)) (by decide) (⟨none, 0, rfl, rfl, .inl ⟨rfl, rfl⟩⟩ : RdS B H' 4 (.slice none 0 0) 0 (encs noBk.rules)) (by decide)) ?_; rintro v (⟨hc, rfl⟩ | ⟨hc, rfl⟩)
      · refine k_put ?_; refine k_notT rfl rfl ?_; refine k_pickT rfl rfl ?_; refine k_pickF rfl zq ?_; refine k_nil ?_; refine run_no ?_; refine run_skip ?_; refine rs8 (by kernel_rfl) ?_; refine k_ldA rfl zq ?_; refine k_ldA rfl zq ?_; refine k_calC rfl zq (by kernel_rfl) (Post := fun v new => ∃ w, v = .tuple [w, .int .i64 (noteS b r)].toArray ∧ BkR B (noteB b r) new w) (fun H' hH => f81_c _ H' (b := b) (rdm.keeps (sq hH)) hm (rdr.keeps (sq hH)) hr r) ?_; rintro v n7 ⟨w7, rfl, pm7, nm7, cm7, pr7, nr7, cr7, rfl, en7, er7, _, _, rm7, rr7⟩; refine k_hpA (k_put ?_); refine mq rfl ?_; refine k_ext0 rfl zq ?_; refine k_ext1 rfl zq ?_; refine k_stA rfl zq rfl ?_; refine aq rfl ?_; refine run_seq ?_; refine run_seq ?_; rcases Classical.em (noteS b r = 0) with eN | eN
        · obtain ⟨eC, tf1, tf2⟩ := note_zero hb0 eN
          rw [eN, eC]; rw [eC] at en7 er7 rm7 rr7
          have hlen7 : (moreB b r).marks.length = b.marks.length := rfl
          obtain rfl : nm = nm7 := by omega
          have hrr7 : (moreB b r).rules.length = b.rules.length + 1 := by unfold moreB; simp
          obtain rfl : nr7 = nr + 1 := by omega
          refine rr2 (by kernel_rfl) ?_; refine mq rfl ?_; refine k_neqF rfl zq rfl ?_; refine k_nil ?_; refine run_no ?_; refine run_skip ?_; refine run_seq ?_; refine run_draw [(0, .read), (1, .read), (2, .read), (3, .keep), (4, .keep), (5, .pure), (8, .pure), (6, .read), (7, .read), (9, .keep), (10, .pure), (11, .pure), (12, .free), (13, .pure), (14, .pure)] (by kernel_rfl) (by kernel_rfl) (List.Sublist.refl _) ?_; refine k_ldA rfl zq ?_; refine k_ldA rfl zq ?_; refine k_ldA rfl zq ?_; refine k_calC rfl zq (by kernel_rfl) (Post := fun v new => ∃ rp rc, v = bkV (moreB b r) (some ⟨mb, mo, none⟩) nm cm rp (nr + 1) rc ∧ RdS B new 4 (.slice rp (nr + 1) rc) (nr + 1) (encs (moreB b r).rules)) (fun H' hH => f87_c _ H' (b := b) (rdr.keeps (sq hH)) hr r) ?_; rintro v n87 ⟨rp87, rc87, rfl, rr87⟩; refine k_hpA (k_put ?_); refine k_calP (Post := fun v => IsB _ v) rfl zq (by kernel_rfl) (fun H' hH => f75_c _ H' (b := moreB b r) (b2 := moreB b r) (rm7.keeps (sq hH)) hm (rr7.keeps (sq hH)) (by omega) (rdm.keeps (sq hH)) hm (rr87.keeps (sq hH)) (by omega)) ?_; rintro v (⟨hc, rfl⟩ | ⟨hc, rfl⟩)
          · refine k_put ?_; refine mq rfl ?_; refine k_mv rfl rfl ?_; refine k_ldA rfl rfl ?_; refine k_ldA rfl rfl ?_; refine k_calC rfl rfl (by kernel_rfl) (Post := fun v new => v = .bool true) (fun H' hH => f69_c (Md.star Tryz.prog B) H' (b := b) (b2 := moreB b r) (rdm.keeps (sq hH)) hm (rdr.keeps (sq hH)) hr (rm7.keeps (sq hH)) hm (rr7.keeps (sq hH)) (by omega) hb0 tf1 rfl tf2 (s2 : Int) (by omega)) ?_; rintro v n69 rfl; refine k_hpA (k_put ?_); refine k_pickT rfl zq ?_; refine mq rfl ?_; refine k_cal rfl rfl (by kernel_rfl) (f20_c _) ?_; rintro v h' ⟨nF, rfl, rfl⟩; refine k_put ?_; refine k_pickT rfl zq ?_; refine aq rfl ?_; refine run_ret rfl ?_; refine run_top rfl Tryz.func18 (by kernel_rfl) rfl ?_; rfl
          · refine k_put ?_; exact absurd ⟨rfl, rfl, rfl, rfl, rfl⟩ hc
        · have eC := note_not eN
          rw [eC]; rw [eC] at en7 er7 rm7 rr7
          have en0 : noBk.marks.length = 0 := rfl
          have er0 : noBk.rules.length = 0 := rfl
          refine rr2 (by kernel_rfl) ?_; refine mq rfl ?_; refine k_neqT rfl zq eN ?_; refine k_nil ?_; refine run_yes ?_; refine rs7 (by kernel_rfl) ?_; refine k_ldA rfl zq ?_; refine k_bld rfl zq ?_; refine k_calP (Post := fun v => IsB _ v) rfl zq (by kernel_rfl) (fun H' hH => f75_c _ H' (b := noBk) (b2 := noBk) (rm7.keeps (sq hH)) (by omega) (rr7.keeps (sq hH)) (by omega) (⟨none, 0, rfl, rfl, .inl ⟨rfl, rfl⟩⟩ : RdS B H' 2 (.slice none 0 0) 0 (encs noBk.marks)) (by decide) (⟨none, 0, rfl, rfl, .inl ⟨rfl, rfl⟩⟩ : RdS B H' 4 (.slice none 0 0) 0 (encs noBk.rules)) (by decide)) ?_; rintro v (⟨hc, rfl⟩ | ⟨hc, rfl⟩)
          · refine k_put ?_; refine mq rfl ?_; refine k_cal rfl rfl (by kernel_rfl) (f20_c _) ?_; rintro v h' ⟨nF, rfl, rfl⟩; refine k_put ?_; refine k_pickT rfl zq ?_; refine aq rfl ?_; refine run_ret rfl ?_; refine run_top rfl Tryz.func18 (by kernel_rfl) rfl ?_; rfl
          · refine k_put ?_; exact absurd ⟨rfl, rfl, rfl, rfl, rfl⟩ hc
      · refine k_put ?_; exact absurd ⟨rfl, rfl, rfl, rfl, rfl⟩ hc
  · refine k_put ?_; refine k_notF rfl zq ?_; refine k_nil ?_; refine run_yes ?_; refine rs2 (by kernel_rfl) ?_; refine k_cal rfl zq (by kernel_rfl) (f20_c _) ?_; rintro v h' ⟨nF, rfl, rfl⟩; refine k_put ?_; refine aq rfl ?_; refine run_ret rfl ?_; refine run_top rfl Tryz.func18 (by kernel_rfl) rfl ?_; rfl
end Go.Proofs
namespace Go.Lo
set_option maxRecDepth 100000
section
variable {H : Type} {enc : TypeId × Value → H} {P : Program} {w : World} {base : Nat} {sp : Nat → Bool} {held : Bool}
theorem slice_open {kd : IntKind} {t e : TypeId} {k fuel : Nat} {cs : List Value} {x : DataW H × List MemPlace} (hu : P.underlying t = some (.slice e)) (hB : intsB P kd 3 e k = true) (h : DataW.trod enc P w base sp held fuel t cs = some x) (hs : ∀ a n c, cs = [.slice (some a) n c] → a.spot = none) :
    ∃ (p : Option Addr) (n c : Nat) (zs : List Int), cs = [.slice p n c] ∧ n ≤ c ∧ zs.length = n * k ∧ RdS w.heap [] k (.slice p n c) n (zs.map (Value.int kd)) ∧ ∀ z ∈ zs, (Lit.int kd z).wf = true := by
  rcases Deep.open_slice hu h with ⟨rfl, _⟩ | ⟨a, len, cap, m, n, D, Pl, rfl, hb, hl, hm, hmm, _, hx⟩
  · exact ⟨none, 0, 0, [], rfl, Nat.le_refl _, by simp, ⟨none, 0, rfl, by simp, .inl ⟨rfl, rfl⟩⟩, fun z hz => by simp at hz⟩
  · have hlm : len ≤ m := by rw [hmm]; split <;> omega
    have hc : P.cellsOf e = k := intsB_size hB
    obtain ⟨ab, ao, sx⟩ := a
    obtain rfl : sx = none := hs _ _ _ rfl
    obtain ⟨V, hV⟩ := Deep.choose_lt (α := Int) (n := len * k) (p := fun q z => w.cell? ⟨ab, ao + q, none⟩ = some (.int kd z) ∧ (Lit.int kd z).wf = true) (fun q hq => by
      have hk : 0 < k := by rcases Nat.eq_zero_or_pos k with e0 | e0; subst e0; simp at hq; exact e0
      have hi : q / k < len := Nat.div_lt_of_lt_mul (by rw [Nat.mul_comm]; exact hq)
      obtain ⟨cs', h1, h2⟩ := hx (q / k) (by omega)
      obtain ⟨_, hlen, hcell⟩ := World.cells?_some h1
      obtain ⟨_, hall⟩ := trod_cells 3 hB h2
      obtain ⟨z, hz, hw⟩ := hall (q % k) (Nat.mod_lt _ hk)
      refine ⟨z, ?_, hw⟩
      have := hcell (q % k) (by rw [hc]; exact Nat.mod_lt _ hk)
      rw [hz, Addr.add_none, Addr.add_none, hc] at this
      rw [← this]; have e := Nat.div_add_mod q k
      have e2 : q / k * k = k * (q / k) := Nat.mul_comm _ _
      congr 2; omega)
    refine ⟨some ⟨ab, ao, none⟩, len, cap, (List.range (len * k)).map V, rfl, hl, by simp, ⟨_, cap, rfl, by simp, .inr ⟨ab, ao, rfl, fun j hj => ?_⟩⟩, fun z hz => ?_⟩
    · have hj' : j < len * k := by simpa using hj
      have : (((List.range (len * k)).map V).map (Value.int kd)).getD j undef = .int kd (V j) := by
        rw [List.getD_eq_getElem?_getD, List.getElem?_map, List.getElem?_map, List.getElem?_range hj']; rfl
      rw [this]; exact rd_of_cell (hV j hj').1
    · obtain ⟨q, hq, rfl⟩ := List.mem_map.1 hz
      exact (hV q (List.mem_range.1 hq)).2
theorem spot_of {r : Reach} {b0 : Nat} {t e : TypeId} {v : Value} (hu : P.underlying t = some (.slice e)) (h : Cell.okWide P w r b0 t v) : ∀ a n c, [v] = [.slice (some a) n c] → a.spot = none := fun a n c e1 => by
  obtain rfl := List.head_eq_of_cons_eq e1
  unfold Cell.okWide at h
  rw [hu] at h
  simp only [Cell.ok, hu] at h
  exact h.2.2.2.1
end
def spsOf : List Int → List Sp
  | a :: b :: r => ⟨a, b⟩ :: spsOf r
  | _ => []
theorem spsOf_enc : ∀ (n : Nat) (zs : List Int), zs.length = n * 2 → encs (spsOf zs) = ints zs
  | 0, zs, h => by
    obtain rfl := List.length_eq_zero_iff.1 (by simpa using h)
    rfl
  | n + 1, a :: b :: r, h => by
    have := spsOf_enc n r (by simp only [List.length_cons] at h; omega)
    simp only [spsOf, encs, this]
    rfl
  | n + 1, [], h => by simp at h
  | n + 1, [a], h => by simp at h; omega
def rusOf : List Int → List Ru
  | a :: b :: c :: d :: r => ⟨a, b, c, d⟩ :: rusOf r
  | _ => []
theorem rusOf_enc : ∀ (n : Nat) (zs : List Int), zs.length = n * 4 → encs (rusOf zs) = ints zs
  | 0, zs, h => by
    obtain rfl := List.length_eq_zero_iff.1 (by simpa using h)
    rfl
  | n + 1, a :: b :: c :: d :: r, h => by
    have := rusOf_enc n r (by simp only [List.length_cons] at h; omega)
    simp only [rusOf, encs, this]
    rfl
  | n + 1, [], h => by simp at h
  | n + 1, [a], h => by simp at h; omega
  | n + 1, [a, b], h => by simp at h; omega
  | n + 1, [a, b, c], h => by simp at h; omega
end Go.Lo
namespace Go.Proofs
open Go.Lo
set_option maxRecDepth 100000
section
variable {H : Type} {enc : TypeId × Value → H} {w : World} {sp : Nat → Bool} {held : Bool}
theorem int_arg {r : Reach} {b0 : Nat} {t : TypeId} {kd : IntKind} {v : Value} {d : DataW H} {ps : List MemPlace} (ht : Tryz.prog.underlying t = some (.int kd)) (hv : Value.okWide Tryz.prog w r b0 t v) (h : DataW.Trod enc Tryz.prog w 0 sp held t v d ps) :
    ∃ n, v = .int kd n ∧ (Lit.int kd n).wf = true := by
  obtain ⟨n, e, _, _, hw⟩ := ChangeShapes.open_int ht hv h
  exact ⟨n, e, hw⟩
theorem nat_arg {n M : Int} {kd : IntKind} {v : Value} (e : v = .int kd n ∧ (Lit.int kd n).wf = true) (h : (Lit.int kd n).wf = true → 0 ≤ n ∧ n ≤ M) : ∃ z : Nat, v = .int kd (z : Int) ∧ (z : Int) ≤ M := by
  obtain ⟨h0, h1⟩ := h e.2
  exact ⟨n.toNat, by rw [e.1, Int.toNat_of_nonneg h0], by rw [Int.toNat_of_nonneg h0]; exact h1⟩
theorem u8_arg {r : Reach} {b0 : Nat} {v : Value} {d : DataW H} {ps : List MemPlace} (hv : Value.okWide Tryz.prog w r b0 5 v) (h : DataW.Trod enc Tryz.prog w 0 sp held 5 v d ps) : ∃ z : Nat, v = .int .u8 (z : Int) ∧ z ≤ 255 := by
  obtain ⟨n, e⟩ := int_arg (kd := .u8) (by kernel_rfl) hv h
  obtain ⟨z, e, hz⟩ := nat_arg (M := 255) e (fun hw => by simp [Lit.wf, IntKind.min, IntKind.max, IntKind.signed, IntKind.bits] at hw; omega)
  exact ⟨z, e, by omega⟩
theorem trodAll_cons {P : Program} {base : Nat} {t : TypeId} {ts : List TypeId} {vs : List Value} {ds : List (DataW H)} {ps : List MemPlace} (h : DataW.TrodAll enc P w base sp held (t :: ts) vs ds ps) :
    ∃ v vr d dr p q, vs = v :: vr ∧ ds = d :: dr ∧ ps = p ++ q ∧ DataW.Trod enc P w base sp held t v d p ∧ DataW.TrodAll enc P w base sp held ts vr dr q := by
  cases vs with
  | nil => cases ds <;> exact absurd h id
  | cons v vr =>
    cases ds with
    | nil => exact absurd h id
    | cons d dr =>
      obtain ⟨p, q, h1, h2, e⟩ := h
      exact ⟨v, vr, d, dr, p, q, rfl, rfl, e, h1, h2⟩
theorem trodAll_end {P : Program} {base : Nat} {vs : List Value} {ds : List (DataW H)} {ps : List MemPlace} (h : DataW.TrodAll enc P w base sp held [] vs ds ps) : vs = [] ∧ ds = [] ∧ ps = [] := by
  cases vs with
  | nil =>
    cases ds with
    | nil => exact ⟨rfl, rfl, h⟩
    | cons d dr => exact absurd h id
  | cons v vr => cases ds <;> exact absurd h id
theorem trodAll_more {P : Program} {base : Nat} {t : TypeId} {ts : List TypeId} {v : Value} {vs : List Value} {d : DataW H} {ds : List (DataW H)} {p q : List MemPlace} (h : DataW.Trod enc P w base sp held t v d p) (k : DataW.TrodAll enc P w base sp held ts vs ds q) : DataW.TrodAll enc P w base sp held (t :: ts) (v :: vs) (d :: ds) (p ++ q) := ⟨p, q, h, k, rfl⟩
theorem book_arg {r : Reach} {b0 : Nat} {v : Value} {d : DataW H} {ps : List MemPlace} (hv : Value.okWide Tryz.prog w r b0 25 v) (h : DataW.Trod enc Tryz.prog w 0 sp held 25 v d ps) :
    ∃ b pm nm cm pr nr cr, v = bkV b pm nm cm pr nr cr ∧ nm ≤ cm ∧ nr ≤ cr ∧ RdS w.heap [] 2 (.slice pm nm cm) nm (encs b.marks) ∧ RdS w.heap [] 4 (.slice pr nr cr) nr (encs b.rules) ∧ (Lit.int .i64 b.bend).wf = true ∧ (Lit.int .i64 b.twist).wf = true ∧ (Lit.int .i64 b.turns).wf = true := by
  obtain ⟨fs, hu, hfs⟩ : ∃ fs, Tryz.prog.underlying 25 = some (.struct fs) ∧ fs.toList.map (fun f => (f.offset, f.type)) = [(0, 3), (1, 3), (2, 3), (3, 22), (4, 23)] := ⟨_, Tryz.underlying25, by kernel_rfl⟩
  have hct : Tryz.prog.cellTypes Tryz.prog.depth 25 = some [3, 3, 3, 22, 23] := by kernel_rfl
  have h3 : Tryz.prog.underlying 3 = some (.int .i64) := by kernel_rfl
  have h22 : Tryz.prog.underlying 22 = some (.slice 92) := by kernel_rfl
  have h23 : Tryz.prog.underlying 23 = some (.slice 94) := by kernel_rfl
  unfold Value.okWide at hv
  rw [hu] at hv
  obtain ⟨cs, rfl, hsz, ts, hts, _, hall⟩ := hv
  rw [hct] at hts
  obtain rfl := Option.some.inj hts
  obtain ⟨fuel, h⟩ := h
  obtain ⟨xs, m, _, _, hl, hxl, hx⟩ := DataW.trod_struct hu h
  have hl5 : cs.size = 5 := hsz.trans (by kernel_rfl)
  obtain ⟨cl⟩ := cs
  have hl5' : cl.length = 5 := hl5
  obtain ⟨c0, c1, c2, c3, c4, rfl⟩ : ∃ c0 c1 c2 c3 c4, cl = [c0, c1, c2, c3, c4] := by
    match cl, hl5' with
    | [c0, c1, c2, c3, c4], _ => exact ⟨_, _, _, _, _, rfl⟩
  obtain ⟨f0, f1, f2, f3, f4, rfl⟩ : ∃ f0 f1 f2 f3 f4, fs = #[f0, f1, f2, f3, f4] := by
    obtain ⟨fl⟩ := fs
    have hlen : fl.length = 5 := by simpa using congrArg List.length hfs
    match fl, hlen with
    | [f0, f1, f2, f3, f4], _ => exact ⟨_, _, _, _, _, rfl⟩
  simp only [List.map_cons, List.map_nil, List.cons.injEq, Prod.mk.injEq, and_true] at hfs
  obtain ⟨⟨o0, t0⟩, ⟨o1, t1⟩, ⟨o2, t2⟩, ⟨o3, t3⟩, o4, t4⟩ := hfs
  have s3 : Tryz.prog.cellsOf 3 = 1 := by kernel_rfl
  have s22 : Tryz.prog.cellsOf 22 = 1 := by kernel_rfl
  have s23 : Tryz.prog.cellsOf 23 = 1 := by kernel_rfl
  have go : ∀ i, i < 5 → ∃ y, xs[i]? = some y := fun i hi => ⟨_, List.getElem?_eq_getElem (by rw [hxl]; exact hi)⟩
  obtain ⟨y0, e0⟩ := go 0 (by omega); obtain ⟨y1, e1⟩ := go 1 (by omega); obtain ⟨y2, e2⟩ := go 2 (by omega); obtain ⟨y3, e3⟩ := go 3 (by omega); obtain ⟨y4, e4⟩ := go 4 (by omega)
  have g0 := (hx 0 f0 rfl).trans e0
  have g1 := (hx 1 f1 rfl).trans e1
  have g2 := (hx 2 f2 rfl).trans e2
  have g3 := (hx 3 f3 rfl).trans e3
  have g4 := (hx 4 f4 rfl).trans e4
  rw [t0, o0, s3] at g0
  rw [t1, o1, s3] at g1
  rw [t2, o2, s3] at g2
  rw [t3, o3, s22] at g3
  rw [t4, o4, s23] at g4
  obtain ⟨n0, q0, _, w0⟩ := DataW.trod_int h3 g0
  obtain ⟨n1, q1, _, w1⟩ := DataW.trod_int h3 g1
  obtain ⟨n2, q2, _, w2⟩ := DataW.trod_int h3 g2
  obtain rfl := List.head_eq_of_cons_eq (show [c0] = [Value.int .i64 n0] from q0)
  obtain rfl := List.head_eq_of_cons_eq (show [c1] = [Value.int .i64 n1] from q1)
  obtain rfl := List.head_eq_of_cons_eq (show [c2] = [Value.int .i64 n2] from q2)
  obtain ⟨u3, hu3, k3⟩ := hall 3 c3 rfl
  obtain ⟨u4, hu4, k4⟩ := hall 4 c4 rfl
  obtain rfl : 22 = u3 := Option.some.inj hu3
  obtain rfl : 23 = u4 := Option.some.inj hu4
  obtain ⟨pm, nm, cm, zm, em, hcm, hzm, rdm, _⟩ := slice_open (cs := [c3]) h22 (by kernel_rfl : intsB Tryz.prog .i64 3 92 2 = true) g3 (spot_of h22 k3)
  obtain ⟨pr, nr, cr, zr, er, hcr, hzr, rdr, _⟩ := slice_open (cs := [c4]) h23 (by kernel_rfl : intsB Tryz.prog .i64 3 94 4 = true) g4 (spot_of h23 k4)
  obtain rfl := List.head_eq_of_cons_eq em
  obtain rfl := List.head_eq_of_cons_eq er
  exact ⟨⟨n0, n1, n2, spsOf zm, rusOf zr⟩, pm, nm, cm, pr, nr, cr, rfl, hcm, hcr, by rw [spsOf_enc _ _ hzm]; exact rdm, by rw [rusOf_enc _ _ hzr]; exact rdr, w0, w1, w2⟩
end
end Go.Proofs
namespace Go.Proofs
open Go.Lo
set_option maxRecDepth 100000
section
variable {H : Type} {enc : TypeId × Value → H} {w : World} {sp : Nat → Bool} {held : Bool}
theorem sp_arg {r : Reach} {b0 : Nat} {v : Value} {d : DataW H} {ps : List MemPlace} (hv : Value.okWide Tryz.prog w r b0 92 v) (h : DataW.Trod enc Tryz.prog w 0 sp held 92 v d ps) :
    ∃ x : Sp, v = spV x := by
  obtain ⟨fs, hu, hfs⟩ : ∃ fs, Tryz.prog.underlying 92 = some (.struct fs) ∧ fs.toList.map (fun f => (f.offset, f.type)) = [(0, 3), (1, 3)] := ⟨_, Tryz.underlying92, by kernel_rfl⟩
  have h3 : Tryz.prog.underlying 3 = some (.int .i64) := by kernel_rfl
  unfold Value.okWide at hv
  rw [hu] at hv
  obtain ⟨cs, rfl, hsz, _⟩ := hv
  obtain ⟨fuel, h⟩ := h
  obtain ⟨xs, m, _, _, hl, hxl, hx⟩ := DataW.trod_struct hu h
  have hl2 : cs.size = 2 := hsz.trans (by kernel_rfl)
  obtain ⟨cl⟩ := cs
  obtain ⟨c0, c1, rfl⟩ : ∃ c0 c1, cl = [c0, c1] := by
    match cl, (show cl.length = 2 from hl2) with
    | [c0, c1], _ => exact ⟨_, _, rfl⟩
  obtain ⟨f0, f1, rfl⟩ : ∃ f0 f1, fs = #[f0, f1] := by
    obtain ⟨fl⟩ := fs
    have hlen : fl.length = 2 := by simpa using congrArg List.length hfs
    match fl, hlen with
    | [f0, f1], _ => exact ⟨_, _, rfl⟩
  simp only [List.map_cons, List.map_nil, List.cons.injEq, Prod.mk.injEq, and_true] at hfs
  obtain ⟨⟨o0, t0⟩, o1, t1⟩ := hfs
  have s3 : Tryz.prog.cellsOf 3 = 1 := by kernel_rfl
  have go : ∀ i, i < 2 → ∃ y, xs[i]? = some y := fun i hi => ⟨_, List.getElem?_eq_getElem (by rw [hxl]; exact hi)⟩
  obtain ⟨y0, e0⟩ := go 0 (by omega); obtain ⟨y1, e1⟩ := go 1 (by omega)
  have g0 := (hx 0 f0 rfl).trans e0
  have g1 := (hx 1 f1 rfl).trans e1
  rw [t0, o0, s3] at g0
  rw [t1, o1, s3] at g1
  obtain ⟨n0, q0, _, w0⟩ := DataW.trod_int h3 g0
  obtain ⟨n1, q1, _, w1⟩ := DataW.trod_int h3 g1
  obtain rfl := List.head_eq_of_cons_eq (show [c0] = [Value.int .i64 n0] from q0)
  obtain rfl := List.head_eq_of_cons_eq (show [c1] = [Value.int .i64 n1] from q1)
  exact ⟨⟨n0, n1⟩, rfl⟩
theorem ru_arg {r : Reach} {b0 : Nat} {v : Value} {d : DataW H} {ps : List MemPlace} (hv : Value.okWide Tryz.prog w r b0 94 v) (h : DataW.Trod enc Tryz.prog w 0 sp held 94 v d ps) :
    ∃ x : Ru, v = ruV x := by
  obtain ⟨fs, hu, hfs⟩ : ∃ fs, Tryz.prog.underlying 94 = some (.struct fs) ∧ fs.toList.map (fun f => (f.offset, f.type)) = [(0, 3), (1, 3), (2, 92)] := ⟨_, Tryz.underlying94, by kernel_rfl⟩
  obtain ⟨gs, hu2, hgs⟩ : ∃ fs, Tryz.prog.underlying 92 = some (.struct fs) ∧ fs.toList.map (fun f => (f.offset, f.type)) = [(0, 3), (1, 3)] := ⟨_, Tryz.underlying92, by kernel_rfl⟩
  have h3 : Tryz.prog.underlying 3 = some (.int .i64) := by kernel_rfl
  unfold Value.okWide at hv
  rw [hu] at hv
  obtain ⟨cs, rfl, hsz, _⟩ := hv
  obtain ⟨fuel, h⟩ := h
  obtain ⟨xs, m, _, _, hl, hxl, hx⟩ := DataW.trod_struct hu h
  have hl2 : cs.size = 4 := hsz.trans (by kernel_rfl)
  obtain ⟨cl⟩ := cs
  obtain ⟨c0, c1, c2, c3, rfl⟩ : ∃ c0 c1 c2 c3, cl = [c0, c1, c2, c3] := by
    match cl, (show cl.length = 4 from hl2) with
    | [c0, c1, c2, c3], _ => exact ⟨_, _, _, _, rfl⟩
  obtain ⟨f0, f1, f2, rfl⟩ : ∃ f0 f1 f2, fs = #[f0, f1, f2] := by
    obtain ⟨fl⟩ := fs
    have hlen : fl.length = 3 := by simpa using congrArg List.length hfs
    match fl, hlen with
    | [f0, f1, f2], _ => exact ⟨_, _, _, rfl⟩
  obtain ⟨f3, f4, rfl⟩ : ∃ f0 f1, gs = #[f0, f1] := by
    obtain ⟨fl⟩ := gs
    have hlen : fl.length = 2 := by simpa using congrArg List.length hgs
    match fl, hlen with
    | [f0, f1], _ => exact ⟨_, _, rfl⟩
  simp only [List.map_cons, List.map_nil, List.cons.injEq, Prod.mk.injEq, and_true] at hfs hgs
  obtain ⟨⟨o0, t0⟩, ⟨o1, t1⟩, o2, t2⟩ := hfs
  obtain ⟨⟨o3, t3⟩, o4, t4⟩ := hgs
  have s3 : Tryz.prog.cellsOf 3 = 1 := by kernel_rfl
  have s92 : Tryz.prog.cellsOf 92 = 2 := by kernel_rfl
  have go : ∀ i, i < 3 → ∃ y, xs[i]? = some y := fun i hi => ⟨_, List.getElem?_eq_getElem (by rw [hxl]; exact hi)⟩
  obtain ⟨y0, e0⟩ := go 0 (by omega); obtain ⟨y1, e1⟩ := go 1 (by omega); obtain ⟨y2, e2⟩ := go 2 (by omega)
  have g0 := (hx 0 f0 rfl).trans e0
  have g1 := (hx 1 f1 rfl).trans e1
  have g2 := (hx 2 f2 rfl).trans e2
  rw [t0, o0, s3] at g0
  rw [t1, o1, s3] at g1
  rw [t2, o2, s92] at g2
  obtain ⟨n0, q0, _, w0⟩ := DataW.trod_int h3 g0
  obtain ⟨n1, q1, _, w1⟩ := DataW.trod_int h3 g1
  obtain ⟨ys, m2, _, _, hl3, hyl, hy⟩ := DataW.trod_struct hu2 g2
  have go2 : ∀ i, i < 2 → ∃ y, ys[i]? = some y := fun i hi => ⟨_, List.getElem?_eq_getElem (by rw [hyl]; exact hi)⟩
  obtain ⟨y3, e3⟩ := go2 0 (by omega); obtain ⟨y4, e4⟩ := go2 1 (by omega)
  have g3 := (hy 0 f3 rfl).trans e3
  have g4 := (hy 1 f4 rfl).trans e4
  rw [t3, o3, s3] at g3
  rw [t4, o4, s3] at g4
  obtain ⟨n3, q3, _, w3⟩ := DataW.trod_int h3 g3
  obtain ⟨n4, q4, _, w4⟩ := DataW.trod_int h3 g4
  obtain rfl := List.head_eq_of_cons_eq (show [c0] = [Value.int .i64 n0] from q0)
  obtain rfl := List.head_eq_of_cons_eq (show [c1] = [Value.int .i64 n1] from q1)
  obtain rfl := List.head_eq_of_cons_eq (show [c2] = [Value.int .i64 n3] from q3)
  obtain rfl := List.head_eq_of_cons_eq (show [c3] = [Value.int .i64 n4] from q4)
  exact ⟨⟨n0, n1, n3, n4⟩, rfl⟩
end
end Go.Proofs
namespace Go.Proofs.YtlbkicemccikgaaGreatDoor
open Go Go.Lo Go.ChangeShapes Go.WideShapes Go.ChangeAt Go.RowKit Go.Conc
set_option maxRecDepth 100000
theorem tied_goes_at (Lk : Looks) {p : Pinned} {s : OpenSpec} {k : StoodClaim8} {ks : List StandKind} (kinds : List LaidKind) (tests : Bool) (h : Claim7.holdsNew p (.plain s) { stood := k, kinds := ks }) (hw : k.row.wfByText s = true) :
    Claim7.holdsNew p (.plain s) { stood := k, kinds := ks, goes := true, laidByText := true, laidKinds := kinds, laidTests := tests, laidLooks := Lk } := by
  obtain ⟨_, rest⟩ := h
  exact ⟨hw, rest⟩
theorem card_of (Lk : Looks) {p : Pinned} {s : OpenSpec} {c : OpenClaim} (kinds : List LaidKind) (tests : Bool) (har : Bool × String) (lk : Bool)
    (hc : c.holds p s) (hw : c.wfByText s = true) (htie : c.laidByTextAt Lk p kinds tests)
    (hst : c.start = .entering) (hnb : c.noBlocks = false ∧ c.again = false) (hm : p.checked.prog.mainIs = some (har.1, har.2.toList)) (hn : (!har.1 && har.2.isEmpty && !lk) = false)
    (hl : ∀ f fn, p.checked.prog.funcNamed c.func = some f → p.checked.prog.funcs[f]? = some fn → lk = p.checked.prog.looks [] ∧ ∀ (j : Nat) t, fn.params[j]? = some t → p.checked.prog.wantsStandIn t = false)
    (hg : true = c.goesBy p.checked.prog) :
    Claim7.holds p (.plain s) { stood := { row := c, standIns := [], harness := har, looks := lk }, kinds := [], alts := [], goes := true, laidByText := true, laidKinds := kinds, laidTests := tests, laidLooks := Lk } := by
  have h6 : ∀ r : OpenClaim, Claim7.isSixth { stood := { row := r, standIns := [], harness := har, looks := lk }, kinds := [] } = false := fun r => by simpa [Claim7.isSixth] using hn
  exact ⟨tied_goes_at Lk kinds tests (Claim7.new_of_sixth hc har lk hst hnb hm (h6 c) hl) hw, (fun D hD => by cases hD), htie, (fun h => by cases h), hg⟩
theorem own : ownKnob Tryz.prog.godebug = none := by kernel_rfl
theorem laidOut : laidOutB Tryz.prog = true := by kernel_rfl
theorem laidOutP : laidOutB Tryz.pinned.checked.prog = true := laidOut
def laidL : List (String × DataW Unit) := [("ribband/batten.checks", Rows.laid_ribband_batten_checks)]
theorem door_met (os : Os) (args : Array Value) : laidMetH Tryz.prog laidL ((World.doorLaid Tryz.prog 14 os).forCall (fun _ _ => 0) ⟨#[], args, []⟩).memory :=
  laidMetH_of_parts3 (fuel := 8) (laidMet_nil _ _) (by kernel_rfl) (by kernel_rfl)
theorem laid_of {W : World} (h : laidMetH Tryz.prog laidL W) : Laid W.heap := by
  obtain ⟨g, t, cs, fuel, p, hg, ht, hv, hd⟩ := h.funcs (n := "ribband/batten.checks") (List.mem_cons_self ..)
  obtain rfl := Option.some.inj ((show Tryz.prog.globalNamed "ribband/batten.checks" = some 0 by kernel_rfl).symm.trans hg)
  obtain rfl := Option.some.inj ((show (Tryz.prog.globals[0]?).map (·.type) = some 107 by kernel_rfl).symm.trans ht)
  have hu : Tryz.prog.underlying 107 = some (.array 3 106) := by kernel_rfl
  have hc1 : Tryz.prog.cellsOf 106 = 1 := by kernel_rfl
  obtain ⟨ps, rs, va, h106⟩ : ∃ ps rs va, Tryz.prog.underlying 106 = some (.func ps rs va) := ⟨_, _, _, Tryz.underlying106⟩
  obtain ⟨xs, m, _, ex, hl, hxl, hx⟩ := DataW.trod_array hu hd
  have hl3 : cs.toList.length = 3 := hl.trans (by kernel_rfl)
  obtain ⟨cl⟩ := cs
  obtain ⟨c0, c1, c2, rfl⟩ : ∃ c0 c1 c2, cl = [c0, c1, c2] := by
    match cl, hl3 with
    | [c0, c1, c2], _ => exact ⟨_, _, _, rfl⟩
  obtain ⟨y0, y1, y2, rfl⟩ : ∃ y0 y1 y2, xs = [y0, y1, y2] := by
    match xs, hxl with
    | [y0, y1, y2], _ => exact ⟨_, _, _, rfl⟩
  have e2 : ∃ a b c : List UInt8, (Rows.laid_ribband_batten_checks : DataW Unit) = .iface "func table" (.agg [.iface "func" (.lit (.string a)), .iface "func" (.lit (.string b)), .iface "func" (.lit (.string c))]) ∧
      ((List.range Tryz.prog.funcs.size).filter fun f => (Tryz.prog.funcs[f]?).any (·.name.toUTF8.data.toList == a)) = [199] ∧ ((List.range Tryz.prog.funcs.size).filter fun f => (Tryz.prog.funcs[f]?).any (·.name.toUTF8.data.toList == b)) = [200] ∧
      ((List.range Tryz.prog.funcs.size).filter fun f => (Tryz.prog.funcs[f]?).any (·.name.toUTF8.data.toList == c)) = [201] ∧ a ≠ [] ∧ b ≠ [] ∧ c ≠ [] ∧
      [y0.1, y1.1, y2.1] = [.held a, .held b, .held c] := by
    refine ⟨_, _, _, rfl, by kernel_rfl, by kernel_rfl, by kernel_rfl, by simp, by simp, by simp, ?_⟩
    have := congrArg Prod.fst ex
    simp only [DataW.funcsOut] at this
    injection this with this
    exact this.symm
  obtain ⟨a, b, c, _, fa, fb, fc, na, nb, nc, e3⟩ := e2
  simp only [List.cons.injEq, and_true] at e3
  obtain ⟨z0, z1, z2⟩ := e3
  have g0 := hx 0 (by omega)
  have g1 := hx 1 (by omega)
  have g2 := hx 2 (by omega)
  rw [hc1] at g0 g1 g2
  have key : ∀ (v : Value) (y : DataW (List UInt8) × List MemPlace) (l : List UInt8) (f0 : FuncId), DataW.trod (funcToken Tryz.prog) Tryz.prog W 0 (fun _ => true) true m 106 [v] = some y → y.1 = .held l → l ≠ [] → ((List.range Tryz.prog.funcs.size).filter fun f => (Tryz.prog.funcs[f]?).any (·.name.toUTF8.data.toList == l)) = [f0] → v = .func (.func f0) #[] #[] := by
    intro v y l f0 h1 h2 h3 h4
    obtain ⟨y1, y2⟩ := y
    obtain rfl : y1 = .held l := h2
    cases l with
    | nil => exact absurd rfl h3
    | cons b0 r0 => exact func_of_trod h106 h4 h1
  obtain rfl := key c0 y0 a 199 g0 z0 na fa
  obtain rfl := key c1 y1 b 200 g1 z1 nb fb
  obtain rfl := key c2 y2 c 201 g2 z2 nc fc
  unfold World.var? at hv
  rw [hg] at hv
  simp only [Option.bind_some] at hv
  split at hv
  · rename_i cs t f hb
    obtain rfl := Option.some.inj hv
    exact ⟨t, f, hb⟩
  · cases hv
end Go.Proofs.YtlbkicemccikgaaGreatDoor
