/- PROVED: the law BattenNear (the boat that is nearest to a line is a boat, moved by as much as is told; no other one is moved less; what must be moved is among what is pulled), on every schedule of its goroutines; its row and its tied card. Conditions: those of the row: the table of checks is as the program's text lays it. -/
import Derived.Test.YtlbkicemccikgaaGreatDoorWLNear10
import Derived.SevenTiedAt
import Derived.LaidOnce
import Derived.Test.YtlbkicemccikgaaGreatDoorCards
import Derived.Test.YtlbkicemccikgaaGreatDoorTie
set_option linter.all false
namespace Go.Proofs
open Go.Lo
open Go.Conc (G)
set_option maxRecDepth 100000
set_option synthInstance.maxSize 100000
set_option synthInstance.maxHeartbeats 1000000
set_option maxHeartbeats 4000000
variable {B : Array Obj}
variable [Laid B]
theorem boats_iff {b : Bk} (h0 : bookS b = 0) {l : List Int} : l ∈ boatsOf b ↔ handedS b l = 0 ∧ boat b l := by
  constructor
  · intro h
    exact ⟨(boat_handed h0 h).1, (boat_handed h0 h).2.1⟩
  · rintro ⟨h1, h2⟩
    have hl := (lineS_zero (handedS_zero h1).2).1
    refine List.mem_filter.2 ⟨?_, decide_eq_true h2⟩
    have := (mem_linesOf (ms := b.marks) (k := b.marks.length) (l := l) (Nat.le_refl _)).2 ⟨hl, fun i hi => h2.1 i (by omega)⟩
    rw [List.take_length] at this
    exact this
theorem line_handed {b : Bk} (h0 : bookS b = 0) {l : List Int} (hl : l.length = b.marks.length) (h : ∀ x ∈ l, 0 ≤ x ∧ x ≤ 959) : lineS b.marks.length l = 0 ∧ handedS b l = 0 ∧ lineO b l = openS b 0 ∧ Small 959 l := by
  have e : lineS b.marks.length l = 0 := by rw [lineS, if_neg (fun x => x hl), if_pos h]
  exact ⟨e, by rw [handedS, if_neg (fun x => x h0), e], by rw [lineO, e], lineS_small e⟩
theorem near_facts {b : Bk} (h0 : bookS b = 0) (hb : boatsOf b ≠ []) {ln : List Int} (hl : ln.length = b.marks.length) (h : ∀ x ∈ ln, 0 ≤ x ∧ x ≤ 959) :
    lineO b ln = 0 ∧ nearL b ln ∈ boatsOf b ∧ nearN b ln = sumL (gaps (nearL b ln) ln) ∧ (nearN b ln = 0 ↔ ln ∈ boatsOf b) ∧ (∃ l ∈ boatsOf b, pulledL b ln = unlike l ln) ∧ (∀ l ∈ boatsOf b, ¬ fewer (unlike l ln) (pulledL b ln)) ∧ mustL b ln = mustF (boatsOf b) ln ln.length ∧
    ((pulledL b ln).length : Int) ≤ nearN b ln ∧
    ∀ x ∈ boatsOf b, nearN b ln ≤ sumL (gaps x ln) ∧ (sumL (gaps x ln) = nearN b ln → mostL (gaps (nearL b ln) ln) ≤ mostL (gaps x ln) ∧ (mostL (gaps x ln) = mostL (gaps (nearL b ln) ln) → before x (nearL b ln) = false)) := by
  obtain ⟨_, _, e3, _⟩ := line_handed h0 hl h
  have ho : openS b 0 = 0 := by rw [openS, if_neg (fun e => e h0), if_neg (by omega), if_neg hb]
  have e0 : lineO b ln = 0 := e3.trans ho
  have eL : nearL b ln = bestBy (ltFar ln) (boatsOf b) := by rw [nearL, if_neg (fun e => e e0)]
  have eN : nearN b ln = sumL (gaps (nearL b ln) ln) := by rw [nearN, if_neg (fun e => e e0), eL]
  have eP : pulledL b ln = bestBy ltFewer ((boatsOf b).map fun l => unlike l ln) := by rw [pulledL, if_neg (fun e => e e0)]
  have eM : mustL b ln = mustF (boatsOf b) ln ln.length := by rw [mustL, if_neg (fun e => e e0)]
  obtain ⟨m1, m2⟩ := near_of hb ln
  obtain ⟨f1, f2⟩ := fewest_of (ll := (boatsOf b).map fun l => unlike l ln) (by simpa using hb)
  rw [← eL] at m1 m2
  rw [← eP] at f1 f2
  have len : ∀ x ∈ boatsOf b, x.length = ln.length := fun x hx => ((boat_handed h0 hx).2.2.1).trans hl.symm
  obtain ⟨l0, hl0, el0⟩ := List.mem_map.1 f1
  have pf : ∀ l ∈ boatsOf b, ¬ fewer (unlike l ln) (pulledL b ln) := fun l hl' => f2 _ (List.mem_map.2 ⟨l, hl', rfl⟩)
  refine ⟨e0, m1, eN, ⟨fun e => ?_, fun e => ?_⟩, ⟨l0, hl0, el0.symm⟩, pf, eM, ?_, fun x hx => by rw [eN]; exact m2 x hx⟩
  · rw [eN] at e
    rw [← (gaps_zero (len _ m1)).1 e]; exact m1
  · have := (m2 ln e).1
    rw [(gaps_zero rfl).2 rfl] at this
    have h1 := gaps_unlike (xs := nearL b ln) (ys := ln) (by have := len _ m1; omega)
    rw [eN]; omega
  · have h1 := pf _ m1
    have h2 := gaps_unlike (xs := nearL b ln) (ys := ln) (by have := len _ m1; omega)
    rw [eN]
    have : ¬ (unlike (nearL b ln) ln).length < (pulledL b ln).length := fun e => h1 (.inl e)
    omega
theorem near_none {b : Bk} (h0 : bookS b = 0) (hb : boatsOf b = []) {ln : List Int} (hl : ln.length = b.marks.length) (h : ∀ x ∈ ln, 0 ≤ x ∧ x ≤ 959) : lineO b ln = 9 ∧ nearL b ln = [] ∧ nearN b ln = 0 ∧ pulledL b ln = [] ∧ mustL b ln = [] := by
  obtain ⟨_, _, e3, _⟩ := line_handed h0 hl h
  have e : lineO b ln = 9 := e3.trans (no_boats h0 hb).1
  have n : lineO b ln ≠ 0 := by rw [e]; decide
  exact ⟨e, by rw [nearL, if_pos n], by rw [nearN, if_pos n], by rw [pulledL, if_pos n], by rw [mustL, if_pos n]⟩
theorem f7_t (h : Hp) {b : Bk} {pm : Option Addr} {nm cm : Nat} {pr : Option Addr} {nr cr : Nat} (rdm : RdS B h 2 (.slice pm nm cm) nm (encs b.marks)) (rdr : RdS B h 4 (.slice pr nr cr) nr (encs b.rules)) {p : Option Addr} {n c : Nat} {zs : List Int} (rd : RdS B h 1 (.slice p n c) n (u16s zs)) (hz : ∀ z ∈ zs, 0 ≤ z ∧ z ≤ 65535) {z : Nat} (hzz : z ≤ 65535) : (Md.star Tryz.prog B).R (AtEnd Tryz.prog B fun v _ => v = .bool true) (G (Frame.enter Tryz.prog 7 #[bkV b pm nm cm pr nr cr, .slice p n c, .int .u16 (z : Int)] .normal) []) h := by
  refine top_enter Tryz.func7 rfl rfl (l := [bkV b pm nm cm pr nr cr, .slice p n c, .int .u16 (z : Int), undef, undef, undef, undef, undef, undef, undef, undef, undef, undef, undef, undef, undef, undef, undef, undef, undef, undef, undef, undef, undef, undef, undef, undef, undef, undef, undef, undef, undef, undef, undef, undef, undef, undef, undef, undef, undef, undef, undef, undef, undef, undef, undef, undef, undef, undef, undef, undef, undef, undef, undef, undef, undef, undef, undef, undef, undef, undef, undef, undef, undef, undef, undef, undef, undef, undef, undef, undef, undef, undef, undef, undef, undef, undef, undef, undef, undef, undef, undef, undef, undef, undef, undef, undef, undef, undef, undef, undef, undef, undef, undef, undef, undef, undef, undef, undef, undef, undef, undef, undef, undef, undef, undef, undef, undef, undef, undef, undef, undef, undef, undef, undef, undef, undef, undef, undef, undef, undef, undef, undef, undef, undef, undef, undef, undef, undef, undef, undef, undef, undef, undef, undef, undef, undef, undef, undef, undef, undef, undef, undef, undef, undef, undef, undef, undef, undef, undef, undef, undef, undef, undef, undef, undef, undef, undef, undef, undef, undef, undef, undef, undef, undef, undef, undef, undef, undef, undef, undef, undef, undef, undef, undef, undef, undef, undef, undef, undef, undef, undef, undef, undef, undef, undef, undef, undef, undef, undef, undef, undef, undef, undef, undef, undef, undef, undef, undef, undef, undef, undef, undef, undef, undef, undef, undef, undef, undef, undef, undef, undef, undef, undef, undef, undef, undef, undef]) rfl ?_
  refine run_seq ?_
  refine rr2 (by kernel_rfl) (by kernel_rfl) ?_
  refine k_box rfl zt (fun q3 => k_hp (k_put ?_))
  refine k_as rfl zt ?_
  refine k_nil ?_
  refine run_seq ?_
  refine run_seq ?_
  refine rr3 (by kernel_rfl) (by kernel_rfl) ?_
  refine k_ldA rfl zt ?_
  refine k_calP (Post := fun v => IsB _ v) rfl zt (by kernel_rfl) (fun H' hH => f48_c _ H' (rdm.keeps (SubH.sub.trans hH)) (rdr.keeps (SubH.sub.trans hH))) ?_
  rintro v (⟨hc, rfl⟩ | ⟨hc, rfl⟩)
  · refine k_put ?_
    refine k_notT rfl zt ?_
    refine k_nil ?_
    refine run_no ?_
    refine run_skip ?_
    refine run_seq ?_
    obtain ⟨hm20, hr20, hb0⟩ : nm ≤ 20 ∧ nr ≤ 20 ∧ bookS b = 0 := by assumption
    have hm : nm ≤ 1000 := by omega
    have hr : nr ≤ 1000 := by omega
    have hml := rdm.elen (by decide)
    have hv := valid_of hb0
    have hbl := boats_le hv
    have hmany := hv.many
    refine rr4 (by kernel_rfl) (by kernel_rfl) ?_
    refine k_ldA rfl zt ?_
    refine k_mv rfl zt ?_
    refine k_calC rfl zt (by kernel_rfl) (Post := fun v new => ∃ ln, OwnS 3 1 v ln.length (ints ln) new ∧ ln.length = b.marks.length ∧ ∀ x ∈ ln, 0 ≤ x ∧ x ≤ 959) (fun H' hH => f58_c _ H' (rdm.keeps (SubH.sub.trans hH)) hm hb0 (rd.keeps (SubH.sub.trans hH)) hz) ?_
    rintro v n58 ⟨ln, o58, hll, hla⟩
    obtain ⟨p58, c58, rfl, _, r58⟩ := own_rdA (B := B) o58
    refine k_hpA (k_put ?_)
    obtain ⟨hls0, hlh, hlO, hlS⟩ := line_handed hb0 hll hla
    refine k_as rfl zt ?_
    refine k_nil ?_
    refine run_seq ?_
    refine rr10 (by kernel_rfl) (by kernel_rfl) ?_
    refine k_ldA rfl zt ?_
    refine k_mv rfl zt ?_
    refine k_calC rfl zt (by kernel_rfl) (Post := fun v new => ∃ w, v = .tuple [w, .int .i64 (nearN b ln), .int .i64 (lineO b ln)].toArray ∧ RdI B new w (nearL b ln)) (fun H' hH => f42_c _ H' (b := b) (xs := ln) (rdm.keeps (SubH.sub.trans hH)) hm (rdr.keeps (SubH.sub.trans hH)) hr (r58.keeps (SubH.sub.trans hH)) (by omega)) ?_
    rintro v n42 ⟨w42, rfl, p42, c42, rfl, r42⟩
    refine k_hpA (k_put ?_)
    refine k_mv rfl zt ?_
    refine k_ext0 rfl zt ?_
    refine k_ext1 rfl zt ?_
    refine k_ext2 rfl zt ?_
    refine k_as rfl zt ?_
    refine k_as rfl zt ?_
    refine k_as rfl zt ?_
    refine k_nil ?_
    refine run_seq ?_
    refine rr8 (by kernel_rfl) (by kernel_rfl) ?_
    refine k_ldA rfl zt ?_
    refine k_mv rfl zt ?_
    refine k_calC rfl zt (by kernel_rfl) (Post := fun v new => ∃ w, v = .tuple [w, .int .i64 (lineO b ln)].toArray ∧ RdI B new w (pulledL b ln)) (fun H' hH => f44_c _ H' (b := b) (xs := ln) (rdm.keeps (SubH.sub.trans hH)) hm (rdr.keeps (SubH.sub.trans hH)) hr (r58.keeps (SubH.sub.trans hH)) (by omega)) ?_
    rintro v n44 ⟨w44, rfl, p44, c44, rfl, r44⟩
    refine k_hpA (k_put ?_)
    refine k_mv rfl zt ?_
    refine k_ext0 rfl zt ?_
    refine k_ext1 rfl zt ?_
    refine k_as rfl zt ?_
    refine k_as rfl zt ?_
    refine k_nil ?_
    refine run_seq ?_
    refine rr8 (by kernel_rfl) (by kernel_rfl) ?_
    refine k_ldA rfl zt ?_
    refine k_mv rfl zt ?_
    refine k_calC rfl zt (by kernel_rfl) (Post := fun v new => ∃ w, v = .tuple [w, .int .i64 (lineO b ln)].toArray ∧ RdI B new w (mustL b ln)) (fun H' hH => f46_c _ H' (b := b) (xs := ln) (rdm.keeps (SubH.sub.trans hH)) hm (rdr.keeps (SubH.sub.trans hH)) hr (r58.keeps (SubH.sub.trans hH)) (by omega)) ?_
    rintro v n46 ⟨w46, rfl, p46, c46, rfl, r46⟩
    refine k_hpA (k_put ?_)
    refine k_mv rfl zt ?_
    refine k_ext0 rfl zt ?_
    refine k_ext1 rfl zt ?_
    refine k_as rfl zt ?_
    refine k_as rfl zt ?_
    refine k_nil ?_
    refine run_seq ?_
    refine rr8 (by kernel_rfl) (by kernel_rfl) ?_
    refine k_ldA rfl zt ?_
    refine k_mv rfl zt ?_
    refine k_calP (Post := fun v => ∃ w, v = .tuple [w, .int .i64 (handedS b ln)].toArray ∧ IsB (handedS b ln = 0 ∧ boat b ln) w) rfl zt (by kernel_rfl) (fun H' hH => f32_c _ H' (b := b) (xs := ln) (rdm.keeps (SubH.sub.trans hH)) hm (rdr.keeps (SubH.sub.trans hH)) hr (r58.keeps (SubH.sub.trans hH)) (by omega)) ?_
    rintro v ⟨w32, rfl, hw32⟩
    obtain ⟨t32, rfl⟩ := isB_bool hw32
    rw [hlh]
    refine k_put ?_
    refine k_mv rfl zt ?_
    refine k_ext0 rfl zt ?_
    refine k_ext1 rfl zt ?_
    refine k_as rfl zt ?_
    refine k_as rfl zt ?_
    refine k_nil ?_
    refine run_seq ?_
    refine run_seq ?_
    rcases Classical.em (boatsOf b = []) with hbe | hbe
    · obtain ⟨eo, el, en, ep, em⟩ := near_none hb0 hbe hll hla
      rw [eo, el, en, ep, em]
      obtain rfl : t32 = false := by
        have := isB_false hw32 (fun e => by have := (boats_iff hb0).2 e; rw [hbe] at this; simp at this)
        injection this
      refine rr20 (by kernel_rfl) (by kernel_rfl) ?_
      refine k_mv rfl zt ?_
      refine k_neqF rfl zt rfl ?_
      refine k_mv rfl zt ?_
      refine k_mv rfl rfl ?_
      refine k_mv rfl rfl ?_
      refine k_neqF rfl rfl rfl ?_
      refine k_pickF rfl zt ?_
      refine k_mv rfl zt ?_
      refine k_mv rfl rfl ?_
      refine k_mv rfl rfl ?_
      refine k_neqF rfl rfl rfl ?_
      refine k_pickF rfl zt ?_
      refine k_mv rfl zt ?_
      refine k_mv rfl rfl ?_
      refine k_neqT rfl rfl (by decide) ?_
      refine k_mv rfl rfl ?_
      refine k_mv rfl rfl ?_
      refine k_neqF rfl rfl rfl ?_
      refine k_pickT rfl rfl ?_
      refine k_pickF rfl zt ?_
      refine k_nil ?_
      refine run_no ?_
      refine run_skip ?_
      refine run_seq ?_
      refine run_seq ?_
      refine rr2 (by kernel_rfl) (by kernel_rfl) ?_
      refine k_mv rfl zt ?_
      refine k_neqT rfl zt (by decide) ?_
      refine k_nil ?_
      refine run_yes ?_
      refine run_seq ?_
      refine rr25 (by kernel_rfl) (by kernel_rfl) ?_
      refine k_mv rfl zt ?_
      refine k_notF rfl zt ?_
      refine k_mv rfl zt ?_
      refine k_mv rfl rfl ?_
      refine k_len rfl rfl ?_
      refine k_eqlT rfl rfl rfl ?_
      refine k_pickT rfl zt ?_
      refine k_mv rfl zt ?_
      refine k_mv rfl rfl ?_
      refine k_eqlT rfl rfl rfl ?_
      refine k_pickT rfl zt ?_
      refine k_mv rfl zt ?_
      refine k_mv rfl rfl ?_
      refine k_len rfl rfl ?_
      refine k_eqlT rfl rfl rfl ?_
      refine k_pickT rfl zt ?_
      refine k_mv rfl zt ?_
      refine k_mv rfl rfl ?_
      refine k_len rfl rfl ?_
      refine k_eqlT rfl rfl rfl ?_
      refine k_pickT rfl zt ?_
      refine k_mv rfl zt ?_
      refine k_cal rfl rfl (by kernel_rfl) (f20_c _) ?_
      rintro v h' ⟨nF, rfl, rfl⟩
      refine k_put ?_
      refine k_pickT rfl zt ?_
      refine k_as rfl zt ?_
      refine k_nil ?_
      refine run_ret rfl ?_
      refine run_top rfl Tryz.func7 (by kernel_rfl) rfl ?_
      rfl
    · obtain ⟨eo, hgm, en, hn0, ⟨l0, hl0, ep⟩, hpf, em, hpn, hnear⟩ := near_facts hb0 hbe hll hla
      rw [eo]
      obtain ⟨hgh, hgb, hgl, hgs⟩ := boat_handed hb0 hgm
      have hmu : ∀ l ∈ boatsOf b, (mustL b ln).length ≤ (unlike l ln).length ∧ ∀ z ∈ mustL b ln, z ∈ unlike l ln := fun l hl => by rw [em]; exact must_le hl (((boat_handed hb0 hl).2.2.1).trans hll.symm)
      obtain ⟨mp1, mp2⟩ := hmu l0 hl0
      rw [← ep] at mp1 mp2
      have hpl : (pulledL b ln).length ≤ 7 := by
        have h1 := unlike_length l0 ln
        have h2 := (boat_handed hb0 hl0).2.2.1
        rw [ep]; omega
      generalize nearL b ln = gg at r42 hgm hgh hgb hgl hgs hnear en ⊢
      generalize nearN b ln = sn at hnear en hn0 hpn ⊢
      generalize pulledL b ln = pu at r44 hpf hpn mp1 mp2 hpl ⊢
      generalize mustL b ln = mu at r46 hmu mp1 mp2 ⊢
      obtain rfl : t32 = decide (sn = 0) := by
        rcases hw32 with ⟨e1, e2⟩ | ⟨e1, e2⟩
        · injection e2 with e2
          rw [e2, decide_eq_true (hn0.2 ((boats_iff hb0).2 e1))]
        · injection e2 with e2
          rw [e2, decide_eq_false (fun e => e1 ((boats_iff hb0).1 (hn0.1 e)))]
      have hnh := hnear _ hgm
      refine rr20 (by kernel_rfl) (by kernel_rfl) ?_
      refine k_mv rfl zt ?_
      refine k_neqF rfl zt rfl ?_
      refine k_mv rfl zt ?_
      refine k_mv rfl rfl ?_
      refine k_mv rfl rfl ?_
      refine k_neqF rfl rfl rfl ?_
      refine k_pickF rfl zt ?_
      refine k_mv rfl zt ?_
      refine k_mv rfl rfl ?_
      refine k_mv rfl rfl ?_
      refine k_neqF rfl rfl rfl ?_
      refine k_pickF rfl zt ?_
      refine k_mv rfl zt ?_
      refine k_mv rfl rfl ?_
      refine k_neqF rfl rfl rfl ?_
      refine k_mv rfl rfl ?_
      refine k_off rfl rfl ?_
      refine k_off rfl rfl ?_
      refine k_pickF rfl rfl ?_
      refine k_pickF rfl zt ?_
      refine k_nil ?_
      refine run_no ?_
      refine run_skip ?_
      refine run_seq ?_
      refine run_seq ?_
      refine rr2 (by kernel_rfl) (by kernel_rfl) ?_
      refine k_mv rfl zt ?_
      refine k_neqF rfl zt rfl ?_
      refine k_nil ?_
      refine run_no ?_
      refine run_skip ?_
      refine run_seq ?_
      refine rr10 (by kernel_rfl) (by kernel_rfl) ?_
      refine k_ldA rfl zt ?_
      refine k_mv rfl zt ?_
      refine k_calC rfl zt (by kernel_rfl) (Post := fun v new => ∃ w i o, v = .tuple [w, i, o].toArray ∧ RdI B new w (if handedS b gg ≠ 0 then [] else bends gg) ∧ IsB (handedS b gg = 0 ∧ boat b gg) i ∧ IsB (handedS b gg = 0) o) (fun H' hH => f54_c _ H' (b := b) (xs := gg) (rdm.keeps (SubH.sub.trans hH)) hm (rdr.keeps (SubH.sub.trans hH)) hr (r42.keeps (SubH.sub.trans hH)) (by omega)) ?_
      rintro v n54 ⟨w54, i54, o54, rfl, hw54, hi54, ho54⟩
      obtain rfl := isB_true hi54 ⟨hgh, hgb⟩
      obtain rfl := isB_true ho54 hgh
      refine k_hpA (k_put ?_)
      refine k_mv rfl zt ?_
      refine k_ext0 rfl zt ?_
      refine k_ext1 rfl zt ?_
      refine k_ext2 rfl zt ?_
      refine k_as rfl zt ?_
      refine k_as rfl zt ?_
      refine k_as rfl zt ?_
      refine k_nil ?_
      refine run_seq ?_
      refine rr6 (by kernel_rfl) (by kernel_rfl) ?_
      refine k_ldA rfl zt ?_
      refine k_calC rfl zt (by kernel_rfl) (Post := fun v new => ∃ vs, RdS B new 1 v (boatsOf b).length vs ∧ RdE B new vs (boatsOf b)) (fun H' hH => f55_c _ H' (b := b) (rdm.keeps (SubH.sub.trans hH)) hm (rdr.keeps (SubH.sub.trans hH)) hr hv) ?_
      rintro v n55 ⟨vs, ⟨pv, cv, rfl, hvl, hvr⟩, rde⟩
      have rdv : RdS B n55 1 (.slice pv (boatsOf b).length cv) (boatsOf b).length vs := ⟨pv, cv, rfl, hvl, hvr⟩
      refine k_hpA (k_put ?_)
      refine k_mv rfl zt ?_
      refine k_conv rfl zt (by kernel_rfl) (n' := (z : Int)) (by unfold IntKind.wrap; simp [IntKind.bits, IntKind.signed]; omega) ?_
      refine k_calP (Post := fun v => v = chosenV (boatsOf b) vs z) rfl zt (by kernel_rfl) (fun H' hH => f56_c _ _ (rdv.keeps (SubH.sub.trans hH)) (rde.keeps (SubH.sub.trans hH)) hbl z) ?_
      rintro v rfl
      have hco := chosen_rd rde z
      have hcm := chosen_mem hbe z
      obtain ⟨hch, _, hcl, hcs⟩ := boat_handed hb0 hcm
      obtain ⟨hn1, hn2⟩ := hnear _ hcm
      obtain ⟨hm1, hm2⟩ := hmu _ hcm
      have hpf1 := hpf _ hcm
      have hul := unlike_length (chosen (boatsOf b) z) ln
      generalize chosen (boatsOf b) z = oo at hco hcm hch hcl hcs hn1 hn2 hm1 hm2 hpf1 hul
      obtain ⟨po, co, eo2, ro⟩ := hco
      rw [eo2]
      refine k_put ?_
      refine k_as rfl zt ?_
      refine k_nil ?_
      refine run_seq ?_
      refine run_seq ?_
      refine rr11 (by kernel_rfl) (by kernel_rfl) ?_
      refine k_mv rfl zt ?_
      refine k_notT rfl zt ?_
      refine k_mv rfl zt ?_
      refine k_mv rfl rfl ?_
      refine k_notT rfl rfl ?_
      refine k_pickF rfl zt ?_
      refine k_mv rfl zt ?_
      refine k_mv rfl rfl ?_
      refine k_len rfl rfl ?_
      refine k_eqlF rfl rfl (by omega) ?_
      refine k_pickF rfl zt ?_
      refine k_nil ?_
      refine run_no ?_
      refine run_skip ?_
      refine run_seq ?_
      refine rr8 (by kernel_rfl) (by kernel_rfl) ?_
      refine k_mv rfl zt ?_
      refine k_mv rfl zt ?_
      refine k_calP (Post := fun v => v = _) rfl zt (by kernel_rfl) (fun H' hH => f59_c _ H' (r42.keeps (SubH.sub.trans hH)) (by omega) (r58.keeps (SubH.sub.trans hH)) (hgs.le (show 959 ≤ 100000 by omega)) (hlS.le (show 959 ≤ 100000 by omega)) (by omega)) ?_
      rintro v rfl
      refine k_put ?_
      refine k_mv rfl zt ?_
      refine k_ext0 rfl zt ?_
      refine k_ext1 rfl zt ?_
      refine k_as rfl zt ?_
      refine k_as rfl zt ?_
      refine k_nil ?_
      refine run_seq ?_
      refine rr8 (by kernel_rfl) (by kernel_rfl) ?_
      refine k_mv rfl zt ?_
      refine k_mv rfl zt ?_
      refine k_calP (Post := fun v => v = _) rfl zt (by kernel_rfl) (fun H' hH => f59_c _ H' (ro.keeps (SubH.sub.trans hH)) (by omega) (r58.keeps (SubH.sub.trans hH)) (hcs.le (show 959 ≤ 100000 by omega)) (hlS.le (show 959 ≤ 100000 by omega)) (by omega)) ?_
      rintro v rfl
      refine k_put ?_
      refine k_mv rfl zt ?_
      refine k_ext0 rfl zt ?_
      refine k_ext1 rfl zt ?_
      refine k_as rfl zt ?_
      refine k_as rfl zt ?_
      refine k_nil ?_
      refine run_seq ?_
      refine rr4 (by kernel_rfl) (by kernel_rfl) ?_
      refine k_mv rfl zt ?_
      refine k_mv rfl zt ?_
      refine k_calC rfl zt (by kernel_rfl) (Post := fun v new => OwnS 3 1 v (unlike oo ln).length (ints (unlike oo ln)) new) (fun H' hH => f60_c _ H' (ro.keeps (SubH.sub.trans hH)) (by omega) (r58.keeps (SubH.sub.trans hH)) (by omega)) ?_
      rintro v n60 o60
      refine k_hpA (k_put ?_)
      obtain ⟨p60, c60, rfl, _, r60⟩ := own_rdA (B := B) o60
      refine k_as rfl zt ?_
      refine k_nil ?_
      refine run_seq ?_
      refine run_seq ?_
      refine rr52 (by kernel_rfl) (by kernel_rfl) ?_
      refine k_mv rfl zt ?_
      refine k_mv rfl zt ?_
      refine k_neqF rfl zt (by omega) ?_
      refine k_mv rfl zt ?_
      refine k_mv rfl rfl ?_
      refine k_mv rfl rfl ?_
      refine k_lssF rfl rfl (by omega) ?_
      refine k_pickF rfl zt ?_
      refine k_mv rfl zt ?_
      refine k_mv rfl rfl ?_
      refine k_mv rfl rfl ?_
      refine k_eqlS rfl rfl (fun hc => ?_) (fun hc => ?_)
      · have hn3 := hn2 hc
        refine k_mv rfl rfl ?_
        refine k_mv rfl rfl ?_
        refine k_mv rfl rfl ?_
        refine k_lssF rfl rfl (by omega) ?_
        refine k_mv rfl rfl ?_
        refine k_mv rfl rfl ?_
        refine k_mv rfl rfl ?_
        refine k_eqlS rfl rfl (fun hc => ?_) (fun hc => ?_)
        · refine k_mv rfl rfl ?_
          refine k_mv rfl rfl ?_
          refine k_mv rfl rfl ?_
          refine k_calP (Post := fun v => IsB _ v) rfl rfl (by kernel_rfl) (fun H' hH => f57_c _ H' (ro.keeps (SubH.sub.trans hH)) (by omega) (r42.keeps (SubH.sub.trans hH))) ?_
          rintro v (⟨hc, rfl⟩ | ⟨hc, rfl⟩)
          · refine k_put ?_
            rw [hn3.2 (by omega)] at hc; cases hc
          · refine k_put ?_
            refine k_pickT rfl rfl ?_
            refine k_pickF rfl rfl ?_
            refine k_pickT rfl rfl ?_
            refine k_pickF rfl zt ?_
            refine k_mv rfl zt ?_
            refine k_mv rfl rfl ?_
            refine k_eql rfl rfl ?_
            refine k_mv rfl rfl ?_
            refine k_neqBF rfl rfl (by kernel_rfl) rfl ?_
            refine k_pickF rfl zt ?_
            refine k_mv rfl zt ?_
            refine k_mv rfl rfl ?_
            refine k_len rfl rfl ?_
            refine k_mv rfl rfl ?_
            refine k_gtrF rfl rfl (by omega) ?_
            refine k_pickF rfl zt ?_
            refine k_mv rfl zt ?_
            refine k_mv rfl rfl ?_
            refine k_len rfl rfl ?_
            refine k_mv rfl rfl ?_
            refine k_len rfl rfl ?_
            refine k_gtrF rfl rfl (by omega) ?_
            refine k_pickF rfl zt ?_
            refine k_mv rfl zt ?_
            refine k_mv rfl rfl ?_
            refine k_mv rfl rfl ?_
            refine k_calP (Post := fun v => IsB _ v) rfl rfl (by kernel_rfl) (fun H' hH => f61_c _ H' (r60.keeps (SubH.sub.trans hH)) (by omega) (r44.keeps (SubH.sub.trans hH))) ?_
            rintro v (⟨hc, rfl⟩ | ⟨hc, rfl⟩)
            · refine k_put ?_
              exact absurd hc hpf1
            · refine k_put ?_
              refine k_pickF rfl zt ?_
              refine k_nil ?_
              refine run_no ?_
              refine run_skip ?_
              refine run_seq ?_
              refine run_seq ?_
              refine rr1 (by kernel_rfl) (by kernel_rfl) ?_
              refine k_as rfl zt ?_
              refine k_nil ?_
              refine run_block ?_
              refine run_loop (fun nn l h' => ∃ (k : Nat), nn = mu.length - k ∧ (k ≤ mu.length) ∧ (∃ U : Nat → Value, l = [bkV b pm nm cm pr nr cr, .slice p n c, .int .u16 (z : Int), U 3, U 4, U 5, U 6, U 7, U 8, U 9, U 10, .slice p44 pu.length c44, U 12, .slice p46 mu.length c46, U 14, U 15, U 16, U 17, U 18, U 19, U 20, U 21, U 22, U 23, U 24, .slice p60 (unlike oo ln).length c60, .int .i64 (k : Int), U 27, U 28, U 29, U 30, U 31, U 32, U 33, U 34, U 35, U 36, U 37, U 38, U 39, U 40, U 41, U 42, U 43, U 44, U 45, U 46, U 47, U 48, U 49, U 50, U 51, U 52, U 53, U 54, U 55, U 56, U 57, U 58, U 59, U 60, U 61, U 62, U 63, U 64, U 65, U 66, U 67, U 68, U 69, U 70, U 71, U 72, U 73, U 74, U 75, U 76, U 77, U 78, U 79, U 80, U 81, U 82, U 83, U 84, U 85, U 86, U 87, U 88, U 89, U 90, U 91, U 92, U 93, U 94, U 95, U 96, U 97, U 98, U 99, U 100, U 101, U 102, U 103, U 104, U 105, U 106, U 107, U 108, U 109, U 110, U 111, U 112, U 113, U 114, U 115, U 116, U 117, U 118, U 119, U 120, U 121, U 122, U 123, U 124, U 125, U 126, U 127, U 128, U 129, U 130, U 131, U 132, U 133, U 134, U 135, U 136, U 137, U 138, U 139, U 140, U 141, U 142, U 143, U 144, U 145, U 146, U 147, U 148, U 149, U 150, U 151, U 152, U 153, U 154, U 155, U 156, U 157, U 158, U 159, U 160, U 161, U 162, U 163, U 164, U 165, U 166, U 167, U 168, U 169, U 170, U 171, U 172, U 173, U 174, U 175, U 176, U 177, U 178, U 179, U 180, U 181, U 182, U 183, U 184, U 185, U 186, U 187, U 188, U 189, U 190, U 191, U 192, U 193, U 194, U 195, U 196, U 197, U 198, U 199, U 200, U 201, U 202, U 203, U 204, U 205, U 206, U 207, U 208, U 209, U 210, U 211, U 212, U 213, U 214, U 215, U 216, U 217]) ∧ h ++ [⟨true, q3, .cells (bkL b pm nm cm pr nr cr).toArray 25 (0, 0)⟩] ++ n58 ++ n42 ++ n44 ++ n46 ++ n54 ++ n55 ++ n60 = h') _ ⟨0, rfl, by omega, exU rfl, rfl⟩ ?_
              rintro nn l h' ⟨k, rfl, hk, ⟨U, rfl⟩, rfl⟩ hnext
              refine run_seq ?_
              refine run_seq ?_
              refine rr4 (by kernel_rfl) (by kernel_rfl) ?_
              refine k_mv rfl zt ?_
              refine k_mv rfl zt ?_
              refine k_len rfl zt ?_
              refine k_lssS rfl zt (fun hc => ?_) (fun hc => ?_)
              · refine k_nil ?_
                refine run_yes ?_
                refine run_skip ?_
                refine run_seq ?_
                refine run_block ?_
                refine run_seq ?_
                refine rr16 (by kernel_rfl) (by kernel_rfl) ?_
                refine k_mv rfl zt ?_
                refine k_mv rfl zt ?_
                refine k_mv rfl zt ?_
                obtain ⟨r46_b, r46_o, rfl⟩ := r46.ptr (by omega)
                refine k_ixs rfl zt (by first | rfl | assumption) (by omega) (by omega) ?_
                refine k_ld rfl zt (r46.iat k (by omega) (by omega)) ?_
                refine k_calP (Post := fun v => IsB _ v) rfl zt (by kernel_rfl) (fun H' hH => f52_c _ H' _ (r60.keeps (SubH.sub.trans hH)) (by omega)) ?_
                rintro v (⟨hc, rfl⟩ | ⟨hc, rfl⟩)
                · refine k_put ?_
                  refine k_notT rfl zt ?_
                  refine k_mv rfl zt ?_
                  refine k_mv rfl rfl ?_
                  refine k_mv rfl rfl ?_
                  refine k_mv rfl rfl ?_
                  refine k_ixs rfl rfl (by first | rfl | assumption) (by omega) (by omega) ?_
                  refine k_ld rfl rfl (r46.iat k (by omega) (by omega)) ?_
                  refine k_calP (Post := fun v => IsB _ v) rfl rfl (by kernel_rfl) (fun H' hH => f52_c _ H' _ (r44.keeps (SubH.sub.trans hH)) (by omega)) ?_
                  rintro v (⟨hc, rfl⟩ | ⟨hc, rfl⟩)
                  · refine k_put ?_
                    refine k_notT rfl rfl ?_
                    refine k_pickF rfl zt ?_
                    refine k_nil ?_
                    refine run_no ?_
                    refine run_skip ?_
                    refine run_inBlock ?_
                    refine rr3 (by kernel_rfl) (by kernel_rfl) ?_
                    refine k_mv rfl zt ?_
                    refine k_add rfl zt (by unfold In64; omega) ?_
                    refine k_as rfl zt ?_
                    refine k_nil ?_
                    exact hnext _ _ _ (by omega) ⟨k + 1, rfl, by omega, exU rfl, rfl⟩
                  · refine k_put ?_
                    exact absurd (mp2 _ (mem_getD.2 ⟨k, by omega, rfl⟩)) hc
                · refine k_put ?_
                  exact absurd (hm2 _ (mem_getD.2 ⟨k, by omega, rfl⟩)) hc
              · refine k_nil ?_
                refine run_no ?_
                refine run_exit rfl ?_
                refine run_seq ?_
                refine rr2 (by kernel_rfl) (by kernel_rfl) ?_
                refine k_cal rfl zt (by kernel_rfl) (f20_c _) ?_
                rintro v h' ⟨nF, rfl, rfl⟩
                refine k_put ?_
                refine k_as rfl zt ?_
                refine k_nil ?_
                refine run_ret rfl ?_
                refine run_top rfl Tryz.func7 (by kernel_rfl) rfl ?_
                rfl
        · refine k_mv rfl rfl ?_
          refine k_off rfl rfl ?_
          refine k_off rfl rfl ?_
          refine k_off rfl rfl ?_
          refine k_pickF rfl rfl ?_
          refine k_pickF rfl rfl ?_
          refine k_pickT rfl rfl ?_
          refine k_pickF rfl zt ?_
          refine k_mv rfl zt ?_
          refine k_mv rfl rfl ?_
          refine k_eql rfl rfl ?_
          refine k_mv rfl rfl ?_
          refine k_neqBF rfl rfl (by kernel_rfl) rfl ?_
          refine k_pickF rfl zt ?_
          refine k_mv rfl zt ?_
          refine k_mv rfl rfl ?_
          refine k_len rfl rfl ?_
          refine k_mv rfl rfl ?_
          refine k_gtrF rfl rfl (by omega) ?_
          refine k_pickF rfl zt ?_
          refine k_mv rfl zt ?_
          refine k_mv rfl rfl ?_
          refine k_len rfl rfl ?_
          refine k_mv rfl rfl ?_
          refine k_len rfl rfl ?_
          refine k_gtrF rfl rfl (by omega) ?_
          refine k_pickF rfl zt ?_
          refine k_mv rfl zt ?_
          refine k_mv rfl rfl ?_
          refine k_mv rfl rfl ?_
          refine k_calP (Post := fun v => IsB _ v) rfl rfl (by kernel_rfl) (fun H' hH => f61_c _ H' (r60.keeps (SubH.sub.trans hH)) (by omega) (r44.keeps (SubH.sub.trans hH))) ?_
          rintro v (⟨hc, rfl⟩ | ⟨hc, rfl⟩)
          · refine k_put ?_
            exact absurd hc hpf1
          · refine k_put ?_
            refine k_pickF rfl zt ?_
            refine k_nil ?_
            refine run_no ?_
            refine run_skip ?_
            refine run_seq ?_
            refine run_seq ?_
            refine rr1 (by kernel_rfl) (by kernel_rfl) ?_
            refine k_as rfl zt ?_
            refine k_nil ?_
            refine run_block ?_
            refine run_loop (fun nn l h' => ∃ (k : Nat), nn = mu.length - k ∧ (k ≤ mu.length) ∧ (∃ U : Nat → Value, l = [bkV b pm nm cm pr nr cr, .slice p n c, .int .u16 (z : Int), U 3, U 4, U 5, U 6, U 7, U 8, U 9, U 10, .slice p44 pu.length c44, U 12, .slice p46 mu.length c46, U 14, U 15, U 16, U 17, U 18, U 19, U 20, U 21, U 22, U 23, U 24, .slice p60 (unlike oo ln).length c60, .int .i64 (k : Int), U 27, U 28, U 29, U 30, U 31, U 32, U 33, U 34, U 35, U 36, U 37, U 38, U 39, U 40, U 41, U 42, U 43, U 44, U 45, U 46, U 47, U 48, U 49, U 50, U 51, U 52, U 53, U 54, U 55, U 56, U 57, U 58, U 59, U 60, U 61, U 62, U 63, U 64, U 65, U 66, U 67, U 68, U 69, U 70, U 71, U 72, U 73, U 74, U 75, U 76, U 77, U 78, U 79, U 80, U 81, U 82, U 83, U 84, U 85, U 86, U 87, U 88, U 89, U 90, U 91, U 92, U 93, U 94, U 95, U 96, U 97, U 98, U 99, U 100, U 101, U 102, U 103, U 104, U 105, U 106, U 107, U 108, U 109, U 110, U 111, U 112, U 113, U 114, U 115, U 116, U 117, U 118, U 119, U 120, U 121, U 122, U 123, U 124, U 125, U 126, U 127, U 128, U 129, U 130, U 131, U 132, U 133, U 134, U 135, U 136, U 137, U 138, U 139, U 140, U 141, U 142, U 143, U 144, U 145, U 146, U 147, U 148, U 149, U 150, U 151, U 152, U 153, U 154, U 155, U 156, U 157, U 158, U 159, U 160, U 161, U 162, U 163, U 164, U 165, U 166, U 167, U 168, U 169, U 170, U 171, U 172, U 173, U 174, U 175, U 176, U 177, U 178, U 179, U 180, U 181, U 182, U 183, U 184, U 185, U 186, U 187, U 188, U 189, U 190, U 191, U 192, U 193, U 194, U 195, U 196, U 197, U 198, U 199, U 200, U 201, U 202, U 203, U 204, U 205, U 206, U 207, U 208, U 209, U 210, U 211, U 212, U 213, U 214, U 215, U 216, U 217]) ∧ h ++ [⟨true, q3, .cells (bkL b pm nm cm pr nr cr).toArray 25 (0, 0)⟩] ++ n58 ++ n42 ++ n44 ++ n46 ++ n54 ++ n55 ++ n60 = h') _ ⟨0, rfl, by omega, exU rfl, rfl⟩ ?_
            rintro nn l h' ⟨k, rfl, hk, ⟨U, rfl⟩, rfl⟩ hnext
            refine run_seq ?_
            refine run_seq ?_
            refine rr4 (by kernel_rfl) (by kernel_rfl) ?_
            refine k_mv rfl zt ?_
            refine k_mv rfl zt ?_
            refine k_len rfl zt ?_
            refine k_lssS rfl zt (fun hc => ?_) (fun hc => ?_)
            · refine k_nil ?_
              refine run_yes ?_
              refine run_skip ?_
              refine run_seq ?_
              refine run_block ?_
              refine run_seq ?_
              refine rr16 (by kernel_rfl) (by kernel_rfl) ?_
              refine k_mv rfl zt ?_
              refine k_mv rfl zt ?_
              refine k_mv rfl zt ?_
              obtain ⟨r46_b, r46_o, rfl⟩ := r46.ptr (by omega)
              refine k_ixs rfl zt (by first | rfl | assumption) (by omega) (by omega) ?_
              refine k_ld rfl zt (r46.iat k (by omega) (by omega)) ?_
              refine k_calP (Post := fun v => IsB _ v) rfl zt (by kernel_rfl) (fun H' hH => f52_c _ H' _ (r60.keeps (SubH.sub.trans hH)) (by omega)) ?_
              rintro v (⟨hc, rfl⟩ | ⟨hc, rfl⟩)
              · refine k_put ?_
                refine k_notT rfl zt ?_
                refine k_mv rfl zt ?_
                refine k_mv rfl rfl ?_
                refine k_mv rfl rfl ?_
                refine k_mv rfl rfl ?_
                refine k_ixs rfl rfl (by first | rfl | assumption) (by omega) (by omega) ?_
                refine k_ld rfl rfl (r46.iat k (by omega) (by omega)) ?_
                refine k_calP (Post := fun v => IsB _ v) rfl rfl (by kernel_rfl) (fun H' hH => f52_c _ H' _ (r44.keeps (SubH.sub.trans hH)) (by omega)) ?_
                rintro v (⟨hc, rfl⟩ | ⟨hc, rfl⟩)
                · refine k_put ?_
                  refine k_notT rfl rfl ?_
                  refine k_pickF rfl zt ?_
                  refine k_nil ?_
                  refine run_no ?_
                  refine run_skip ?_
                  refine run_inBlock ?_
                  refine rr3 (by kernel_rfl) (by kernel_rfl) ?_
                  refine k_mv rfl zt ?_
                  refine k_add rfl zt (by unfold In64; omega) ?_
                  refine k_as rfl zt ?_
                  refine k_nil ?_
                  exact hnext _ _ _ (by omega) ⟨k + 1, rfl, by omega, exU rfl, rfl⟩
                · refine k_put ?_
                  exact absurd (mp2 _ (mem_getD.2 ⟨k, by omega, rfl⟩)) hc
              · refine k_put ?_
                exact absurd (hm2 _ (mem_getD.2 ⟨k, by omega, rfl⟩)) hc
            · refine k_nil ?_
              refine run_no ?_
              refine run_exit rfl ?_
              refine run_seq ?_
              refine rr2 (by kernel_rfl) (by kernel_rfl) ?_
              refine k_cal rfl zt (by kernel_rfl) (f20_c _) ?_
              rintro v h' ⟨nF, rfl, rfl⟩
              refine k_put ?_
              refine k_as rfl zt ?_
              refine k_nil ?_
              refine run_ret rfl ?_
              refine run_top rfl Tryz.func7 (by kernel_rfl) rfl ?_
              rfl
      · refine k_mv rfl rfl ?_
        refine k_off rfl rfl ?_
        refine k_off rfl rfl ?_
        refine k_off rfl rfl ?_
        refine k_off rfl rfl ?_
        refine k_off rfl rfl ?_
        refine k_off rfl rfl ?_
        refine k_off rfl rfl ?_
        refine k_off rfl rfl ?_
        refine k_off rfl rfl ?_
        refine k_off rfl rfl ?_
        refine k_off rfl rfl ?_
        refine k_off rfl rfl ?_
        refine k_off rfl rfl ?_
        refine k_pickF rfl rfl ?_
        refine k_pickF rfl zt ?_
        refine k_mv rfl zt ?_
        refine k_mv rfl rfl ?_
        refine k_eql rfl rfl ?_
        refine k_mv rfl rfl ?_
        refine k_neqBF rfl rfl (by kernel_rfl) rfl ?_
        refine k_pickF rfl zt ?_
        refine k_mv rfl zt ?_
        refine k_mv rfl rfl ?_
        refine k_len rfl rfl ?_
        refine k_mv rfl rfl ?_
        refine k_gtrF rfl rfl (by omega) ?_
        refine k_pickF rfl zt ?_
        refine k_mv rfl zt ?_
        refine k_mv rfl rfl ?_
        refine k_len rfl rfl ?_
        refine k_mv rfl rfl ?_
        refine k_len rfl rfl ?_
        refine k_gtrF rfl rfl (by omega) ?_
        refine k_pickF rfl zt ?_
        refine k_mv rfl zt ?_
        refine k_mv rfl rfl ?_
        refine k_mv rfl rfl ?_
        refine k_calP (Post := fun v => IsB _ v) rfl rfl (by kernel_rfl) (fun H' hH => f61_c _ H' (r60.keeps (SubH.sub.trans hH)) (by omega) (r44.keeps (SubH.sub.trans hH))) ?_
        rintro v (⟨hc, rfl⟩ | ⟨hc, rfl⟩)
        · refine k_put ?_
          exact absurd hc hpf1
        · refine k_put ?_
          refine k_pickF rfl zt ?_
          refine k_nil ?_
          refine run_no ?_
          refine run_skip ?_
          refine run_seq ?_
          refine run_seq ?_
          refine rr1 (by kernel_rfl) (by kernel_rfl) ?_
          refine k_as rfl zt ?_
          refine k_nil ?_
          refine run_block ?_
          refine run_loop (fun nn l h' => ∃ (k : Nat), nn = mu.length - k ∧ (k ≤ mu.length) ∧ (∃ U : Nat → Value, l = [bkV b pm nm cm pr nr cr, .slice p n c, .int .u16 (z : Int), U 3, U 4, U 5, U 6, U 7, U 8, U 9, U 10, .slice p44 pu.length c44, U 12, .slice p46 mu.length c46, U 14, U 15, U 16, U 17, U 18, U 19, U 20, U 21, U 22, U 23, U 24, .slice p60 (unlike oo ln).length c60, .int .i64 (k : Int), U 27, U 28, U 29, U 30, U 31, U 32, U 33, U 34, U 35, U 36, U 37, U 38, U 39, U 40, U 41, U 42, U 43, U 44, U 45, U 46, U 47, U 48, U 49, U 50, U 51, U 52, U 53, U 54, U 55, U 56, U 57, U 58, U 59, U 60, U 61, U 62, U 63, U 64, U 65, U 66, U 67, U 68, U 69, U 70, U 71, U 72, U 73, U 74, U 75, U 76, U 77, U 78, U 79, U 80, U 81, U 82, U 83, U 84, U 85, U 86, U 87, U 88, U 89, U 90, U 91, U 92, U 93, U 94, U 95, U 96, U 97, U 98, U 99, U 100, U 101, U 102, U 103, U 104, U 105, U 106, U 107, U 108, U 109, U 110, U 111, U 112, U 113, U 114, U 115, U 116, U 117, U 118, U 119, U 120, U 121, U 122, U 123, U 124, U 125, U 126, U 127, U 128, U 129, U 130, U 131, U 132, U 133, U 134, U 135, U 136, U 137, U 138, U 139, U 140, U 141, U 142, U 143, U 144, U 145, U 146, U 147, U 148, U 149, U 150, U 151, U 152, U 153, U 154, U 155, U 156, U 157, U 158, U 159, U 160, U 161, U 162, U 163, U 164, U 165, U 166, U 167, U 168, U 169, U 170, U 171, U 172, U 173, U 174, U 175, U 176, U 177, U 178, U 179, U 180, U 181, U 182, U 183, U 184, U 185, U 186, U 187, U 188, U 189, U 190, U 191, U 192, U 193, U 194, U 195, U 196, U 197, U 198, U 199, U 200, U 201, U 202, U 203, U 204, U 205, U 206, U 207, U 208, U 209, U 210, U 211, U 212, U 213, U 214, U 215, U 216, U 217]) ∧ h ++ [⟨true, q3, .cells (bkL b pm nm cm pr nr cr).toArray 25 (0, 0)⟩] ++ n58 ++ n42 ++ n44 ++ n46 ++ n54 ++ n55 ++ n60 = h') _ ⟨0, rfl, by omega, exU rfl, rfl⟩ ?_
          rintro nn l h' ⟨k, rfl, hk, ⟨U, rfl⟩, rfl⟩ hnext
          refine run_seq ?_
          refine run_seq ?_
          refine rr4 (by kernel_rfl) (by kernel_rfl) ?_
          refine k_mv rfl zt ?_
          refine k_mv rfl zt ?_
          refine k_len rfl zt ?_
          refine k_lssS rfl zt (fun hc => ?_) (fun hc => ?_)
          · refine k_nil ?_
            refine run_yes ?_
            refine run_skip ?_
            refine run_seq ?_
            refine run_block ?_
            refine run_seq ?_
            refine rr16 (by kernel_rfl) (by kernel_rfl) ?_
            refine k_mv rfl zt ?_
            refine k_mv rfl zt ?_
            refine k_mv rfl zt ?_
            obtain ⟨r46_b, r46_o, rfl⟩ := r46.ptr (by omega)
            refine k_ixs rfl zt (by first | rfl | assumption) (by omega) (by omega) ?_
            refine k_ld rfl zt (r46.iat k (by omega) (by omega)) ?_
            refine k_calP (Post := fun v => IsB _ v) rfl zt (by kernel_rfl) (fun H' hH => f52_c _ H' _ (r60.keeps (SubH.sub.trans hH)) (by omega)) ?_
            rintro v (⟨hc, rfl⟩ | ⟨hc, rfl⟩)
            · refine k_put ?_
              refine k_notT rfl zt ?_
              refine k_mv rfl zt ?_
              refine k_mv rfl rfl ?_
              refine k_mv rfl rfl ?_
              refine k_mv rfl rfl ?_
              refine k_ixs rfl rfl (by first | rfl | assumption) (by omega) (by omega) ?_
              refine k_ld rfl rfl (r46.iat k (by omega) (by omega)) ?_
              refine k_calP (Post := fun v => IsB _ v) rfl rfl (by kernel_rfl) (fun H' hH => f52_c _ H' _ (r44.keeps (SubH.sub.trans hH)) (by omega)) ?_
              rintro v (⟨hc, rfl⟩ | ⟨hc, rfl⟩)
              · refine k_put ?_
                refine k_notT rfl rfl ?_
                refine k_pickF rfl zt ?_
                refine k_nil ?_
                refine run_no ?_
                refine run_skip ?_
                refine run_inBlock ?_
                refine rr3 (by kernel_rfl) (by kernel_rfl) ?_
                refine k_mv rfl zt ?_
                refine k_add rfl zt (by unfold In64; omega) ?_
                refine k_as rfl zt ?_
                refine k_nil ?_
                exact hnext _ _ _ (by omega) ⟨k + 1, rfl, by omega, exU rfl, rfl⟩
              · refine k_put ?_
                exact absurd (mp2 _ (mem_getD.2 ⟨k, by omega, rfl⟩)) hc
            · refine k_put ?_
              exact absurd (hm2 _ (mem_getD.2 ⟨k, by omega, rfl⟩)) hc
          · refine k_nil ?_
            refine run_no ?_
            refine run_exit rfl ?_
            refine run_seq ?_
            refine rr2 (by kernel_rfl) (by kernel_rfl) ?_
            refine k_cal rfl zt (by kernel_rfl) (f20_c _) ?_
            rintro v h' ⟨nF, rfl, rfl⟩
            refine k_put ?_
            refine k_as rfl zt ?_
            refine k_nil ?_
            refine run_ret rfl ?_
            refine run_top rfl Tryz.func7 (by kernel_rfl) rfl ?_
            rfl
  · refine k_put ?_
    refine k_notF rfl zt ?_
    refine k_nil ?_
    refine run_yes ?_
    refine run_seq ?_
    refine rr2 (by kernel_rfl) (by kernel_rfl) ?_
    refine k_cal rfl zt (by kernel_rfl) (f20_c _) ?_
    rintro v h' ⟨nF, rfl, rfl⟩
    refine k_put ?_
    refine k_as rfl zt ?_
    refine k_nil ?_
    refine run_ret rfl ?_
    refine run_top rfl Tryz.func7 (by kernel_rfl) rfl ?_
    rfl
end Go.Proofs
namespace Go.Lo
set_option maxRecDepth 100000
section
variable {H : Type} {enc : TypeId × Value → H} {P : Program} {w : World} {base : Nat} {sp : Nat → Bool} {held : Bool}
theorem slice_open {kd : IntKind} {t e : TypeId} {k fuel : Nat} {cs : List Value} {x : DataW H × List MemPlace} (hu : P.underlying t = some (.slice e)) (hB : intsB P kd 3 e k = true) (h : DataW.trod enc P w base sp held fuel t cs = some x) (hs : ∀ a n c, cs = [.slice (some a) n c] → a.spot = none) :
    ∃ (p : Option Addr) (n c : Nat) (zs : List Int), cs = [.slice p n c] ∧ n ≤ c ∧ zs.length = n * k ∧ RdS w.heap [] k (.slice p n c) n (zs.map (Value.int kd)) ∧ ∀ z ∈ zs, (Lit.int kd z).wf = true := by
  rcases Deep.open_slice hu h with ⟨rfl, _⟩ | ⟨a, len, cap, m, n, D, Pl, rfl, hb, hl, hm, hmm, _, hx⟩
  · exact ⟨none, 0, 0, [], rfl, Nat.le_refl _, by simp, ⟨none, 0, rfl, by simp, .inl ⟨rfl, rfl⟩⟩, fun z hz => by simp at hz⟩
  · have hlm : len ≤ m := by rw [hmm]; split <;> omega
    have hc : P.cellsOf e = k := intsB_size hB
    obtain ⟨ab, ao, sx⟩ := a
    obtain rfl : sx = none := hs _ _ _ rfl
    obtain ⟨V, hV⟩ := Deep.choose_lt (α := Int) (n := len * k) (p := fun q z => w.cell? ⟨ab, ao + q, none⟩ = some (.int kd z) ∧ (Lit.int kd z).wf = true) (fun q hq => by
      have hk : 0 < k := by rcases Nat.eq_zero_or_pos k with e0 | e0; subst e0; simp at hq; exact e0
      have hi : q / k < len := Nat.div_lt_of_lt_mul (by rw [Nat.mul_comm]; exact hq)
      obtain ⟨cs', h1, h2⟩ := hx (q / k) (by omega)
      obtain ⟨_, hlen, hcell⟩ := World.cells?_some h1
      obtain ⟨_, hall⟩ := trod_cells 3 hB h2
      obtain ⟨z, hz, hw⟩ := hall (q % k) (Nat.mod_lt _ hk)
      refine ⟨z, ?_, hw⟩
      have := hcell (q % k) (by rw [hc]; exact Nat.mod_lt _ hk)
      rw [hz, Addr.add_none, Addr.add_none, hc] at this
      rw [← this]
      have e := Nat.div_add_mod q k
      have e2 : q / k * k = k * (q / k) := Nat.mul_comm _ _
      congr 2; omega)
    refine ⟨some ⟨ab, ao, none⟩, len, cap, (List.range (len * k)).map V, rfl, hl, by simp, ⟨_, cap, rfl, by simp, .inr ⟨ab, ao, rfl, fun j hj => ?_⟩⟩, fun z hz => ?_⟩
    · have hj' : j < len * k := by simpa using hj
      have : (((List.range (len * k)).map V).map (Value.int kd)).getD j undef = .int kd (V j) := by
        rw [List.getD_eq_getElem?_getD, List.getElem?_map, List.getElem?_map, List.getElem?_range hj']; rfl
      rw [this]
      exact rd_of_cell (hV j hj').1
    · obtain ⟨q, hq, rfl⟩ := List.mem_map.1 hz
      exact (hV q (List.mem_range.1 hq)).2
theorem spot_of {r : Reach} {b0 : Nat} {t e : TypeId} {v : Value} (hu : P.underlying t = some (.slice e)) (h : Cell.okWide P w r b0 t v) : ∀ a n c, [v] = [.slice (some a) n c] → a.spot = none := fun a n c e1 => by
  obtain rfl := List.head_eq_of_cons_eq e1
  unfold Cell.okWide at h
  rw [hu] at h
  simp only [Cell.ok, hu] at h
  exact h.2.2.2.1
end
def spsOf : List Int → List Sp
  | a :: b :: r => ⟨a, b⟩ :: spsOf r
  | _ => []
theorem spsOf_enc : ∀ (n : Nat) (zs : List Int), zs.length = n * 2 → encs (spsOf zs) = ints zs
  | 0, zs, h => by
    obtain rfl := List.length_eq_zero_iff.1 (by simpa using h)
    rfl
  | n + 1, a :: b :: r, h => by
    have := spsOf_enc n r (by simp only [List.length_cons] at h; omega)
    simp only [spsOf, encs, this]
    rfl
  | n + 1, [], h => by simp at h
  | n + 1, [a], h => by simp at h; omega
def rusOf : List Int → List Ru
  | a :: b :: c :: d :: r => ⟨a, b, c, d⟩ :: rusOf r
  | _ => []
theorem rusOf_enc : ∀ (n : Nat) (zs : List Int), zs.length = n * 4 → encs (rusOf zs) = ints zs
  | 0, zs, h => by
    obtain rfl := List.length_eq_zero_iff.1 (by simpa using h)
    rfl
  | n + 1, a :: b :: c :: d :: r, h => by
    have := rusOf_enc n r (by simp only [List.length_cons] at h; omega)
    simp only [rusOf, encs, this]
    rfl
  | n + 1, [], h => by simp at h
  | n + 1, [a], h => by simp at h; omega
  | n + 1, [a, b], h => by simp at h; omega
  | n + 1, [a, b, c], h => by simp at h; omega
end Go.Lo
namespace Go.Proofs
open Go.Lo
set_option maxRecDepth 100000
section
variable {H : Type} {enc : TypeId × Value → H} {w : World} {sp : Nat → Bool} {held : Bool}
theorem int_arg {r : Reach} {b0 : Nat} {t : TypeId} {kd : IntKind} {v : Value} {d : DataW H} {ps : List MemPlace} (ht : Tryz.prog.underlying t = some (.int kd)) (hv : Value.okWide Tryz.prog w r b0 t v) (h : DataW.Trod enc Tryz.prog w 0 sp held t v d ps) :
    ∃ n, v = .int kd n ∧ (Lit.int kd n).wf = true := by
  obtain ⟨n, e, _, _, hw⟩ := ChangeShapes.open_int ht hv h
  exact ⟨n, e, hw⟩
theorem nat_arg {n M : Int} {kd : IntKind} {v : Value} (e : v = .int kd n ∧ (Lit.int kd n).wf = true) (h : (Lit.int kd n).wf = true → 0 ≤ n ∧ n ≤ M) : ∃ z : Nat, v = .int kd (z : Int) ∧ (z : Int) ≤ M := by
  obtain ⟨h0, h1⟩ := h e.2
  exact ⟨n.toNat, by rw [e.1, Int.toNat_of_nonneg h0], by rw [Int.toNat_of_nonneg h0]; exact h1⟩
theorem u16_arg {r : Reach} {b0 : Nat} {v : Value} {d : DataW H} {ps : List MemPlace} (hv : Value.okWide Tryz.prog w r b0 55 v) (h : DataW.Trod enc Tryz.prog w 0 sp held 55 v d ps) : ∃ z : Nat, v = .int .u16 (z : Int) ∧ z ≤ 65535 := by
  obtain ⟨n, e⟩ := int_arg (kd := .u16) (by kernel_rfl) hv h
  obtain ⟨z, e, hz⟩ := nat_arg (M := 65535) e (fun hw => by simp [Lit.wf, IntKind.min, IntKind.max, IntKind.signed, IntKind.bits] at hw; omega)
  exact ⟨z, e, by omega⟩
theorem nums_arg {r : Reach} {b0 : Nat} {t e : TypeId} {kd : IntKind} {v : Value} {d : DataW H} {ps : List MemPlace} (hu : Tryz.prog.underlying t = some (.slice e)) (hB : intsB Tryz.prog kd 3 e 1 = true) (hv : Value.okWide Tryz.prog w r b0 t v) (h : DataW.Trod enc Tryz.prog w 0 sp held t v d ps) :
    ∃ (p : Option Addr) (n c : Nat) (xs : List Int), v = .slice p n c ∧ RdS w.heap [] 1 (.slice p n c) n (xs.map (Value.int kd)) ∧ ∀ x ∈ xs, (Lit.int kd x).wf = true := by
  have hv' : Cell.okWide Tryz.prog w r b0 t v := by
    unfold Value.okWide at hv
    rw [hu] at hv
    exact hv
  obtain ⟨fuel, h⟩ := h
  have hsl : v.cells.toList = [v] := by
    unfold Cell.okWide at hv'
    rw [hu] at hv'
    cases v <;> first | rfl | (simp [Cell.ok, hu] at hv')
  rw [hsl] at h
  obtain ⟨p, n, c, zs, e, _, _, rd, hw⟩ := slice_open hu hB h (spot_of hu hv')
  exact ⟨p, n, c, zs, List.head_eq_of_cons_eq e, rd, hw⟩
theorem picks_arg {r : Reach} {b0 : Nat} {v : Value} {d : DataW H} {ps : List MemPlace} (hv : Value.okWide Tryz.prog w r b0 48 v) (h : DataW.Trod enc Tryz.prog w 0 sp held 48 v d ps) :
    ∃ (p : Option Addr) (n c : Nat) (xs : List Int), v = .slice p n c ∧ RdS w.heap [] 1 (.slice p n c) n (xs.map (Value.int .u16)) ∧ ∀ x ∈ xs, 0 ≤ x ∧ x ≤ 65535 := by
  obtain ⟨p, n, c, xs, e, rd, hw⟩ := nums_arg (e := 55) (kd := .u16) (by kernel_rfl) (by kernel_rfl) hv h
  exact ⟨p, n, c, xs, e, rd, fun x hx => by have := hw x hx; simp [Lit.wf, IntKind.min, IntKind.max, IntKind.signed, IntKind.bits] at this; omega⟩
theorem trodAll_cons {P : Program} {base : Nat} {t : TypeId} {ts : List TypeId} {vs : List Value} {ds : List (DataW H)} {ps : List MemPlace} (h : DataW.TrodAll enc P w base sp held (t :: ts) vs ds ps) :
    ∃ v vr d dr p q, vs = v :: vr ∧ ds = d :: dr ∧ ps = p ++ q ∧ DataW.Trod enc P w base sp held t v d p ∧ DataW.TrodAll enc P w base sp held ts vr dr q := by
  cases vs with
  | nil => cases ds <;> exact absurd h id
  | cons v vr =>
    cases ds with
    | nil => exact absurd h id
    | cons d dr =>
      obtain ⟨p, q, h1, h2, e⟩ := h
      exact ⟨v, vr, d, dr, p, q, rfl, rfl, e, h1, h2⟩
theorem trodAll_end {P : Program} {base : Nat} {vs : List Value} {ds : List (DataW H)} {ps : List MemPlace} (h : DataW.TrodAll enc P w base sp held [] vs ds ps) : vs = [] ∧ ds = [] ∧ ps = [] := by
  cases vs with
  | nil =>
    cases ds with
    | nil => exact ⟨rfl, rfl, h⟩
    | cons d dr => exact absurd h id
  | cons v vr => cases ds <;> exact absurd h id
theorem trodAll_more {P : Program} {base : Nat} {t : TypeId} {ts : List TypeId} {v : Value} {vs : List Value} {d : DataW H} {ds : List (DataW H)} {p q : List MemPlace} (h : DataW.Trod enc P w base sp held t v d p) (k : DataW.TrodAll enc P w base sp held ts vs ds q) : DataW.TrodAll enc P w base sp held (t :: ts) (v :: vs) (d :: ds) (p ++ q) := ⟨p, q, h, k, rfl⟩
theorem book_arg {r : Reach} {b0 : Nat} {v : Value} {d : DataW H} {ps : List MemPlace} (hv : Value.okWide Tryz.prog w r b0 25 v) (h : DataW.Trod enc Tryz.prog w 0 sp held 25 v d ps) :
    ∃ b pm nm cm pr nr cr, v = bkV b pm nm cm pr nr cr ∧ nm ≤ cm ∧ nr ≤ cr ∧ RdS w.heap [] 2 (.slice pm nm cm) nm (encs b.marks) ∧ RdS w.heap [] 4 (.slice pr nr cr) nr (encs b.rules) ∧ (Lit.int .i64 b.bend).wf = true ∧ (Lit.int .i64 b.twist).wf = true ∧ (Lit.int .i64 b.turns).wf = true := by
  obtain ⟨fs, hu, hfs⟩ : ∃ fs, Tryz.prog.underlying 25 = some (.struct fs) ∧ fs.toList.map (fun f => (f.offset, f.type)) = [(0, 3), (1, 3), (2, 3), (3, 22), (4, 23)] := ⟨_, Tryz.underlying25, by kernel_rfl⟩
  have hct : Tryz.prog.cellTypes Tryz.prog.depth 25 = some [3, 3, 3, 22, 23] := by kernel_rfl
  have h3 : Tryz.prog.underlying 3 = some (.int .i64) := by kernel_rfl
  have h22 : Tryz.prog.underlying 22 = some (.slice 92) := by kernel_rfl
  have h23 : Tryz.prog.underlying 23 = some (.slice 94) := by kernel_rfl
  unfold Value.okWide at hv
  rw [hu] at hv
  obtain ⟨cs, rfl, hsz, ts, hts, _, hall⟩ := hv
  rw [hct] at hts
  obtain rfl := Option.some.inj hts
  obtain ⟨fuel, h⟩ := h
  obtain ⟨xs, m, _, _, hl, hxl, hx⟩ := DataW.trod_struct hu h
  have hl5 : cs.size = 5 := hsz.trans (by kernel_rfl)
  obtain ⟨cl⟩ := cs
  have hl5' : cl.length = 5 := hl5
  obtain ⟨c0, c1, c2, c3, c4, rfl⟩ : ∃ c0 c1 c2 c3 c4, cl = [c0, c1, c2, c3, c4] := by
    match cl, hl5' with
    | [c0, c1, c2, c3, c4], _ => exact ⟨_, _, _, _, _, rfl⟩
  obtain ⟨f0, f1, f2, f3, f4, rfl⟩ : ∃ f0 f1 f2 f3 f4, fs = #[f0, f1, f2, f3, f4] := by
    obtain ⟨fl⟩ := fs
    have hlen : fl.length = 5 := by simpa using congrArg List.length hfs
    match fl, hlen with
    | [f0, f1, f2, f3, f4], _ => exact ⟨_, _, _, _, _, rfl⟩
  simp only [List.map_cons, List.map_nil, List.cons.injEq, Prod.mk.injEq, and_true] at hfs
  obtain ⟨⟨o0, t0⟩, ⟨o1, t1⟩, ⟨o2, t2⟩, ⟨o3, t3⟩, o4, t4⟩ := hfs
  have s3 : Tryz.prog.cellsOf 3 = 1 := by kernel_rfl
  have s22 : Tryz.prog.cellsOf 22 = 1 := by kernel_rfl
  have s23 : Tryz.prog.cellsOf 23 = 1 := by kernel_rfl
  have go : ∀ i, i < 5 → ∃ y, xs[i]? = some y := fun i hi => ⟨_, List.getElem?_eq_getElem (by rw [hxl]; exact hi)⟩
  obtain ⟨y0, e0⟩ := go 0 (by omega); obtain ⟨y1, e1⟩ := go 1 (by omega); obtain ⟨y2, e2⟩ := go 2 (by omega); obtain ⟨y3, e3⟩ := go 3 (by omega); obtain ⟨y4, e4⟩ := go 4 (by omega)
  have g0 := (hx 0 f0 rfl).trans e0
  have g1 := (hx 1 f1 rfl).trans e1
  have g2 := (hx 2 f2 rfl).trans e2
  have g3 := (hx 3 f3 rfl).trans e3
  have g4 := (hx 4 f4 rfl).trans e4
  rw [t0, o0, s3] at g0
  rw [t1, o1, s3] at g1
  rw [t2, o2, s3] at g2
  rw [t3, o3, s22] at g3
  rw [t4, o4, s23] at g4
  obtain ⟨n0, q0, _, w0⟩ := DataW.trod_int h3 g0
  obtain ⟨n1, q1, _, w1⟩ := DataW.trod_int h3 g1
  obtain ⟨n2, q2, _, w2⟩ := DataW.trod_int h3 g2
  obtain rfl := List.head_eq_of_cons_eq (show [c0] = [Value.int .i64 n0] from q0)
  obtain rfl := List.head_eq_of_cons_eq (show [c1] = [Value.int .i64 n1] from q1)
  obtain rfl := List.head_eq_of_cons_eq (show [c2] = [Value.int .i64 n2] from q2)
  obtain ⟨u3, hu3, k3⟩ := hall 3 c3 rfl
  obtain ⟨u4, hu4, k4⟩ := hall 4 c4 rfl
  obtain rfl : 22 = u3 := Option.some.inj hu3
  obtain rfl : 23 = u4 := Option.some.inj hu4
  obtain ⟨pm, nm, cm, zm, em, hcm, hzm, rdm, _⟩ := slice_open (cs := [c3]) h22 (by kernel_rfl : intsB Tryz.prog .i64 3 92 2 = true) g3 (spot_of h22 k3)
  obtain ⟨pr, nr, cr, zr, er, hcr, hzr, rdr, _⟩ := slice_open (cs := [c4]) h23 (by kernel_rfl : intsB Tryz.prog .i64 3 94 4 = true) g4 (spot_of h23 k4)
  obtain rfl := List.head_eq_of_cons_eq em
  obtain rfl := List.head_eq_of_cons_eq er
  exact ⟨⟨n0, n1, n2, spsOf zm, rusOf zr⟩, pm, nm, cm, pr, nr, cr, rfl, hcm, hcr, by rw [spsOf_enc _ _ hzm]; exact rdm, by rw [rusOf_enc _ _ hzr]; exact rdr, w0, w1, w2⟩
end
end Go.Proofs
namespace Go.Proofs.YtlbkicemccikgaaGreatDoor
open Go Go.Lo Go.ChangeShapes Go.WideShapes Go.ChangeAt Go.RowKit Go.Conc
set_option maxRecDepth 100000
theorem tied_goes_at (Lk : Looks) {p : Pinned} {s : OpenSpec} {k : StoodClaim8} {ks : List StandKind} (kinds : List LaidKind) (tests : Bool) (h : Claim7.holdsNew p (.plain s) { stood := k, kinds := ks }) (hw : k.row.wfByText s = true) :
    Claim7.holdsNew p (.plain s) { stood := k, kinds := ks, goes := true, laidByText := true, laidKinds := kinds, laidTests := tests, laidLooks := Lk } := by
  obtain ⟨_, rest⟩ := h
  exact ⟨hw, rest⟩
theorem card_of (Lk : Looks) {p : Pinned} {s : OpenSpec} {c : OpenClaim} (kinds : List LaidKind) (tests : Bool) (har : Bool × String) (lk : Bool)
    (hc : c.holds p s) (hw : c.wfByText s = true) (htie : c.laidByTextAt Lk p kinds tests)
    (hst : c.start = .entering) (hnb : c.noBlocks = false ∧ c.again = false) (hm : p.checked.prog.mainIs = some (har.1, har.2.toList)) (hn : (!har.1 && har.2.isEmpty && !lk) = false)
    (hl : ∀ f fn, p.checked.prog.funcNamed c.func = some f → p.checked.prog.funcs[f]? = some fn → lk = p.checked.prog.looks [] ∧ ∀ (j : Nat) t, fn.params[j]? = some t → p.checked.prog.wantsStandIn t = false)
    (hg : true = c.goesBy p.checked.prog) :
    Claim7.holds p (.plain s) { stood := { row := c, standIns := [], harness := har, looks := lk }, kinds := [], alts := [], goes := true, laidByText := true, laidKinds := kinds, laidTests := tests, laidLooks := Lk } := by
  have h6 : ∀ r : OpenClaim, Claim7.isSixth { stood := { row := r, standIns := [], harness := har, looks := lk }, kinds := [] } = false := fun r => by simpa [Claim7.isSixth] using hn
  exact ⟨tied_goes_at Lk kinds tests (Claim7.new_of_sixth hc har lk hst hnb hm (h6 c) hl) hw, (fun D hD => by cases hD), htie, (fun h => by cases h), hg⟩
theorem own : ownKnob Tryz.prog.godebug = none := by kernel_rfl
theorem laidOut : laidOutB Tryz.prog = true := by kernel_rfl
theorem laidOutP : laidOutB Tryz.pinned.checked.prog = true := laidOut
def laidL : List (String × DataW Unit) := [("ribband/batten.checks", Rows.laid_ribband_batten_checks)]
theorem door_met (os : Os) (args : Array Value) : laidMetH Tryz.prog laidL ((World.doorLaid Tryz.prog 14 os).forCall (fun _ _ => 0) ⟨#[], args, []⟩).memory :=
  laidMetH_of_parts3 (fuel := 8) (laidMet_nil _ _) (by kernel_rfl) (by kernel_rfl)
theorem laid_of {W : World} (h : laidMetH Tryz.prog laidL W) : Laid W.heap := by
  obtain ⟨g, t, cs, fuel, p, hg, ht, hv, hd⟩ := h.funcs (n := "ribband/batten.checks") (List.mem_cons_self ..)
  obtain rfl := Option.some.inj ((show Tryz.prog.globalNamed "ribband/batten.checks" = some 0 by kernel_rfl).symm.trans hg)
  obtain rfl := Option.some.inj ((show (Tryz.prog.globals[0]?).map (·.type) = some 107 by kernel_rfl).symm.trans ht)
  have hu : Tryz.prog.underlying 107 = some (.array 3 106) := by kernel_rfl
  have hc1 : Tryz.prog.cellsOf 106 = 1 := by kernel_rfl
  obtain ⟨ps, rs, va, h106⟩ : ∃ ps rs va, Tryz.prog.underlying 106 = some (.func ps rs va) := ⟨_, _, _, Tryz.underlying106⟩
  obtain ⟨xs, m, _, ex, hl, hxl, hx⟩ := DataW.trod_array hu hd
  have hl3 : cs.toList.length = 3 := hl.trans (by kernel_rfl)
  obtain ⟨cl⟩ := cs
  obtain ⟨c0, c1, c2, rfl⟩ : ∃ c0 c1 c2, cl = [c0, c1, c2] := by
    match cl, hl3 with
    | [c0, c1, c2], _ => exact ⟨_, _, _, rfl⟩
  obtain ⟨y0, y1, y2, rfl⟩ : ∃ y0 y1 y2, xs = [y0, y1, y2] := by
    match xs, hxl with
    | [y0, y1, y2], _ => exact ⟨_, _, _, rfl⟩
  have e2 : ∃ a b c : List UInt8, (Rows.laid_ribband_batten_checks : DataW Unit) = .iface "func table" (.agg [.iface "func" (.lit (.string a)), .iface "func" (.lit (.string b)), .iface "func" (.lit (.string c))]) ∧
      ((List.range Tryz.prog.funcs.size).filter fun f => (Tryz.prog.funcs[f]?).any (·.name.toUTF8.data.toList == a)) = [199] ∧ ((List.range Tryz.prog.funcs.size).filter fun f => (Tryz.prog.funcs[f]?).any (·.name.toUTF8.data.toList == b)) = [200] ∧
      ((List.range Tryz.prog.funcs.size).filter fun f => (Tryz.prog.funcs[f]?).any (·.name.toUTF8.data.toList == c)) = [201] ∧ a ≠ [] ∧ b ≠ [] ∧ c ≠ [] ∧
      [y0.1, y1.1, y2.1] = [.held a, .held b, .held c] := by
    refine ⟨_, _, _, rfl, by kernel_rfl, by kernel_rfl, by kernel_rfl, by simp, by simp, by simp, ?_⟩
    have := congrArg Prod.fst ex
    simp only [DataW.funcsOut] at this
    injection this with this
    exact this.symm
  obtain ⟨a, b, c, _, fa, fb, fc, na, nb, nc, e3⟩ := e2
  simp only [List.cons.injEq, and_true] at e3
  obtain ⟨z0, z1, z2⟩ := e3
  have g0 := hx 0 (by omega)
  have g1 := hx 1 (by omega)
  have g2 := hx 2 (by omega)
  rw [hc1] at g0 g1 g2
  have key : ∀ (v : Value) (y : DataW (List UInt8) × List MemPlace) (l : List UInt8) (f0 : FuncId), DataW.trod (funcToken Tryz.prog) Tryz.prog W 0 (fun _ => true) true m 106 [v] = some y → y.1 = .held l → l ≠ [] → ((List.range Tryz.prog.funcs.size).filter fun f => (Tryz.prog.funcs[f]?).any (·.name.toUTF8.data.toList == l)) = [f0] → v = .func (.func f0) #[] #[] := by
    intro v y l f0 h1 h2 h3 h4
    obtain ⟨y1, y2⟩ := y
    obtain rfl : y1 = .held l := h2
    cases l with
    | nil => exact absurd rfl h3
    | cons b0 r0 => exact func_of_trod h106 h4 h1
  obtain rfl := key c0 y0 a 199 g0 z0 na fa
  obtain rfl := key c1 y1 b 200 g1 z1 nb fb
  obtain rfl := key c2 y2 c 201 g2 z2 nc fc
  unfold World.var? at hv
  rw [hg] at hv
  simp only [Option.bind_some] at hv
  split at hv
  · rename_i cs t f hb
    obtain rfl := Option.some.inj hv
    exact ⟨t, f, hb⟩
  · cases hv
end Go.Proofs.YtlbkicemccikgaaGreatDoor
namespace Go.Proofs.YtlbkicemccikgaaGreatDoor
open Go Go.Lo Go.ChangeShapes Go.WideShapes Go.ChangeAt Go.RowKit Go.Conc
set_option maxRecDepth 100000
theorem near_lifted (os : Os) (started : os.Started) (H : Type) (enc : TypeId × Value → H) :
    ReturnsInLeavingWide {} Tryz.checked os 7 .any (fun w args => (Rows.battenNearSpec.pre enc Tryz.prog Tryz.f7 [] false w args ∧ laidMetH Tryz.prog laidL w) ∧ sizedMet enc Tryz.prog Tryz.f7 (OpenSpec.ofChange Rows.battenNearSpec) false w args)
      (Rows.battenNearSpec.post enc Tryz.prog Tryz.f7 false true false false) := by
  refine returnsInLeavingWide_of_change_and (C := Tryz.checked) (X := fun w _ => laidMetH Tryz.prog laidL w) (fun _ _ _ hh h => h.of_heap hh) own started Tryz.func7
    (ChangeSpec.witness_shaped (enc := enc) (C := Tryz.checked) (os := os) (X := fun w _ => laidMetH Tryz.prog laidL w) false (World.doorLaid Tryz.prog 14 os) #[.agg #[.int .i64 0, .int .i64 0, .int .i64 0, .slice none 0 0, .slice none 0 0], .slice none 0 0, .int .u16 0] 8 rfl (World.shaped_of_RefB (by kernel_rfl) (by kernel_rfl)) (by kernel_rfl) (by kernel_rfl) (by kernel_rfl) (door_met os _)) ?_
  intro W base args ds gs before hval0 hW hL
  have hval : ∀ (j : Nat) t v, Tryz.f7.params[j]? = some t → args[j]? = some v → Value.okWide Tryz.prog W .any base t v := hval0
  have hW' := hW
  obtain ⟨p, q, hA0, hV, rfl, hfz, hnd⟩ := hW
  have hA : DataW.TrodAll enc Tryz.prog W 0 (fun _ => true) true Tryz.f7.params.toList args.toList ds p := hA0
  rw [Tryz.params7] at hA hval
  obtain ⟨v0, vr0, d0, dr0, p0, q0, ea0, ed0, ep0, h0, hA0⟩ := trodAll_cons hA
  obtain ⟨v1, vr1, d1, dr1, p1, q1, ea1, ed1, ep1, h1, hA1⟩ := trodAll_cons hA0
  obtain ⟨v2, vr2, d2, dr2, p2, q2, ea2, ed2, ep2, h2, hA2⟩ := trodAll_cons hA1
  obtain ⟨ez1, ez2, ez3⟩ := trodAll_end hA2
  subst ez1 ez2 ez3
  subst ea2 ed2 ep2
  subst ea1 ed1 ep1
  subst ed0 ep0
  obtain rfl := Array.ext' (show args.toList = #[v0, v1, v2].toList from ea0)
  obtain ⟨rfl, rfl⟩ := trodVars_none hV
  have hval0 := hval 0 _ v0 rfl rfl
  have hval1 := hval 1 _ v1 rfl rfl
  have hval2 := hval 2 _ v2 rfl rfl
  have hlt0 : ∀ x ∈ p0, x.block < W.heap.size := fun x hx => hW'.lt x (by simp [hx])
  have hlt1 : ∀ x ∈ p1, x.block < W.heap.size := fun x hx => hW'.lt x (by simp [hx])
  have hlt2 : ∀ x ∈ p2, x.block < W.heap.size := fun x hx => hW'.lt x (by simp [hx])
  haveI := laid_of hL
  obtain ⟨b, pm, nm, cm, pr, nr, cr, ev0, hcm, hcr, rdm, rdr, _⟩ := book_arg hval0 h0
  obtain ⟨pl, n, c, zs, ev1, rd, hz⟩ := picks_arg hval1 h1
  obtain ⟨y, ev2, hy⟩ := u16_arg hval2 h2
  have run := law_good (W := W) (f := 7) (args := #[v0, v1, v2]) (by rw [ev0, ev1, ev2]; exact f7_t [] rdm rdr rd hz hy)
  obtain ⟨M, last, o, w', t', r1, r2, r3, r4⟩ := run
  refine ⟨M, last, o, w', t', r1, r2, r3, r4.mono fun v hF => ?_⟩
  obtain ⟨rfl, hbelow⟩ : v = .bool true ∧ RowKit.Below W.heap.size W w' := hF
  have hq : DataW.TrodAll enc Tryz.prog w' 0 (fun b => decide (b < W.heap.size)) true Tryz.f7.params.toList #[v0, v1, v2].toList [d0, d1, d2] (p0 ++ (p1 ++ (p2 ++ []))) := by rw [Tryz.params7]; exact (trodAll_more (Below.trod laidOut (by kernel_rfl) (of_decide_eq_true (by kernel_rfl)) h0 hbelow hlt0) (trodAll_more (Below.trod laidOut (by kernel_rfl) (of_decide_eq_true (by kernel_rfl)) h1 hbelow hlt1) (trodAll_more (Below.trod laidOut (by kernel_rfl) (of_decide_eq_true (by kernel_rfl)) h2 hbelow hlt2) rfl)))
  exact ⟨_, _, _, [], _, [], hW', trodAll_mk1 (shut_bool Tryz.underlying4 _), hq, rfl, hbelow.frame _, fun h => by cases h⟩
theorem near_j1 : Tryz.pinned.checked.prog.inPlace 7 = Rows.battenNearRow.inPlace := by kernel_rfl
theorem near_j2 : Tryz.pinned.checked.prog.unfollowed 7 = Rows.battenNearRow.unfollowed := by kernel_rfl
theorem near_j3 : Tryz.pinned.checked.prog.recurses 7 = Rows.battenNearRow.recurses := by kernel_rfl
theorem near_j4 : Tryz.pinned.checked.prog.varsNamed 7 = Rows.battenNearRow.named := by kernel_rfl
theorem near_j5 : namedTie Tryz.pinned.checked.prog Rows.battenNearRow.named Rows.battenNearSpec.vars = true := by kernel_rfl
theorem near_joined : joinedFacts Tryz.pinned.checked.prog 7 Tryz.f7 Rows.battenNearSpec Rows.battenNearRow = true := by
  unfold joinedFacts
  rw [near_j1, near_j2, near_j3, near_j4, near_j5, laidOutP]
  kernel_rfl
theorem near_holds : Rows.BattenNearSaid :=
  OpenClaim.holds_of_wide_leaving 7 Tryz.f7 rfl rfl rfl rfl rfl rfl rfl ⟨rfl, rfl, rfl, rfl, rfl⟩ rfl rfl rfl rfl rfl (by kernel_rfl) Tryz.func7 near_joined
    (of_decide_eq_true (by kernel_rfl)) (by unfold Func.isWrapper; first | (rw [if_pos (by decide +kernel)]; kernel_rfl) | (rw [if_neg (by decide +kernel)]; exact ⟨rfl, rfl⟩))
    (fun os started H enc _ => near_lifted os started H enc)
theorem near_card : Rows.BattenNearCardSaid :=
  card_of .later [.funcs] true (true, "03349bc71d9aa5b6362bd449fcfd3cb52e85abaaf90408fe44bc4d9eb17cb839") false
    near_holds (by kernel_rfl) battenNear_row_tie rfl ⟨rfl, rfl⟩ (by kernel_rfl) rfl
    (fun f fn hf hfn => by
      obtain rfl : f = 7 := Option.some.inj ((show Tryz.prog.funcNamed "ribband/ribbandlaw02.BattenNear" = some 7 by kernel_rfl).symm.trans hf) |>.symm
      obtain rfl : fn = Tryz.f7 := (Option.some.inj (Tryz.func7.symm.trans hfn)).symm
      exact ⟨by kernel_rfl, fun j t ht => by
        rw [Tryz.params7] at ht
        have hm := Array.mem_of_getElem? ht
        have hall : (Tryz.f7.params.toList.all fun u => !Tryz.prog.wantsStandIn u) = true := by kernel_rfl
        rw [Tryz.params7] at hall
        exact (show Tryz.prog.wantsStandIn t = false by simpa using List.all_eq_true.1 hall t (by simpa using hm))⟩)
    (by kernel_rfl)
#print axioms near_card
end Go.Proofs.YtlbkicemccikgaaGreatDoor
