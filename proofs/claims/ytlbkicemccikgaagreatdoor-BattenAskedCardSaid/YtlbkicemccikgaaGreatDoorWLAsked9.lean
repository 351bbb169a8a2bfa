/- A part of the proof of a law: my own separation logic over the machine, and walks of the program. Condition of each theorem: as its statement says. -/
import Derived.Test.YtlbkicemccikgaaGreatDoorWLAsked8
import Derived.Conc.Holds
import Derived.Conc.LeavingOf
import Derived.Deep.Slices
import Derived.OpenShut
import Derived.Carry
import Derived.LaidMore
import Derived.Stop.Joined
set_option linter.all false
namespace Go.Proofs
open Go.Lo
open Go.Conc (G)
set_option maxRecDepth 100000
set_option synthInstance.maxSize 100000
set_option synthInstance.maxHeartbeats 1000000
set_option maxHeartbeats 4000000
variable {B : Array Obj}
variable [Laid B]
theorem f20_c (h : Hp) : FnC (Md.star Tryz.prog B) 20 #[] h fun v h' => ∃ nw, h' = ro h ++ nw ∧ v = .bool true := by
  refine fn_enter Tryz.func20 rfl rfl (l := uu309) rfl ?_
  intro cf cs K hK
  refine rs1 (by kernel_rfl) ?_; refine aq rfl ?_; refine rs3 (by kernel_rfl) ?_; refine k_calC rfl zq (by kernel_rfl) (Post := fun v nw => BkR B exA nw v) (fun H' hH => f88_c _ H') ?_; rintro v nA ⟨pm, nm, cm, pr, nr, cr, rfl, rfl, rfl, hcm, hcr, rdm, rdr⟩; refine k_hpA (k_put ?_); refine k_new rfl zq (fun q1 => k_hp (k_put ?_)); refine k_stA rfl zq rfl ?_; refine k_nil ?_; refine rs2 (by kernel_rfl) ?_; refine k_bs kdq rfl zq (by decide) (by decide) rfl (fun q32 => k_hp (k_put ?_)); refine aq rfl ?_; refine rs8 (by kernel_rfl) ?_; have rdl : RdS B [⟨true, q32, .cells [.int .i64 10, .int .i64 13, .int .i64 13, .int .i64 14].toArray 3 (0, 0)⟩] 1 (.slice (some ⟨q32, 0, none⟩) 4 4) 4 (ints lnA) := (OwnS.full (t := 3) (q := q32) (cs := ints lnA) rfl).rd (List.Sublist.refl _)
  refine k_ldA rfl zq ?_; refine mq rfl ?_; refine k_calC rfl zq (by kernel_rfl) (Post := fun v new => ∃ w, v = .tuple [w, .int .i64 (handedS exA lnA)].toArray ∧ RdI B new w (if handedS exA lnA ≠ 0 then [] else bends lnA)) (fun H' hH => f23_c _ H' (b := exA) (xs := lnA) (rdm.keeps (sq hH)) (by decide) (rdr.keeps (sq hH)) (by decide) (rdl.keeps (sq hH)) (by decide)) ?_; rintro v n23 ⟨w23, rfl, hw23⟩; refine k_hpA (k_put ?_); rw [if_neg (fun e => e xA1), xA2] at hw23
  rw [xA1]; obtain ⟨p23, c23, rfl, r23⟩ := hw23
  refine mq rfl ?_; refine k_ext0 rfl zq ?_; refine k_ext1 rfl zq ?_; refine k_as rfl zq ?_; refine aq rfl ?_; refine rs8 (by kernel_rfl) ?_; refine k_ldA rfl zq ?_; refine mq rfl ?_; refine k_calC rfl zq (by kernel_rfl) (Post := fun v new => ∃ w, v = .tuple [w, .int .i64 (handedS exA lnA)].toArray ∧ RdI B new w (if handedS exA lnA ≠ 0 then [] else diffs (bends lnA))) (fun H' hH => f25_c _ H' (b := exA) (xs := lnA) (rdm.keeps (sq hH)) (by decide) (rdr.keeps (sq hH)) (by decide) (rdl.keeps (sq hH)) (by decide)) ?_; rintro v n25 ⟨w25, rfl, hw25⟩; refine k_hpA (k_put ?_); rw [if_neg (fun e => e xA1), xA3] at hw25
  rw [xA1]; obtain ⟨p25, c25, rfl, r25⟩ := hw25
  refine mq rfl ?_; refine k_ext0 rfl zq ?_; refine k_ext1 rfl zq ?_; refine k_as rfl zq ?_; refine aq rfl ?_; refine rs8 (by kernel_rfl) ?_; refine k_ldA rfl zq ?_; refine mq rfl ?_; refine k_calP (Post := fun v => v = .tuple [.int .i64 1, .int .i64 0].toArray) rfl zq (by kernel_rfl) (fun H' hH => by have := f27_c (Md.star Tryz.prog B) H' (b := exA) (xs := lnA) (rdm.keeps (sq hH)) (by decide) (rdr.keeps (sq hH)) (by decide) (rdl.keeps (sq hH)) (by decide); rw [if_neg (fun e => e xA1), xA4, xA1] at this; exact this) ?_; rintro v rfl; refine k_put ?_; refine mq rfl ?_; refine k_ext0 rfl zq ?_; refine k_ext1 rfl zq ?_; refine k_as rfl zq ?_; refine aq rfl ?_; refine rs8 (by kernel_rfl) ?_; refine k_ldA rfl zq ?_; refine mq rfl ?_; refine k_calP (Post := fun v => ∃ w, v = .tuple [w, .int .i64 (handedS exA lnA)].toArray ∧ IsB (handedS exA lnA = 0 ∧ fair exA.bend exA.twist exA.turns lnA) w) rfl zq (by kernel_rfl) (fun H' hH => f29_c _ H' (b := exA) (xs := lnA) (rdm.keeps (sq hH)) (by decide) (rdr.keeps (sq hH)) (by decide) (rdl.keeps (sq hH)) (by decide)) ?_; rintro v ⟨w29, rfl, hw29⟩; obtain rfl : w29 = .bool false := by
    rcases hw29 with ⟨e, _⟩ | ⟨_, e⟩
    · exact absurd e.2 xA5
    · exact e
  rw [xA1]; refine k_put ?_; refine mq rfl ?_; refine k_ext0 rfl zq ?_; refine k_ext1 rfl zq ?_; refine k_as rfl zq ?_; refine aq rfl ?_; refine rs8 (by kernel_rfl) ?_; refine k_ldA rfl zq ?_; refine k_bs kdq rfl zq (by decide) (by decide) rfl (fun q59 => k_hp (k_put ?_)); have rdl2 : RdS B [⟨true, q59, .cells [.int .i64 10, .int .i64 12, .int .i64 14, .int .i64 13].toArray 3 (0, 0)⟩] 1 (.slice (some ⟨q59, 0, none⟩) 4 4) 4 (ints lnB) := (OwnS.full (t := 3) (q := q59) (cs := ints lnB) rfl).rd (List.Sublist.refl _)
  refine k_calP (Post := fun v => ∃ w, v = .tuple [w, .int .i64 (handedS exA lnB)].toArray ∧ IsB (handedS exA lnB = 0 ∧ boat exA lnB) w) rfl zq (by kernel_rfl) (fun H' hH => f32_c _ H' (b := exA) (xs := lnB) (rdm.keeps (sq hH)) (by decide) (rdr.keeps (sq hH)) (by decide) (rdl2.keeps (sq hH)) (by decide)) ?_; rintro v ⟨w32, rfl, hw32⟩; obtain rfl : w32 = .bool true := by
    rcases hw32 with ⟨_, e⟩ | ⟨e, _⟩
    · exact e
    · exact absurd xA6 e
  rw [xA6.1]; refine k_put ?_; refine mq rfl ?_; refine k_ext0 rfl zq ?_; refine k_ext1 rfl zq ?_; refine k_as rfl zq ?_; refine aq rfl ?_; refine rs7 (by kernel_rfl) ?_; refine k_ldA rfl zq ?_; refine k_calP (Post := fun v => v = .tuple [.int .i64 7, .int .i64 0].toArray) rfl zq (by kernel_rfl) (fun H' hH => by have := f34_c (Md.star Tryz.prog B) H' (b := exA) (rdm.keeps (sq hH)) (by decide) (rdr.keeps (sq hH)) (by decide); rw [if_neg (fun e => e xA7.1), xA7.1, xA7.2] at this; exact this) ?_; rintro v rfl; refine k_put ?_; refine mq rfl ?_; refine k_ext0 rfl zq ?_; refine k_ext1 rfl zq ?_; refine k_as rfl zq ?_; refine aq rfl ?_; refine rs7 (by kernel_rfl) ?_; refine k_ldA rfl zq ?_; refine k_calC rfl zq (by kernel_rfl) (Post := fun v new => ∃ w ys, v = .tuple [w, .int .i64 (openS exA (if 0 ≤ (1 : Int) ∧ (1 : Int) ≤ ((exA.marks.length : Nat) : Int) - 1 then 0 else 6))].toArray ∧ OwnS 3 1 w ys.length (ints ys) new ∧ Asc ys ∧ ∀ z, z ∈ ys ↔ z ∈ heightsAt (openL exA (if 0 ≤ (1 : Int) ∧ (1 : Int) ≤ ((exA.marks.length : Nat) : Int) - 1 then 0 else 6)) (1 : Int).toNat) (fun H' hH => f36_c _ H' (b := exA) (N := 12) (f152_s _) (by decide) (rdm.keeps (sq hH)) (by decide) (rdr.keeps (sq hH)) (by decide) (fun _ => by rw [xA7.2]; decide) 1) ?_; rintro v n36 ⟨w36, ys36, rfl, o36, ha36, hm36⟩; refine k_hpA (k_put ?_); obtain rfl := xD3 ha36 hm36
  rw [xD1]; obtain ⟨p36, c36, rfl, _, r36⟩ := own_rdA (B := B) o36
  refine mq rfl ?_; refine k_ext0 rfl zq ?_; refine k_ext1 rfl zq ?_; refine k_as rfl zq ?_; refine aq rfl ?_; refine rs7 (by kernel_rfl) ?_; refine k_ldA rfl zq ?_; refine k_calP (Post := fun v => v = .tuple [.int .i64 2, .int .i64 0].toArray) rfl zq (by kernel_rfl) (fun H' hH => by have := f38_c (Md.star Tryz.prog B) H' (b := exA) (rdm.keeps (sq hH)) (by decide) (rdr.keeps (sq hH)) (by decide) 2 (by unfold In64; omega); rw [if_neg (fun e => e xD2), xD2, show ((2 : Int) - 1).toNat = 1 from rfl, xA9] at this; exact this) ?_; rintro v rfl; refine k_put ?_; refine mq rfl ?_; refine k_ext0 rfl zq ?_; refine k_ext1 rfl zq ?_; refine k_as rfl zq ?_; refine aq rfl ?_; refine run_seq ?_; refine run_seq ?_; refine run_region [(0, .free), (1, .free), (2, .free), (3, .free), (4, .free), (5, .free), (6, .free), (7, .free), (8, .free), (9, .free), (10, .free), (11, .free), (12, .free), (13, .free), (14, .free), (15, .free), (16, .free), (17, .free), (18, .free), (19, .free), (20, .free), (21, .free), (22, .free), (23, .free), (24, .free), (25, .free), (26, .free), (27, .free), (28, .free), (29, .free), (30, .free), (31, .free), (32, .free), (33, .free), (34, .free), (35, .free), (36, .free), (37, .free), (38, .free), (39, .free), (40, .free), (41, .free), (42, .free), (43, .free), (44, .free), (45, .free), (46, .free), (47, .free), (48, .free), (49, .free), (50, .free), (51, .free), (52, .free), (53, .free), (54, .free), (55, .free), (56, .free), (57, .free), (58, .free), (59, .free), (60, .free), (61, .free), (62, .free), (63, .free), (64, .free), (65, .free), (66, .free)] (by kernel_rfl) (by kernel_rfl) ?_; refine mq rfl ?_; refine k_neqF rfl zq (by decide) ?_; refine mq rfl ?_; refine k_mv rfl rfl ?_; refine k_neqF rfl rfl (by decide) ?_; refine k_pickF rfl zq ?_; refine mq rfl ?_; refine k_mv rfl rfl ?_; refine k_neqF rfl rfl (by decide) ?_; refine k_pickF rfl zq ?_
  refine mq rfl ?_; refine k_mv rfl rfl ?_; refine k_neqF rfl rfl (by decide) ?_; refine k_pickF rfl zq ?_; refine mq rfl ?_; refine k_mv rfl rfl ?_; refine k_neqF rfl rfl (by decide) ?_; refine k_pickF rfl zq ?_; refine mq rfl ?_; refine k_mv rfl rfl ?_; refine k_neqF rfl rfl (by decide) ?_; refine k_pickF rfl zq ?_; refine mq rfl ?_; refine k_mv rfl rfl ?_; refine k_neqF rfl rfl (by decide) ?_; refine k_pickF rfl zq ?_; refine mq rfl ?_; refine k_mv rfl rfl ?_; refine k_neqF rfl rfl (by decide) ?_; refine k_pickF rfl zq ?_; refine mq rfl ?_; refine k_mv rfl rfl ?_; refine k_neqF rfl rfl (by decide) ?_; refine k_pickF rfl zq ?_; refine mq rfl ?_; refine k_mv rfl rfl ?_; refine k_pickF rfl zq ?_; refine mq rfl ?_; refine k_mv rfl rfl ?_; refine k_notT rfl rfl ?_; refine k_pickF rfl zq ?_; refine mq rfl ?_; refine k_mv rfl rfl ?_; refine k_neqF rfl rfl (by decide) ?_; refine k_pickF rfl zq ?_; refine mq rfl ?_; refine k_mv rfl rfl ?_; refine k_neqF rfl rfl (by decide) ?_; refine k_pickF rfl zq ?_; refine mq rfl ?_; refine k_mv rfl rfl ?_; refine k_bs kdq rfl rfl (by decide) (by decide) rfl (fun q129 => k_hp (k_put ?_)); have rd129 : RdS B [⟨true, q129, .cells [.int .i64 (-3), .int .i64 1].toArray 3 (0, 0)⟩] 1 (.slice (some ⟨q129, 0, none⟩) 2 2) 2 (ints [-3, 1]) := (OwnS.full (t := 3) (q := q129) (cs := ints [-3, 1]) rfl).rd (List.Sublist.refl _)
  refine k_calP (Post := fun v => IsB _ v) rfl rfl (by kernel_rfl) (fun H' hH => f31_c _ H' (r23.keeps (sq hH)) (by decide) (rd129.keeps (sq hH))) ?_; rintro v (⟨hc, rfl⟩ | ⟨hc, rfl⟩)
  · refine k_put ?_; refine k_notT rfl rfl ?_; refine k_pickF rfl zq ?_; refine mq rfl ?_; refine k_mv rfl rfl ?_; refine k_bs kdq rfl rfl (by decide) (by decide) rfl (fun q135 => k_hp (k_put ?_)); have rd135 : RdS B [⟨true, q135, .cells [.int .i64 4].toArray 3 (0, 0)⟩] 1 (.slice (some ⟨q135, 0, none⟩) 1 1) 1 (ints [4]) := (OwnS.full (t := 3) (q := q135) (cs := ints [4]) rfl).rd (List.Sublist.refl _)
    refine k_calP (Post := fun v => IsB _ v) rfl rfl (by kernel_rfl) (fun H' hH => f31_c _ H' (r25.keeps (sq hH)) (by decide) (rd135.keeps (sq hH))) ?_; rintro v (⟨hc, rfl⟩ | ⟨hc, rfl⟩)
    · refine k_put ?_; refine k_notT rfl rfl ?_; refine k_pickF rfl zq ?_; refine mq rfl ?_; refine k_mv rfl rfl ?_; refine k_bs kdq rfl rfl (by decide) (by decide) rfl (fun q141 => k_hp (k_put ?_)); have rd141 : RdS B [⟨true, q141, .cells [.int .i64 12, .int .i64 13].toArray 3 (0, 0)⟩] 1 (.slice (some ⟨q141, 0, none⟩) 2 2) 2 (ints [12, 13]) := (OwnS.full (t := 3) (q := q141) (cs := ints [12, 13]) rfl).rd (List.Sublist.refl _)
      refine k_calP (Post := fun v => IsB _ v) rfl rfl (by kernel_rfl) (fun H' hH => f31_c _ H' (r36.keeps (sq hH)) (by decide) (rd141.keeps (sq hH))) ?_; rintro v (⟨hc, rfl⟩ | ⟨hc, rfl⟩)
      · refine k_put ?_; refine k_notT rfl rfl ?_; refine k_pickF rfl zq ?_; refine k_nil ?_; refine run_no ?_; refine run_skip ?_; refine rs9 (by kernel_rfl) ?_; refine k_ldA rfl zq ?_; refine k_calC rfl zq (by kernel_rfl) (Post := fun v new => ∃ w, v = .tuple [w, .int .i64 (straightN exA), .int .i64 (openS exA 0)].toArray ∧ RdI B new w (straightL exA)) (fun H' hH => f40_c _ H' (b := exA) (rdm.keeps (sq hH)) (by decide) (rdr.keeps (sq hH)) (by decide)) ?_; rintro v n40 ⟨w40, rfl, hw40⟩; refine k_hpA (k_put ?_); rw [xB1.1] at hw40
        rw [xB1.2, xA8.1]; obtain ⟨p40, c40, rfl, r40⟩ := hw40
        refine mq rfl ?_; refine k_ext0 rfl zq ?_; refine k_ext1 rfl zq ?_; refine k_ext2 rfl zq ?_; refine k_as rfl zq ?_; refine k_as rfl zq ?_; refine aq rfl ?_; refine rs10 (by kernel_rfl) ?_; refine k_ldA rfl zq ?_; refine mq rfl ?_; refine k_calC rfl zq (by kernel_rfl) (Post := fun v new => ∃ w, v = .tuple [w, .int .i64 (nearN exA lnA), .int .i64 (lineO exA lnA)].toArray ∧ RdI B new w (nearL exA lnA)) (fun H' hH => f42_c _ H' (b := exA) (xs := lnA) (rdm.keeps (sq hH)) (by decide) (rdr.keeps (sq hH)) (by decide) (rdl.keeps (sq hH)) (by decide)) ?_; rintro v n42 ⟨w42, rfl, hw42⟩; refine k_hpA (k_put ?_); rw [xB2.2.1] at hw42
        rw [xB2.2.2, xB2.1]; obtain ⟨p42, c42, rfl, r42⟩ := hw42
        refine mq rfl ?_; refine k_ext0 rfl zq ?_; refine k_ext1 rfl zq ?_; refine k_ext2 rfl zq ?_; refine k_as rfl zq ?_; refine k_as rfl zq ?_; refine aq rfl ?_; refine rs8 (by kernel_rfl) ?_; refine k_ldA rfl zq ?_; refine mq rfl ?_; refine k_calC rfl zq (by kernel_rfl) (Post := fun v new => ∃ w, v = .tuple [w, .int .i64 (lineO exA lnA)].toArray ∧ RdI B new w (pulledL exA lnA)) (fun H' hH => f44_c _ H' (b := exA) (xs := lnA) (rdm.keeps (sq hH)) (by decide) (rdr.keeps (sq hH)) (by decide) (rdl.keeps (sq hH)) (by decide)) ?_; rintro v n44 ⟨w44, rfl, hw44⟩; refine k_hpA (k_put ?_); rw [xB3] at hw44
        rw [xB2.1]; obtain ⟨p44, c44, rfl, r44⟩ := hw44
        refine mq rfl ?_; refine k_ext0 rfl zq ?_; refine k_ext1 rfl zq ?_; refine k_as rfl zq ?_; refine aq rfl ?_; refine rs8 (by kernel_rfl) ?_; refine k_ldA rfl zq ?_; refine k_bs kdq rfl zq (by decide) (by decide) rfl (fun q166 => k_hp (k_put ?_)); have rdl3 : RdS B [⟨true, q166, .cells [.int .i64 10, .int .i64 11, .int .i64 13, .int .i64 15].toArray 3 (0, 0)⟩] 1 (.slice (some ⟨q166, 0, none⟩) 4 4) 4 (ints lnC) := (OwnS.full (t := 3) (q := q166) (cs := ints lnC) rfl).rd (List.Sublist.refl _)
        refine k_calC rfl zq (by kernel_rfl) (Post := fun v new => ∃ w, v = .tuple [w, .int .i64 (lineO exA lnC)].toArray ∧ RdI B new w (mustL exA lnC)) (fun H' hH => f46_c _ H' (b := exA) (xs := lnC) (rdm.keeps (sq hH)) (by decide) (rdr.keeps (sq hH)) (by decide) (rdl3.keeps (sq hH)) (by decide)) ?_; rintro v n46 ⟨w46, rfl, hw46⟩; refine k_hpA (k_put ?_); rw [xB4.2] at hw46
        rw [xB4.1]; obtain ⟨p46, c46, rfl, r46⟩ := hw46
        refine mq rfl ?_; refine k_ext0 rfl zq ?_; refine k_ext1 rfl zq ?_; refine k_as rfl zq ?_; refine aq rfl ?_; refine rs9 (by kernel_rfl) ?_; refine k_ldA rfl zq ?_; refine k_calP (Post := fun v => v = .tuple [.int .i64 1, .int .i64 4, .int .i64 0].toArray) rfl zq (by kernel_rfl) (fun H' hH => by have := f71_c (Md.star Tryz.prog B) H' (b := exA) (rdm.keeps (sq hH)) (by decide) (rdr.keeps (sq hH)) (by decide); rw [xB5.1, xB5.2, xA8.1] at this; exact this) ?_; rintro v rfl; refine k_put ?_; refine mq rfl ?_; refine k_ext0 rfl zq ?_; refine k_ext1 rfl zq ?_; refine k_ext2 rfl zq ?_; refine k_as rfl zq ?_; refine k_as rfl zq ?_; refine aq rfl ?_; refine rs9 (by kernel_rfl) ?_; refine k_ldA rfl zq ?_; refine k_bld rfl zq ?_; refine k_calC rfl zq (by kernel_rfl) (Post := fun v new => ∃ w, v = .tuple [w, .int .i64 (noteS exA ruA)].toArray ∧ BkR B (noteB exA ruA) new w) (fun H' hH => f81_c _ H' (b := exA) (rdm.keeps (sq hH)) (by decide) (rdr.keeps (sq hH)) (by decide) ruA) ?_; rintro v n81 ⟨w81, rfl, pm8, nm8, cm8, pr8, nr8, cr8, rfl, hnm8, hnr8, hcm8, hcr8, rdm8, rdr8⟩; refine k_hpA (k_put ?_); rw [xB6.1]; have hnm8' : nm8 ≤ 1000 := by rw [hnm8]; decide +kernel
        have hnr8' : nr8 ≤ 1000 := by rw [hnr8]; decide +kernel
        refine mq rfl ?_; refine k_ext0 rfl zq ?_; refine k_ext1 rfl zq ?_; refine k_new rfl zq (fun q27 => k_hp (k_put ?_)); refine k_stA rfl zq rfl ?_; refine aq rfl ?_; refine rs7 (by kernel_rfl) ?_; refine k_ldA rfl zq ?_; refine k_calP (Post := fun v => v = .tuple [.int .i64 2, .int .i64 0].toArray) rfl zq (by kernel_rfl) (fun H' hH => by have := f34_c (Md.star Tryz.prog B) H' (b := noteB exA ruA) (rdm8.keeps (sq hH)) hnm8' (rdr8.keeps (sq hH)) hnr8'; rw [if_neg (fun e => e xB6.2.1), xB6.2.1, xB6.2.2] at this; exact this) ?_; rintro v rfl; refine k_put ?_; refine mq rfl ?_; refine k_ext0 rfl zq ?_; refine k_ext1 rfl zq ?_; refine k_as rfl zq ?_; refine aq rfl ?_; refine run_seq ?_; refine run_seq ?_; refine run_region [(0, .free), (1, .free), (2, .free), (3, .free), (4, .free), (5, .free), (6, .free), (7, .free), (8, .free), (9, .free), (10, .free), (11, .free), (12, .free), (13, .free), (14, .free), (15, .free), (16, .free), (17, .free), (18, .free), (19, .free), (20, .free), (21, .free), (22, .free), (23, .free), (24, .free), (25, .free), (26, .free), (27, .free), (28, .free), (29, .free), (30, .free), (31, .free), (32, .free), (33, .free), (34, .free), (35, .free), (36, .free), (37, .free), (38, .free), (39, .free), (40, .free), (41, .free), (42, .free), (43, .free), (44, .free), (45, .free), (46, .free), (47, .free), (48, .free), (49, .free), (50, .free), (51, .free), (52, .free), (53, .free), (54, .free), (55, .free), (56, .free), (57, .free), (58, .free), (59, .free), (60, .free), (61, .free), (62, .free), (63, .free), (64, .free), (65, .free), (66, .free), (67, .free), (68, .free), (69, .free)] (by kernel_rfl) (by kernel_rfl) ?_; refine mq rfl ?_; refine k_neqF rfl zq (by decide) ?_; refine mq rfl ?_; refine k_mv rfl rfl ?_; refine k_neqF rfl rfl (by decide) ?_; refine k_pickF rfl zq ?_; refine mq rfl ?_; refine k_mv rfl rfl ?_; refine k_neqF rfl rfl (by decide) ?_
        refine k_pickF rfl zq ?_; refine mq rfl ?_; refine k_mv rfl rfl ?_; refine k_neqF rfl rfl (by decide) ?_; refine k_pickF rfl zq ?_; refine mq rfl ?_; refine k_mv rfl rfl ?_; refine k_neqF rfl rfl (by decide) ?_; refine k_pickF rfl zq ?_; refine mq rfl ?_; refine k_mv rfl rfl ?_; refine k_neqF rfl rfl (by decide) ?_; refine k_pickF rfl zq ?_; refine mq rfl ?_; refine k_mv rfl rfl ?_; refine k_neqF rfl rfl (by decide) ?_; refine k_pickF rfl zq ?_; refine mq rfl ?_; refine k_mv rfl rfl ?_; refine k_neqF rfl rfl (by decide) ?_; refine k_pickF rfl zq ?_; refine mq rfl ?_; refine k_mv rfl rfl ?_; refine k_neqF rfl rfl (by decide) ?_; refine k_pickF rfl zq ?_; refine mq rfl ?_; refine k_mv rfl rfl ?_; refine k_neqF rfl rfl (by decide) ?_; refine k_pickF rfl zq ?_; refine mq rfl ?_; refine k_mv rfl rfl ?_; refine k_neqF rfl rfl (by decide) ?_; refine k_pickF rfl zq ?_; refine mq rfl ?_; refine k_mv rfl rfl ?_; refine k_neqF rfl rfl (by decide) ?_; refine k_pickF rfl zq ?_; refine mq rfl ?_; refine k_mv rfl rfl ?_; refine k_bs kdq rfl rfl (by decide) (by decide) rfl (fun q235 => k_hp (k_put ?_)); have rd235 : RdS B [⟨true, q235, .cells [.int .i64 10, .int .i64 12, .int .i64 13, .int .i64 14].toArray 3 (0, 0)⟩] 1 (.slice (some ⟨q235, 0, none⟩) 4 4) 4 (ints [10, 12, 13, 14]) := (OwnS.full (t := 3) (q := q235) (cs := ints [10, 12, 13, 14]) rfl).rd (List.Sublist.refl _)
        refine k_calP (Post := fun v => IsB _ v) rfl rfl (by kernel_rfl) (fun H' hH => f31_c _ H' (r40.keeps (sq hH)) (by decide) (rd235.keeps (sq hH))) ?_; rintro v (⟨hc, rfl⟩ | ⟨hc, rfl⟩)
        · refine k_put ?_; refine k_notT rfl rfl ?_; refine k_pickF rfl zq ?_; refine mq rfl ?_; refine k_mv rfl rfl ?_; refine k_mv rfl rfl ?_; refine k_calP (Post := fun v => IsB _ v) rfl rfl (by kernel_rfl) (fun H' hH => f31_c _ H' (r42.keeps (sq hH)) (by decide) (r40.keeps (sq hH))) ?_; rintro v (⟨hc, rfl⟩ | ⟨hc, rfl⟩)
          · refine k_put ?_; refine k_notT rfl rfl ?_; refine k_pickF rfl zq ?_; refine mq rfl ?_; refine k_mv rfl rfl ?_; refine k_bs kdq rfl rfl (by decide) (by decide) rfl (fun q247 => k_hp (k_put ?_)); have rd247 : RdS B [⟨true, q247, .cells [.int .i64 1].toArray 3 (0, 0)⟩] 1 (.slice (some ⟨q247, 0, none⟩) 1 1) 1 (ints [1]) := (OwnS.full (t := 3) (q := q247) (cs := ints [1]) rfl).rd (List.Sublist.refl _)
            refine k_calP (Post := fun v => IsB _ v) rfl rfl (by kernel_rfl) (fun H' hH => f31_c _ H' (r44.keeps (sq hH)) (by decide) (rd247.keeps (sq hH))) ?_; rintro v (⟨hc, rfl⟩ | ⟨hc, rfl⟩)
            · refine k_put ?_; refine k_notT rfl rfl ?_; refine k_pickF rfl zq ?_; refine mq rfl ?_; refine k_mv rfl rfl ?_; refine k_bs kdq rfl rfl (by decide) (by decide) rfl (fun q253 => k_hp (k_put ?_)); have rd253 : RdS B [⟨true, q253, .cells [.int .i64 1, .int .i64 3].toArray 3 (0, 0)⟩] 1 (.slice (some ⟨q253, 0, none⟩) 2 2) 2 (ints [1, 3]) := (OwnS.full (t := 3) (q := q253) (cs := ints [1, 3]) rfl).rd (List.Sublist.refl _)
              refine k_calP (Post := fun v => IsB _ v) rfl rfl (by kernel_rfl) (fun H' hH => f31_c _ H' (r46.keeps (sq hH)) (by decide) (rd253.keeps (sq hH))) ?_; rintro v (⟨hc, rfl⟩ | ⟨hc, rfl⟩)
              · refine k_put ?_; refine k_notT rfl rfl ?_; refine k_pickF rfl zq ?_; refine k_nil ?_; refine run_no ?_; refine run_skip ?_; refine run_seq ?_; refine run_draw [(0, .read), (1, .keep), (2, .keep), (3, .pure), (4, .pure), (5, .pure), (6, .free), (7, .pure)] (by kernel_rfl) (by kernel_rfl) (List.Sublist.refl _) ?_; refine k_ldA rfl zq ?_; refine k_calC rfl zq (by kernel_rfl) (Post := fun v nw => BkR B exO nw v) (fun H' hH => f89_c _ H') ?_; rintro v nO ⟨pmo, nmo, cmo, pro, nro, cro, rfl, rfl, rfl, hcmo, hcro, rdmo, rdro⟩; refine k_hpA (k_put ?_); refine k_calC rfl zq (by kernel_rfl) (Post := fun v new => ∃ w, v = .tuple [w, .int .i64 (spliceS exA exO 2)].toArray ∧ BkR B (spliceB exA exO 2) new w) (fun H' hH => f74_c _ H' (b := exA) (b2 := exO) (rdm.keeps (sq hH)) (by decide) hcm (rdr.keeps (sq hH)) (by decide) (rdmo.keeps (sq hH)) (by decide) (rdro.keeps (sq hH)) (by decide) 2 (by unfold In64; omega)) ?_; rintro v n74 ⟨w74, rfl, pm7, nm7, cm7, pr7, nr7, cr7, rfl, hnm7, hnr7, hcm7, hcr7, rdm7, rdr7⟩; refine k_hpA (k_put ?_); rw [xB7.1]; have hnm7' : nm7 ≤ 1000 := by rw [hnm7]; decide +kernel
                have hnr7' : nr7 ≤ 1000 := by rw [hnr7]; decide +kernel
                refine mq rfl ?_; refine k_ext0 rfl zq ?_; refine k_ext1 rfl zq ?_; refine k_stA rfl zq rfl ?_; refine aq rfl ?_; refine rs7 (by kernel_rfl) ?_; refine k_ldA rfl zq ?_; refine k_calP (Post := fun v => v = .tuple [.int .i64 2, .int .i64 0].toArray) rfl zq (by kernel_rfl) (fun H' hH => by have := f34_c (Md.star Tryz.prog B) H' (b := spliceB exA exO 2) (rdm7.keeps (sq hH)) hnm7' (rdr7.keeps (sq hH)) hnr7'; rw [if_neg (fun e => e xB7.2.1), xB7.2.1, xB7.2.2] at this; exact this) ?_; rintro v rfl; refine k_put ?_; refine mq rfl ?_; refine k_ext0 rfl zq ?_; refine k_ext1 rfl zq ?_; refine k_as rfl zq ?_; refine aq rfl ?_; refine rs9 (by kernel_rfl) ?_; refine k_calP (Post := fun v => v = _) rfl zq (by kernel_rfl) (fun H' hH => f84_c _ H' _) ?_; rintro v rfl; refine k_put ?_; refine k_calP (Post := fun v => v = _) rfl zq (by kernel_rfl) (fun H' hH => f90_c _ H' _ _) ?_; rintro v rfl; refine k_put ?_; refine k_calP (Post := fun v => v = _) rfl zq (by kernel_rfl) (fun H' hH => f84_c _ H' _) ?_; rintro v rfl; refine k_put ?_; refine k_calP (Post := fun v => v = _) rfl zq (by kernel_rfl) (fun H' hH => f84_c _ H' _) ?_; rintro v rfl; refine k_put ?_; refine k_calP (Post := fun v => v = _) rfl zq (by kernel_rfl) (fun H' hH => f90_c _ H' _ _) ?_; rintro v rfl; refine k_put ?_; refine k_bs kdq rfl zq (by decide) (by decide) rfl (fun q273 => k_hp (k_put ?_)); have rd273 : RdS B [⟨true, q273, .cells [.int .i64 10, .int .i64 10, .int .i64 12, .int .i64 13, .int .i64 14, .int .i64 14, .int .i64 13, .int .i64 13, .int .i64 11, .int .i64 12].toArray 92 (0, 0)⟩] 2 (.slice (some ⟨q273, 0, none⟩) 5 5) 5 (encs exS.marks) := rdS_has (ys := encs exS.marks) (x := ⟨List.mem_cons_self⟩) rfl
                refine k_bld rfl zq ?_; refine k_new rfl zq (fun q29 => k_hp (k_put ?_)); refine k_stA rfl zq rfl ?_; refine k_nil ?_; refine rs6 (by kernel_rfl) ?_; refine k_bld rfl zq ?_; refine k_calP (Post := fun v => v = _) rfl zq (by kernel_rfl) (fun H' hH => f84_c _ H' _) ?_; rintro v rfl; refine k_put ?_; refine k_bld rfl zq ?_; refine k_bs kdq rfl zq (by decide) (by decide) rfl (fun q278 => k_hp (k_put ?_)); have rd278 : RdS B [⟨true, q278, .cells [.int .i64 1, .int .i64 3, .int .i64 0, .int .i64 0, .int .i64 0, .int .i64 1, .int .i64 2, .int .i64 2].toArray 94 (0, 0)⟩] 4 (.slice (some ⟨q278, 0, none⟩) 2 2) 2 (encs exR.rules) := rdS_has (ys := encs exR.rules) (x := ⟨List.mem_cons_self⟩) rfl
                first | refine k_fa0 rfl zq ?_ | refine k_fa rfl zq ?_
                refine k_st1 rfl zq ?_; refine k_nil ?_; refine rs7 (by kernel_rfl) ?_; refine k_ldA rfl zq ?_; refine k_cal rfl zq (by kernel_rfl) (f51_c _ (b := exR) (rdm.keeps SubH.sub) (by decide) (rd278.keeps SubH.sub) (by decide)) ?_; rintro v h' ⟨nC, rfl, wC, gC, rfl, ⟨pC, cC, rfl, rdC⟩, okC, _⟩; refine k_put ?_; obtain rfl := xC2 okC
                rw [xB9.1]; refine mq rfl ?_; refine k_ext0 rfl zq ?_; refine k_ext1 rfl zq ?_; refine k_as rfl zq ?_; refine aq rfl ?_; refine run_seq ?_; refine run_region [(0, .free), (1, .free), (2, .free), (3, .free), (4, .free), (5, .free), (6, .free), (7, .free), (8, .free), (9, .free), (10, .free), (11, .free), (12, .free), (13, .free), (14, .free), (15, .free), (16, .free), (17, .free), (18, .free), (19, .free), (20, .free), (21, .free), (22, .free), (23, .free), (24, .free)] (by kernel_rfl) (by kernel_rfl) ?_; refine mq rfl ?_; refine k_eqlT rfl zq (by decide) ?_; refine mq rfl ?_; refine k_mv rfl rfl ?_; refine k_eqlT rfl rfl (by decide) ?_; refine k_pickT rfl zq ?_; refine mq rfl ?_; refine k_mv rfl rfl ?_; refine k_eqlT rfl rfl (by decide) ?_; refine k_pickT rfl zq ?_; refine mq rfl ?_; refine k_mv rfl rfl ?_; refine k_eqlT rfl rfl (by decide) ?_; refine k_pickT rfl zq ?_; refine mq rfl ?_; refine k_ldA rfl rfl ?_; refine k_ldA rfl rfl ?_; refine k_calP (Post := fun v => IsB _ v) rfl rfl (by kernel_rfl) (fun H' hH => f75_c _ H' (b := spliceB exA exO 2) (b2 := exS) (rdm7.ro.keeps (sq hH)) hnm7' (rdr7.ro.keeps (sq hH)) hnr7' (rd273.ro.keeps (sq hH)) (by decide) (⟨none, 0, rfl, rfl, .inl ⟨rfl, rfl⟩⟩ : RdS B H' 4 (.slice none 0 0) 0 (encs exS.rules)) (by decide)) ?_; rintro v (⟨hc, rfl⟩ | ⟨hc, rfl⟩)
                · refine k_put ?_; refine k_pickT rfl zq ?_; refine mq rfl ?_; refine k_mv rfl rfl ?_; refine k_bs kdq rfl rfl (by decide) (by decide) rfl (fun q306 => k_hp (k_put ?_)); have rd306 : RdS B [⟨true, q306, .cells [.int .i64 0, .int .i64 1].toArray 3 (0, 0)⟩] 1 (.slice (some ⟨q306, 0, none⟩) 2 2) 2 (ints [0, 1]) := (OwnS.full (t := 3) (q := q306) (cs := ints [0, 1]) rfl).rd (List.Sublist.refl _)
                  refine k_calP (Post := fun v => IsB _ v) rfl rfl (by kernel_rfl) (fun H' hH => f31_c _ H' (rdC.keeps (sq hH)) (by decide) (rd306.keeps (sq hH))) ?_; rintro v (⟨hc, rfl⟩ | ⟨hc, rfl⟩)
                  · refine k_put ?_; refine k_pickT rfl zq ?_; refine aq rfl ?_; refine run_ret rfl ?_; refine run_res (ro h) rfl Tryz.func20 rfl weakSub ?_; refine hK _ _ ?_
                    exact ⟨[], by simp, rfl⟩
                  · refine k_put ?_; exact absurd rfl hc
                · refine k_put ?_; exact absurd xB8 hc
              · refine k_put ?_; exact absurd rfl hc
            · refine k_put ?_; exact absurd rfl hc
          · refine k_put ?_; exact absurd rfl hc
        · refine k_put ?_; exact absurd rfl hc
      · refine k_put ?_; exact absurd rfl hc
    · refine k_put ?_; exact absurd rfl hc
  · refine k_put ?_; exact absurd rfl hc
end Go.Proofs
namespace Go.Proofs
open Go.Lo
theorem before_snoc : ∀ {a b : List Int} (x y : Int), a.length = b.length → before a b = true → before (a ++ [x]) (b ++ [y]) = true
  | [], [], _, _, _, h => by simp [before] at h
  | [], _ :: _, _, _, h, _ => by simp at h
  | _ :: _, [], _, _, h, _ => by simp at h
  | p :: r, q :: s, x, y, hl, h => by
    rw [List.cons_append, List.cons_append]; unfold before at h ⊢
    by_cases e : p = q
    · rw [if_pos e] at h ⊢; exact before_snoc x y (by simpa using hl) h
    · rw [if_neg e] at h ⊢; exact h
theorem before_last : ∀ (a : List Int) {x y : Int}, x < y → before (a ++ [x]) (a ++ [y]) = true
  | [], x, y, h => by
    rw [List.nil_append, List.nil_append, before, if_neg (by omega)]; exact decide_eq_true h
  | p :: r, x, y, h => by
    rw [List.cons_append, List.cons_append, before, if_pos rfl]; exact before_last r h
theorem spanL_asc (x : Sp) : (spanL x).Pairwise (· < ·) := by
  unfold spanL
  rw [List.pairwise_map]; exact List.pairwise_lt_range.imp fun h => by omega
theorem extL_sorted {all : List (List Int)} {x : Sp} {n : Nat} (hl : ∀ a ∈ all, a.length = n) (h : all.Pairwise fun a b => before a b = true) : (extL all x).Pairwise fun a b => before a b = true := by
  unfold extL
  rw [List.pairwise_flatMap]; refine ⟨fun a _ => ?_, ?_⟩
  · unfold ext1
    rw [List.pairwise_map]; exact (spanL_asc x).imp fun h => before_last a h
  · refine List.Pairwise.imp_of_mem ?_ h
    intro a b ha hb hab p hp q hq
    unfold ext1 at hp hq
    obtain ⟨u, _, rfl⟩ := List.mem_map.1 hp
    obtain ⟨v, _, rfl⟩ := List.mem_map.1 hq
    exact before_snoc _ _ ((hl a ha).trans (hl b hb).symm) hab
theorem linesOf_sorted (ms : List Sp) : ∀ k, k ≤ ms.length → (linesOf (ms.take k)).Pairwise fun a b => before a b = true
  | 0, _ => by
    rw [List.take_zero]; exact List.pairwise_singleton _ _
  | k + 1, h => by
    rw [linesOf_take ms k (by omega)]; exact extL_sorted (n := k) (fun a ha => ((mem_linesOf (by omega)).1 ha).1) (linesOf_sorted ms k (by omega))
theorem boats_sorted (b : Bk) : (boatsOf b).Pairwise fun a b => before a b = true := by
  have := linesOf_sorted b.marks b.marks.length (Nat.le_refl _)
  rw [List.take_length] at this
  exact this.filter _
end Go.Proofs
namespace Go.Lo
open Go.Conc
theorem choose_lt (P : Program) (w : World) (q : Question) (n : Nat) (hn : 0 < n) (hq : q = .select n ∨ ∃ s, q = .extern s n) : ∃ a d, (choose q).run P w = .ok a (w.at d) ∧ a < n := by
  by_cases hf : q.forced = true
  · refine ⟨0, w.drawn, ?_, hn⟩
    simp [choose, Sem.run, hf, World.at]
  · refine ⟨_, w.drawn + 1, by simp [choose, Sem.run, hf, World.at]; rfl, ?_⟩
    rcases hq with rfl | ⟨s, rfl⟩ <;> simp only [Question.cut] <;> first | exact Nat.mod_lt _ hn | (rw [if_neg (by omega)]; exact Nat.mod_lt _ hn)
section
variable {P : Program} {gs : Array Goroutine} {w : World} {sl : Option (Nat × Nat)} {i : Nat} {g g₂ : Goroutine} {es : Array Event} {shape : CommShape} {blocking : Bool} {cases : Array CommCase}
theorem crowd_sel_meets_any (hi : gs[i]? = some g) (h : stepG P (i == 0) g w = .comm g₂ cases blocking shape w es)
    (hcs : ∀ cc ∈ cases, ∃ c z k tm, cc = rcase c z ∧ w.heap[c]? = some (.chan 0 #[] false k k tm))
    (hall : ∀ cc ∈ cases, ∀ c z, cc = rcase c z → ∀ j m, (j, m) ∈ partners (gs.setIfInBounds i ph) c true → m = 0 ∧ j ≠ i ∧ ∃ gj vj zj, gs[j]? = some (parked gj #[scase c vj zj] .send))
    (hsome : ∃ cc ∈ cases, ∃ c z, cc = rcase c z ∧ partners (gs.setIfInBounds i ph) c true ≠ []) :
    ∃ (k : Nat) (c : Nat) (z : Value) (j : Nat) (gj : Goroutine) (vj zj : Value) (n : Nat) (tm : Bool) (d : Nat), cases[k]? = some (rcase c z) ∧ j ≠ i ∧ gs[j]? = some (parked gj #[scase c vj zj] .send) ∧ w.heap[c]? = some (.chan 0 #[] false n n tm) ∧
      runT P (crowd gs w sl) i = (.next (crowd ((gs.setIfInBounds j (Conc.served gj undef)).setIfInBounds i (Conc.served g₂ (commResult cases shape k vj true))) ((w.at d).setChan c 0 #[] false (n + 1) (n + 1) tm) sl),
        MemOp.ofEvents i g.frame.fn g.frame.place es ++ met j i gj.frame.fn gj.frame.place g₂.frame.fn g₂.frame.place c n 0) := by
  have hways : ∀ cc ∈ cases, ∀ c z, cc = rcase c z → ways w (gs.setIfInBounds i ph) cc = (partners (gs.setIfInBounds i ph) c true).map fun (h, k) => Way.partner h k := by
    rintro cc hcc c z rfl; obtain ⟨c', z', k, tm, e, hc⟩ := hcs _ hcc
    obtain ⟨rfl, rfl⟩ : c = c' ∧ z = z' := by simpa [rcase] using e
    simp only [ways, rcase, hc]
    cases partners (gs.setIfInBounds i ph) c true with
    | nil => simp
    | cons p ps => simp
  generalize hrd : ((cases.zipIdx.toList.map fun (c, k) => (k, c, ways w (gs.setIfInBounds i ph) c)).filter fun (_, _, ws) => !ws.isEmpty) = ready
  have hmem : ∀ x ∈ ready, cases[x.1]? = some x.2.1 ∧ x.2.2 = ways w (gs.setIfInBounds i ph) x.2.1 ∧ x.2.2 ≠ [] := by
    intro x hx
    rw [← hrd, List.mem_filter] at hx
    obtain ⟨hx1, hx2⟩ := hx
    simp only [List.mem_map, Prod.exists] at hx1
    obtain ⟨c, k, hm, rfl⟩ := hx1
    refine ⟨by have := Array.mem_zipIdx_iff_getElem?.1 (Array.mem_toList_iff.1 hm); simpa using this, rfl, ?_⟩
    intro e
    simp only at hx2 e
    rw [e] at hx2
    simp at hx2
  have hlen : 0 < ready.length := by
    obtain ⟨cc, hcc, c, z, e, hp⟩ := hsome
    obtain ⟨k, hk⟩ := Array.getElem?_of_mem hcc
    refine List.length_pos_of_mem (a := (k, cc, ways w (gs.setIfInBounds i ph) cc)) ?_
    rw [← hrd, List.mem_filter]; refine ⟨List.mem_map.2 ⟨(cc, k), Array.mem_toList_iff.2 (Array.mem_zipIdx_iff_getElem?.2 (by simpa using hk)), rfl⟩, ?_⟩
    rw [hways cc hcc c z e]; cases hpp : partners (gs.setIfInBounds i ph) c true with
    | nil => exact absurd hpp hp
    | cons p ps => rfl
  obtain ⟨a, d, hca, hla⟩ := choose_lt P w (.select ready.length) ready.length hlen (.inl rfl)
  obtain ⟨⟨k, cc, ws⟩, hx⟩ : ∃ x, ready[a]? = some x := ⟨_, List.getElem?_eq_getElem hla⟩
  obtain ⟨hk, hws, hne⟩ := hmem _ (List.mem_of_getElem? hx)
  simp only at hk hws hne
  have hcc : cc ∈ cases := Array.mem_of_getElem? hk
  obtain ⟨c, z, n, tm, e, hc⟩ := hcs cc hcc
  rw [hways cc hcc c z e] at hws
  have hwl : 0 < ws.length := List.length_pos_iff.2 hne
  obtain ⟨b, d', hcb, hlb⟩ := choose_lt P (w.at d) (.extern "which waiting goroutine is the partner" ws.length) ws.length hwl (.inr ⟨_, rfl⟩)
  obtain ⟨⟨j, m⟩, hp⟩ : ∃ p, (partners (gs.setIfInBounds i ph) c true)[b]? = some p := by
    have : b < (partners (gs.setIfInBounds i ph) c true).length := by rw [hws, List.length_map] at hlb; exact hlb
    exact ⟨_, List.getElem?_eq_getElem this⟩
  have hway : ws.getD b .closed = .partner j m := by rw [hws]; exact getD_map_partner _ b (j, m) hp
  obtain ⟨rfl, hji, gj, vj, zj, hj⟩ := hall cc hcc c z e j m (List.mem_of_getElem? hp)
  have hat : (w.at d).at d' = w.at d' := rfl
  rw [hat] at hcb
  refine ⟨k, c, z, j, gj, vj, zj, n, tm, d', by rw [← e]; exact hk, hji, hj, hc, ?_⟩
  rw [runT_crowd_comm hi h]; have hj' := stand_get (i := i) hji hj
  have hfp := finishPartner_at P (gs.setIfInBounds i ph) hj' (cs := #[scase c vj zj]) (sh := .send) rfl 0 undef
  have hgd : (gs.setIfInBounds i ph).getD j default = parked gj #[scase c vj zj] .send := by rw [Array.getD_eq_getD_getElem?, hj']; rfl
  have hov : offeredValue (gs.setIfInBounds i ph) j 0 = vj := by simp [offeredValue, hj', parked, scase]
  have hnot : ¬ cases.any (illMade w) = true := by
    rw [Bool.not_eq_true]; refine any_ill fun x hx => ?_
    obtain ⟨c', z', k', tm', rfl, hc'⟩ := hcs x hx
    exact made_recv z' hc'
  have hre : ready.isEmpty = false := by cases hr : ready with
    | nil => rw [hr] at hlen; simp at hlen
    | cons x xs => rfl
  have hgetD : ready.getD a (0, default, []) = (k, cc, ws) := by rw [List.getD_eq_getElem?_getD, hx]; rfl
  have hpick : (do
      let a ← choose (.select ready.length)
      let (k, c, ws) := ready.getD a (0, default, [])
      let b ← choose (.extern "which waiting goroutine is the partner" ws.length)
      pure (k, c, ws.getD b .closed) : Sem (Nat × CommCase × Way)).run P w = .ok (k, cc, .partner j 0) (w.at d') := by
    rw [Sem.run_bind, hca]; simp only [Result.andThen_ok, hgetD]
    rw [Sem.run_bind, hcb]; simp only [Result.andThen_ok, hway]
    rfl
  unfold communicate
  simp only [hrd, hre, Bool.false_eq_true, if_false]
  rw [if_neg (by exact hnot)]; simp only [hpick, e, rcase]
  have hc'' : (w.at d').heap[c]? = some (.chan 0 #[] false n n tm) := hc
  simp only [hc'']
  simp [hfp, hgd, hov, set_stand2, finishComm_parked, crowd, World.setChan, met, scase, parked]
  rfl
end
structure Cf (P : Program) (B : Array Obj) (W : World) (Q : Pro) (gs : Array Goroutine) (w : World) (t : Trace) (Hl : Nat → Hp) (Tf : Nat → Tr) (ow : Nat → Option Nat) : Prop where
  core : Core B W Q.chans (fun i => i ≠ 0 ∧ ow i = none) gs w t Hl
  kids : ∀ (i : Nat) g, i ≠ 0 → gs[i]? = some g → Kid P B Q (Tf i) (ow i) g (Hl i)
  dom : ow 0 = none ∧ ∀ i, gs.size ≤ i → ow i = none
section
variable {P : Program} {B : Array Obj} {W : World} {Q : Pro} {gs : Array Goroutine} {w : World} {t : Trace} {Hl : Nat → Hp} {Tf : Nat → Tr} {ow : Nat → Option Nat} {sl : Option (Nat × Nat)}
theorem get_set {i j : Nat} {x g : Goroutine} (h : (gs.setIfInBounds i x)[j]? = some g) : (j = i ∧ g = x) ∨ (j ≠ i ∧ gs[j]? = some g) := by
  by_cases e : i = j
  · subst e
    by_cases hlt : i < gs.size
    · rw [Array.getElem?_setIfInBounds_self_of_lt hlt] at h
      exact .inl ⟨rfl, (Option.some.inj h).symm⟩
    · rw [Array.getElem?_eq_none (by simpa using hlt)] at h; cases h
  · rw [Array.getElem?_setIfInBounds_ne e] at h
    exact .inr ⟨fun x => e x.symm, h⟩
theorem set_get {i : Nat} {x y : Goroutine} (h : gs[i]? = some y) : (gs.setIfInBounds i x)[i]? = some x := Array.getElem?_setIfInBounds_self_of_lt (Array.getElem?_eq_some_iff.1 h).1
theorem set_other {i j : Nat} {x : Goroutine} (h : j ≠ i) : (gs.setIfInBounds i x)[j]? = gs[j]? := Array.getElem?_setIfInBounds_ne fun e => h e.symm
theorem Kid.offers {T : Tr} {o : Option Nat} {g : Goroutine} {h : Hp} (k : Kid P B Q T o g h) (c : Nat) : offersAt g c false = [] := by
  cases k with
  | run c hs => exact offersAt_of_not_blocked (by rw [hs]; simp) _ _
  | wait hc hd m n => exact offersAt_parked_send' _ _ _ _ _ _
  | waitD hc m q => exact offersAt_parked_send' _ _ _ _ _ _
  | left q => exact offersAt_of_not_blocked (by rcases q.status' with h | h <;> rw [h] <;> simp) _ _
theorem Cf.set (c : Cf P B W Q gs w t Hl Tf ow) {i : Nat} {g g' : Goroutine} {w' : World} {u : Trace} {h' : Hp} {T : Tr} (hi : gs[i]? = some g)
    (core : Core B W Q.chans (fun i => i ≠ 0 ∧ ow i = none) (gs.setIfInBounds i g') w' (t ++ u) (updH Hl i h')) (k : Kid P B Q T (ow i) g' h') : Cf P B W Q (gs.setIfInBounds i g') w' (t ++ u) (updH Hl i h') (updT Tf i T) ow := by
  refine ⟨core, fun j x hj hx => ?_, by rw [Array.size_setIfInBounds]; exact c.dom⟩
  rcases get_set hx with ⟨rfl, rfl⟩ | ⟨hne, hx'⟩
  · rw [updH_same, updT_same]; exact k
  · rw [updH_ne _ _ hne, updT_ne _ _ hne]; exact c.kids j x hj hx'
theorem updH_updH (f : Nat → Hp) (i : Nat) (a b : Hp) : updH (updH f i a) i b = updH f i b := by
  funext j; by_cases e : j = i <;> simp [updH, e]
theorem updH_self (f : Nat → Hp) (i : Nat) (a : Hp) (h : f i = a) : updH f i a = f := by
  funext j; by_cases e : j = i
  · subst e; simp [h]
  · simp [updH, e]
def Moved (P : Program) (B : Array Obj) (W : World) (Q : Pro) (gs : Array Goroutine) (w : World) (sl : Option (Nat × Nat)) (t : Trace) (Hl : Nat → Hp) (Tf : Nat → Tr) (ow : Nat → Option Nat) (i : Nat) (Ok : Goroutine → Prop) : Prop :=
  ∃ g' w' u Hl' Tf', runT P (crowd gs w sl) i = (.next (crowd (gs.setIfInBounds i g') w' sl), u) ∧ Cf P B W Q (gs.setIfInBounds i g') w' (t ++ u) Hl' Tf' ow ∧ Ok g' ∧ Hl' 0 = Hl 0 ∧ TLt gs.size Tf' Tf
def AtSend (P : Program) (B : Array Obj) (Q : Pro) (T : Tr) (s s' : Nat) (g : Goroutine) (hr hp : Hp) (r : Nat) (v z : Value) (w : World) : Prop :=
  r ∈ Q.chans ∧ stepG P false g w = .comm g #[scase r v z] true .send w #[] ∧ Q.Msg r v hp s s' ∧
    ((r ≠ Q.done ∧ ∃ T', Tr.Lt (.node fun _ _ => T') T ∧ CRunT P B Q T' s' (Conc.served g undef) hr) ∨ (r = Q.done ∧ ∃ k, Tr.Lt (.node fun _ _ => .ofNat k) T ∧ QuitsIn P k (Conc.served g undef)))
theorem kid_step {i : Nat} {g : Goroutine} (hi0 : i ≠ 0) (hi : gs[i]? = some g) (hg : g.status = .running) (c : Cf P B W Q gs w t Hl Tf ow) :
    Moved P B W Q gs w sl t Hl Tf ow i (fun g' => g'.status ≠ .blocked) ∨ (∃ s s', ow i = some s ∧ ∃ hr hp r v z, Weak B (Hl i) (hr ++ hp) ∧ AtSend P B Q (Tf i) s s' g hr hp r v z w) := by
  have hlt : i < gs.size := (Array.getElem?_eq_some_iff.1 hi).1
  have hz : (i == 0) = false := by simpa using hi0
  have hk := c.kids i g hi0 hi
  generalize hTe : Tf i = T at hk ⊢
  generalize hoe : ow i = o at hk ⊢
  generalize hhe : Hl i = h at hk ⊢
  cases hk with
  | run cr _ =>
    have gen : ∀ (T : Tr) (s : Nat) (g : Goroutine) (h : Hp), CRunT P B Q T s g h → ow i = some s → gs[i]? = some g → Tf i = T → Weak B (Hl i) h → Moved P B W Q gs w sl t Hl Tf ow i (fun g' => g'.status ≠ .blocked) ∨ (∃ s0 s', some s = some s0 ∧ ∃ hr hp r v z, Weak B (Hl i) (hr ++ hp) ∧ AtSend P B Q T s0 s' g hr hp r v z w) := by
      intro T s g h cr
      induction cr with
      | weak k _ ih => exact fun ho hi hT wk => ih ho hi hT (wk.trans k)
      | @step f s g h K' s0 n _ =>
        intro ho hi hT wk
        obtain ⟨g', w', es, h', hst, st, hK⟩ := s0.2 w (wk.sat _ (c.core.sat i))
        have cr' := n _ _ hK
        obtain ⟨r1, r2⟩ := c.core.own (P := P) (sl := sl) hi (by rw [hz]; exact hst) (st.weak_left wk) (fun x => by rw [ho] at x; cases x.2) (.runs cr'.running)
        exact .inl ⟨_, w', _, updH Hl i h', updT Tf i (f g' h'), r1, c.set hi r2 (by rw [ho]; exact .run cr' cr'.running), by show g'.status ≠ _; rw [cr'.running]; simp, updH_ne _ _ (fun e => hi0 e.symm), updT_lt hlt (by rw [hT]; exact Tr.lt f g' h')⟩
      | @send T s s' g hr hp c' v z hs e hc hd m n _ =>
        intro ho hi hT wk
        exact .inr ⟨s, s', rfl, hr, hp, c', v, z, wk, hc, e w (wk.sat _ (c.core.sat i)), m, .inl ⟨hd, T, Tr.lt (fun _ _ => Tr.node fun _ _ => T) g [], n⟩⟩
      | @done k s s' g hr hp v z hs e hc m q =>
        intro ho hi hT wk
        exact .inr ⟨s, s', rfl, hr, hp, Q.done, v, z, wk, hc, e w (wk.sat _ (c.core.sat i)), m, .inr ⟨rfl, k, Tr.lt (fun _ _ => Tr.node fun _ _ => Tr.ofNat k) g [], q⟩⟩
    have := gen T _ g h cr hoe hi hTe (by rw [hhe]; exact Weak.refl _ _)
    rw [hhe] at this
    exact this
  | wait hc hd m n => cases hg
  | waitD hc m q => cases hg
  | @left k _ q =>
    cases k with
    | zero => have : g.status = .finished := q; rw [this] at hg; cases hg
    | succ k =>
      rcases q with hf | ⟨_, g', hst, q'⟩
      · rw [hf] at hg; cases hg
      · obtain ⟨r1, r2⟩ := c.core.slip (P := P) (sl := sl) hi (by rw [hz]; exact hst w) (q'.status'.elim .runs .ended)
        have e : Hl = updH Hl i [] := (updH_self Hl i [] hhe).symm
        exact .inl ⟨_, w, #[], updH Hl i [], updT Tf i (.ofNat k), r1, c.set hi (by rw [Array.append_empty, ← e]; exact r2) (by rw [hoe]; exact .left q'), by rcases q'.status' with h | h <;> rw [h] <;> simp, updH_ne _ _ (fun e => hi0 e.symm), updT_lt hlt (by rw [hTe]; exact Tr.lt _ g [])⟩
theorem kid_lone {a : Goroutine} (h0 : gs[0]? = some a) (ha : a.status = .running) {i : Nat} {g : Goroutine} (hi0 : i ≠ 0) (hi : gs[i]? = some g) (hg : g.status = .running) (c : Cf P B W Q gs w t Hl Tf ow) :
    Moved P B W Q gs w sl t Hl Tf ow i (fun _ => True) := by
  have hlt : i < gs.size := (Array.getElem?_eq_some_iff.1 hi).1
  have hz : (i == 0) = false := by simpa using hi0
  rcases kid_step (sl := sl) hi0 hi hg c with ⟨g', w', u, Hl', Tf', h1, h2, _, h3, h4⟩ | ⟨s, s', hoe, hr, hp, r, v, z, wk, hc, hst, m, hT⟩
  · exact ⟨g', w', u, Hl', Tf', h1, h2, trivial, h3, h4⟩
  have nobody : ∀ (r : Nat), partners (gs.setIfInBounds i ph) r false = [] := fun r => partners_nil fun j x hx => by
    rcases getElem?_stand gs i j x hx with ⟨_, rfl⟩ | ⟨hji, hx'⟩
    · exact offersAt_ph _ _
    · by_cases e : j = 0
      · subst e
        rw [h0] at hx'
        obtain rfl := Option.some.inj hx'
        exact offersAt_of_not_blocked (by rw [ha]; simp) _ _
      · exact (c.kids j x e hx').offers r
  obtain ⟨k, tm, hch⟩ := c.core.chan r hc
  have hw := crowd_waits (P := P) (sl := sl) (w := w) (w₁ := w) (es := #[]) (g₂ := g) hi (by rw [hz]; exact hst) (fun cc hcc => by
    simp only [List.mem_toArray, List.mem_cons, List.not_mem_nil, or_false] at hcc
    subst hcc
    exact ⟨made_send v z hch, by simp [ways, scase, hch, nobody]⟩)
  have core' : Core B W Q.chans (fun i => i ≠ 0 ∧ ow i = none) (gs.setIfInBounds i (parked g #[scase r v z] .send)) w (t ++ #[]) (updH Hl i (hr ++ hp)) := by
    have := c.core.weak wk
    rw [Array.append_empty]; exact ⟨this.sat, this.apart, this.chan, this.chanB, this.ti, this.far, fun op hop => by rw [Array.size_setIfInBounds]; exact this.gsz op hop, fun j hj => this.out j (by simpa using hj), quiet_set this.quiet (.sends hc)⟩
  rcases hT with ⟨hd, T', hT, cr⟩ | ⟨rfl, k', hT, q⟩
  · exact ⟨_, w, #[], updH Hl i (hr ++ hp), updT Tf i (.node fun _ _ => T'), hw, c.set hi core' (by rw [hoe]; exact .wait hc hd m cr), trivial, updH_ne _ _ (fun e => hi0 e.symm), updT_lt hlt hT⟩
  · exact ⟨_, w, #[], updH Hl i (hr ++ hp), updT Tf i (.node fun _ _ => .ofNat k'), hw, c.set hi core' (by rw [hoe]; exact .waitD hc m q), trivial, updH_ne _ _ (fun e => hi0 e.symm), updT_lt hlt hT⟩
def Met (P : Program) (B : Array Obj) (W : World) (Q : Pro) (cases : Array CommCase) (shape : CommShape) (g₀ : Goroutine) (h₀ : Hp) (ow : Nat → Option Nat) (s : Stepped × Array MemOp) (sl : Option (Nat × Nat)) (t : Trace) : Prop :=
  ∃ (k : Nat) (r : Nat) (z v : Value) (hp : Hp) (gs' : Array Goroutine) (w' : World) (u : Trace) (Hl' : Nat → Hp) (Tf' : Nat → Tr) (i s0 s' : Nat), s = (.next (crowd gs' w' sl), u) ∧ cases[k]? = some (rcase r z) ∧ ow i = some s0 ∧ Q.Msg r v hp s0 s' ∧
    gs'[0]? = some (Conc.served g₀ (commResult cases shape k v true)) ∧ Hl' 0 = h₀ ++ hp ∧ Cf P B W Q gs' w' (t ++ u) Hl' Tf' (updO ow i (if r = Q.done then none else some s'))
theorem met_of (c : Cf P B W Q gs w t Hl Tf ow) {i k nn d s0 s' : Nat} {g g₀ : Goroutine} {hr hp : Hp} {r : Nat} {z v : Value} {tm : Bool} {cases : Array CommCase} {shape : CommShape} {s : Stepped × Array MemOp} {fh fj : FuncId} {ph' pj : String} {gs' : Array Goroutine} (hi0 : i ≠ 0) (hlt : i < gs.size) (h0 : 0 < gs.size)
    (hoe : ow i = some s0) (wk : Weak B (Hl i) (hr ++ hp)) (hc : r ∈ Q.chans) (hch : w.heap[r]? = some (.chan 0 #[] false nn nn tm)) (hk : cases[k]? = some (rcase r z)) (m : Q.Msg r v hp s0 s')
    (hT : (r ≠ Q.done ∧ ∃ T', CRunT P B Q T' s' (Conc.served g undef) hr) ∨ (r = Q.done ∧ ∃ k, QuitsIn P k (Conc.served g undef)))
    (hgs : gs'.size = gs.size) (hgi : gs'[i]? = some (Conc.served g undef)) (hg0 : gs'[0]? = some (Conc.served g₀ (commResult cases shape k v true))) (hgo : ∀ j, j ≠ i → j ≠ 0 → gs'[j]? = gs[j]?)
    (e : s = (.next (crowd gs' ((w.at d).setChan r 0 #[] false (nn + 1) (nn + 1) tm) sl), met i 0 fh ph' fj pj r nn 0)) : Met P B W Q cases shape g₀ (Hl 0) ow s sl t := by
  have c1 := c.core.weak wk
  have qn : ∀ (l : Nat) (x : Goroutine), gs'[l]? = some x → Quiet Q.chans x := fun l x hx => by
    by_cases e1 : l = i
    · subst e1
      rw [hgi] at hx
      obtain rfl := Option.some.inj hx
      exact .runs rfl
    · by_cases e2 : l = 0
      · subst e2
        rw [hg0] at hx
        obtain rfl := Option.some.inj hx
        exact .runs rfl
      · exact c.core.quiet l x (by rw [← hgo l e1 e2]; exact hx)
  have eh : updH Hl i (hr ++ hp) 0 = Hl 0 := updH_ne _ _ (fun e => hi0 e.symm)
  have i0 : updO ow i (if r = Q.done then none else some s') 0 = none ∧ ∀ l, gs'.size ≤ l → updO ow i (if r = Q.done then none else some s') l = none := by
    refine ⟨by rw [updO_ne _ _ (fun e => hi0 e.symm)]; exact c.dom.1, fun l hl => ?_⟩
    rw [updO_ne _ _ (by omega)]; exact c.dom.2 l (by omega)
  rcases hT with ⟨hd, T', cr⟩ | ⟨rfl, k', q⟩
  · have c2 := c1.meet (i := i) (j := 0) (x := Conc.served g undef) (y := Conc.served g undef) (hr := hr) (hp := hp) (Left' := fun l => l ≠ 0 ∧ updO ow i (some s') l = none) (d := d) hi0 hlt h0 hc hch (updH_same _ _ _) (.runs rfl) (.runs rfl) (fun l h => by
      by_cases e1 : l = i
      · subst e1; rw [updO_same] at h; cases h.2
      · rw [updO_ne _ _ e1] at h; exact .inl h) fh ph' fj pj gs' hgs qn
    rw [updH_updH, eh] at c2
    rw [if_neg hd] at i0
    refine ⟨k, r, z, v, hp, gs', (w.at d).setChan r 0 #[] false (nn + 1) (nn + 1) tm, met i 0 fh ph' fj pj r nn 0, updH (updH Hl i hr) 0 (Hl 0 ++ hp), updT Tf i T', i, s0, s', e, hk, hoe, m, hg0, updH_same _ _ _, ?_⟩
    rw [if_neg hd]; refine ⟨c2, fun j x hj hx => ?_, i0⟩
    rw [updH_ne _ _ hj]; by_cases e1 : j = i
    · subst e1
      rw [hgi] at hx
      obtain rfl := Option.some.inj hx
      rw [updH_same, updT_same, updO_same]; exact .run cr rfl
    · rw [updH_ne _ _ e1, updT_ne _ _ e1, updO_ne _ _ e1]; exact c.kids j x hj (by rw [← hgo j e1 hj]; exact hx)
  · have c2 := c1.meet (i := i) (j := 0) (x := Conc.served g undef) (y := Conc.served g undef) (hr := hr) (hp := hp) (Left' := fun l => l ≠ 0 ∧ updO ow i none l = none) (d := d) hi0 hlt h0 hc hch (updH_same _ _ _) (.runs rfl) (.runs rfl) (fun l h => by
      by_cases e1 : l = i
      · exact .inr ⟨e1, rfl⟩
      · rw [updO_ne _ _ e1] at h; exact .inl h) fh ph' fj pj gs' hgs qn
    rw [updH_updH, eh] at c2
    have e3 : updH (updH Hl i hr) 0 (Hl 0 ++ hp) i = hr := by rw [updH_ne _ _ hi0, updH_same]
    have c3 := c2.weak (i := i) (h' := []) (by rw [e3]; exact Weak.sub (List.nil_sublist _))
    rw [if_pos rfl] at i0
    refine ⟨k, Q.done, z, v, hp, gs', (w.at d).setChan Q.done 0 #[] false (nn + 1) (nn + 1) tm, met i 0 fh ph' fj pj Q.done nn 0, updH (updH (updH Hl i hr) 0 (Hl 0 ++ hp)) i [], updT Tf i (.ofNat k'), i, s0, s', e, hk, hoe, m, hg0, by rw [updH_ne _ _ (fun e => hi0 e.symm), updH_same], ?_⟩
    rw [if_pos rfl]; refine ⟨c3, fun j x hj hx => ?_, i0⟩
    by_cases e1 : j = i
    · subst e1
      rw [hgi] at hx
      obtain rfl := Option.some.inj hx
      rw [updH_same, updT_same, updO_same]; exact .left q
    · rw [updH_ne _ _ e1, updH_ne _ _ hj, updH_ne _ _ e1, updT_ne _ _ e1, updO_ne _ _ e1]; exact c.kids j x hj (by rw [← hgo j e1 hj]; exact hx)
theorem kid_meets {g₀ : Goroutine} {cases : Array CommCase} {shape : CommShape} (h0 : gs[0]? = some (parked g₀ cases shape))
    (cov : ∀ c ∈ Q.chans, ∃ (k : Nat) (z : Value), cases[k]? = some (rcase c z)) (one : ∀ (k k' : Nat) c z z', cases[k]? = some (rcase c z) → cases[k']? = some (rcase c z') → k = k') (only : ∀ cc ∈ cases, ∃ c z, cc = rcase c z ∧ c ∈ Q.chans)
    (nobl : ∀ (j : Nat) x, j ≠ 0 → gs[j]? = some x → x.status ≠ .blocked)
    {i : Nat} {g : Goroutine} (hi0 : i ≠ 0) (hi : gs[i]? = some g) (hg : g.status = .running) (c : Cf P B W Q gs w t Hl Tf ow) :
    Moved P B W Q gs w sl t Hl Tf ow i (fun g' => g'.status ≠ .blocked) ∨ Met P B W Q cases shape g₀ (Hl 0) ow (runT P (crowd gs w sl) i) sl t := by
  have hlt : i < gs.size := (Array.getElem?_eq_some_iff.1 hi).1
  have hz : (i == 0) = false := by simpa using hi0
  rcases kid_step (sl := sl) hi0 hi hg c with h | ⟨s, s', hoe, hr, hp, r, v, z, wk, hc, hst, m, hT⟩
  · exact .inl h
  refine .inr ?_
  obtain ⟨nn, tm, hch⟩ := c.core.chan r hc
  obtain ⟨k, z0, hk⟩ := cov r hc
  have h0i : (0 : Nat) ≠ i := fun e => hi0 e.symm
  have hp1 : partners (gs.setIfInBounds i ph) r false = [(0, k)] := by
    rw [partners_one (j := 0) (g := parked g₀ cases shape) (by rw [set_other h0i]; exact h0) (fun j x hj hx => ?_), offersAt_parked_at hk (fun q cc hq hcc e => ?_)]
    · rfl
    · obtain ⟨c', z', rfl, _⟩ := only cc (Array.mem_of_getElem? hcc)
      obtain rfl : c' = r := by simpa [rcase] using e
      exact hq (one q k _ _ _ hcc hk)
    · rcases getElem?_stand gs i j x hx with ⟨_, rfl⟩ | ⟨hji, hx'⟩
      · exact offersAt_ph _ _
      · exact offersAt_of_not_blocked (nobl j x hj hx') _ _
  have hr1 := crowd_send_meets_sel (P := P) (sl := sl) (w := w) (w₁ := w) (es := #[]) (g₂ := g) hi (by rw [hz]; exact hst) hch h0i h0 hk hp1
  refine met_of c (d := w.drawn) (fh := g.frame.fn) (ph' := g.frame.place) (fj := g₀.frame.fn) (pj := g₀.frame.place) (gs' := (gs.setIfInBounds 0 (g₀.finishComm P cases shape k v true)).setIfInBounds i (g.finishComm P #[scase r v z] .send 0 undef false)) hi0 hlt (by omega) hoe wk hc hch hk m
    (hT.imp (fun ⟨a, T', _, b⟩ => ⟨a, T', b⟩) (fun ⟨a, k, _, b⟩ => ⟨a, k, b⟩)) (by simp) (set_get (y := g) (by rw [set_other hi0]; exact hi)) (by rw [set_other h0i, set_get h0]; rfl) (fun j h1 h2 => by rw [set_other h1, set_other h2]) ?_
  rw [hr1]; rfl
theorem main_meets {g₀ : Goroutine} {cases : Array CommCase} {shape : CommShape} (h0 : gs[0]? = some g₀) (hst : stepG P true g₀ w = .comm g₀ cases true shape w #[])
    (cov : ∀ c ∈ Q.chans, ∃ (k : Nat) (z : Value), cases[k]? = some (rcase c z)) (only : ∀ cc ∈ cases, ∃ c z, cc = rcase c z ∧ c ∈ Q.chans) (hg0 : g₀.status = .running)
    (c : Cf P B W Q gs w t Hl Tf ow) : (∀ (j : Nat) x, j ≠ 0 → gs[j]? = some x → x.status ≠ .blocked) ∨ Met P B W Q cases shape g₀ (Hl 0) ow (runT P (crowd gs w sl) 0) sl t := by
  by_cases nobl : ∀ (j : Nat) x, j ≠ 0 → gs[j]? = some x → x.status ≠ .blocked
  · exact .inl nobl
  refine .inr ?_
  have h0l : 0 < gs.size := (Array.getElem?_eq_some_iff.1 h0).1
  -- who waits
  have wait : ∀ (j : Nat) x, j ≠ 0 → gs[j]? = some x → x.status = .blocked → ∃ gj r v z hr hp s0 s', x = parked gj #[scase r v z] .send ∧ r ∈ Q.chans ∧ ow j = some s0 ∧ Hl j = hr ++ hp ∧ Q.Msg r v hp s0 s' ∧
      ((r ≠ Q.done ∧ ∃ T', CRunT P B Q T' s' (Conc.served gj undef) hr) ∨ (r = Q.done ∧ ∃ k, QuitsIn P k (Conc.served gj undef))) := by
    intro j x hj hx hb
    have hk := c.kids j x hj hx
    generalize Tf j = T at hk
    generalize hoe : ow j = o at hk ⊢
    generalize hhe : Hl j = h at hk ⊢
    cases hk with
    | run cr hs => rw [hs] at hb; cases hb
    | wait hc hd m n => exact ⟨_, _, _, _, _, _, _, _, rfl, hc, rfl, rfl, m, .inl ⟨hd, _, n⟩⟩
    | waitD hc m q => exact ⟨_, _, _, _, _, _, _, _, rfl, hc, rfl, rfl, m, .inr ⟨rfl, _, q⟩⟩
    | left q => rcases q.status' with h | h <;> rw [h] at hb <;> cases hb
  have offer : ∀ (r j m : Nat), (j, m) ∈ partners (gs.setIfInBounds 0 ph) r true → m = 0 ∧ j ≠ 0 ∧ ∃ gj vj zj, gs[j]? = some (parked gj #[scase r vj zj] .send) := by
    intro r j m hm
    obtain ⟨x, hx, hk⟩ := mem_partners.1 hm
    rcases getElem?_stand gs 0 j x hx with ⟨_, rfl⟩ | ⟨hj, hx'⟩
    · rw [offersAt_ph] at hk; cases hk
    · by_cases hb : x.status = .blocked
      · obtain ⟨gj, r', v, z, hr, hp, _, _, rfl, _⟩ := wait j x hj hx' hb
        rw [offersAt_parked_send] at hk
        split at hk
        · rename_i e
          subst e
          exact ⟨by simpa using hk, hj, gj, v, z, hx'⟩
        · cases hk
      · rw [offersAt_of_not_blocked hb] at hk; cases hk
  have hsome : ∃ cc ∈ cases, ∃ r z, cc = rcase r z ∧ partners (gs.setIfInBounds 0 ph) r true ≠ [] := by
    have : ∃ (j : Nat) (x : Goroutine), j ≠ 0 ∧ gs[j]? = some x ∧ x.status = .blocked := by
      apply Classical.byContradiction
      intro hne
      exact nobl fun j x hj hx hb => hne ⟨j, x, hj, hx, hb⟩
    obtain ⟨j, x, hj, hx, hb⟩ := this
    obtain ⟨gj, r, v, z, hr, hp, _, _, rfl, hc, _⟩ := wait j x hj hx hb
    obtain ⟨k, z0, hk⟩ := cov r hc
    refine ⟨_, Array.mem_of_getElem? hk, r, z0, rfl, fun e => ?_⟩
    have : (j, 0) ∈ partners (gs.setIfInBounds 0 ph) r true := mem_partners.2 ⟨_, by rw [set_other hj]; exact hx, by rw [offersAt_parked_send]; simp⟩
    rw [e] at this; cases this
  obtain ⟨k, r, z, j, gj, vj, zj, nn, tm, d, hk, hj, hgj, hch, hrun⟩ := crowd_sel_meets_any (P := P) (sl := sl) (w := w) (es := #[]) (g₂ := g₀) h0 hst (fun cc hcc => by
    obtain ⟨r, z, e, hc⟩ := only cc hcc
    obtain ⟨k, tm, e'⟩ := c.core.chan r hc
    exact ⟨r, z, k, tm, e, e'⟩) (fun cc hcc r z e j m hm => offer r j m hm) hsome
  obtain ⟨gj', r', v', z', hr, hp, s0, s', e, hc, hoe, hhe, m, hT⟩ := wait j _ hj hgj rfl
  have e1 := congrArg (fun g : Goroutine => g.offers) e
  have e2 := congrArg (fun g : Goroutine => Conc.served g undef) e
  simp only [parked, Option.some.injEq, Prod.mk.injEq, and_true] at e1
  have e3 : Conc.served gj undef = Conc.served gj' undef := e2
  have e4 : scase r vj zj = scase r' v' z' := by simpa using e1
  simp only [scase, CommCase.mk.injEq, Value.chan.injEq, Option.some.injEq] at e4
  obtain ⟨rfl, rfl, rfl⟩ := e4
  refine met_of c (i := j) (d := d) (g := gj) (fh := gj.frame.fn) (ph' := gj.frame.place) (fj := g₀.frame.fn) (pj := g₀.frame.place) (gs' := (gs.setIfInBounds j (Conc.served gj undef)).setIfInBounds 0 (Conc.served g₀ (commResult cases shape k vj true))) hj (Array.getElem?_eq_some_iff.1 hgj).1 h0l hoe (by rw [hhe]; exact Weak.refl _ _) hc hch hk m
    (by rw [e3]; exact hT) (by simp) (by rw [set_other hj, set_get hgj]) (set_get (y := g₀) (by rw [set_other (fun e => hj e.symm)]; exact h0)) (fun l h1 h2 => by rw [set_other h2, set_other h1]) ?_
  rw [hrun]; rfl
end
end Go.Lo
namespace Go.Lo
open Go.Conc
section
variable {P : Program} {B : Array Obj} {W : World}
theorem MRun.running {K : Goroutine → Hp → Prop} (hK : ∀ g h, K g h → g.status = .running) {Q : Pro} {F : Nat → Option Nat} {g : Goroutine} {h : Hp} (r : MRun P B K Q F g h) : g.status = .running := by
  induction r with
  | stop hF k => exact hK _ _ k
  | step K'' s _ _ => exact s.1
  | weak k _ ih => exact ih
  | share Q' hF _ ih => exact ih
  | spawn s hs => exact hs
  | recv hs => exact hs
theorem Cf.at {Q : Pro} {gs : Array Goroutine} {w : World} {t : Trace} {Hl : Nat → Hp} {Tf : Nat → Tr} {ow : Nat → Option Nat} (c : Cf P B W Q gs w t Hl Tf ow) (d : Nat) : Cf P B W Q gs (w.at d) t Hl Tf ow := ⟨c.core.at d, c.kids, c.dom⟩
theorem runNT_step {m m' : Machine} {u t : Trace} {N : Nat} {R : Stepped × Trace} (h : stepT P m = (.next m', u)) (r : runNT P N m' (t ++ u) = R) : runNT P (N + 1) m t = R := by
  rw [← r]; simp only [runNT, h]
theorem Cf.pick {Q : Pro} {gs : Array Goroutine} {w : World} {t : Trace} {Hl : Nat → Hp} {Tf : Nat → Tr} {ow : Nat → Option Nat} (c : Cf P B W Q gs w t Hl Tf ow) (sl : Option (Nat × Nat)) (some1 : ∃ (i : Nat) (g : Goroutine), gs[i]? = some g ∧ g.status = .running) :
    ∃ (i : Nat) (g : Goroutine) (d : Nat) (sl' : Option (Nat × Nat)), gs[i]? = some g ∧ g.status = .running ∧ stepT P (crowd gs w sl) = runT P (crowd gs (w.at d) sl') i :=
  crowd_pick (fun g hg => by
    obtain ⟨i, hi⟩ := Array.getElem?_of_mem hg
    exact (c.core.quiet i g hi).awake) some1
theorem run_star {K : Goroutine → Hp → Prop} (hK : ∀ g h, K g h → g.status = .running) {Q : Pro} {F : Nat → Option Nat} {g : Goroutine} {h : Hp} (r : MRun P B K Q F g h) :
    ∀ (gs : Array Goroutine) (w : World) (sl : Option (Nat × Nat)) (t : Trace) (Hl : Nat → Hp) (Tf : Nat → Tr) (ow : Nat → Option Nat), gs[0]? = some g → Hl 0 = h → Cf P B W Q gs w t Hl Tf ow → ow = F →
      ∃ (N : Nat) (Q' : Pro) (g' : Goroutine) (gs' : Array Goroutine) (w' : World) (sl' : Option (Nat × Nat)) (t' : Trace) (Hl' : Nat → Hp) (Tf' : Nat → Tr) (ow' : Nat → Option Nat),
        runNT P N (crowd gs w sl) t = (.next (crowd gs' w' sl'), t') ∧ gs'[0]? = some g' ∧ K g' (Hl' 0) ∧ Cf P B W Q' gs' w' t' Hl' Tf' ow' ∧ (∀ i, ow' i = none) := by
  induction r with
  | @stop Q F g h hF k =>
    intro gs w sl t Hl Tf ow h0 hh c ho
    subst ho
    exact ⟨0, Q, g, gs, w, sl, t, Hl, Tf, ow, rfl, h0, by rw [hh]; exact k, c, hF⟩
  | @weak Q F g h h' k _ ih =>
    intro gs w sl t Hl Tf ow h0 hh c ho
    exact ih gs w sl t (updH Hl 0 h') Tf ow h0 (updH_same _ _ _) ⟨c.core.weak (by rw [hh]; exact k), fun i x hi hx => by rw [updH_ne _ _ hi]; exact c.kids i x hi hx, c.dom⟩ ho
  | @share Q F Q' g h hF cr ih =>
    intro gs w sl t Hl Tf ow h0 hh c ho0
    subst ho0
    have left : ∀ (i : Nat) x, i ≠ 0 → gs[i]? = some x → ∃ k, Tf i = .ofNat k ∧ ow i = none ∧ Hl i = [] ∧ QuitsIn P k x := fun i x hi hx => by
      have hk := c.kids i x hi hx
      have ho := hF i
      generalize Tf i = T at hk ⊢
      generalize hhe : Hl i = hl at hk ⊢
      rw [ho] at hk ⊢
      cases hk with
      | left q => exact ⟨_, rfl, rfl, rfl, q⟩
    refine ih gs w sl t (updH Hl 0 h) Tf ow h0 (updH_same _ _ _) ⟨c.core.share (fun i x hx => ?_) hh, fun i x hi hx => ?_, c.dom⟩ rfl
    · by_cases e : i = 0
      · subst e
        rw [h0] at hx
        obtain rfl := Option.some.inj hx
        exact .runs (cr.running hK)
      · obtain ⟨k, _, _, _, q⟩ := left i x e hx
        exact q.status'.elim .runs .ended
    · obtain ⟨k, e1, e2, e3, q⟩ := left i x hi hx
      rw [updH_ne _ _ hi, e1, e2, e3]; exact .left q
  | @step Q F g h K' s _ ih =>
    intro gs w sl t Hl Tf ow h0 hh c ho
    subst ho
    have gen : ∀ (m : Nat) (Tf : Nat → Tr), Acc (TLt m) Tf → ∀ (gs : Array Goroutine) (w : World) (sl : Option (Nat × Nat)) (t : Trace) (Hl : Nat → Hp), gs.size = m → gs[0]? = some g → Hl 0 = h → Cf P B W Q gs w t Hl Tf ow →
        ∃ (N : Nat) (Q' : Pro) (g' : Goroutine) (gs' : Array Goroutine) (w' : World) (sl' : Option (Nat × Nat)) (t' : Trace) (Hl' : Nat → Hp) (Tf' : Nat → Tr) (ow' : Nat → Option Nat),
          runNT P N (crowd gs w sl) t = (.next (crowd gs' w' sl'), t') ∧ gs'[0]? = some g' ∧ K g' (Hl' 0) ∧ Cf P B W Q' gs' w' t' Hl' Tf' ow' ∧ (∀ i, ow' i = none) := by
      intro m Tf acc
      induction acc with
      | intro Tf _ iha =>
        intro gs w sl t Hl hm h0 hh c
        obtain ⟨i, x, d, sl', hi, hx, hst⟩ := c.pick sl ⟨0, g, h0, s.1⟩
        have c' := c.at d
        by_cases e : i = 0
        · subst e
          rw [h0] at hi
          obtain rfl := Option.some.inj hi
          obtain ⟨g', w', es, h', hs, st, hk⟩ := s.2 (w.at d) (by rw [← hh]; exact c'.core.sat 0)
          obtain ⟨r1, r2⟩ := c'.core.own (P := P) (sl := sl') h0 hs (by rw [hh]; exact st) (fun x => x.1 rfl) (.runs ((‹∀ g' h', K' g' h' → MRun P B K Q ow g' h'› _ _ hk).running hK))
          obtain ⟨N, q⟩ := ih g' h' hk _ w' sl' _ (updH Hl 0 h') Tf ow (set_get h0) (updH_same _ _ _) ⟨r2, fun j y hj hy => by
            rw [set_other hj] at hy
            rw [updH_ne _ _ hj]; exact c.kids j y hj hy, by rw [Array.size_setIfInBounds]; exact c.dom⟩ rfl
          obtain ⟨Q', g'', gs', w'', sl'', t', Hl', Tf', ow', hr, q⟩ := q
          exact ⟨N + 1, Q', g'', gs', w'', sl'', t', Hl', Tf', ow', runNT_step (hst.trans r1) hr, q⟩
        · obtain ⟨g', w', u, Hl', Tf', r1, r2, _, r3, r4⟩ := kid_lone (sl := sl') h0 s.1 e hi hx c'
          obtain ⟨N, Q', g'', gs', w'', sl'', t', Hl'', Tf'', ow', hr, q⟩ := iha Tf' (by rw [← hm]; exact r4) (gs.setIfInBounds i g') w' sl' (t ++ u) Hl' (by rw [Array.size_setIfInBounds]; exact hm) (by rw [set_other (fun x => e x.symm)]; exact h0) (r3.trans hh) r2
          exact ⟨N + 1, Q', g'', gs', w'', sl'', t', Hl'', Tf'', ow', runNT_step (hst.trans r1) hr, q⟩
    exact gen gs.size Tf (TLt.acc _ _) gs w sl t Hl rfl h0 hh c
  | @spawn Q F g g₁ child h h₁ hc s0 hs hs' e k1 k2 ap kid cr ih =>
    intro gs w sl t Hl Tf ow h0 hh c ho
    subst ho
    obtain ⟨Tk, hTk⟩ := kid.tree
    have gen : ∀ (m : Nat) (Tf : Nat → Tr), Acc (TLt m) Tf → ∀ (gs : Array Goroutine) (w : World) (sl : Option (Nat × Nat)) (t : Trace) (Hl : Nat → Hp), gs.size = m → gs[0]? = some g → Hl 0 = h → Cf P B W Q gs w t Hl Tf ow →
        ∃ (N : Nat) (Q' : Pro) (g' : Goroutine) (gs' : Array Goroutine) (w' : World) (sl' : Option (Nat × Nat)) (t' : Trace) (Hl' : Nat → Hp) (Tf' : Nat → Tr) (ow' : Nat → Option Nat),
          runNT P N (crowd gs w sl) t = (.next (crowd gs' w' sl'), t') ∧ gs'[0]? = some g' ∧ K g' (Hl' 0) ∧ Cf P B W Q' gs' w' t' Hl' Tf' ow' ∧ (∀ i, ow' i = none) := by
      intro m Tf acc
      induction acc with
      | intro Tf _ iha =>
        intro gs w sl t Hl hm h0 hh c
        obtain ⟨i, x, d, sl', hi, hx, hst⟩ := c.pick sl ⟨0, g, h0, hs⟩
        have c' := c.at d
        have hpos : gs.size ≠ 0 := by have := (Array.getElem?_eq_some_iff.1 h0).1; omega
        by_cases ei : i = 0
        · subst ei
          rw [h0] at hi
          obtain rfl := Option.some.inj hi
          have hL : ∀ l, (l ≠ 0 ∧ updO ow gs.size (some s0) l = none) → (l ≠ 0 ∧ ow l = none) := fun l hl => by
            by_cases e1 : l = gs.size
            · subst e1; rw [updO_same] at hl; cases hl.2
            · rw [updO_ne _ _ e1] at hl; exact hl
          obtain ⟨r1, r2⟩ := (c'.core.stay hL).spawn (P := P) (sl := sl') h0 (e (w.at d) (by rw [← hh]; exact c'.core.sat 0)) (by rw [hh]; exact k1) (by rw [hh]; exact k2) (ap (w.at d) (by rw [← hh]; exact c'.core.sat 0)) (.runs hs') (.runs hTk.running)
          obtain ⟨N, Q', g'', gs', w'', sl'', t', Hl', Tf', ow', hr, q⟩ := ih gs.size hpos (c.dom.2 _ (Nat.le_refl _)) _ (w.at d) sl' _ (updH (updH Hl 0 h₁) gs.size hc) (updT Tf gs.size Tk) (updO ow gs.size (some s0)) (by
              rw [Array.getElem?_push_lt (by simpa using Nat.pos_of_ne_zero hpos)]; have := set_get (x := g₁) h0
              rw [Array.getElem?_eq_getElem (by simpa using Nat.pos_of_ne_zero hpos)] at this
              exact this) (by rw [updH_ne _ _ (fun x => hpos x.symm), updH_same]) ⟨r2, fun j y hj hy => by
            rw [Array.getElem?_push] at hy
            split at hy
            · rename_i e1
              rw [Array.size_setIfInBounds] at e1
              subst e1
              obtain rfl := Option.some.inj hy
              rw [updH_same, updT_same, updO_same]; exact .run hTk hTk.running
            · rename_i e1
              rw [Array.size_setIfInBounds] at e1
              rw [set_other hj] at hy
              rw [updH_ne _ _ e1, updH_ne _ _ hj, updT_ne _ _ e1, updO_ne _ _ e1]; exact c.kids j y hj hy, by rw [updO_ne _ _ (fun x => hpos x.symm)]; exact c.dom.1, fun l hl => by
            rw [Array.size_push, Array.size_setIfInBounds] at hl
            rw [updO_ne _ _ (by omega)]; exact c.dom.2 l (by omega)⟩ rfl
          exact ⟨N + 1, Q', g'', gs', w'', sl'', t', Hl', Tf', ow', runNT_step (hst.trans r1) hr, q⟩
        · obtain ⟨g', w', u, Hl', Tf', r1, r2, _, r3, r4⟩ := kid_lone (sl := sl') h0 hs ei hi hx c'
          obtain ⟨N, Q', g'', gs', w'', sl'', t', Hl'', Tf'', ow', hr, q⟩ := iha Tf' (by rw [← hm]; exact r4) (gs.setIfInBounds i g') w' sl' (t ++ u) Hl' (by rw [Array.size_setIfInBounds]; exact hm) (by rw [set_other (fun x => ei x.symm)]; exact h0) (r3.trans hh) r2
          exact ⟨N + 1, Q', g'', gs', w'', sl'', t', Hl'', Tf'', ow', runNT_step (hst.trans r1) hr, q⟩
    exact gen gs.size Tf (TLt.acc _ _) gs w sl t Hl rfl h0 hh c
  | @recv Q F g h cases shape hs e hn cov only one cr ih =>
    intro gs w sl t Hl Tf ow h0 hh c ho
    subst ho
    -- behind a message
    have behind : ∀ {s : Stepped × Array MemOp} {sl : Option (Nat × Nat)} {t : Trace} {m : Machine}, Met P B W Q cases shape g h ow s sl t → stepT P m = s →
        ∃ (N : Nat) (Q' : Pro) (g' : Goroutine) (gs' : Array Goroutine) (w' : World) (sl' : Option (Nat × Nat)) (t' : Trace) (Hl' : Nat → Hp) (Tf' : Nat → Tr) (ow' : Nat → Option Nat),
          runNT P N m t = (.next (crowd gs' w' sl'), t') ∧ gs'[0]? = some g' ∧ K g' (Hl' 0) ∧ Cf P B W Q' gs' w' t' Hl' Tf' ow' ∧ (∀ i, ow' i = none) := by
      rintro s sl t m ⟨k, r, z, v, hp, gs', w', u, Hl', Tf', i, s0, s', rfl, hk, hoe, hm, hg, hh', hc⟩ hst; obtain ⟨N, Q', g'', gs'', w'', sl'', t', Hl'', Tf'', ow'', hr, q⟩ := ih k r z v hp i s0 s' hk hoe hm gs' w' sl (t ++ u) Hl' Tf' _ hg hh' hc rfl
      exact ⟨N + 1, Q', g'', gs'', w'', sl'', t', Hl'', Tf'', ow'', runNT_step hst hr, q⟩
    -- goroutine 0 waits
    have parkd : ∀ (m : Nat) (Tf : Nat → Tr), Acc (TLt m) Tf → ∀ (gs : Array Goroutine) (w : World) (sl : Option (Nat × Nat)) (t : Trace) (Hl : Nat → Hp), gs.size = m → gs[0]? = some (parked g cases shape) → Hl 0 = h → (∀ (j : Nat) x, j ≠ 0 → gs[j]? = some x → x.status ≠ .blocked) → Cf P B W Q gs w t Hl Tf ow →
        ∃ (N : Nat) (Q' : Pro) (g' : Goroutine) (gs' : Array Goroutine) (w' : World) (sl' : Option (Nat × Nat)) (t' : Trace) (Hl' : Nat → Hp) (Tf' : Nat → Tr) (ow' : Nat → Option Nat),
          runNT P N (crowd gs w sl) t = (.next (crowd gs' w' sl'), t') ∧ gs'[0]? = some g' ∧ K g' (Hl' 0) ∧ Cf P B W Q' gs' w' t' Hl' Tf' ow' ∧ (∀ i, ow' i = none) := by
      intro m Tf acc
      induction acc with
      | intro Tf _ iha =>
        intro gs w sl t Hl hm h0 hh nobl c
        obtain ⟨q, sq, hqo⟩ := hn
        have hq0 : q ≠ 0 := fun e => by rw [e, c.dom.1] at hqo; cases hqo
        have hql : q < gs.size := Nat.lt_of_not_le fun e => by rw [c.dom.2 q e] at hqo; cases hqo
        have hqg : gs[q]? = some gs[q] := Array.getElem?_eq_getElem hql
        have hqr : gs[q].status = .running := by
          have hk := c.kids q _ hq0 hqg
          have hb := nobl q _ hq0 hqg
          rw [hqo] at hk
          generalize gs[q] = y at hk hb
          generalize Tf q = T at hk
          generalize Hl q = hl at hk
          cases hk with
          | run _ hs => exact hs
          | wait => exact absurd rfl hb
          | waitD => exact absurd rfl hb
        obtain ⟨i, x, d, sl', hi, hx, hst⟩ := c.pick sl ⟨q, _, hqg, hqr⟩
        have c' := c.at d
        have ei : i ≠ 0 := fun e1 => by
          subst e1
          rw [h0] at hi
          obtain rfl := Option.some.inj hi
          cases hx
        rcases kid_meets (sl := sl') h0 cov one only nobl ei hi hx c' with ⟨g', w', u, Hl', Tf', r1, r2, ok, r3, r4⟩ | met
        · obtain ⟨N, Q', g'', gs', w'', sl'', t', Hl'', Tf'', ow', hr, q⟩ := iha Tf' (by rw [← hm]; exact r4) (gs.setIfInBounds i g') w' sl' (t ++ u) Hl' (by rw [Array.size_setIfInBounds]; exact hm) (by rw [set_other (fun x => ei x.symm)]; exact h0) (r3.trans hh) (fun j y hj hy => by
            rcases get_set hy with ⟨rfl, rfl⟩ | ⟨_, hy'⟩
            · exact ok
            · exact nobl j y hj hy') r2
          exact ⟨N + 1, Q', g'', gs', w'', sl'', t', Hl'', Tf'', ow', runNT_step (hst.trans r1) hr, q⟩
        · rw [hh] at met
          exact behind met hst
    have gen : ∀ (m : Nat) (Tf : Nat → Tr), Acc (TLt m) Tf → ∀ (gs : Array Goroutine) (w : World) (sl : Option (Nat × Nat)) (t : Trace) (Hl : Nat → Hp), gs.size = m → gs[0]? = some g → Hl 0 = h → Cf P B W Q gs w t Hl Tf ow →
        ∃ (N : Nat) (Q' : Pro) (g' : Goroutine) (gs' : Array Goroutine) (w' : World) (sl' : Option (Nat × Nat)) (t' : Trace) (Hl' : Nat → Hp) (Tf' : Nat → Tr) (ow' : Nat → Option Nat),
          runNT P N (crowd gs w sl) t = (.next (crowd gs' w' sl'), t') ∧ gs'[0]? = some g' ∧ K g' (Hl' 0) ∧ Cf P B W Q' gs' w' t' Hl' Tf' ow' ∧ (∀ i, ow' i = none) := by
      intro m Tf acc
      induction acc with
      | intro Tf _ iha =>
        intro gs w sl t Hl hm h0 hh c
        obtain ⟨i, x, d, sl', hi, hx, hst⟩ := c.pick sl ⟨0, g, h0, hs⟩
        have c' := c.at d
        by_cases ei : i = 0
        · subst ei
          rw [h0] at hi
          obtain rfl := Option.some.inj hi
          have hsg := e (w.at d) (by rw [← hh]; exact c'.core.sat 0)
          rcases main_meets (sl := sl') h0 hsg cov only hs c' with nobl | met
          · have nobody : ∀ (r : Nat), partners (gs.setIfInBounds 0 ph) r true = [] := fun r => partners_nil fun j y hy => by
              rcases getElem?_stand gs 0 j y hy with ⟨_, rfl⟩ | ⟨hj, hy'⟩
              · exact offersAt_ph _ _
              · exact offersAt_of_not_blocked (nobl j y hj hy') _ _
            have hw := crowd_waits (P := P) (sl := sl') (w := w.at d) (w₁ := w.at d) (es := #[]) (g₂ := g) h0 hsg (fun cc hcc => by
              obtain ⟨r, z, rfl, hr⟩ := only cc hcc
              obtain ⟨k, tm, hch⟩ := c'.core.chan r hr
              exact ⟨made_recv z hch, by simp [ways, rcase, hch, nobody]⟩)
            obtain ⟨N, Q', g'', gs', w'', sl'', t', Hl'', Tf'', ow', hr, q⟩ := parkd m Tf (hm ▸ TLt.acc _ _) (gs.setIfInBounds 0 (parked g cases shape)) (w.at d) sl' (t ++ #[]) Hl (by rw [Array.size_setIfInBounds]; exact hm) (set_get h0) hh (fun j y hj hy => by
              rw [set_other hj] at hy; exact nobl j y hj hy) ⟨by
                rw [Array.append_empty]; have cc := c'.core
                exact ⟨cc.sat, cc.apart, cc.chan, cc.chanB, cc.ti, cc.far, fun op hop => by rw [Array.size_setIfInBounds]; exact cc.gsz op hop, fun j hj => cc.out j (by simpa using hj), quiet_set cc.quiet (.recvs only)⟩,
                fun j y hj hy => by rw [set_other hj] at hy; exact c.kids j y hj hy, by rw [Array.size_setIfInBounds]; exact c.dom⟩
            exact ⟨N + 1, Q', g'', gs', w'', sl'', t', Hl'', Tf'', ow', runNT_step (hst.trans hw) hr, q⟩
          · rw [hh] at met
            exact behind met hst
        · obtain ⟨g', w', u, Hl', Tf', r1, r2, _, r3, r4⟩ := kid_lone (sl := sl') h0 hs ei hi hx c'
          obtain ⟨N, Q', g'', gs', w'', sl'', t', Hl'', Tf'', ow', hr, q⟩ := iha Tf' (by rw [← hm]; exact r4) (gs.setIfInBounds i g') w' sl' (t ++ u) Hl' (by rw [Array.size_setIfInBounds]; exact hm) (by rw [set_other (fun x => ei x.symm)]; exact h0) (r3.trans hh) r2
          exact ⟨N + 1, Q', g'', gs', w'', sl'', t', Hl'', Tf'', ow', runNT_step (hst.trans r1) hr, q⟩
    exact gen gs.size Tf (TLt.acc _ _) gs w sl t Hl rfl h0 hh c
end
end Go.Lo
namespace Go.Lo
open Go.Conc
section
variable {P : Program} {B : Array Obj} {W : World}
def AtEnd (P : Program) (B : Array Obj) (K : Value → Hp → Prop) (g : Goroutine) (h : Hp) : Prop :=
  g.status = .running ∧ ∃ v, K v h ∧ ∀ w, Sat B h w → ∃ es, stepG P true g w = .ended (.done v) w es ∧ ∀ e ∈ es, EvOk B h w.heap.size w.heap.size e
theorem run_last {K : Value → Hp → Prop} {Post : Value → World → Prop} {Q : Pro} {g : Goroutine} {h : Hp} (k : AtEnd P B K g h) (hp : ∀ v w, K v h → Sat B h w → (w.os = W.os ∧ w.output = W.output ∧ w.tape = W.tape) → Post v w) :
    ∀ (m : Nat) (Tf : Nat → Tr), Acc (TLt m) Tf → ∀ (gs : Array Goroutine) (w : World) (sl : Option (Nat × Nat)) (t : Trace) (Hl : Nat → Hp) (ow : Nat → Option Nat), gs.size = m → gs[0]? = some g → Hl 0 = h → Cf P B W Q gs w t Hl Tf ow → (∀ i, ow i = none) →
      ∃ (N : Nat) (last : Machine) (tl : Trace) (o : Outcome) (w' : World) (t' : Trace), runNT P N (crowd gs w sl) t = (.next last, tl) ∧ runNT P 1 last tl = (.ended o w', t') ∧ Conc.Good P Post last o w' t' := by
  intro m Tf acc
  induction acc with
  | intro Tf _ iha =>
    intro gs w sl t Hl ow hm h0 hh c hF
    obtain ⟨i, x, d, sl', hi, hx, hst⟩ := c.pick sl ⟨0, g, h0, k.1⟩
    have c' := c.at d
    by_cases ei : i = 0
    · subst ei
      rw [h0] at hi
      obtain rfl := Option.some.inj hi
      obtain ⟨v, hk, he⟩ := k.2
      obtain ⟨es, hs, hev⟩ := he (w.at d) (by rw [← hh]; exact c'.core.sat 0)
      have hT := c'.core.ti.own (lim' := (w.at d).heap.size) (B := B) rfl (g := 0) (h' := Hl 0) (w := w.at d) (w' := w.at d) (es := es) rfl rfl { Stp.refl (c'.core.sat 0) with evs := by rw [hh]; exact hev } c'.core.sat (fun j hj => c'.core.apart j 0 hj) (fun x => x.1 rfl) g.frame.fn g.frame.place
      have left : ∀ (i : Nat) x, i ≠ 0 → gs[i]? = some x → ow i = none ∧ ∃ k, QuitsIn P k x := fun i x hi hx => by
        have hk := c.kids i x hi hx
        have ho := hF i
        rw [ho] at hk
        refine ⟨ho, ?_⟩
        generalize Tf i = T at hk
        generalize Hl i = hl at hk
        cases hk with
        | left q => exact ⟨_, q⟩
      have hrun : stepT P (crowd gs w sl) = (.ended (.done v) (w.at d), MemOp.ofEvents 0 g.frame.fn g.frame.place es) := hst.trans (runT_many_ended h0 hs)
      refine ⟨0, crowd gs w sl, t, .done v, w.at d, t ++ MemOp.ofEvents 0 g.frame.fn g.frame.place es, rfl, by simp only [runNT, hrun], v, rfl, hp v _ hk (by rw [← hh]; exact c'.core.sat 0) c'.core.far, hT.clean, hT.handed (fun i y hy hy0 => ?_), ⟨fun y hy => ?_, rfl⟩, fun i y hy hi0 => ?_⟩
      · have hlt : y.g < gs.size := by
          rcases getElem?_append_cases hy with ⟨_, hy'⟩ | ⟨_, hyu⟩
          · exact c.core.gsz y (mem_of_getElem? hy')
          · obtain ⟨e, _, rfl⟩ := mem_evs hyu
            exact absurd rfl hy0
        exact ⟨hy0, (left y.g _ hy0 (Array.getElem?_eq_getElem hlt)).1⟩
      · have hy' : y ∈ gs.toList.drop 1 := hy
        obtain ⟨j, hj⟩ := List.getElem?_of_mem hy'
        rw [List.getElem?_drop] at hj
        obtain ⟨_, k, q⟩ := left (1 + j) y (by omega) (by simpa using hj)
        exact ⟨k, (QuitsD.of_quitsIn q).leaves⟩
      · obtain ⟨_, k, q⟩ := left i y hi0 hy
        refine ⟨k, ?_⟩
        rw [hT.word.deaf]; exact (QuitsD.of_quitsIn q).hears _
    · obtain ⟨g', w', u, Hl', Tf', r1, r2, _, r3, r4⟩ := kid_lone (sl := sl') h0 k.1 ei hi hx c'
      obtain ⟨N, last, tl, o, w'', t', e1, e2, e3⟩ := iha Tf' (by rw [← hm]; exact r4) (gs.setIfInBounds i g') w' sl' (t ++ u) Hl' ow (by rw [Array.size_setIfInBounds]; exact hm) (by rw [set_other (fun x => ei x.symm)]; exact h0) (r3.trans hh) r2 hF
      exact ⟨N + 1, last, tl, o, w'', t', runNT_step (hst.trans r1) e1, e2, e3⟩
theorem runNT_trans' {m m' : Machine} {t t' : Trace} {N : Nat} (h : runNT P N m t = (.next m', t')) {M : Nat} {R : Stepped × Trace} (r : runNT P M m' t' = R) : runNT P (N + M) m t = R := by
  induction N generalizing m t with
  | zero =>
    simp only [runNT, Prod.mk.injEq, Stepped.next.injEq] at h
    obtain ⟨rfl, rfl⟩ := h
    rw [Nat.zero_add]; exact r
  | succ N ih =>
    rw [show N + 1 + M = N + M + 1 by omega]; simp only [runNT] at h ⊢
    cases hs : stepT P m with
    | mk s u =>
      rw [hs] at h
      cases s with
      | next m1 => exact ih h
      | ended o w => simp at h
theorem good_star {K : Value → Hp → Prop} {Post : Value → World → Prop} {g : Goroutine} (r : (Md.star P W.heap).R (AtEnd P W.heap K) g []) (hp : ∀ v h w, K v h → Sat W.heap h w → (w.os = W.os ∧ w.output = W.output ∧ w.tape = W.tape) → Post v w) :
    ∃ M last o w' t', runNT P (M + 1) (solo g W) #[] = (.ended o w', t') ∧ runN P M (solo g W) = .next last ∧ step P last = .ended o w' ∧ Conc.Good P Post last o w' t' := by
  have hK : ∀ g h, AtEnd P W.heap K g h → g.status = .running := fun g h k => k.1
  have r0 := r ⟨[], 0, fun _ _ _ _ _ => False⟩ (fun _ => none) (fun _ => rfl)
  have c0 : Cf P W.heap W ⟨[], 0, fun _ _ _ _ _ => False⟩ #[g] W #[] (fun _ => []) (fun _ => .leaf) (fun _ => none) := by
    refine ⟨⟨fun i => ⟨fun i o h => h, by simp, List.Pairwise.nil⟩, fun i j _ c hc => by simp at hc, fun c hc => by simp at hc, fun c hc => by simp at hc, ⟨fun said => ?_, fun op hop => by simp at hop, fun i a b ha => ?_, fun i a b ha => ?_, fun g c hc => by simp at hc, fun i x hx => by simp at hx⟩, ⟨rfl, rfl, rfl⟩, by simp, fun i hi => rfl, fun i x hx => ?_⟩, fun i x hi hx => ?_, rfl, fun _ _ => rfl⟩
    · rintro ⟨i, j, _, ⟨a, b, ha, _⟩, _⟩; simp [Trace.act?] at ha
    · simp [touchAt, Trace.act?] at ha
    · simp [touchAt, Trace.act?] at ha
    · by_cases e : i = 0
      · subst e
        simp at hx
        subst hx
        exact .runs (r0.running hK)
      · rw [Array.getElem?_eq_none (by simp; omega)] at hx; cases hx
    · rw [Array.getElem?_eq_none (by simp; omega)] at hx; cases hx
  obtain ⟨N, Q', g', gs', w', sl', t', Hl', Tf', ow', h1, h2, h3, h4, h5⟩ := run_star hK r0 #[g] W none #[] (fun _ => []) (fun _ => .leaf) (fun _ => none) (by simp) rfl c0 rfl
  obtain ⟨N2, last, tl, o, w'', t'', e1, e2, e3⟩ := run_last (Post := Post) (W := W) h3 (fun v w hk hs hf => hp v _ w hk hs hf) gs'.size Tf' (TLt.acc _ _) gs' w' sl' t' Hl' ow' rfl h2 rfl h4 h5
  have hrun : runNT P (N + N2) (solo g W) #[] = (.next last, tl) := by
    rw [solo_eq_crowd]; exact runNT_trans' h1 e1
  refine ⟨N + N2, last, o, w'', t'', runNT_trans' hrun e2, ?_, ?_, e3⟩
  · rw [← runNT_fst P _ _ #[], hrun]
  · have : (runNT P 1 last tl).1 = .ended o w'' := by rw [e2]
    unfold step
    simp only [runNT] at e2
    cases hs : stepT P last with
    | mk s u =>
      rw [hs] at e2
      cases s with
      | next m1 => simp at e2
      | ended o1 w1 => simp only [Prod.mk.injEq, Stepped.ended.injEq] at e2; obtain ⟨⟨rfl, rfl⟩, _⟩ := e2; rfl
end
end Go.Lo
namespace Go.Lo
open Go.Conc
section
variable {P : Program} {B : Array Obj} {m : Md P B}
theorem top_enter {f : FuncId} {fn : Func} {body : Code} {args l : List Value} {n : Nat} {K : Goroutine → Hp → Prop} {h : Hp} (hf : P.funcs[f]? = some fn) (hb : fn.body = some body) (hn : fn.ntmps = n) (hl : args ++ List.replicate (n - args.length) undef = l)
    (t : m.R K (Gr (bF f) l [] [.code body] []) h) : m.R K (G (Frame.enter P f args.toArray .normal) []) h := by
  have e : Frame.enter P f args.toArray .normal = Fr (bF f) l [] [.code body] := by
    subst hl
    simp [Frame.enter, hf, hb, hn, Fr, bF]
  rw [e]; exact t
theorem run_top {b : Frame} {l : List Value} {todo : List Item} {K : Value → Hp → Prop} {fn : Func} {rs : List ResultVar} {vs : List Value} {v : Value} {h : Hp} (hk : b.kind = .normal) (hf : P.funcs[b.fn]? = some fn) (hi : P.inits.idxOf? b.fn = none) (hr : fn.results = rs.toArray) [ResL P h l rs vs] [ResV vs v] (k : K v h) :
    m.R (AtEnd P B K) (Gret b l [] todo []) h := by
  refine m.stop ⟨rfl, v, k, fun w sw => ?_⟩
  obtain ⟨h1, h2⟩ := reads_res (P := P) (B := B) (h := h) (l := l) (vs := vs) (v := v) hr w sw
  refine ⟨seen P b.fn ((results fn l.toArray).events P w #[]), ?_, fun e he => h2 e (seen_sub _ _ _ e he)⟩
  simp [Gret, Fr, G, stepG, unwind, doReturn, hf, h1, hk, hi, GStep.after]
theorem law_good {W : World} {f : FuncId} {args : Array Value} (r : (Md.star P W.heap).R (AtEnd P W.heap fun v _ => v = .bool true) (G (Frame.enter P f args .normal) []) []) :
    ∃ M last o w' t', runNT P (M + 1) (solo (G (Frame.enter P f args .normal) []) W) #[] = (.ended o w', t') ∧ runN P M (solo (G (Frame.enter P f args .normal) []) W) = .next last ∧ step P last = .ended o w' ∧ Conc.Good P (fun v w' => v = .bool true ∧ RowKit.Below W.heap.size W w') last o w' t' :=
  good_star r fun v h w hk s ho => ⟨hk, ho.1, ho.2.2, ho.2.1, s.size, fun k hk => by rw [Array.getElem?_eq_getElem hk]; exact s.base _ _ (Array.getElem?_eq_getElem hk)⟩
end
theorem returnsInLeavingWide_of_change_and {H : Type} {enc : TypeId × Value → H} {a : Assume} {C : Checked} {os : Os} {f : FuncId} {fn : Func} {s : ChangeSpec} {conds : List PathCond} {apart fresh handsOn again : Bool} {X : World → Array Value → Prop}
    (hX : ∀ (w w' : World) (args : Array Value), w.heap = w'.heap → X w args → X w' args)
    (own : ownKnob C.prog.godebug = none) (started : os.Started) (hfn : C.prog.funcs[f]? = some fn)
    (witness : ∃ (w : World) (tape : Tape) (i : Input), w.os = os ∧ (w.forCall tape i).Shaped C.prog ∧ i.vars = [] ∧ Input.okWide C.prog (w.forCall tape i) .any w.heap.size f i ∧
      ((s.pre enc C.prog fn conds apart (w.forCall tape i).memory i.args ∧ X (w.forCall tape i).memory i.args) ∧ sizedMet enc C.prog fn (OpenSpec.ofChange s) apart (w.forCall tape i).memory i.args) ∧ a.holds C.prog (lone (Frame.enter C.prog f i.args .normal) [] (w.forCall tape i)))
    (runs : ∀ (W : World) (base : Nat) (args : Array Value) (ds gs : List (DataW H)) (before : List MemPlace),
      (∀ (j : Nat) t v, fn.params[j]? = some t → args[j]? = some v → Value.okWide C.prog W .any base t v) →
      DataW.Whole enc C.prog fn.params.toList s.vars apart W args.toList ds gs before → X W args →
      ∃ M last o w' t', runNT C.prog (M + 1) (solo (G (Frame.enter C.prog f args .normal) []) W) #[] = (.ended o w', t') ∧ runN C.prog M (solo (G (Frame.enter C.prog f args .normal) []) W) = .next last ∧
        step C.prog last = .ended o w' ∧ Conc.Good C.prog (fun v W' => s.post enc C.prog fn apart fresh handsOn again W args v W') last o w' t') :
    ReturnsInLeavingWide a C os f .any (fun w args => (s.pre enc C.prog fn conds apart w args ∧ X w args) ∧ sizedMet enc C.prog fn (OpenSpec.ofChange s) apart w args) (s.post enc C.prog fn apart fresh handsOn again) := by
  refine returnsInLeavingWide_of_good own started witness ?_
  intro w tape i _ _ _ hok hpre _
  obtain ⟨_, _, _, fn', hfn', _, _, _, _, hval⟩ := hok
  have e : fn' = fn := Option.some.inj (hfn'.symm.trans hfn)
  subst e
  obtain ⟨⟨⟨ds, gs, before, hw, _⟩, hx⟩, _⟩ := hpre
  have hw' := DataW.Whole.of_heap (w' := w.forCall tape i) (by rfl) hw
  obtain ⟨M, last, o, w', t', h1, h2, h3, h4⟩ := runs (w.forCall tape i) w.heap.size i.args ds gs before hval hw' (hX _ _ _ (by rfl) hx)
  exact ⟨M, last, o, w', t', h1, h2, h3, h4.mono fun v hp => ChangeSpec.post_blind hp⟩
section
variable {H : Type} {enc : TypeId × Value → H} {P : Program} {w : World} {base : Nat} {sp : Nat → Bool} {held : Bool}
theorem rd_of_cell {a : Addr} {v : Value} {h : Hp} (e : w.cell? a = some v) : Rd w.heap h a v := by
  unfold World.cell? at e
  split at e
  · rename_i c t f hb
    split at e
    · cases e
    · rename_i hs
      exact Rd.base (by simpa using hs) hb e
  · cases e
def intsB (P : Program) (kd : IntKind) : Nat → TypeId → Nat → Bool
  | 0, _, _ => false
  | dd + 1, t, k => P.cellsOf t == k && (match P.underlying t with
    | some (.int kk) => kk == kd && k == 1
    | some (.struct fs) => (List.range k).all fun i => (List.range fs.size).any fun j => match fs[j]? with
      | some f => decide (f.offset ≤ i) && decide (i < f.offset + P.cellsOf f.type) && intsB P kd dd f.type (P.cellsOf f.type)
      | none => false
    | _ => false)
theorem intsB_size {kd : IntKind} {dd k : Nat} {t : TypeId} (h : intsB P kd dd t k = true) : P.cellsOf t = k := by
  cases dd with
  | zero => simp [intsB] at h
  | succ dd =>
    unfold intsB at h
    rw [Bool.and_eq_true] at h
    exact eq_of_beq h.1
theorem trod_cells {kd : IntKind} : ∀ (dd : Nat) {t : TypeId} {k fuel : Nat} {cs : List Value} {x : DataW H × List MemPlace}, intsB P kd dd t k = true → DataW.trod enc P w base sp held fuel t cs = some x → cs.length = k ∧ ∀ i, i < k → ∃ n, cs[i]? = some (.int kd n) ∧ (Lit.int kd n).wf = true
  | 0, _, _, _, _, _, hB, _ => by simp [intsB] at hB
  | dd + 1, t, k, fuel, cs, x, hB, h => by
    unfold intsB at hB
    rw [Bool.and_eq_true] at hB
    obtain ⟨hc, hB⟩ := hB
    split at hB
    · rename_i kk hu
      simp only [Bool.and_eq_true, beq_iff_eq] at hB
      obtain ⟨rfl, rfl⟩ := hB
      obtain ⟨n, rfl, _, hw⟩ := DataW.trod_int hu h
      exact ⟨rfl, fun i hi => ⟨n, by rw [show i = 0 by omega]; rfl, hw⟩⟩
    · rename_i fs hu
      obtain ⟨xs, m, _, _, hl, hxl, hx⟩ := DataW.trod_struct hu h
      rw [beq_iff_eq] at hc
      refine ⟨hl.trans hc, fun i hi => ?_⟩
      obtain ⟨j, hj, hf⟩ := List.any_eq_true.1 (List.all_eq_true.1 hB i (List.mem_range.2 hi))
      split at hf
      · rename_i f hfj
        simp only [Bool.and_eq_true, decide_eq_true_eq] at hf
        obtain ⟨⟨h1, h2⟩, h3⟩ := hf
        have e := hx j f hfj
        rw [List.getElem?_eq_getElem (by rw [hxl]; exact List.mem_range.1 hj)] at e
        obtain ⟨_, hall⟩ := trod_cells dd h3 e
        obtain ⟨n, hn, hw⟩ := hall (i - f.offset) (by omega)
        rw [List.getElem?_take, if_pos (by omega), List.getElem?_drop, show f.offset + (i - f.offset) = i by omega] at hn
        exact ⟨n, hn, hw⟩
      · cases hf
    · cases hB
end
end Go.Lo
namespace Go.Proofs
open Go.Lo
open Go.Conc (G)
set_option maxRecDepth 100000
set_option synthInstance.maxSize 100000
set_option synthInstance.maxHeartbeats 1000000
set_option maxHeartbeats 4000000
variable {B : Array Obj}
variable [Laid B]
section
variable {P : Program} {B : Array Obj} {m : Md P B} {ops : Array Oper} {l l' : List Value} {S h h' H : Hp} {C : List Value → Hp → Prop} {i : Nat} {kd : Kd} {r : List (Nat × Kd)}
  {d : Option Tmp} {ty : TypeId} {pos : String} {af : Array Edge} {g : Option (Nat × Bool)}
theorem reads_eqBool {t : TypeId} (hb : P.underlying t = some .bool) (a c : Bool) : Reads P B (Op.equal t (.bool a) (.bool c)) H (a == c) := by
  show Reads P B (Op.equalIn 10000 t (.bool a) (.bool c)) H (a == c)
  unfold Op.equalIn
  exact Reads.bind (still_und hb).reads (Reads.pure _)
theorem k_neqBF {t u : TypeId} {x y : Operand} {a c : Bool} (ho : ops[i]? = some ⟨d, .binOp .neq t x y u, ty, pos, af, g⟩) (hw : Wt ops l g) (hb : P.underlying t = some .bool) [KHeap kd S h H] [ex : OpV l x (.bool a)] [ey : OpV l y (.bool c)] (e : a = c) [PutV l d (.bool false) l'] (q : RegK m S ops r l' h C) : RegK m S ops ((i, kd) :: r) l h C :=
  RegK.rd (v := .bool false) ho hw (by
    subst e
    simp only [execOp, ex.eq, ey.eq]
    refine Reads.value (Reads.bind (a := ()) (Reads.pure _) ?_)
    show Reads P B (Op.equal t (.bool a) (.bool a) >>= fun b => pure (Value.bool !b)) H _
    have := reads_eqBool (P := P) (B := B) (H := H) hb a a
    rw [beq_self_eq_true] at this
    exact Reads.bind this (Reads.pure _)) q
end
theorem f19_c (m : Md Tryz.prog B) (h : Hp) {b : Bk} {pm : Option Addr} {nm cm : Nat} {pr : Option Addr} {nr cr : Nat} : FnC m 19 #[bkV b pm nm cm pr nr cr] h fun v h' => h' = h ∧ IsB (20 < (nm : Int) ∨ 20 < (nr : Int)) v := by
  refine fn_enter Tryz.func19 rfl rfl (l := (bkV b pm nm cm pr nr cr) :: uu12) rfl ?_
  intro cf cs K hK
  refine rs2 (by kernel_rfl) ?_; refine k_box rfl zq (fun q1 => k_hp (k_put ?_)); refine aq rfl ?_; refine run_seq ?_; refine run_region [(0, .free), (1, .free), (2, .free), (3, .free), (4, .free), (5, .free), (6, .free), (7, .free), (8, .free), (9, .free), (10, .free)] (by kernel_rfl) (by kernel_rfl) ?_; first | refine k_fa0 rfl zq ?_ | refine k_fa rfl zq ?_
  refine k_ldh rfl zq ?_; refine k_len rfl zq ?_; refine k_gtrS rfl zq (fun hc => ?_) (fun hc => ?_)
  · refine mq rfl ?_; refine k_off rfl rfl ?_; refine k_off rfl rfl ?_; refine k_off rfl rfl ?_; refine k_off rfl rfl ?_; refine k_pickT rfl zq ?_; refine aq rfl ?_; refine run_ret rfl ?_; refine run_res (h) rfl Tryz.func19 rfl weakSub ?_; refine hK _ _ ?_
    first | exact ⟨rfl, IsB.yes (by omega)⟩ | exact ⟨rfl, IsB.no (by omega)⟩
  · refine mq rfl ?_; first | refine k_fa0 rfl rfl ?_ | refine k_fa rfl rfl ?_
    refine k_ldh rfl rfl ?_; refine k_len rfl rfl ?_; refine k_gtrS rfl rfl (fun hc => ?_) (fun hc => ?_)
    · refine k_pickF rfl zq ?_; refine aq rfl ?_; refine run_ret rfl ?_; refine run_res (h) rfl Tryz.func19 rfl weakSub ?_; refine hK _ _ ?_
      first | exact ⟨rfl, IsB.yes (by omega)⟩ | exact ⟨rfl, IsB.no (by omega)⟩
    · refine k_pickF rfl zq ?_; refine aq rfl ?_; refine run_ret rfl ?_; refine run_res (h) rfl Tryz.func19 rfl weakSub ?_; refine hK _ _ ?_
      first | exact ⟨rfl, IsB.yes (by omega)⟩ | exact ⟨rfl, IsB.no (by omega)⟩
section
variable {P : Program} {B : Array Obj} {m : Md P B} {ops : Array Oper} {l l' : List Value} {S h h' H : Hp} {C : List Value → Hp → Prop} {i : Nat} {kd : Kd} {r : List (Nat × Kd)}
  {d : Option Tmp} {ty : TypeId} {pos : String} {af : Array Edge} {g : Option (Nat × Bool)}
theorem k_neqT {t u : TypeId} {x y : Operand} {a b : Int} {k : IntKind} (ho : ops[i]? = some ⟨d, .binOp .neq t x y u, ty, pos, af, g⟩) (hw : Wt ops l g) [kh : KHeap kd S h H] [ex : OpV l x (.int k a)] [ey : OpV l y (.int k b)] (e : a ≠ b) [pt : PutV l d (.bool true) l'] (q : RegK m S ops r l' h C) : RegK m S ops ((i, kd) :: r) l h C := by
  have pq := pt; rw [← decide_eq_true e] at pq; exact k_neq (l' := l') ho hw q
theorem k_gtrF {t u : TypeId} {x y : Operand} {a b : Int} {k : IntKind} (ho : ops[i]? = some ⟨d, .binOp .gtr t x y u, ty, pos, af, g⟩) (hw : Wt ops l g) [kh : KHeap kd S h H] [ex : OpV l x (.int k a)] [ey : OpV l y (.int k b)] (e : ¬ b < a) [pt : PutV l d (.bool false) l'] (q : RegK m S ops r l' h C) : RegK m S ops ((i, kd) :: r) l h C := by
  have pq := pt; rw [← decide_eq_false e] at pq; exact k_gtr (l' := l') ho hw q
theorem k_lssF {t u : TypeId} {x y : Operand} {a b : Int} {k : IntKind} (ho : ops[i]? = some ⟨d, .binOp .lss t x y u, ty, pos, af, g⟩) (hw : Wt ops l g) [kh : KHeap kd S h H] [ex : OpV l x (.int k a)] [ey : OpV l y (.int k b)] (e : ¬ a < b) [pt : PutV l d (.bool false) l'] (q : RegK m S ops r l' h C) : RegK m S ops ((i, kd) :: r) l h C := by
  have pq := pt; rw [← decide_eq_false e] at pq; exact k_lss (l' := l') ho hw q
theorem k_rem {t u : TypeId} {x y : Operand} {a b : Nat} (ho : ops[i]? = some ⟨d, .binOp .rem t x y u, ty, pos, af, g⟩) (hw : Wt ops l g) [KHeap kd S h H] [ex : OpV l x (.int .i64 (a : Int))] [ey : OpV l y (.int .i64 (b : Int))] (hb : 0 < b) [PutV l d (.int .i64 ((a % b : Nat) : Int)) l'] (q : RegK m S ops r l' h C) : RegK m S ops ((i, kd) :: r) l h C :=
  RegK.rd (v := .int .i64 ((a % b : Nat) : Int)) ho hw (reads_int ex.eq ey.eq (by simp) (by
    have : (b : Int) ≠ 0 := by omega
    simp only [binOp, Op.intDiv, if_neg this, Int.ofNat_tmod]
    rfl)) q
end
def chosen (ll : List (List Int)) (k : Nat) : List Int := if ll = [] then [] else ll.getD (k % ll.length) []
def chosenV (ll : List (List Int)) (vs : List Value) (k : Nat) : Value := if ll = [] then .slice none 0 0 else vs.getD (k % ll.length) undef
theorem boat_handed {b : Bk} (h0 : bookS b = 0) {l : List Int} (h : l ∈ boatsOf b) : handedS b l = 0 ∧ boat b l ∧ l.length = b.marks.length ∧ Small 959 l := by
  have hb := (List.mem_filter.1 h)
  have hv := valid_of h0
  obtain ⟨h1, h2⟩ := line_of hb.1
  have hs := line_small hv hb.1
  refine ⟨?_, of_decide_eq_true hb.2, h1, hs⟩
  rw [handedS, if_neg (fun e => e h0), lineS, if_neg (fun e => e h1), if_pos fun x hx => ?_]; obtain ⟨i, hi, rfl⟩ := List.getElem_of_mem hx
  have h3 := h2 i (by omega)
  have hm := marksS_zero (ms := b.marks) (by
    unfold bookS at h0
    split at h0
    · omega
    · split at h0
      · contradiction
      · rename_i h; exact Classical.not_not.1 h)
  have h4 := hm.2 (b.marks.getD i default) (by rw [List.getD_eq_getElem?_getD, List.getElem?_eq_getElem (show i < b.marks.length by omega)]; exact List.getElem_mem _)
  unfold okM at h4
  rw [List.getD_eq_getElem?_getD (l := l), List.getElem?_eq_getElem hi] at h3
  simp only [Option.getD_some] at h3
  omega
theorem f48_c (m : Md Tryz.prog B) (h : Hp) {b : Bk} {pm : Option Addr} {nm cm : Nat} {pr : Option Addr} {nr cr : Nat} (rdm : RdS B h 2 (.slice pm nm cm) nm (encs b.marks)) (rdr : RdS B h 4 (.slice pr nr cr) nr (encs b.rules)) : FnC m 48 #[bkV b pm nm cm pr nr cr] h fun v h' => h' = h ∧ IsB (nm ≤ 20 ∧ nr ≤ 20 ∧ bookS b = 0) v := by
  refine fn_enter Tryz.func48 rfl rfl (l := (bkV b pm nm cm pr nr cr) :: uu10) rfl ?_
  intro cf cs K hK
  refine rs2 (by kernel_rfl) ?_; refine k_box rfl zq (fun q1 => k_hp (k_put ?_)); refine aq rfl ?_; refine rs9 (by kernel_rfl) ?_; refine k_ldA rfl zq ?_; refine k_calP (Post := fun v => IsB _ v) rfl zq (by kernel_rfl) (fun H' hH => f19_c m H') ?_; rintro v (⟨hc, rfl⟩ | ⟨hc, rfl⟩)
  · refine k_put ?_; refine k_notT rfl zq ?_; refine mq rfl ?_; refine k_off rfl rfl ?_; refine k_off rfl rfl ?_; refine k_off rfl rfl ?_; refine k_pickF rfl zq ?_; refine aq rfl ?_; refine run_ret rfl ?_; refine run_res (h) rfl Tryz.func48 rfl weakSub ?_; refine hK _ _ ?_
    first | exact ⟨rfl, IsB.yes ⟨by omega, by omega, by omega⟩⟩ | exact ⟨rfl, IsB.no (by omega)⟩
  · refine k_put ?_; refine k_notF rfl zq ?_; refine mq rfl ?_; refine k_ldA rfl rfl ?_; refine k_calP (Post := fun v => v = _) rfl rfl (by kernel_rfl) (fun H' hH => f22_c m H' (rdm.keeps (sq hH)) (by omega) (rdr.keeps (sq hH)) (by omega)) ?_; rintro v rfl; refine k_put ?_; refine k_eqlS rfl rfl (fun hc => ?_) (fun hc => ?_)
    · refine k_pickT rfl zq ?_; refine aq rfl ?_; refine run_ret rfl ?_; refine run_res (h) rfl Tryz.func48 rfl weakSub ?_; refine hK _ _ ?_
      first | exact ⟨rfl, IsB.yes ⟨by omega, by omega, by omega⟩⟩ | exact ⟨rfl, IsB.no (by omega)⟩
    · refine k_pickT rfl zq ?_; refine aq rfl ?_; refine run_ret rfl ?_; refine run_res (h) rfl Tryz.func48 rfl weakSub ?_; refine hK _ _ ?_
      first | exact ⟨rfl, IsB.yes ⟨by omega, by omega, by omega⟩⟩ | exact ⟨rfl, IsB.no (by omega)⟩
theorem no_boats {b : Bk} (h0 : bookS b = 0) (hb : boatsOf b = []) : openS b 0 = 9 ∧ straightL b = [] ∧ straightN b = 0 := by
  have ho : openS b 0 = 9 := by rw [openS, if_neg (fun e => e h0), if_neg (by omega), if_pos hb]
  exact ⟨ho, by rw [straightL, if_pos (by rw [ho]; decide)], by rw [straightN, if_pos (by rw [ho]; decide)]⟩
abbrev u16s (zs : List Int) : List Value := zs.map (Value.int .u16)
theorem boats_iff {b : Bk} (h0 : bookS b = 0) {l : List Int} : l ∈ boatsOf b ↔ handedS b l = 0 ∧ boat b l := by
  constructor
  · intro h
    exact ⟨(boat_handed h0 h).1, (boat_handed h0 h).2.1⟩
  · rintro ⟨h1, h2⟩; have hl := (lineS_zero (handedS_zero h1).2).1
    refine List.mem_filter.2 ⟨?_, decide_eq_true h2⟩
    have := (mem_linesOf (ms := b.marks) (k := b.marks.length) (l := l) (Nat.le_refl _)).2 ⟨hl, fun i hi => h2.1 i (by omega)⟩
    rw [List.take_length] at this
    exact this
theorem line_handed {b : Bk} (h0 : bookS b = 0) {l : List Int} (hl : l.length = b.marks.length) (h : ∀ x ∈ l, 0 ≤ x ∧ x ≤ 959) : lineS b.marks.length l = 0 ∧ handedS b l = 0 ∧ lineO b l = openS b 0 ∧ Small 959 l := by
  have e : lineS b.marks.length l = 0 := by rw [lineS, if_neg (fun x => x hl), if_pos h]
  exact ⟨e, by rw [handedS, if_neg (fun x => x h0), e], by rw [lineO, e], lineS_small e⟩
theorem asc_nodup {ys : List Int} (h : Asc ys) : ys.Nodup := List.Pairwise.imp (fun h => by omega) h
theorem marks_zero {b : Bk} (h0 : bookS b = 0) : marksS b.marks = 0 ∧ rulesS b.marks.length b.rules = 0 ∧ ¬ (¬ (0 ≤ b.bend ∧ b.bend ≤ 99) ∨ ¬ (0 ≤ b.twist ∧ b.twist ≤ 99) ∨ ¬ (0 ≤ b.turns ∧ b.turns ≤ 5)) := by
  unfold bookS at h0
  split at h0
  · omega
  · rename_i h1
    split at h0
    · contradiction
    · rename_i h; exact ⟨Classical.not_not.1 h, h0, h1⟩
def ordB (b : Bk) : Bk := ⟨b.bend, b.twist, b.turns, b.marks, b.rules.reverse⟩

def stfB (b : Bk) (x y z : Nat) : Bk := ⟨min (b.bend + ((x % 9 : Nat) : Int)) 99, min (b.twist + ((y % 9 : Nat) : Int)) 99, min (b.turns + ((z % 4 : Nat) : Int)) 5, b.marks, b.rules⟩
section
variable {P : Program} {B : Array Obj} {m : Md P B} {ops : Array Oper} {l l' : List Value} {S h h' H : Hp} {C : List Value → Hp → Prop} {i : Nat} {kd : Kd} {r : List (Nat × Kd)}
  {d : Option Tmp} {ty : TypeId} {pos : String} {af : Array Edge} {g : Option (Nat × Bool)}
end
theorem setSeg_encs {α : Type} {k : Nat} [Enc α k] {xs : List α} {junk : List Value} {j : Int} {i : Nat} (a : α) (hj : j = i) (hi : i < xs.length) : SetSeg (encs xs ++ junk) (0 + j.toNat * k) (Enc.enc a) (encs (xs.set i a) ++ junk) := by
  subst hj
  have hl : (Enc.enc a).length = k := Enc.len a
  have hle : i * k + k ≤ (encs xs).length := by
    rw [encs_length]; have : (i + 1) * k ≤ xs.length * k := Nat.mul_le_mul_right k hi
    rw [Nat.add_mul] at this; omega
  refine ⟨?_, by rw [Int.toNat_natCast, hl, List.length_append]; omega⟩
  rw [Int.toNat_natCast, Nat.zero_add, hl, List.take_append_of_le_length (by omega), List.drop_append_of_le_length (by omega), ← encs_take, show i * k + k = (i + 1) * k by rw [Nat.add_mul]; omega, ← encs_drop, List.set_eq_take_append_cons_drop, if_pos hi, encs_append]; simp [encs]
def freeM (ms : List Sp) (ln sm : List Int) : Nat → List Sp
  | 0 => ms
  | k + 1 => if (k : Int) ∈ sm then freeM ms ln sm k else (freeM ms ln sm k).set k ⟨ln.getD k 0, ln.getD k 0⟩
theorem freeM_length (ms : List Sp) (ln sm : List Int) : ∀ k, (freeM ms ln sm k).length = ms.length
  | 0 => rfl
  | k + 1 => by
    rw [freeM]; split
    · exact freeM_length ms ln sm k
    · rw [List.length_set]; exact freeM_length ms ln sm k
theorem freeM_at (ms : List Sp) (ln sm : List Int) {i : Nat} (hi : i < ms.length) : ∀ k, (freeM ms ln sm k).getD i default = if i < k ∧ (i : Int) ∉ sm then ⟨ln.getD i 0, ln.getD i 0⟩ else ms.getD i default
  | 0 => by rw [if_neg (by omega)]; rfl
  | k + 1 => by
    have ih := freeM_at ms ln sm hi k
    have hl := freeM_length ms ln sm k
    rw [freeM]; split
    · rename_i h
      rw [ih]; by_cases e : i = k
      · subst e; rw [if_neg (by omega), if_neg (fun x => x.2 h)]
      · by_cases e2 : i < k
        · simp [e2, show i < k + 1 by omega]
        · rw [if_neg (by omega), if_neg (by omega)]
    · rename_i h
      by_cases e : i = k
      · subst e
        rw [if_pos ⟨by omega, h⟩, List.getD_eq_getElem?_getD, List.getElem?_set_self (by omega)]; rfl
      · rw [List.getD_eq_getElem?_getD, List.getElem?_set_ne (fun x => e x.symm), ← List.getD_eq_getElem?_getD, ih]; by_cases e2 : i < k
        · simp [e2, show i < k + 1 by omega]
        · rw [if_neg (by omega), if_neg (by omega)]
theorem own_blk_of {t k n : Nat} {v : Value} {cs : List Value} {new : Hp} (o : OwnS t k v n cs new) (h0 : 0 < n) : ∃ q cap junk, v = .slice (some ⟨q, 0, none⟩) n cap ∧ new = [⟨true, q, .cells (cs ++ junk).toArray t (0, 0)⟩] ∧ n ≤ cap ∧ cs.length + junk.length = cap * k := by
  cases o with
  | nil => omega
  | blk hl hc hn => exact ⟨_, _, _, rfl, rfl, hn, hc⟩
def freeB (b : Bk) (ln sm : List Int) : Bk := ⟨b.bend, b.twist, b.turns, freeM b.marks ln sm b.marks.length, b.rules⟩
def holds1 (b : Bk) (ln sm : List Int) (k : Nat) : Prop := ∀ i : Nat, i < k → (i : Int) ∉ sm → (b.marks.getD i default).lo ≤ ln.getD i 0 ∧ ln.getD i 0 ≤ (b.marks.getD i default).hi
section
variable {P : Program} {B : Array Obj} {m : Md P B} {ops : Array Oper} {l l' : List Value} {S h h' H : Hp} {C : List Value → Hp → Prop} {i : Nat} {kd : Kd} {r : List (Nat × Kd)}
  {d : Option Tmp} {ty : TypeId} {pos : String} {af : Array Edge} {g : Option (Nat × Bool)}
end
theorem free_facts {b : Bk} (h0 : bookS b = 0) {ln sm : List Int} (hl : ln.length = b.marks.length) (ha : ∀ x ∈ ln, 0 ≤ x ∧ x ≤ 959) (hs : holds1 b ln sm b.marks.length) :
    bookS (freeB b ln sm) = 0 ∧ ∀ l, l ∈ boatsOf (freeB b ln sm) ↔ l ∈ boatsOf b ∧ ∀ i, i < b.marks.length → (i : Int) ∉ sm → l.getD i 0 = ln.getD i 0 := by
  have hv := valid_of h0
  obtain ⟨m1, m2, m3⟩ := marks_zero h0
  have hml : (freeB b ln sm).marks.length = b.marks.length := freeM_length _ _ _ _
  have hmk : ∀ x ∈ (freeB b ln sm).marks, okM x := fun x hx => by
    obtain ⟨i, hi, rfl⟩ := mem_getDR.1 hx
    rw [hml] at hi
    show okM ((freeM b.marks ln sm b.marks.length).getD i default)
    rw [freeM_at _ _ _ hi]; split
    · have := ha _ (mem_getD.2 ⟨i, by omega, rfl⟩)
      unfold okM; simp only; omega
    · exact hv.marks _ (mem_getDR.2 ⟨i, hi, rfl⟩)
  have hmm := hv.many
  have h1 : bookS (freeB b ln sm) = 0 := by
    have e1 : marksS (freeB b ln sm).marks = 0 := by rw [marksS, if_neg (by omega), if_pos hmk]
    rw [bookS]; show (if ¬ (0 ≤ b.bend ∧ b.bend ≤ 99) ∨ ¬ (0 ≤ b.twist ∧ b.twist ≤ 99) ∨ ¬ (0 ≤ b.turns ∧ b.turns ≤ 5) then (1 : Int) else if marksS (freeB b ln sm).marks ≠ 0 then _ else rulesS (freeB b ln sm).marks.length b.rules) = 0
    rw [if_neg m3, if_neg (fun e => e e1), hml]; exact m2
  refine ⟨h1, fun l => ?_⟩
  have at' : ∀ i, i < b.marks.length → (freeB b ln sm).marks.getD i default = if (i : Int) ∉ sm then ⟨ln.getD i 0, ln.getD i 0⟩ else b.marks.getD i default := fun i hi => by
    show (freeM b.marks ln sm b.marks.length).getD i default = _
    rw [freeM_at _ _ _ hi]; simp [hi]
  constructor
  · intro h
    obtain ⟨_, c2, c3, _⟩ := boat_handed h1 h
    rw [hml] at c3
    have hb : boat b l := by
      refine ⟨fun i hi => ?_, c2.2.1, c2.2.2⟩
      have := c2.1 i hi
      rw [at' i (by omega)] at this
      split at this
      · rename_i hns
        have := hs i (by omega) hns
        simp only at *; omega
      · exact this
    refine ⟨(boats_iff h0).2 ⟨?_, hb⟩, fun i hi hns => ?_⟩
    · have hs' : ∀ x ∈ l, 0 ≤ x ∧ x ≤ 959 := fun x hx => by
        obtain ⟨i, hi, rfl⟩ := mem_getD.1 hx
        have h2 := hb.1 i hi
        have h3 := hv.marks _ (mem_getDR.2 ⟨i, by omega, rfl⟩)
        unfold okM at h3; omega
      exact (line_handed h0 c3 hs').2.1
    · have := c2.1 i (by omega)
      rw [at' i hi, if_pos hns] at this
      simp only at this; omega
  · rintro ⟨h, hst⟩; obtain ⟨c1, c2, c3, _⟩ := boat_handed h0 h
    refine (boats_iff h1).2 ⟨?_, fun i hi => ?_, c2.2.1, c2.2.2⟩
    · rw [handedS, if_neg (fun e => e h1), hml]; exact (handedS_zero c1).2
    · rw [at' i (by omega)]; split
      · rename_i hns
        have := hst i (by omega) hns
        simp only; omega
      · exact c2.1 i hi
theorem mem_but {n st : Nat} {i : Nat} (hi : i < n) : (i : Int) ∈ (firsts n).take st ++ (firsts n).drop (st + 1) ↔ i ≠ st := by
  have hget : ∀ j, j < n → (firsts n)[j]? = some (j : Int) := fun j hj => by simp [firsts, hj]
  rw [List.mem_append]; constructor
  · rintro h e; subst e
    rcases h with h | h
    · obtain ⟨j, hj⟩ := List.mem_iff_getElem?.1 h
      rw [List.getElem?_take] at hj
      split at hj
      · rw [hget j (by omega)] at hj; injection hj; omega
      · cases hj
    · obtain ⟨j, hj⟩ := List.mem_iff_getElem?.1 h
      rw [List.getElem?_drop] at hj
      by_cases hlt : i + 1 + j < n
      · rw [hget _ hlt] at hj; injection hj; omega
      · rw [List.getElem?_eq_none (by rw [firsts_length]; omega)] at hj; cases hj
  · intro h
    rcases Nat.lt_or_gt_of_ne h with h | h
    · exact .inl (List.mem_iff_getElem?.2 ⟨i, by rw [List.getElem?_take, if_pos h, hget i hi]⟩)
    · exact .inr (List.mem_iff_getElem?.2 ⟨i - (st + 1), by rw [List.getElem?_drop, show st + 1 + (i - (st + 1)) = i by omega, hget i hi]⟩)
def bitsum (p : Nat → Bool) : Nat → Nat
  | 0 => 0
  | n + 1 => if p n then 2 ^ n + bitsum p n else bitsum p n
def onlyR (rs : List Ru) (xs : List Int) : List Ru := xs.map fun i => rs.getD i.toNat default
def onlyI (b : Bk) (xs : List Int) : Bk := ⟨b.bend, b.twist, b.turns, b.marks, onlyR b.rules xs⟩
theorem take_succD {xs : List Int} {k : Nat} (h : k < xs.length) : xs.take (k + 1) = xs.take k ++ [xs.getD k 0] := by
  rw [List.take_add_one, List.getElem?_eq_getElem h, List.getD_eq_getElem?_getD, List.getElem?_eq_getElem h]; rfl
section
variable {P : Program} {B : Array Obj} {m : Md P B} {ops : Array Oper} {l l' : List Value} {S h h' H : Hp} {C : List Value → Hp → Prop} {i : Nat} {kd : Kd} {r : List (Nat × Kd)}
  {d : Option Tmp} {ty : TypeId} {pos : String} {af : Array Edge} {g : Option (Nat × Bool)}
end
def setB (b : Bk) (st : Nat) (x : Sp) : Bk := ⟨b.bend, b.twist, b.turns, b.marks.set st x, b.rules⟩
theorem boats_nodup (b : Bk) : (boatsOf b).Nodup := List.Pairwise.imp (fun h e => by subst e; rw [before_irrefl] at h; cases h) (boats_sorted b)
theorem length_eq {α : Type} [DecidableEq α] {xs ys : List α} (hx : xs.Nodup) (hy : ys.Nodup) (h : ∀ z, z ∈ xs ↔ z ∈ ys) : xs.length = ys.length :=
  ((List.perm_ext_iff_of_nodup hx hy).2 h).length_eq
def butI (n st : Nat) : List Int := (firsts n).take st ++ (firsts n).drop (st + 1)
theorem setB_free (b : Bk) (l0 : List Int) {st : Nat} (hst : st < b.marks.length) : setB b st ⟨l0.getD st 0, l0.getD st 0⟩ = freeB b l0 (butI b.marks.length st) := by
  unfold setB freeB
  congr 1
  refine List.ext_getElem (by rw [List.length_set, freeM_length]) fun i h1 h2 => ?_
  rw [List.length_set] at h1
  have h3 := freeM_at b.marks l0 (butI b.marks.length st) h1 b.marks.length
  rw [List.getD_eq_getElem?_getD, List.getElem?_eq_getElem h2] at h3
  have h4 : (b.marks.set st ⟨l0.getD st 0, l0.getD st 0⟩)[i]'(by rw [List.length_set]; exact h1) = if st = i then ⟨l0.getD st 0, l0.getD st 0⟩ else b.marks[i] := List.getElem_set ..
  rw [h4]; refine Eq.trans ?_ h3.symm
  have hm : (i : Int) ∈ butI b.marks.length st ↔ i ≠ st := mem_but h1
  by_cases e : st = i
  · subst e
    rw [if_pos rfl, if_pos ⟨h1, fun x => hm.1 x rfl⟩]
  · rw [if_neg e, if_neg (fun x => x.2 (hm.2 (fun y => e y.symm))), List.getD_eq_getElem?_getD, List.getElem?_eq_getElem h1]; rfl
theorem setB_facts {b : Bk} (h0 : bookS b = 0) {l0 : List Int} (hl : l0 ∈ boatsOf b) {st : Nat} (hst : st < b.marks.length) :
    bookS (setB b st ⟨l0.getD st 0, l0.getD st 0⟩) = 0 ∧ ∀ l, l ∈ boatsOf (setB b st ⟨l0.getD st 0, l0.getD st 0⟩) ↔ l ∈ boatsOf b ∧ l.getD st 0 = l0.getD st 0 := by
  obtain ⟨c1, c2, c3, _⟩ := boat_handed h0 hl
  rw [setB_free b l0 hst]; have only : ∀ i, i < b.marks.length → ((i : Int) ∉ butI b.marks.length st ↔ i = st) := fun i hi => by rw [butI, mem_but hi]; exact Classical.not_not
  have hh : holds1 b l0 (butI b.marks.length st) b.marks.length := fun i hi _ => c2.1 i (by omega)
  obtain ⟨f1, f2⟩ := free_facts h0 c3 (lineS_zero (handedS_zero c1).2).2 hh
  refine ⟨f1, fun l => (f2 l).trans ⟨fun ⟨a, e⟩ => ⟨a, e st hst ((only st hst).2 rfl)⟩, fun ⟨a, e⟩ => ⟨a, fun i hi hns => ?_⟩⟩⟩
  rw [(only i hi).1 hns]; exact e
theorem setB_count {b : Bk} (h0 : bookS b = 0) {l0 : List Int} (hl : l0 ∈ boatsOf b) {st : Nat} (hst : st < b.marks.length) : (boatsOf (setB b st ⟨l0.getD st 0, l0.getD st 0⟩)).length = countAt (boatsOf b) st (l0.getD st 0) := by
  unfold countAt
  refine length_eq (boats_nodup _) ((boats_nodup b).filter _) fun z => ?_
  rw [(setB_facts h0 hl hst).2 z, List.mem_filter, decide_eq_true_iff]
theorem heights_three {b : Bk} (h0 : bookS b = 0) {st : Nat} (hst : st < b.marks.length) {ys : List Int} (ha : Asc ys) (hm : ∀ z, z ∈ ys ↔ z ∈ heightsAt (boatsOf b) st) : ys.length ≤ 3 := by
  have hb : ∀ z ∈ ys, (b.marks.getD st default).lo ≤ z ∧ z ≤ (b.marks.getD st default).hi := fun z hz => by
    obtain ⟨l, hl, rfl⟩ := List.mem_map.1 ((hm z).1 hz)
    obtain ⟨_, c2, c3, _⟩ := boat_handed h0 hl
    exact c2.1 st (by omega)
  have hk := (valid_of h0).marks _ (mem_getDR.2 ⟨st, hst, rfl⟩)
  unfold okM at hk
  generalize b.marks.getD st default = x at hb hk
  have hs := List.Nodup.length_le_of_subset (asc_nodup ha) (l₂ := [x.lo, x.lo + 1, x.lo + 2]) fun z hz => by
    have := hb z hz
    simp only [List.mem_cons, List.not_mem_nil, or_false]; omega
  exact hs
theorem mostL_eq {xs ys : List Int} (h : ∀ z, z ∈ xs ↔ z ∈ ys) (h0 : ∀ z ∈ xs, 0 ≤ z) : mostL xs = mostL ys := by
  obtain ⟨a1, a2⟩ := mostL_spec xs
  obtain ⟨b1, b2⟩ := mostL_spec ys
  have a0 := mostL_nonneg xs
  have b0 := mostL_nonneg ys
  apply Int.le_antisymm
  · rcases a2 with e | e
    · omega
    · exact b1 _ ((h _).1 e)
  · rcases b2 with e | e
    · omega
    · exact a1 _ ((h _).2 e)
theorem mostL_snoc (xs : List Int) (y : Int) : mostL (xs ++ [y]) = max (mostL xs) y := by unfold mostL; rw [List.foldl_append]; rfl
def cntsF (ll : List (List Int)) (st : Nat) (ys : List Int) : List Int := ys.map fun y => (countAt ll st y : Int)
theorem cntsF_left {ll : List (List Int)} {st : Nat} {ys : List Int} (hm : ∀ z, z ∈ ys ↔ z ∈ heightsAt ll st) : mostL (cntsF ll st ys) = leftOf ll st := by
  unfold leftOf
  refine mostL_eq (fun z => ?_) fun z hz => by
    obtain ⟨y, _, rfl⟩ := List.mem_map.1 hz; omega
  unfold cntsF lefts
  rw [List.mem_map, List.mem_map]; constructor
  · rintro ⟨y, hy, rfl⟩; obtain ⟨l, hl, rfl⟩ := List.mem_map.1 ((hm y).1 hy)
    exact ⟨l, hl, rfl⟩
  · rintro ⟨l, hl, rfl⟩; exact ⟨l.getD st 0, (hm _).2 (List.mem_map.2 ⟨l, hl, rfl⟩), rfl⟩
theorem askP_facts (ll : List (List Int)) : ∀ n, (askP ll n).2 ≤ ll.length ∧ (∀ s, s < n → (askP ll n).2 ≤ leftOf ll s) ∧
    (((askP ll n).1 = -1 ∧ (askP ll n).2 = ll.length) ∨ (∃ s : Nat, s < n ∧ (askP ll n).1 = s ∧ (askP ll n).2 = leftOf ll s ∧ leftOf ll s < ll.length ∧ ∀ t, t < s → leftOf ll s < leftOf ll t))
  | 0 => ⟨Int.le_refl _, fun s h => by omega, .inl ⟨rfl, rfl⟩⟩
  | n + 1 => by
    obtain ⟨h1, h2, h3⟩ := askP_facts ll n
    rw [askP]; split
    · rename_i h
      refine ⟨by show leftOf ll n ≤ _; omega, fun s hs => ?_, .inr ⟨n, by omega, rfl, rfl, by omega, fun t ht => ?_⟩⟩
      · show leftOf ll n ≤ _
        by_cases e : s = n
        · subst e; exact Int.le_refl _
        · have := h2 s (by omega); omega
      · have := h2 t ht; omega
    · rename_i h
      refine ⟨h1, fun s hs => ?_, h3.imp id fun ⟨s, a, b⟩ => ⟨s, by omega, b⟩⟩
      by_cases e : s = n
      · subst e; omega
      · exact h2 s (by omega)
theorem f85_c (m : Md Tryz.prog B) (h : Hp) {b : Bk} {pm : Option Addr} {nm cm : Nat} {pr : Option Addr} {nr cr : Nat} (rdm : RdS B h 2 (.slice pm nm cm) nm (encs b.marks)) (hm : nm ≤ 1000) {st : Nat} (hst : st < nm) (x : Sp) : FnC m 85 #[bkV b pm nm cm pr nr cr, .int .i64 (st : Int), spV x] h fun v h' => ∃ new, h' = h ++ new ∧ ∃ pm2 cm2, v = bkV (setB b st x) pm2 nm cm2 pr nr cr ∧ nm ≤ cm2 ∧ RdS B new 2 (.slice pm2 nm cm2) nm (encs (setB b st x).marks) := by
  have hml := rdm.elen (by decide)
  refine fn_enter Tryz.func85 rfl rfl (l := (bkV b pm nm cm pr nr cr) :: (.int .i64 (st : Int)) :: (spV x) :: uu17) rfl ?_
  intro cf cs K hK
  refine rs3 (by kernel_rfl) ?_; refine k_box rfl zq (fun q3 => k_hp (k_put ?_)); refine k_box rfl zq (fun q5 => k_hp (k_put ?_)); refine k_new rfl zq (fun q6 => k_hp (k_put ?_)); refine k_nil ?_; refine rs3 (by kernel_rfl) ?_; refine k_ldA rfl zq ?_; refine k_new rfl zq (fun q7 => k_hp (k_put ?_)); refine k_stA rfl zq rfl ?_; refine k_nil ?_; refine rs6 (by kernel_rfl) ?_; refine k_bs0 kdq rfl zq (fun q9 => k_hp (k_put ?_)); first | refine k_fa0 rfl zq ?_ | refine k_fa rfl zq ?_
  refine k_ldh rfl zq ?_; refine k_app (F := h ++ [⟨true, q3, .cells (bkL b pm nm cm pr nr cr).toArray 25 (0, 0)⟩, ⟨true, q5, .cells ([.int .i64 x.lo, .int .i64 x.hi] : List Value).toArray 92 (0, 0)⟩, ⟨true, q6, .cells ([.int .i64 0, .int .i64 0, .int .i64 0, .slice none 0 0, .slice none 0 0] : List Value).toArray 25 (0, 0)⟩, ⟨true, q7, .cells ([.int .i64 b.bend, .int .i64 b.twist, .int .i64 b.turns, .slice pm nm cm, .slice pr nr cr] : List Value).toArray 25 (0, 0)⟩]) rfl zq (Weak.sub (by simp)) OwnS.zero rdm.up (encs_one _) kdq (by omega) (by omega) (fun w9 n9 o9 => k_put ?_); replace o9 : OwnS 92 2 w9 nm (encs b.marks) n9 := by simpa using o9
  obtain ⟨qm, cp, junk, rfl, rfl, hcp, hcc⟩ := own_blk_of o9 (by omega)
  first | refine k_fa0 rfl zq ?_ | refine k_fa rfl zq ?_
  refine k_st1 rfl zq ?_; refine k_nil ?_; refine rs6 (by kernel_rfl) ?_; first | refine k_fa0 rfl zq ?_ | refine k_fa rfl zq ?_
  refine k_ldh rfl zq ?_; refine mq rfl ?_; refine k_ldA rfl zq ?_; refine k_ixs rfl zq (by first | rfl | assumption) (by omega) (by omega) ?_; haveI hsg : SetSeg (encs b.marks ++ junk) (0 + (st : Int).toNat * 2) [.int .i64 x.lo, .int .i64 x.hi] (encs (b.marks.set st x) ++ junk) := setSeg_encs x rfl (by omega)
  refine k_stA rfl zq rfl ?_; refine k_nil ?_; refine rs2 (by kernel_rfl) ?_; refine k_ldA rfl zq ?_; refine k_stA rfl zq rfl ?_; refine k_nil ?_; refine run_ret rfl ?_; refine run_res (h ++ [⟨true, qm, .cells (encs (b.marks.set st x) ++ junk).toArray 92 (0, 0)⟩]) rfl Tryz.func85 rfl weakSub ?_; refine hK _ _ ?_
  exact ⟨_, rfl, some ⟨qm, 0, none⟩, cp, rfl, hcp, (OwnS.blk (t := 92) (k := 2) (n := nm) (cap := cp) (b := qm) (cs := encs (b.marks.set st x)) (junk := junk) (by rw [encs_length, List.length_set, hml]) (by rw [encs_length, List.length_set]; rw [encs_length] at hcc; exact hcc) hcp).rd (List.Sublist.refl _)⟩
section
variable {P : Program} {B : Array Obj} {m : Md P B} {ops : Array Oper} {l l' : List Value} {S h h' H : Hp} {C : List Value → Hp → Prop} {i : Nat} {kd : Kd} {r : List (Nat × Kd)}
  {d : Option Tmp} {ty : TypeId} {pos : String} {af : Array Edge} {g : Option (Nat × Bool)}
theorem k_lssT {t u : TypeId} {x y : Operand} {a b : Int} {k : IntKind} (ho : ops[i]? = some ⟨d, .binOp .lss t x y u, ty, pos, af, g⟩) (hw : Wt ops l g) [kh : KHeap kd S h H] [ex : OpV l x (.int k a)] [ey : OpV l y (.int k b)] (e : a < b) [pt : PutV l d (.bool true) l'] (q : RegK m S ops r l' h C) : RegK m S ops ((i, kd) :: r) l h C := by
  have pq := pt; rw [← decide_eq_true e] at pq; exact k_lss (l' := l') ho hw q
theorem k_geqT {t u : TypeId} {x y : Operand} {a b : Int} {k : IntKind} (ho : ops[i]? = some ⟨d, .binOp .geq t x y u, ty, pos, af, g⟩) (hw : Wt ops l g) [kh : KHeap kd S h H] [ex : OpV l x (.int k a)] [ey : OpV l y (.int k b)] (e : b ≤ a) [pt : PutV l d (.bool true) l'] (q : RegK m S ops r l' h C) : RegK m S ops ((i, kd) :: r) l h C := by
  have pq := pt; rw [← decide_eq_true e] at pq; exact k_geq (l' := l') ho hw q
theorem k_geqF {t u : TypeId} {x y : Operand} {a b : Int} {k : IntKind} (ho : ops[i]? = some ⟨d, .binOp .geq t x y u, ty, pos, af, g⟩) (hw : Wt ops l g) [kh : KHeap kd S h H] [ex : OpV l x (.int k a)] [ey : OpV l y (.int k b)] (e : ¬ b ≤ a) [pt : PutV l d (.bool false) l'] (q : RegK m S ops r l' h C) : RegK m S ops ((i, kd) :: r) l h C := by
  have pq := pt; rw [← decide_eq_false e] at pq; exact k_geq (l' := l') ho hw q
end
theorem openS_boats {b : Bk} (h0 : bookS b = 0) (hb : boatsOf b ≠ []) : openS b 0 = 0 := by rw [openS, if_neg (fun e => e h0), if_neg (by omega), if_neg hb]
theorem f36_b (m : Md Tryz.prog B) (h : Hp) {b : Bk} {pm : Option Addr} {nm cm : Nat} {pr : Option Addr} {nr cr : Nat} (rdm : RdS B h 2 (.slice pm nm cm) nm (encs b.marks)) (hm : nm ≤ 1000) (rdr : RdS B h 4 (.slice pr nr cr) nr (encs b.rules)) (hr : nr ≤ 1000) (h0 : bookS b = 0) {st : Nat} (hst : st < nm) : FnC m 36 #[bkV b pm nm cm pr nr cr, .int .i64 (st : Int)] h fun v h' => ∃ new, h' = h ++ new ∧ ∃ w ys, v = .tuple [w, .int .i64 (openS b 0)].toArray ∧ OwnS 3 1 w ys.length (ints ys) new ∧ Asc ys ∧ (∀ z, z ∈ ys ↔ z ∈ heightsAt (boatsOf b) st) ∧ ys.length ≤ 3 := by
  have hml := rdm.elen (by decide)
  refine (f36_c m h (N := 60000) (f152_all _) (by decide) (b := b) rdm hm rdr hr (fun e => by have := boats_le (valid_of e); omega) st).mono ?_
  rintro v h' ⟨new, rfl, w, ys, rfl, ho, ha, hz⟩; rw [if_pos (by omega)] at hz ⊢
  have e : openL b 0 = boatsOf b := by
    by_cases hb : boatsOf b = []
    · rw [openL]; split
      · rfl
      · exact hb.symm
    · rw [openL, if_pos (openS_boats h0 hb)]
  rw [e, Int.toNat_natCast] at hz
  exact ⟨new, rfl, w, ys, rfl, ho, ha, hz, heights_three h0 (by omega) ha hz⟩
theorem f34_b (m : Md Tryz.prog B) (h : Hp) {b : Bk} {pm : Option Addr} {nm cm : Nat} {pr : Option Addr} {nr cr : Nat} (rdm : RdS B h 2 (.slice pm nm cm) nm (encs b.marks)) (hm : nm ≤ 1000) (rdr : RdS B h 4 (.slice pr nr cr) nr (encs b.rules)) (hr : nr ≤ 1000) (h0 : bookS b = 0) : FnC m 34 #[bkV b pm nm cm pr nr cr] h fun v h' => h' = h ∧ v = .tuple [.int .i64 ((boatsOf b).length : Int), .int .i64 0].toArray := by
  have := f34_c m h (b := b) rdm hm rdr hr
  rwa [if_neg (fun e => e h0), h0] at this
theorem f73_c (m : Md Tryz.prog B) (h : Hp) {b : Bk} {pm : Option Addr} {nm cm : Nat} {pr : Option Addr} {nr cr : Nat} (rdm : RdS B h 2 (.slice pm nm cm) nm (encs b.marks)) (hm : nm ≤ 1000) (rdr : RdS B h 4 (.slice pr nr cr) nr (encs b.rules)) (hr : nr ≤ 1000) (hb0 : bookS b = 0) (hbn : boatsOf b ≠ []) {st : Nat} (hst : st < nm) : FnC m 73 #[bkV b pm nm cm pr nr cr, .int .i64 (st : Int)] h fun v h' => ∃ new, h' = h ++ new ∧ v = .tuple [.int .i64 (leftOf (boatsOf b) st), .bool true].toArray := by
  have hml := rdm.elen (by decide)
  refine fn_enter Tryz.func73 rfl rfl (l := (bkV b pm nm cm pr nr cr) :: (.int .i64 (st : Int)) :: uu47) rfl ?_
  intro cf cs K hK
  refine rs3 (by kernel_rfl) ?_; refine k_box rfl zq (fun q2 => k_hp (k_put ?_)); refine k_as rfl zq ?_; refine aq rfl ?_; refine rs8 (by kernel_rfl) ?_; refine k_ldA rfl zq ?_; refine mq rfl ?_; refine k_calC rfl zq (by kernel_rfl) (Post := fun v new => ∃ w ys, v = .tuple [w, .int .i64 (openS b 0)].toArray ∧ OwnS 3 1 w ys.length (ints ys) new ∧ Asc ys ∧ (∀ z, z ∈ ys ↔ z ∈ heightsAt (boatsOf b) st) ∧ ys.length ≤ 3) (fun H' hH => f36_b m H' (b := b) (rdm.keeps (sq hH)) hm (rdr.keeps (sq hH)) hr hb0 (by omega)) ?_; rintro v n36 ⟨w36, y36, rfl, o36, ha36, hm36, hl36⟩; obtain ⟨p36, c36, rfl, _, r36⟩ := own_rdA (B := B) o36
  refine k_hpA (k_put ?_); rw [openS_boats hb0 hbn]; refine mq rfl ?_; refine k_ext0 rfl zq ?_; refine k_ext1 rfl zq ?_; refine k_as rfl zq ?_; refine aq rfl ?_; refine run_seq ?_; refine rs7 (by kernel_rfl) ?_; refine mq rfl ?_; refine k_neqF rfl zq rfl ?_; refine mq rfl ?_; refine k_mv rfl rfl ?_; refine k_len rfl rfl ?_; refine k_gtrF rfl rfl (by omega) ?_; refine k_pickF rfl zq ?_; refine k_nil ?_; refine run_no ?_; refine run_skip ?_; refine rs1 (by kernel_rfl) ?_; refine aq rfl ?_; refine run_seq ?_; refine rs1 (by kernel_rfl) ?_; refine aq rfl ?_; refine run_block ?_; refine run_loop (fun nn l h' => ∃ (k : Nat), nn = y36.length - k ∧ (k ≤ y36.length) ∧ (∃ U : Nat → Value, l = [bkV b pm nm cm pr nr cr, .int .i64 (st : Int), .pointer (some ⟨q2, 0, none⟩), U 3, U 4, U 5, .slice p36 y36.length c36, U 7, .int .i64 (mostL (cntsF (boatsOf b) st (y36.take k))), .int .i64 (k : Int), U 10, U 11, U 12, U 13, U 14, U 15, U 16, U 17, U 18, U 19, U 20, U 21, U 22, U 23, U 24, U 25, U 26, U 27, U 28, U 29, U 30, U 31, U 32, U 33, U 34, U 35, U 36, U 37, U 38, U 39, U 40, U 41, U 42, U 43, U 44, U 45, U 46, U 47, U 48]) ∧ h ++ [⟨true, q2, .cells (bkL b pm nm cm pr nr cr).toArray 25 (0, 0)⟩] ++ n36 = h') _ ⟨0, rfl, by omega, exU rfl, rfl⟩ ?_; rintro nn l h' ⟨k, rfl, hk, ⟨U, rfl⟩, rfl⟩ hnext; refine run_seq ?_; refine rs4 (by kernel_rfl) ?_; refine mq rfl ?_; refine mq rfl ?_; refine k_len rfl zq ?_; refine k_lssS rfl zq (fun hc => ?_) (fun hc => ?_)
  · refine k_nil ?_; refine run_yes ?_; refine run_skip ?_; refine run_seq ?_; refine run_block ?_; refine run_seq ?_; obtain ⟨l0, hl0, el0⟩ := List.mem_map.1 ((hm36 (y36.getD k 0)).1 (mem_getD.2 ⟨k, by omega, rfl⟩))
    obtain ⟨sf1, _⟩ := setB_facts hb0 hl0 (show st < b.marks.length by omega)
    have sf2 := setB_count hb0 hl0 (show st < b.marks.length by omega)
    rw [el0] at sf1 sf2
    have hmx : mostL (cntsF (boatsOf b) st (y36.take (k + 1))) = max (mostL (cntsF (boatsOf b) st (y36.take k))) (countAt (boatsOf b) st (y36.getD k 0) : Int) := by rw [take_succD (by omega), cntsF, List.map_append, ← cntsF]; exact mostL_snoc _ _
    refine run_draw [(1, .pure), (2, .pure), (3, .pure), (4, .pure), (0, .read), (5, .read), (6, .keep), (7, .keep), (8, .keep), (9, .pure), (10, .pure), (11, .pure), (12, .pure), (13, .pure)] (by kernel_rfl) (by kernel_rfl) (List.Sublist.refl _) ?_; refine mq rfl ?_; refine mq rfl ?_; refine mq rfl ?_; obtain ⟨r36_b, r36_o, rfl⟩ := r36.ptr (by omega)
    refine k_ixs rfl zq (by first | rfl | assumption) (by omega) (by omega) ?_; refine k_ldA rfl zq ?_; refine k_ld rfl zq (r36.iat k (by omega) (by omega)) ?_; refine k_calP (Post := fun v => v = _) rfl zq (by kernel_rfl) (fun H' hH => f84_c m H' _) ?_; rintro v rfl; refine k_put ?_; refine k_calC rfl zq (by kernel_rfl) (Post := fun v new => ∃ pm2 cm2, v = bkV (setB b st ⟨y36.getD k 0, y36.getD k 0⟩) pm2 nm cm2 pr nr cr ∧ nm ≤ cm2 ∧ RdS B new 2 (.slice pm2 nm cm2) nm (encs (setB b st ⟨y36.getD k 0, y36.getD k 0⟩).marks)) (fun H' hH => f85_c m H' (rdm.keeps (sq hH)) hm hst ⟨y36.getD k 0, y36.getD k 0⟩) ?_; rintro v n85 ⟨pm2, cm2, rfl, hcm2, rm2⟩; refine k_hpA (k_put ?_); refine k_calP (Post := fun v => v = .tuple [.int .i64 (countAt (boatsOf b) st (y36.getD k 0) : Int), .int .i64 0].toArray) rfl zq (by kernel_rfl) (fun H' hH => by have := f34_b m H' (b := setB b st ⟨y36.getD k 0, y36.getD k 0⟩) (rm2.keeps (sq hH)) hm (rdr.keeps (sq hH)) hr sf1; rwa [sf2] at this) ?_; rintro v rfl; refine k_put ?_; refine mq rfl ?_; refine k_ext0 rfl zq ?_; refine k_ext1 rfl zq ?_; refine k_as rfl zq ?_; refine aq rfl ?_; refine run_seq ?_; refine rs2 (by kernel_rfl) ?_; refine mq rfl ?_; refine k_neqF rfl zq rfl ?_; refine k_nil ?_; refine run_no ?_; refine run_skip ?_; refine rr4 (by kernel_rfl) ?_; refine mq rfl ?_; refine mq rfl ?_; refine k_max rfl zq ?_; refine aq rfl ?_; refine run_inBlock ?_; refine rr3 (by kernel_rfl) ?_; rw [← hmx]; refine mq rfl ?_; refine k_add rfl zq (by unfold In64; omega) ?_; refine aq rfl ?_; exact m.weak weakSub (hnext _ _ _ (by omega) ⟨k + 1, rfl, by omega, exU rfl, rfl⟩)
  · refine k_nil ?_; refine run_no ?_; refine run_exit rfl ?_; refine run_seq ?_; obtain rfl : k = y36.length := by omega
    rw [List.take_length, cntsF_left hm36]; refine rr3 (by kernel_rfl) ?_; refine mq rfl ?_; refine k_as rfl zq ?_; refine aq rfl ?_; refine run_ret rfl ?_; refine run_res (h ++ n36) rfl Tryz.func73 rfl weakSub ?_; refine hK _ _ ?_
    exact ⟨n36, rfl, rfl⟩
theorem f13_t (h : Hp) {b : Bk} {pm : Option Addr} {nm cm : Nat} {pr : Option Addr} {nr cr : Nat} (rdm : RdS B h 2 (.slice pm nm cm) nm (encs b.marks)) (rdr : RdS B h 4 (.slice pr nr cr) nr (encs b.rules)) {x : Nat} (hx : x ≤ 255) : (Md.star Tryz.prog B).R (AtEnd Tryz.prog B fun v _ => v = .bool true) (G (Frame.enter Tryz.prog 13 #[bkV b pm nm cm pr nr cr, .int .u8 (x : Int)] .normal) []) h := by
  refine top_enter Tryz.func13 rfl rfl (l := (bkV b pm nm cm pr nr cr) :: (.int .u8 (x : Int)) :: uu120) rfl ?_
  refine rs2 (by kernel_rfl) ?_; refine k_box rfl zq (fun q2 => k_hp (k_put ?_)); refine aq rfl ?_; refine run_seq ?_; refine rs3 (by kernel_rfl) ?_; refine k_ldA rfl zq ?_; refine k_calP (Post := fun v => IsB _ v) rfl zq (by kernel_rfl) (fun H' hH => f48_c _ H' (rdm.keeps (sq hH)) (rdr.keeps (sq hH))) ?_; rintro v (⟨hc, rfl⟩ | ⟨hc, rfl⟩)
  · refine k_put ?_; refine k_notT rfl zq ?_; refine k_nil ?_; refine run_no ?_; refine run_skip ?_; refine run_seq ?_; obtain ⟨hm20, hr20, hb0⟩ : nm ≤ 20 ∧ nr ≤ 20 ∧ bookS b = 0 := by assumption
    have hm : nm ≤ 1000 := by omega
    have hr : nr ≤ 1000 := by omega
    have hml := rdm.elen (by decide)
    have hv := valid_of hb0
    have hbl := boats_le hv
    have hmany := hv.many
    have hrl := rdr.elen (by decide)
    refine rr9 (by kernel_rfl) ?_; refine k_ldA rfl zq ?_; refine k_calP (Post := fun v => v = _) rfl zq (by kernel_rfl) (fun H' hH => f71_c _ H' (rdm.keeps (sq hH)) hm (rdr.keeps (sq hH)) hr) ?_; rintro v rfl; refine k_put ?_; refine mq rfl ?_; refine k_ext0 rfl zq ?_; refine k_ext1 rfl zq ?_; refine k_ext2 rfl zq ?_; refine k_as rfl zq ?_; refine k_as rfl zq ?_; refine aq rfl ?_; refine rs7 (by kernel_rfl) ?_; refine k_ldA rfl zq ?_; refine k_calP (Post := fun v => v = .tuple [.int .i64 ((boatsOf b).length : Int), .int .i64 0].toArray) rfl zq (by kernel_rfl) (fun H' hH => f34_b _ H' (b := b) (rdm.keeps (sq hH)) hm (rdr.keeps (sq hH)) hr hb0) ?_; rintro v rfl; refine k_put ?_; refine mq rfl ?_; refine k_ext0 rfl zq ?_; refine k_ext1 rfl zq ?_; refine k_as rfl zq ?_; refine aq rfl ?_; refine run_seq ?_; refine run_seq ?_; rcases Classical.em (boatsOf b = []) with hbn | hbn
    · rw [(no_boats hb0 hbn).1, hbn]; obtain ⟨ea, el⟩ : askAt b = 0 ∧ askLeft b = 0 := by unfold askAt askLeft; rw [(no_boats hb0 hbn).1, if_pos (by decide), if_pos (by decide)]; exact ⟨rfl, rfl⟩
      rw [ea, el]; refine rr9 (by kernel_rfl) ?_; refine mq rfl ?_; refine k_neqF rfl zq rfl ?_; refine mq rfl ?_; refine k_mv rfl rfl ?_; refine k_eqlT rfl rfl rfl ?_; refine k_mv rfl rfl ?_; refine k_eqlT rfl rfl rfl ?_; refine k_neqBF rfl rfl (by kernel_rfl) rfl ?_; refine k_pickF rfl zq ?_; refine k_nil ?_; refine run_no ?_; refine run_skip ?_; refine run_seq ?_; refine rs2 (by kernel_rfl) ?_; refine mq rfl ?_; refine k_neqT rfl zq (by decide) ?_; refine k_nil ?_; refine run_yes ?_; refine rs10 (by kernel_rfl) ?_; refine mq rfl ?_; refine k_eqlT rfl zq rfl ?_; refine mq rfl ?_; refine k_mv rfl rfl ?_; refine k_eqlT rfl rfl rfl ?_; refine k_pickT rfl zq ?_; refine mq rfl ?_; refine k_cal rfl rfl (by kernel_rfl) (f20_c _) ?_; rintro v h' ⟨nF, rfl, rfl⟩; refine k_put ?_; refine k_pickT rfl zq ?_; refine aq rfl ?_; refine run_ret rfl ?_; refine run_top rfl Tryz.func13 (by kernel_rfl) rfl ?_; rfl
    · rw [openS_boats hb0 hbn]; obtain ⟨ea, el⟩ : askAt b = (askP (boatsOf b) b.marks.length).1 ∧ askLeft b = (askP (boatsOf b) b.marks.length).2 := by unfold askAt askLeft; rw [openS_boats hb0 hbn, if_neg (by decide), if_neg (by decide)]; exact ⟨rfl, rfl⟩
      rw [ea, el]; have hbp := List.length_pos_iff.2 hbn
      obtain ⟨g1, g2, g3⟩ := askP_facts (boatsOf b) b.marks.length
      rcases g3 with ⟨g3, g4⟩ | ⟨s, g3, g4, g5, g6, g7⟩
      · rw [g3, g4]; refine rr9 (by kernel_rfl) ?_; refine mq rfl ?_; refine k_neqF rfl zq rfl ?_; refine mq rfl ?_; refine k_mv rfl rfl ?_; refine k_eqlF rfl rfl (by omega) ?_; refine k_mv rfl rfl ?_; refine k_eqlF rfl rfl (by decide) ?_; refine k_neqBF rfl rfl (by kernel_rfl) rfl ?_; refine k_pickF rfl zq ?_; refine k_nil ?_; refine run_no ?_; refine run_skip ?_; refine run_seq ?_; refine rs2 (by kernel_rfl) ?_; refine mq rfl ?_; refine k_neqF rfl zq rfl ?_; refine k_nil ?_; refine run_no ?_; refine run_skip ?_; refine run_seq ?_; refine run_seq ?_; refine run_region [(0, .free), (1, .free), (2, .free), (3, .free), (4, .free), (5, .free), (6, .free), (7, .free), (8, .free), (9, .free), (10, .free), (11, .free), (12, .free), (13, .free), (14, .free), (15, .free), (16, .free), (17, .free), (18, .free), (19, .free)] (by kernel_rfl) (by kernel_rfl) ?_; refine mq rfl ?_; first | refine k_fa0 rfl zq ?_ | refine k_fa rfl zq ?_
        refine k_ldh rfl zq ?_; refine k_len rfl zq ?_; refine k_sub rfl zq (by unfold In64; omega) ?_; refine k_calP (Post := fun v => IsB _ v) rfl zq (by kernel_rfl) (fun H' hH => f72_c _ H' _ _ _) ?_; rintro v (⟨hc, rfl⟩ | ⟨hc, rfl⟩)
        · refine k_put ?_; refine k_notT rfl zq ?_; refine mq rfl ?_; refine k_mv rfl rfl ?_; refine k_lssT rfl rfl (by decide) ?_; refine k_mv rfl rfl ?_; refine k_mv rfl rfl ?_; refine k_eqlT rfl rfl rfl ?_; refine k_neqBF rfl rfl (by kernel_rfl) rfl ?_; refine k_pickF rfl zq ?_; refine mq rfl ?_; refine k_mv rfl rfl ?_; refine k_mv rfl rfl ?_; refine k_gtrF rfl rfl (by omega) ?_; refine k_pickF rfl zq ?_; refine k_nil ?_; refine run_no ?_; refine run_skip ?_; refine rs7 (by kernel_rfl) ?_; refine mq rfl ?_; refine k_conv rfl zq (by kernel_rfl) (n' := (x : Int)) (by unfold IntKind.wrap; simp [IntKind.bits, IntKind.signed]; omega) ?_; first | refine k_fa0 rfl zq ?_ | refine k_fa rfl zq ?_
          refine k_ldh rfl zq ?_; refine k_len rfl zq ?_; refine k_rem (a := x) (b := nm) rfl zq (by omega) ?_; have hst := Nat.mod_lt x (show nm > 0 by omega)
          generalize x % nm = st at hst ⊢
          refine aq rfl ?_; refine rs8 (by kernel_rfl) ?_; refine k_ldA rfl zq ?_; refine mq rfl ?_; refine k_calC rfl zq (by kernel_rfl) (Post := fun v new => v = .tuple [.int .i64 (leftOf (boatsOf b) st), .bool true].toArray) (fun H' hH => f73_c _ H' (b := b) (st := st) (rdm.keeps (sq hH)) hm (rdr.keeps (sq hH)) hr hb0 hbn (by omega)) ?_; rintro v n73 rfl; refine k_hpA (k_put ?_); refine mq rfl ?_; refine k_ext0 rfl zq ?_; refine k_ext1 rfl zq ?_; refine k_as rfl zq ?_; refine aq rfl ?_; refine run_seq ?_; refine run_seq ?_; refine run_region [(0, .free), (1, .free), (2, .free), (3, .free), (4, .free), (5, .free), (6, .free), (7, .free), (8, .free), (9, .free), (10, .free), (11, .free), (12, .free), (13, .free), (14, .free), (15, .free), (16, .free), (17, .free), (18, .free), (19, .free), (20, .free)] (by kernel_rfl) (by kernel_rfl) ?_; refine mq rfl ?_; refine k_notT rfl zq ?_; refine mq rfl ?_; refine k_mv rfl rfl ?_; refine k_mv rfl rfl ?_; refine k_lssF rfl rfl (by have := g2 st (by omega); omega) ?_; refine k_pickF rfl zq ?_; refine mq rfl ?_; refine k_mv rfl rfl ?_; refine k_mv rfl rfl ?_; refine k_eqlS rfl rfl (fun hc => ?_) (fun hc => ?_)
          · refine k_mv rfl rfl ?_; refine k_mv rfl rfl ?_; refine k_geqF rfl rfl (by decide) ?_; refine k_pickT rfl rfl ?_; refine k_mv rfl rfl ?_; refine k_off rfl rfl ?_; refine k_off rfl rfl ?_; refine k_off rfl rfl ?_; refine k_pickF rfl rfl ?_; refine k_pickF rfl zq ?_; refine k_nil ?_; refine run_no ?_; refine run_skip ?_; refine run_seq ?_; refine rs2 (by kernel_rfl) ?_; refine mq rfl ?_; refine k_geqF rfl zq (by decide) ?_; refine k_nil ?_; refine run_no ?_; refine run_skip ?_; refine rs14 (by kernel_rfl) ?_; refine mq rfl ?_; refine mq rfl ?_; refine k_mv rfl rfl ?_; refine k_lssT rfl rfl (by decide) ?_; refine k_mv rfl rfl ?_; refine k_off rfl rfl ?_; refine k_off rfl rfl ?_; refine k_off rfl rfl ?_; refine k_pickT rfl rfl ?_; refine k_pickT rfl zq ?_; refine mq rfl ?_; refine k_cal rfl rfl (by kernel_rfl) (f20_c _) ?_; rintro v h' ⟨nF, rfl, rfl⟩; refine k_put ?_; refine k_pickT rfl zq ?_; refine aq rfl ?_; refine run_ret rfl ?_; refine run_top rfl Tryz.func13 (by kernel_rfl) rfl ?_; rfl
          · refine k_mv rfl rfl ?_; refine k_off rfl rfl ?_; refine k_off rfl rfl ?_; refine k_pickF rfl rfl ?_; refine k_mv rfl rfl ?_; refine k_off rfl rfl ?_; refine k_off rfl rfl ?_; refine k_off rfl rfl ?_; refine k_pickF rfl rfl ?_; refine k_pickF rfl zq ?_; refine k_nil ?_; refine run_no ?_; refine run_skip ?_; refine run_seq ?_; refine rs2 (by kernel_rfl) ?_; refine mq rfl ?_; refine k_geqF rfl zq (by decide) ?_; refine k_nil ?_; refine run_no ?_; refine run_skip ?_; refine rs14 (by kernel_rfl) ?_; refine mq rfl ?_; refine mq rfl ?_; refine k_mv rfl rfl ?_; refine k_lssT rfl rfl (by decide) ?_; refine k_mv rfl rfl ?_; refine k_off rfl rfl ?_; refine k_off rfl rfl ?_; refine k_off rfl rfl ?_; refine k_pickT rfl rfl ?_; refine k_pickT rfl zq ?_; refine mq rfl ?_; refine k_cal rfl rfl (by kernel_rfl) (f20_c _) ?_; rintro v h' ⟨nF, rfl, rfl⟩; refine k_put ?_; refine k_pickT rfl zq ?_; refine aq rfl ?_; refine run_ret rfl ?_; refine run_top rfl Tryz.func13 (by kernel_rfl) rfl ?_; rfl
        · refine k_put ?_; exact absurd (by omega) hc
      · rw [g4]; refine rr9 (by kernel_rfl) ?_; refine mq rfl ?_; refine k_neqF rfl zq rfl ?_; refine mq rfl ?_; refine k_mv rfl rfl ?_; refine k_eqlF rfl rfl (by omega) ?_; refine k_mv rfl rfl ?_; refine k_eqlF rfl rfl (by decide) ?_; refine k_neqBF rfl rfl (by kernel_rfl) rfl ?_; refine k_pickF rfl zq ?_; refine k_nil ?_; refine run_no ?_; refine run_skip ?_; refine run_seq ?_; refine rs2 (by kernel_rfl) ?_; refine mq rfl ?_; refine k_neqF rfl zq rfl ?_; refine k_nil ?_; refine run_no ?_; refine run_skip ?_; refine run_seq ?_; refine run_seq ?_; refine run_region [(0, .free), (1, .free), (2, .free), (3, .free), (4, .free), (5, .free), (6, .free), (7, .free), (8, .free), (9, .free), (10, .free), (11, .free), (12, .free), (13, .free), (14, .free), (15, .free), (16, .free), (17, .free), (18, .free), (19, .free)] (by kernel_rfl) (by kernel_rfl) ?_; refine mq rfl ?_; first | refine k_fa0 rfl zq ?_ | refine k_fa rfl zq ?_
        refine k_ldh rfl zq ?_; refine k_len rfl zq ?_; refine k_sub rfl zq (by unfold In64; omega) ?_; refine k_calP (Post := fun v => IsB _ v) rfl zq (by kernel_rfl) (fun H' hH => f72_c _ H' _ _ _) ?_; rintro v (⟨hc, rfl⟩ | ⟨hc, rfl⟩)
        · refine k_put ?_; refine k_notT rfl zq ?_; refine mq rfl ?_; refine k_mv rfl rfl ?_; refine k_lssF rfl rfl (by omega) ?_; refine k_mv rfl rfl ?_; refine k_mv rfl rfl ?_; refine k_eqlF rfl rfl (by omega) ?_; refine k_neqBF rfl rfl (by kernel_rfl) rfl ?_; refine k_pickF rfl zq ?_; refine mq rfl ?_; refine k_mv rfl rfl ?_; refine k_mv rfl rfl ?_; refine k_gtrF rfl rfl (by omega) ?_; refine k_pickF rfl zq ?_; refine k_nil ?_; refine run_no ?_; refine run_skip ?_; refine rs7 (by kernel_rfl) ?_; refine mq rfl ?_; refine k_conv rfl zq (by kernel_rfl) (n' := (x : Int)) (by unfold IntKind.wrap; simp [IntKind.bits, IntKind.signed]; omega) ?_; first | refine k_fa0 rfl zq ?_ | refine k_fa rfl zq ?_
          refine k_ldh rfl zq ?_; refine k_len rfl zq ?_; refine k_rem (a := x) (b := nm) rfl zq (by omega) ?_; have hst := Nat.mod_lt x (show nm > 0 by omega)
          generalize x % nm = st at hst ⊢
          refine aq rfl ?_; refine rs8 (by kernel_rfl) ?_; refine k_ldA rfl zq ?_; refine mq rfl ?_; refine k_calC rfl zq (by kernel_rfl) (Post := fun v new => v = .tuple [.int .i64 (leftOf (boatsOf b) st), .bool true].toArray) (fun H' hH => f73_c _ H' (b := b) (st := st) (rdm.keeps (sq hH)) hm (rdr.keeps (sq hH)) hr hb0 hbn (by omega)) ?_; rintro v n73 rfl; refine k_hpA (k_put ?_); refine mq rfl ?_; refine k_ext0 rfl zq ?_; refine k_ext1 rfl zq ?_; refine k_as rfl zq ?_; refine aq rfl ?_; refine run_seq ?_; refine run_seq ?_; refine run_region [(0, .free), (1, .free), (2, .free), (3, .free), (4, .free), (5, .free), (6, .free), (7, .free), (8, .free), (9, .free), (10, .free), (11, .free), (12, .free), (13, .free), (14, .free), (15, .free), (16, .free), (17, .free), (18, .free), (19, .free), (20, .free)] (by kernel_rfl) (by kernel_rfl) ?_; refine mq rfl ?_; refine k_notT rfl zq ?_; refine mq rfl ?_; refine k_mv rfl rfl ?_; refine k_mv rfl rfl ?_; refine k_lssF rfl rfl (by have := g2 st (by omega); omega) ?_; refine k_pickF rfl zq ?_; refine mq rfl ?_; refine k_mv rfl rfl ?_; refine k_mv rfl rfl ?_; refine k_eqlS rfl rfl (fun hc => ?_) (fun hc => ?_)
          · refine k_mv rfl rfl ?_; refine k_mv rfl rfl ?_; refine k_geqT rfl rfl (by omega) ?_; refine k_pickT rfl rfl ?_; refine k_mv rfl rfl ?_; refine k_mv rfl rfl ?_; refine k_mv rfl rfl ?_; refine k_lssS rfl rfl (fun hc => ?_) (fun hc => ?_)
            · exfalso
              have := g7 st (by omega)
              omega
            · refine k_pickT rfl rfl ?_; refine k_pickF rfl zq ?_; refine k_nil ?_; refine run_no ?_; refine run_skip ?_; refine run_seq ?_; refine rs2 (by kernel_rfl) ?_; refine mq rfl ?_; refine k_geqT rfl zq (by omega) ?_; refine k_nil ?_; refine run_yes ?_; refine rr8 (by kernel_rfl) ?_; refine k_ldA rfl zq ?_; refine mq rfl ?_; refine k_calC rfl zq (by kernel_rfl) (Post := fun v new => v = .tuple [.int .i64 (leftOf (boatsOf b) s), .bool true].toArray) (fun H' hH => f73_c _ H' (b := b) (st := s) (rdm.keeps (sq hH)) hm (rdr.keeps (sq hH)) hr hb0 hbn (by omega)) ?_; rintro v n73 rfl; refine k_hpA (k_put ?_); refine mq rfl ?_; refine k_ext0 rfl zq ?_; refine k_ext1 rfl zq ?_; refine k_as rfl zq ?_; refine aq rfl ?_; refine rs14 (by kernel_rfl) ?_; refine mq rfl ?_; refine mq rfl ?_; refine k_mv rfl rfl ?_; refine k_lssF rfl rfl (by omega) ?_; refine k_mv rfl rfl ?_; refine k_mv rfl rfl ?_; refine k_mv rfl rfl ?_; refine k_eqlT rfl rfl g5.symm ?_; refine k_pickF rfl rfl ?_; refine k_pickT rfl zq ?_; refine mq rfl ?_; refine k_cal rfl rfl (by kernel_rfl) (f20_c _) ?_; rintro v h' ⟨nF, rfl, rfl⟩; refine k_put ?_; refine k_pickT rfl zq ?_; refine aq rfl ?_; refine run_ret rfl ?_; refine run_top rfl Tryz.func13 (by kernel_rfl) rfl ?_; rfl
          · refine k_mv rfl rfl ?_; refine k_off rfl rfl ?_; refine k_off rfl rfl ?_; refine k_pickF rfl rfl ?_; refine k_mv rfl rfl ?_; refine k_off rfl rfl ?_; refine k_off rfl rfl ?_; refine k_off rfl rfl ?_; refine k_pickF rfl rfl ?_; refine k_pickF rfl zq ?_; refine k_nil ?_; refine run_no ?_; refine run_skip ?_; refine run_seq ?_; refine rs2 (by kernel_rfl) ?_; refine mq rfl ?_; refine k_geqT rfl zq (by omega) ?_; refine k_nil ?_; refine run_yes ?_; refine rr8 (by kernel_rfl) ?_; refine k_ldA rfl zq ?_; refine mq rfl ?_; refine k_calC rfl zq (by kernel_rfl) (Post := fun v new => v = .tuple [.int .i64 (leftOf (boatsOf b) s), .bool true].toArray) (fun H' hH => f73_c _ H' (b := b) (st := s) (rdm.keeps (sq hH)) hm (rdr.keeps (sq hH)) hr hb0 hbn (by omega)) ?_; rintro v n73 rfl; refine k_hpA (k_put ?_); refine mq rfl ?_; refine k_ext0 rfl zq ?_; refine k_ext1 rfl zq ?_; refine k_as rfl zq ?_; refine aq rfl ?_; refine rs14 (by kernel_rfl) ?_; refine mq rfl ?_; refine mq rfl ?_; refine k_mv rfl rfl ?_; refine k_lssF rfl rfl (by omega) ?_; refine k_mv rfl rfl ?_; refine k_mv rfl rfl ?_; refine k_mv rfl rfl ?_; refine k_eqlT rfl rfl g5.symm ?_; refine k_pickF rfl rfl ?_; refine k_pickT rfl zq ?_; refine mq rfl ?_; refine k_cal rfl rfl (by kernel_rfl) (f20_c _) ?_; rintro v h' ⟨nF, rfl, rfl⟩; refine k_put ?_; refine k_pickT rfl zq ?_; refine aq rfl ?_; refine run_ret rfl ?_; refine run_top rfl Tryz.func13 (by kernel_rfl) rfl ?_; rfl
        · refine k_put ?_; exact absurd (by omega) hc
  · refine k_put ?_; refine k_notF rfl zq ?_; refine k_nil ?_; refine run_yes ?_; refine rs2 (by kernel_rfl) ?_; refine k_cal rfl zq (by kernel_rfl) (f20_c _) ?_; rintro v h' ⟨nF, rfl, rfl⟩; refine k_put ?_; refine aq rfl ?_; refine run_ret rfl ?_; refine run_top rfl Tryz.func13 (by kernel_rfl) rfl ?_; rfl
end Go.Proofs
