/- A part of the proof of a law: my own separation logic over the machine, and walks of the program. Condition of each theorem: as its statement says. -/
import Derived.Test.YtlbkicemccikgaaGreatDoorWLLifted9
import Derived.SevenTiedAt
import Derived.LaidOnce
import Derived.Test.YtlbkicemccikgaaGreatDoorCards
import Derived.Test.YtlbkicemccikgaaGreatDoorTie
set_option linter.all false
namespace Go.Proofs
open Go.Lo
open Go.Conc (G)
set_option maxRecDepth 100000
set_option synthInstance.maxSize 100000
set_option synthInstance.maxHeartbeats 1000000
set_option maxHeartbeats 1000000
variable {B : Array Obj}
variable [Laid B]
theorem f10_t (h : Hp) {b : Bk} {pm : Option Addr} {nm cm : Nat} {pr : Option Addr} {nr cr : Nat} (rdm : RdS B h 2 (.slice pm nm cm) nm (encs b.marks)) (rdr : RdS B h 4 (.slice pr nr cr) nr (encs b.rules)) {p : Option Addr} {n c : Nat} {zs : List Int} (rd : RdS B h 1 (.slice p n c) n (u16s zs)) (hz : ∀ z ∈ zs, 0 ≤ z ∧ z ≤ 65535) {x : Nat} (hx : x ≤ 255) {bi : Int} (hbi : -32768 ≤ bi ∧ bi ≤ 32767) : (Md.star Tryz.prog B).R (AtEnd Tryz.prog B fun v _ => v = .bool true) (G (Frame.enter Tryz.prog 10 #[bkV b pm nm cm pr nr cr, .slice p n c, .int .u8 (x : Int), .int .i16 bi] .normal) []) h := by
  refine top_enter Tryz.func10 rfl rfl (l := (bkV b pm nm cm pr nr cr) :: (.slice p n c) :: (.int .u8 (x : Int)) :: (.int .i16 bi) :: uu242) rfl ?_
  refine rs2 (by kernel_rfl) ?_; refine k_box rfl zq (fun q4 => k_hp (k_put ?_)); refine aq rfl ?_; refine run_seq ?_; refine rs3 (by kernel_rfl) ?_; refine k_ldA rfl zq ?_; refine k_calP (Post := fun v => IsB _ v) rfl zq (by kernel_rfl) (fun H' hH => f48_c _ H' (rdm.keeps (sq hH)) (rdr.keeps (sq hH))) ?_; rintro v (⟨hc, rfl⟩ | ⟨hc, rfl⟩)
  · refine k_put ?_; refine k_notT rfl zq ?_; refine k_nil ?_; refine run_no ?_; refine run_skip ?_; refine run_seq ?_; obtain ⟨hm20, hr20, hb0⟩ : nm ≤ 20 ∧ nr ≤ 20 ∧ bookS b = 0 := by assumption
    have hm : nm ≤ 1000 := by omega
    have hr : nr ≤ 1000 := by omega
    have hml := rdm.elen (by decide)
    have hv := valid_of hb0
    have hbl := boats_le hv
    have hmany := hv.many
    have hrl := rdr.elen (by decide)
    refine rr4 (by kernel_rfl) ?_; refine k_ldA rfl zq ?_; refine mq rfl ?_; refine k_calC rfl zq (by kernel_rfl) (Post := fun v new => ∃ ln, OwnS 3 1 v ln.length (ints ln) new ∧ ln.length = b.marks.length ∧ ∀ x ∈ ln, 0 ≤ x ∧ x ≤ 959) (fun H' hH => f58_c _ H' (rdm.keeps (sq hH)) hm hb0 (rd.keeps (sq hH)) hz) ?_; rintro v n58 ⟨ln, o58, hll, hla⟩; obtain ⟨p58, c58, rfl, _, r58⟩ := own_rdA (B := B) o58
    refine k_hpA (k_put ?_); obtain ⟨hls0, hlh, hlO, hlS⟩ := line_handed hb0 hll hla
    refine aq rfl ?_; refine run_seq ?_; refine run_region [(0, .free), (1, .free), (2, .free), (3, .free), (4, .free), (5, .free), (6, .free), (7, .free), (8, .free), (9, .free), (10, .free), (11, .free), (12, .free), (13, .free)] (by kernel_rfl) (by kernel_rfl) ?_; refine k_ldA rfl zq ?_; refine mq rfl ?_; refine mq rfl ?_; refine k_conv rfl zq (by kernel_rfl) (n' := (bi : Int)) (by unfold IntKind.wrap; simp [IntKind.bits, IntKind.signed]; omega) ?_; refine k_remT rfl zq (by omega) ?_; have ht1 := Int.lt_tmod_of_pos bi (show (0 : Int) < 201 by omega)
    have ht2 := Int.tmod_lt_of_pos bi (show (0 : Int) < 201 by omega)
    generalize hbt : bi.tmod 201 = t at ht1 ht2 ⊢
    refine k_calC rfl zq (by kernel_rfl) (Post := fun v new => ∃ (b2 : Bk) (pm2 : Option Addr) (cm2 : Nat) (lv : Value) (ok : Bool), v = .tuple [bkV b2 pm2 nm cm2 pr nr cr, lv, .bool ok].toArray ∧ (ok = true → (∀ x ∈ b.marks, 0 ≤ x.lo + t ∧ x.hi + t ≤ 959) ∧ (∀ x ∈ lift t ln, 0 ≤ x ∧ x ≤ 959) ∧ b2 = liftB b t ∧ RdS B new 2 (.slice pm2 nm cm2) nm (encs (liftB b t).marks) ∧ RdI B new lv (lift t ln))) (fun H' hH => f68_c _ H' (b := b) (rdm.keeps (sq hH)) hm (r58.keeps (sq hH)) (by omega) (by omega) hv.marks hla (by omega)) ?_; rintro v n68 ⟨b68, pm2, cm2, lv68, ok, rfl, hok68⟩; refine k_hpA (k_put ?_); refine mq rfl ?_; refine k_ext0 rfl zq ?_; refine k_ext1 rfl zq ?_; refine k_ext2 rfl zq ?_; refine k_new rfl zq (fun q10 => k_hp (k_put ?_)); refine k_stA rfl zq rfl ?_; refine k_as rfl zq ?_; refine aq rfl ?_; refine run_seq ?_; refine run_seq ?_; rcases ok with _ | _
    · refine rr2 (by kernel_rfl) ?_; refine mq rfl ?_; refine k_notF rfl zq ?_; refine k_nil ?_; refine run_yes ?_; refine rs2 (by kernel_rfl) ?_; refine k_cal rfl zq (by kernel_rfl) (f20_c _) ?_; rintro v h' ⟨nF, rfl, rfl⟩; refine k_put ?_; refine aq rfl ?_; refine run_ret rfl ?_; refine run_top rfl Tryz.func10 (by kernel_rfl) rfl ?_; rfl
    · obtain ⟨hr1, hr2, rfl, rm2, p68, c68, rfl, r68⟩ := hok68 rfl
      obtain ⟨hS2, hlen2, hO2, hst2, hht2, hho2, hln2⟩ := lift_facts hb0 hr1
      obtain ⟨kO, kN, kB⟩ := hln2 ln hll hla hr2
      have hl2 := lift_length t ln
      have hm2 : (liftB b t).marks.length = nm := by show (b.marks.map _).length = nm; rw [List.length_map]; exact hml
      obtain ⟨_, hlh2, _, _⟩ := line_handed hS2 (l := lift t ln) (by omega) hr2
      have hbe2 := bends_lift t ln
      refine rr2 (by kernel_rfl) ?_; refine mq rfl ?_; refine k_notT rfl zq ?_; refine k_nil ?_; refine run_no ?_; refine run_skip ?_; refine rs8 (by kernel_rfl) ?_; refine k_ldA rfl zq ?_; refine mq rfl ?_; refine k_calC rfl zq (by kernel_rfl) (Post := fun v new => ∃ w, v = .tuple [w, .int .i64 (0)].toArray ∧ RdI B new w (bends ln)) (fun H' hH => by have := f23_c (Md.star Tryz.prog B) H' (b := b) (xs := ln) (rdm.keeps (sq hH)) hm (rdr.keeps (sq hH)) hr (r58.keeps (sq hH)) (by omega); rw [hlh, if_neg (fun e => e rfl)] at this; exact this) ?_; rintro v n7 ⟨w7, rfl, p7, c7, rfl, r7⟩; refine k_hpA (k_put ?_); refine mq rfl ?_; refine k_ext0 rfl zq ?_; refine k_ext1 rfl zq ?_; refine k_as rfl zq ?_; refine aq rfl ?_; refine rs8 (by kernel_rfl) ?_; refine k_ldA rfl zq ?_; refine mq rfl ?_; refine k_calC rfl zq (by kernel_rfl) (Post := fun v new => ∃ w, v = .tuple [w, .int .i64 (0)].toArray ∧ RdI B new w (bends ln)) (fun H' hH => by have := f23_c (Md.star Tryz.prog B) H' (b := liftB b t) (xs := lift t ln) (rm2.keeps (sq hH)) hm (rdr.keeps (sq hH)) hr (r68.keeps (sq hH)) (by omega); rw [hlh2, if_neg (fun e => e rfl), hbe2] at this; exact this) ?_; rintro v n8 ⟨w8, rfl, p8, c8, rfl, r8⟩; refine k_hpA (k_put ?_); refine mq rfl ?_; refine k_ext0 rfl zq ?_; refine k_ext1 rfl zq ?_; refine k_as rfl zq ?_; refine aq rfl ?_; refine rs8 (by kernel_rfl) ?_; refine k_ldA rfl zq ?_; refine mq rfl ?_; refine k_calP (Post := fun v => v = .tuple [.bool (decide (boat b ln)), .int .i64 0].toArray) rfl zq (by kernel_rfl) (fun H' hH => (f32_c _ H' (b := b) (xs := ln) (rdm.keeps (sq hH)) hm (rdr.keeps (sq hH)) hr (r58.keeps (sq hH)) (by omega)).mono fun v h' ⟨e, w, ev, hw⟩ => ⟨e, by rw [ev, hlh, isB_decI hw ⟨fun x => id x.2, fun x => ⟨hlh, id x⟩⟩]⟩) ?_; rintro v rfl
      refine k_put ?_; refine mq rfl ?_; refine k_ext0 rfl zq ?_; refine k_ext1 rfl zq ?_; refine k_as rfl zq ?_; refine aq rfl ?_; refine rs8 (by kernel_rfl) ?_; refine k_ldA rfl zq ?_; refine mq rfl ?_; refine k_calP (Post := fun v => v = .tuple [.bool (decide (boat b ln)), .int .i64 0].toArray) rfl zq (by kernel_rfl) (fun H' hH => (f32_c _ H' (b := (liftB b t)) (xs := (lift t ln)) (rm2.keeps (sq hH)) hm (rdr.keeps (sq hH)) hr (r68.keeps (sq hH)) (by omega)).mono fun v h' ⟨e, w, ev, hw⟩ => ⟨e, by rw [ev, hlh2, isB_decI hw ⟨fun x => kB.1 x.2, fun x => ⟨hlh2, kB.2 x⟩⟩]⟩) ?_; rintro v rfl; refine k_put ?_; refine mq rfl ?_; refine k_ext0 rfl zq ?_; refine k_ext1 rfl zq ?_; refine k_as rfl zq ?_; refine aq rfl ?_; refine rs7 (by kernel_rfl) ?_; refine k_ldA rfl zq ?_; refine k_calP (Post := fun v => v = .tuple [.int .i64 ((boatsOf b).length : Int), .int .i64 0].toArray) rfl zq (by kernel_rfl) (fun H' hH => by have := f34_b (Md.star Tryz.prog B) H' (b := b) (rdm.keeps (sq hH)) hm (rdr.keeps (sq hH)) hr hb0; exact this) ?_; rintro v rfl; refine k_put ?_; refine mq rfl ?_; refine k_ext0 rfl zq ?_; refine k_ext1 rfl zq ?_; refine k_as rfl zq ?_; refine aq rfl ?_; refine rs7 (by kernel_rfl) ?_; refine k_ldA rfl zq ?_; refine k_calP (Post := fun v => v = .tuple [.int .i64 ((boatsOf b).length : Int), .int .i64 0].toArray) rfl zq (by kernel_rfl) (fun H' hH => by have := f34_b (Md.star Tryz.prog B) H' (b := liftB b t) (rm2.keeps (sq hH)) hm (rdr.keeps (sq hH)) hr hS2; rw [hlen2] at this; exact this) ?_; rintro v rfl; refine k_put ?_; refine mq rfl ?_; refine k_ext0 rfl zq ?_; refine k_ext1 rfl zq ?_; refine k_as rfl zq ?_; refine aq rfl ?_; refine run_seq ?_; refine run_seq ?_; refine run_region [(0, .free), (1, .free), (2, .free), (3, .free), (4, .free), (5, .free), (6, .free), (7, .free), (8, .free), (9, .free), (10, .free), (11, .free), (12, .free), (13, .free), (14, .free), (15, .free), (16, .free), (17, .free), (18, .free), (19, .free), (20, .free), (21, .free), (22, .free), (23, .free), (24, .free), (25, .free), (26, .free), (27, .free), (28, .free), (29, .free), (30, .free), (31, .free), (32, .free), (33, .free), (34, .free), (35, .free), (36, .free), (37, .free)] (by kernel_rfl) (by kernel_rfl) ?_
      refine mq rfl ?_; refine k_neqF rfl zq rfl ?_; refine mq rfl ?_; refine k_mv rfl rfl ?_; refine k_neqF rfl rfl rfl ?_; refine k_pickF rfl zq ?_; refine mq rfl ?_; refine k_mv rfl rfl ?_; refine k_neqF rfl rfl rfl ?_; refine k_pickF rfl zq ?_; refine mq rfl ?_; refine k_mv rfl rfl ?_; refine k_neqF rfl rfl rfl ?_; refine k_pickF rfl zq ?_; refine mq rfl ?_; refine k_mv rfl rfl ?_; refine k_neqF rfl rfl rfl ?_; refine k_pickF rfl zq ?_; refine mq rfl ?_; refine k_mv rfl rfl ?_; refine k_neqF rfl rfl rfl ?_; refine k_pickF rfl zq ?_; refine mq rfl ?_; refine k_mv rfl rfl ?_; refine k_mv rfl rfl ?_; refine k_calP (Post := fun v => IsB _ v) rfl rfl (by kernel_rfl) (fun H' hH => f31_c _ H' (r7.keeps (sq hH)) (by have := bends_length ln; omega) (r8.keeps (sq hH))) ?_; rintro v (⟨hc, rfl⟩ | ⟨hc, rfl⟩)
      · refine k_put ?_; refine k_notT rfl rfl ?_; refine k_pickF rfl zq ?_; refine mq rfl ?_; refine k_mv rfl rfl ?_; refine k_mv rfl rfl ?_; refine k_neqBF rfl rfl (by kernel_rfl) rfl ?_; refine k_pickF rfl zq ?_; refine mq rfl ?_; refine k_mv rfl rfl ?_; refine k_mv rfl rfl ?_; refine k_neqF rfl rfl rfl ?_; refine k_pickF rfl zq ?_; refine k_nil ?_; refine run_no ?_; refine run_skip ?_; refine rs6 (by kernel_rfl) ?_; refine mq rfl ?_; refine k_conv rfl zq (by kernel_rfl) (n' := (x : Int)) (by unfold IntKind.wrap; simp [IntKind.bits, IntKind.signed]; omega) ?_; refine mq rfl ?_; refine k_len rfl zq ?_; refine k_rem (a := x) (b := ln.length) rfl zq (by omega) ?_; have hst := Nat.mod_lt x (show ln.length > 0 by omega)
        generalize x % ln.length = st at hst ⊢
        refine aq rfl ?_; refine rs8 (by kernel_rfl) ?_; refine k_ldA rfl zq ?_; refine mq rfl ?_; refine k_calC rfl zq (by kernel_rfl) (Post := fun v new => ∃ w ys, v = .tuple [w, .int .i64 (openS b 0)].toArray ∧ OwnS 3 1 w ys.length (ints ys) new ∧ Asc ys ∧ (∀ z, z ∈ ys ↔ z ∈ heightsAt (boatsOf b) st) ∧ ys.length ≤ 3) (fun H' hH => by have := f36_b (Md.star Tryz.prog B) H' (b := b) (rdm.keeps (sq hH)) hm (rdr.keeps (sq hH)) hr hb0 (st := st) (by omega); exact this) ?_; rintro v n16 ⟨w16, y16, rfl, o16, ha16, hm16, hl16⟩; obtain ⟨p16, c16, rfl, _, r16⟩ := own_rdA (B := B) o16
        refine k_hpA (k_put ?_); refine mq rfl ?_; refine k_ext0 rfl zq ?_; refine k_ext1 rfl zq ?_; refine k_as rfl zq ?_; refine aq rfl ?_; refine rs8 (by kernel_rfl) ?_; refine k_ldA rfl zq ?_; refine mq rfl ?_; refine k_calC rfl zq (by kernel_rfl) (Post := fun v new => ∃ w ys, v = .tuple [w, .int .i64 (openS b 0)].toArray ∧ OwnS 3 1 w ys.length (ints ys) new ∧ Asc ys ∧ (∀ z, z ∈ ys ↔ z ∈ heightsAt (boatsOf (liftB b t)) st) ∧ ys.length ≤ 3) (fun H' hH => by have := f36_b (Md.star Tryz.prog B) H' (b := (liftB b t)) (rm2.keeps (sq hH)) hm (rdr.keeps (sq hH)) hr hS2 (st := st) (by omega); rw [hO2] at this; exact this) ?_; rintro v n17 ⟨w17, y17, rfl, o17, ha17, hm17, hl17⟩; obtain rfl : y17 = lift t y16 := asc_ext _ _ ha17 (List.Pairwise.map _ (fun a c h => by show a + t < c + t; omega) ha16) fun z => by
          rw [hm17, hht2 st (by omega)]; unfold lift
          rw [List.mem_map, List.mem_map]; exact ⟨fun ⟨a, h1, h2⟩ => ⟨a, (hm16 a).2 h1, h2⟩, fun ⟨a, h1, h2⟩ => ⟨a, (hm16 a).1 h1, h2⟩⟩
        obtain ⟨p17, c17, rfl, _, r17⟩ := own_rdA (B := B) o17
        refine k_hpA (k_put ?_); refine mq rfl ?_; refine k_ext0 rfl zq ?_; refine k_ext1 rfl zq ?_; refine k_as rfl zq ?_; refine aq rfl ?_; refine rs9 (by kernel_rfl) ?_; refine k_ldA rfl zq ?_; refine k_calC rfl zq (by kernel_rfl) (Post := fun v new => ∃ w, v = .tuple [w, .int .i64 (straightN b), .int .i64 (openS b 0)].toArray ∧ RdI B new w (straightL b)) (fun H' hH => by have := f40_c (Md.star Tryz.prog B) H' (b := b) (rdm.keeps (sq hH)) hm (rdr.keeps (sq hH)) hr; exact this) ?_; rintro v n18 ⟨w18, rfl, p18, c18, rfl, r18⟩; refine k_hpA (k_put ?_); refine mq rfl ?_; refine k_ext0 rfl zq ?_; refine k_ext1 rfl zq ?_; refine k_ext2 rfl zq ?_; refine k_as rfl zq ?_; refine k_as rfl zq ?_; refine aq rfl ?_; refine rs9 (by kernel_rfl) ?_; refine k_ldA rfl zq ?_; refine k_calC rfl zq (by kernel_rfl) (Post := fun v new => ∃ w, v = .tuple [w, .int .i64 (straightN b), .int .i64 (openS b 0)].toArray ∧ RdI B new w (straightL (liftB b t))) (fun H' hH => by have := f40_c (Md.star Tryz.prog B) H' (b := liftB b t) (rm2.keeps (sq hH)) hm (rdr.keeps (sq hH)) hr; rw [hst2, hO2] at this; exact this) ?_; rintro v n19 ⟨w19, rfl, p19, c19, rfl, r19⟩; refine k_hpA (k_put ?_); refine mq rfl ?_; refine k_ext0 rfl zq ?_; refine k_ext1 rfl zq ?_; refine k_ext2 rfl zq ?_; refine k_as rfl zq ?_; refine k_as rfl zq ?_; refine aq rfl ?_; refine rs10 (by kernel_rfl) ?_; refine k_ldA rfl zq ?_; refine mq rfl ?_; refine k_calC rfl zq (by kernel_rfl) (Post := fun v new => ∃ w, v = .tuple [w, .int .i64 (nearN b ln), .int .i64 (lineO b ln)].toArray ∧ RdI B new w (nearL b ln)) (fun H' hH => by have := f42_c (Md.star Tryz.prog B) H' (b := b) (xs := ln) (rdm.keeps (sq hH)) hm (rdr.keeps (sq hH)) hr (r58.keeps (sq hH)) (by omega); exact this) ?_; rintro v n20 ⟨w20, rfl, p20, c20, rfl, r20⟩
        refine k_hpA (k_put ?_); refine mq rfl ?_; refine k_ext0 rfl zq ?_; refine k_ext1 rfl zq ?_; refine k_ext2 rfl zq ?_; refine k_as rfl zq ?_; refine k_as rfl zq ?_; refine aq rfl ?_; refine rs10 (by kernel_rfl) ?_; refine k_ldA rfl zq ?_; refine mq rfl ?_; refine k_calC rfl zq (by kernel_rfl) (Post := fun v new => ∃ w, v = .tuple [w, .int .i64 (nearN b ln), .int .i64 (lineO b ln)].toArray ∧ RdI B new w (nearL (liftB b t) (lift t ln))) (fun H' hH => by have := f42_c (Md.star Tryz.prog B) H' (b := liftB b t) (xs := lift t ln) (rm2.keeps (sq hH)) hm (rdr.keeps (sq hH)) hr (r68.keeps (sq hH)) (by omega); rw [kN, kO] at this; exact this) ?_; rintro v n21 ⟨w21, rfl, p21, c21, rfl, r21⟩; refine k_hpA (k_put ?_); refine mq rfl ?_; refine k_ext0 rfl zq ?_; refine k_ext1 rfl zq ?_; refine k_ext2 rfl zq ?_; refine k_as rfl zq ?_; refine k_as rfl zq ?_; refine aq rfl ?_; refine rs8 (by kernel_rfl) ?_; refine k_ldA rfl zq ?_; refine mq rfl ?_; refine k_calP (Post := fun v => v = .tuple [.int .i64 (if openS b (if 1 ≤ (st : Int) ∧ (st : Int) ≤ nm - 2 then 0 else 6) ≠ 0 then 0 else told (hollowN (boatsOf b) ((st : Int) - 1).toNat) (boatsOf b).length), .int .i64 (openS b (if 1 ≤ (st : Int) ∧ (st : Int) ≤ nm - 2 then 0 else 6))].toArray) rfl zq (by kernel_rfl) (fun H' hH => by have := f38_c (Md.star Tryz.prog B) H' (b := b) (rdm.keeps (sq hH)) hm (rdr.keeps (sq hH)) hr (st : Int) (by unfold In64; omega); exact this) ?_; rintro v rfl; refine k_put ?_; refine mq rfl ?_; refine k_ext0 rfl zq ?_; refine k_ext1 rfl zq ?_; refine k_as rfl zq ?_; refine aq rfl ?_; refine rs8 (by kernel_rfl) ?_; refine k_ldA rfl zq ?_; refine mq rfl ?_; refine k_calP (Post := fun v => v = .tuple [.int .i64 (if openS b (if 1 ≤ (st : Int) ∧ (st : Int) ≤ nm - 2 then 0 else 6) ≠ 0 then 0 else told (hollowN (boatsOf b) ((st : Int) - 1).toNat) (boatsOf b).length), .int .i64 (openS b (if 1 ≤ (st : Int) ∧ (st : Int) ≤ nm - 2 then 0 else 6))].toArray) rfl zq (by kernel_rfl) (fun H' hH => by have := f38_c (Md.star Tryz.prog B) H' (b := liftB b t) (rm2.keeps (sq hH)) hm (rdr.keeps (sq hH)) hr (st : Int) (by unfold In64; omega); rw [hO2, hho2, hlen2] at this; exact this) ?_
        rintro v rfl; refine k_put ?_; refine mq rfl ?_; refine k_ext0 rfl zq ?_; refine k_ext1 rfl zq ?_; refine k_as rfl zq ?_; refine aq rfl ?_; refine run_seq ?_; refine run_seq ?_; have hy959 : ∀ z ∈ y16, 0 ≤ z ∧ z ≤ 959 := fun z hz => by
          obtain ⟨l, hl, rfl⟩ := List.mem_map.1 ((hm16 z).1 hz)
          have h1 := boat_handed hb0 hl
          exact (lineS_zero (handedS_zero h1.1).2).2 _ (mem_getD.2 ⟨st, by omega, rfl⟩)
        rcases Nat.eq_zero_or_pos y16.length with h3 | h3
        · obtain rfl := List.length_eq_zero_iff.1 h3
          refine rr1 (by kernel_rfl) ?_; refine aq rfl ?_; refine run_block ?_; refine run_loop (fun nn l h' => ∃ (k : Nat), nn = k ∧ (k = 0) ∧ (∃ U : Nat → Value, l = [bkV b pm nm cm pr nr cr, .slice p n c, .int .u8 (x : Int), .int .i16 bi, .pointer (some ⟨q4, 0, none⟩), U 5, U 6, U 7, U 8, U 9, .pointer (some ⟨q10, 0, none⟩), U 11, U 12, U 13, .int .i64 (openS b 0), U 15, .int .i64 (openS b 0), U 17, .int .i64 (openS b 0), U 19, .int .i64 (openS b 0), U 21, .int .i64 (lineO b ln), U 23, .int .i64 (lineO b ln), U 25, .slice p16 ([] : List Int).length c16, .slice p17 (lift t []).length c17, U 28, .int .i64 (straightN b), U 30, .int .i64 (straightN b), U 32, .int .i64 (nearN b ln), U 34, .int .i64 (nearN b ln), .int .i64 (if openS b (if 1 ≤ (st : Int) ∧ (st : Int) ≤ nm - 2 then 0 else 6) ≠ 0 then 0 else told (hollowN (boatsOf b) ((st : Int) - 1).toNat) (boatsOf b).length), .int .i64 (openS b (if 1 ≤ (st : Int) ∧ (st : Int) ≤ nm - 2 then 0 else 6)), .int .i64 (if openS b (if 1 ≤ (st : Int) ∧ (st : Int) ≤ nm - 2 then 0 else 6) ≠ 0 then 0 else told (hollowN (boatsOf b) ((st : Int) - 1).toNat) (boatsOf b).length), .int .i64 (openS b (if 1 ≤ (st : Int) ∧ (st : Int) ≤ nm - 2 then 0 else 6)), .int .i64 (k : Int), U 41, U 42, U 43, U 44, U 45, U 46, U 47, U 48, U 49, U 50, U 51, U 52, U 53, U 54, U 55, U 56, U 57, U 58, U 59, U 60, U 61, U 62, U 63, U 64, U 65, U 66, U 67, U 68, U 69, U 70, U 71, U 72, U 73, U 74, U 75, U 76, U 77, U 78, U 79, U 80, U 81, U 82, U 83, U 84, U 85, U 86, U 87, U 88, U 89, U 90, U 91, U 92, U 93, U 94, U 95, U 96, U 97, U 98, U 99, U 100, U 101, U 102, U 103, U 104, U 105, U 106, U 107, U 108, U 109, U 110, U 111, U 112, U 113, U 114, U 115, U 116, U 117, U 118, U 119, U 120, U 121, U 122, U 123, U 124, U 125, U 126, U 127, U 128, U 129, U 130, U 131, U 132, U 133, U 134, U 135, U 136, U 137, U 138, U 139, U 140, U 141, U 142, U 143, U 144, U 145, U 146, U 147, U 148, U 149, U 150, U 151, U 152, U 153, U 154, U 155, U 156, U 157, U 158, U 159, U 160, U 161, U 162, U 163, U 164, U 165, U 166, U 167, U 168, U 169, U 170, U 171, U 172, U 173, U 174, U 175, U 176, U 177, U 178, U 179, U 180, U 181, U 182, U 183, U 184, U 185, U 186, U 187, U 188, U 189, U 190, U 191, U 192, U 193, U 194, U 195, U 196, U 197, U 198, U 199, U 200, U 201, U 202, U 203, U 204, U 205, U 206, U 207, U 208, U 209, U 210, U 211, U 212, U 213, U 214, U 215, U 216, U 217, U 218, U 219, U 220, U 221, U 222, U 223, U 224, U 225, U 226, U 227, U 228, U 229, U 230, U 231, U 232, U 233, U 234, U 235, U 236, U 237, U 238, U 239, U 240, U 241, U 242, U 243, U 244, U 245]) ∧ h ++ [⟨true, q4, .cells (bkL b pm nm cm pr nr cr).toArray 25 (0, 0)⟩] ++ n58 ++ n68 ++ [⟨true, q10, .cells (bkL (liftB b t) pm2 nm cm2 pr nr cr).toArray 25 (0, 0)⟩] ++ n7 ++ n8 ++ n16 ++ n17 ++ n18 ++ n19 ++ n20 ++ n21 = h') _ ⟨0, rfl, rfl, exU rfl, rfl⟩ ?_
          rintro nn l h' ⟨k, rfl, hk, ⟨U, rfl⟩, rfl⟩ hnext1; refine run_seq ?_; refine rs4 (by kernel_rfl) ?_; refine mq rfl ?_; refine mq rfl ?_; refine k_len rfl zq ?_; refine k_lssS rfl zq (fun hc => ?_) (fun hc => ?_)
          · exfalso; omega
          · refine k_nil ?_; refine run_no ?_; refine run_exit rfl ?_; refine run_seq ?_; refine rr42 (by kernel_rfl) ?_; refine mq rfl ?_; refine mq rfl ?_; refine k_eqlT rfl zq rfl ?_; refine mq rfl ?_; refine k_mv rfl rfl ?_; refine k_mv rfl rfl ?_; refine k_eqlT rfl rfl rfl ?_; refine k_pickT rfl zq ?_; refine mq rfl ?_; refine k_mv rfl rfl ?_; refine k_mv rfl rfl ?_; refine k_eqlT rfl rfl rfl ?_; refine k_pickT rfl zq ?_; refine mq rfl ?_; refine k_mv rfl rfl ?_; refine k_mv rfl rfl ?_; refine k_calP (Post := fun v => IsB _ v) rfl rfl (by kernel_rfl) (fun H' hH => f31_c _ H' (r16.keeps (sq hH)) (by omega) (r17.keeps (sq hH))) ?_; rintro v (⟨hc, rfl⟩ | ⟨hc, rfl⟩)
            · refine k_put ?_; refine k_pickT rfl zq ?_; refine mq rfl ?_; refine k_mv rfl rfl ?_; refine k_mv rfl rfl ?_; refine k_eqlT rfl rfl rfl ?_; refine k_pickT rfl zq ?_; refine mq rfl ?_; refine k_mv rfl rfl ?_; refine k_mv rfl rfl ?_; refine k_eqlT rfl rfl rfl ?_; refine k_pickT rfl zq ?_; refine mq rfl ?_; refine k_mv rfl rfl ?_; refine k_mv rfl rfl ?_; refine k_eqlT rfl rfl rfl ?_; refine k_pickT rfl zq ?_; refine mq rfl ?_; refine k_mv rfl rfl ?_; refine k_mv rfl rfl ?_; refine k_eqlT rfl rfl rfl ?_; refine k_pickT rfl zq ?_; refine mq rfl ?_; refine k_cal rfl rfl (by kernel_rfl) (f20_c _) ?_; rintro v h' ⟨nF, rfl, rfl⟩; refine k_put ?_; refine k_pickT rfl zq ?_; refine aq rfl ?_; refine run_ret rfl ?_; refine run_top rfl Tryz.func10 (by kernel_rfl) rfl ?_; rfl
            · refine k_put ?_; exact absurd rfl hc
        · obtain ⟨qm, cp, junk, e16, rfl, hcp, hcc⟩ := own_blk_of o16 h3
          obtain ⟨rfl, _, rfl⟩ := Value.slice.inj e16
          refine rr1 (by kernel_rfl) ?_; refine aq rfl ?_; refine run_block ?_; refine run_loop (fun nn l h' => ∃ (k : Nat), nn = y16.length - k ∧ (k ≤ y16.length) ∧ (∃ U : Nat → Value, l = [bkV b pm nm cm pr nr cr, .slice p n c, .int .u8 (x : Int), .int .i16 bi, .pointer (some ⟨q4, 0, none⟩), U 5, U 6, U 7, U 8, U 9, .pointer (some ⟨q10, 0, none⟩), U 11, U 12, U 13, .int .i64 (openS b 0), U 15, .int .i64 (openS b 0), U 17, .int .i64 (openS b 0), U 19, .int .i64 (openS b 0), U 21, .int .i64 (lineO b ln), U 23, .int .i64 (lineO b ln), U 25, .slice (some ⟨qm, 0, none⟩) y16.length c16, .slice p17 (lift t y16).length c17, U 28, .int .i64 (straightN b), U 30, .int .i64 (straightN b), U 32, .int .i64 (nearN b ln), U 34, .int .i64 (nearN b ln), .int .i64 (if openS b (if 1 ≤ (st : Int) ∧ (st : Int) ≤ nm - 2 then 0 else 6) ≠ 0 then 0 else told (hollowN (boatsOf b) ((st : Int) - 1).toNat) (boatsOf b).length), .int .i64 (openS b (if 1 ≤ (st : Int) ∧ (st : Int) ≤ nm - 2 then 0 else 6)), .int .i64 (if openS b (if 1 ≤ (st : Int) ∧ (st : Int) ≤ nm - 2 then 0 else 6) ≠ 0 then 0 else told (hollowN (boatsOf b) ((st : Int) - 1).toNat) (boatsOf b).length), .int .i64 (openS b (if 1 ≤ (st : Int) ∧ (st : Int) ≤ nm - 2 then 0 else 6)), .int .i64 (k : Int), U 41, U 42, U 43, U 44, U 45, U 46, U 47, U 48, U 49, U 50, U 51, U 52, U 53, U 54, U 55, U 56, U 57, U 58, U 59, U 60, U 61, U 62, U 63, U 64, U 65, U 66, U 67, U 68, U 69, U 70, U 71, U 72, U 73, U 74, U 75, U 76, U 77, U 78, U 79, U 80, U 81, U 82, U 83, U 84, U 85, U 86, U 87, U 88, U 89, U 90, U 91, U 92, U 93, U 94, U 95, U 96, U 97, U 98, U 99, U 100, U 101, U 102, U 103, U 104, U 105, U 106, U 107, U 108, U 109, U 110, U 111, U 112, U 113, U 114, U 115, U 116, U 117, U 118, U 119, U 120, U 121, U 122, U 123, U 124, U 125, U 126, U 127, U 128, U 129, U 130, U 131, U 132, U 133, U 134, U 135, U 136, U 137, U 138, U 139, U 140, U 141, U 142, U 143, U 144, U 145, U 146, U 147, U 148, U 149, U 150, U 151, U 152, U 153, U 154, U 155, U 156, U 157, U 158, U 159, U 160, U 161, U 162, U 163, U 164, U 165, U 166, U 167, U 168, U 169, U 170, U 171, U 172, U 173, U 174, U 175, U 176, U 177, U 178, U 179, U 180, U 181, U 182, U 183, U 184, U 185, U 186, U 187, U 188, U 189, U 190, U 191, U 192, U 193, U 194, U 195, U 196, U 197, U 198, U 199, U 200, U 201, U 202, U 203, U 204, U 205, U 206, U 207, U 208, U 209, U 210, U 211, U 212, U 213, U 214, U 215, U 216, U 217, U 218, U 219, U 220, U 221, U 222, U 223, U 224, U 225, U 226, U 227, U 228, U 229, U 230, U 231, U 232, U 233, U 234, U 235, U 236, U 237, U 238, U 239, U 240, U 241, U 242, U 243, U 244, U 245]) ∧ h ++ [⟨true, q4, .cells (bkL b pm nm cm pr nr cr).toArray 25 (0, 0)⟩] ++ n58 ++ n68 ++ [⟨true, q10, .cells (bkL (liftB b t) pm2 nm cm2 pr nr cr).toArray 25 (0, 0)⟩] ++ n7 ++ n8 ++ [⟨true, qm, .cells (ints (liftK t k y16) ++ junk).toArray 3 (0, 0)⟩] ++ n17 ++ n18 ++ n19 ++ n20 ++ n21 = h') _ ⟨0, rfl, by omega, exU rfl, rfl⟩ ?_
          rintro nn l h' ⟨k, rfl, hk, ⟨U, rfl⟩, rfl⟩ hnext1; have htl := liftK_length t k y16
          refine run_seq ?_; refine rs4 (by kernel_rfl) ?_; refine mq rfl ?_; refine mq rfl ?_; refine k_len rfl zq ?_; refine k_lssS rfl zq (fun hc => ?_) (fun hc => ?_)
          · refine k_nil ?_; refine run_yes ?_; refine run_skip ?_; refine run_seq ?_; refine run_block ?_; refine rr12 (by kernel_rfl) ?_; refine mq rfl ?_; refine mq rfl ?_; refine mq rfl ?_; refine mq rfl ?_; refine k_ixs rfl zq (by first | rfl | assumption) (by omega) (by omega) ?_; have rdo : RdS B [⟨true, qm, .cells (ints (liftK t k y16) ++ junk).toArray 3 (0, 0)⟩] 1 (.slice (some ⟨qm, 0, none⟩) y16.length c16) y16.length (ints (liftK t k y16)) := (OwnS.blk (t := 3) (k := 1) (n := y16.length) (cap := c16) (b := qm) (cs := ints (liftK t k y16)) (junk := junk) (by show ((liftK t k y16).map _).length = _; rw [List.length_map, htl, Nat.mul_one]) (by show ((liftK t k y16).map _).length + _ = _; rw [List.length_map, htl]; simpa [ints] using hcc) hcp).rd (List.Sublist.refl _)
            have hyk := hy959 (y16.getD k 0) (mem_getD.2 ⟨k, by omega, rfl⟩)
            refine k_ld (v := .int .i64 (y16.getD k 0)) rfl zq (by have := rdo.iat (H := h ++ [⟨true, q4, .cells (bkL b pm nm cm pr nr cr).toArray 25 (0, 0)⟩] ++ n58 ++ n68 ++ [⟨true, q10, .cells (bkL (liftB b t) pm2 nm cm2 pr nr cr).toArray 25 (0, 0)⟩] ++ n7 ++ n8 ++ [⟨true, qm, .cells (ints (liftK t k y16) ++ junk).toArray 3 (0, 0)⟩] ++ n17 ++ n18 ++ n19 ++ n20 ++ n21) k (j := (k : Int)) rfl (by omega); rw [liftK_at t (by omega)] at this; exact this) ?_; refine mq rfl ?_; refine k_conv rfl zq (by kernel_rfl) (n' := (bi : Int)) (by unfold IntKind.wrap; simp [IntKind.bits, IntKind.signed]; omega) ?_; refine k_remT rfl zq (by omega) ?_; rw [hbt]; refine k_add rfl zq (by unfold In64; omega) ?_; refine k_ixs rfl zq (by first | rfl | assumption) (by omega) (by omega) ?_; haveI hsg : SetSeg (ints (liftK t k y16) ++ junk) (0 + (k : Int).toNat * 1) [.int .i64 (y16.getD k 0 + t)] (ints (liftK t (k + 1) y16) ++ junk) := by
              have := setSeg_ints (junk := junk) (xs := liftK t k y16) (j := (k : Int)) (y16.getD k 0 + t) rfl (by omega)
              rw [liftK_set t (by omega)] at this
              exact this
            refine k_st1 rfl zq ?_; refine k_nil ?_; refine run_inBlock ?_; refine rr3 (by kernel_rfl) ?_; refine mq rfl ?_; refine k_add rfl zq (by unfold In64; omega) ?_; refine aq rfl ?_; exact (Md.star Tryz.prog B).weak weakSub (hnext1 _ _ _ (by omega) ⟨k + 1, rfl, by omega, exU rfl, rfl⟩)
          · refine k_nil ?_; refine run_no ?_; refine run_exit rfl ?_; refine run_seq ?_; obtain rfl : k = y16.length := by omega
            have r16b : RdS B [⟨true, qm, .cells (ints (liftK t y16.length y16) ++ junk).toArray 3 (0, 0)⟩] 1 (.slice (some ⟨qm, 0, none⟩) y16.length c16) y16.length (ints (lift t y16)) := by
              have := (OwnS.blk (t := 3) (k := 1) (n := y16.length) (cap := c16) (b := qm) (cs := ints (lift t y16)) (junk := junk) (by show ((lift t y16).map _).length = _; rw [List.length_map, lift_length, Nat.mul_one]) (by show ((lift t y16).map _).length + _ = _; rw [List.length_map, lift_length]; simpa [ints] using hcc) hcp).rd (B := B) (List.Sublist.refl _)
              rw [← liftK_all] at this ⊢
              exact this
            refine rr42 (by kernel_rfl) ?_; refine mq rfl ?_; refine mq rfl ?_; refine k_eqlT rfl zq rfl ?_; refine mq rfl ?_; refine k_mv rfl rfl ?_; refine k_mv rfl rfl ?_; refine k_eqlT rfl rfl rfl ?_; refine k_pickT rfl zq ?_; refine mq rfl ?_; refine k_mv rfl rfl ?_; refine k_mv rfl rfl ?_; refine k_eqlT rfl rfl rfl ?_; refine k_pickT rfl zq ?_; refine mq rfl ?_; refine k_mv rfl rfl ?_; refine k_mv rfl rfl ?_; refine k_calP (Post := fun v => IsB _ v) rfl rfl (by kernel_rfl) (fun H' hH => f31_c _ H' (r16b.keeps (sq hH)) (by omega) (r17.keeps (sq hH))) ?_; rintro v (⟨hc, rfl⟩ | ⟨hc, rfl⟩)
            · refine k_put ?_; refine k_pickT rfl zq ?_; refine mq rfl ?_; refine k_mv rfl rfl ?_; refine k_mv rfl rfl ?_; refine k_eqlT rfl rfl rfl ?_; refine k_pickT rfl zq ?_; refine mq rfl ?_; refine k_mv rfl rfl ?_; refine k_mv rfl rfl ?_; refine k_eqlT rfl rfl rfl ?_; refine k_pickT rfl zq ?_; refine mq rfl ?_; refine k_mv rfl rfl ?_; refine k_mv rfl rfl ?_; refine k_eqlT rfl rfl rfl ?_; refine k_pickT rfl zq ?_; refine mq rfl ?_; refine k_mv rfl rfl ?_; refine k_mv rfl rfl ?_; refine k_eqlT rfl rfl rfl ?_; refine k_pickT rfl zq ?_; refine mq rfl ?_; refine k_cal rfl rfl (by kernel_rfl) (f20_c _) ?_; rintro v h' ⟨nF, rfl, rfl⟩; refine k_put ?_; refine k_pickT rfl zq ?_; refine aq rfl ?_; refine run_ret rfl ?_; refine run_top rfl Tryz.func10 (by kernel_rfl) rfl ?_; rfl
            · refine k_put ?_; exact absurd rfl hc
      · refine k_put ?_; exact absurd rfl hc
  · refine k_put ?_; refine k_notF rfl zq ?_; refine k_nil ?_; refine run_yes ?_; refine rs2 (by kernel_rfl) ?_; refine k_cal rfl zq (by kernel_rfl) (f20_c _) ?_; rintro v h' ⟨nF, rfl, rfl⟩; refine k_put ?_; refine aq rfl ?_; refine run_ret rfl ?_; refine run_top rfl Tryz.func10 (by kernel_rfl) rfl ?_; rfl
end Go.Proofs
namespace Go.Lo
set_option maxRecDepth 100000
section
variable {H : Type} {enc : TypeId × Value → H} {P : Program} {w : World} {base : Nat} {sp : Nat → Bool} {held : Bool}
theorem slice_open {kd : IntKind} {t e : TypeId} {k fuel : Nat} {cs : List Value} {x : DataW H × List MemPlace} (hu : P.underlying t = some (.slice e)) (hB : intsB P kd 3 e k = true) (h : DataW.trod enc P w base sp held fuel t cs = some x) (hs : ∀ a n c, cs = [.slice (some a) n c] → a.spot = none) :
    ∃ (p : Option Addr) (n c : Nat) (zs : List Int), cs = [.slice p n c] ∧ n ≤ c ∧ zs.length = n * k ∧ RdS w.heap [] k (.slice p n c) n (zs.map (Value.int kd)) ∧ ∀ z ∈ zs, (Lit.int kd z).wf = true := by
  rcases Deep.open_slice hu h with ⟨rfl, _⟩ | ⟨a, len, cap, m, n, D, Pl, rfl, hb, hl, hm, hmm, _, hx⟩
  · exact ⟨none, 0, 0, [], rfl, Nat.le_refl _, by simp, ⟨none, 0, rfl, by simp, .inl ⟨rfl, rfl⟩⟩, fun z hz => by simp at hz⟩
  · have hlm : len ≤ m := by rw [hmm]; split <;> omega
    have hc : P.cellsOf e = k := intsB_size hB
    obtain ⟨ab, ao, sx⟩ := a
    obtain rfl : sx = none := hs _ _ _ rfl
    obtain ⟨V, hV⟩ := Deep.choose_lt (α := Int) (n := len * k) (p := fun q z => w.cell? ⟨ab, ao + q, none⟩ = some (.int kd z) ∧ (Lit.int kd z).wf = true) (fun q hq => by
      have hk : 0 < k := by rcases Nat.eq_zero_or_pos k with e0 | e0; subst e0; simp at hq; exact e0
      have hi : q / k < len := Nat.div_lt_of_lt_mul (by rw [Nat.mul_comm]; exact hq)
      obtain ⟨cs', h1, h2⟩ := hx (q / k) (by omega)
      obtain ⟨_, hlen, hcell⟩ := World.cells?_some h1
      obtain ⟨_, hall⟩ := trod_cells 3 hB h2
      obtain ⟨z, hz, hw⟩ := hall (q % k) (Nat.mod_lt _ hk)
      refine ⟨z, ?_, hw⟩
      have := hcell (q % k) (by rw [hc]; exact Nat.mod_lt _ hk)
      rw [hz, Addr.add_none, Addr.add_none, hc] at this
      rw [← this]; have e := Nat.div_add_mod q k
      have e2 : q / k * k = k * (q / k) := Nat.mul_comm _ _
      congr 2; omega)
    refine ⟨some ⟨ab, ao, none⟩, len, cap, (List.range (len * k)).map V, rfl, hl, by simp, ⟨_, cap, rfl, by simp, .inr ⟨ab, ao, rfl, fun j hj => ?_⟩⟩, fun z hz => ?_⟩
    · have hj' : j < len * k := by simpa using hj
      have : (((List.range (len * k)).map V).map (Value.int kd)).getD j undef = .int kd (V j) := by
        rw [List.getD_eq_getElem?_getD, List.getElem?_map, List.getElem?_map, List.getElem?_range hj']; rfl
      rw [this]; exact rd_of_cell (hV j hj').1
    · obtain ⟨q, hq, rfl⟩ := List.mem_map.1 hz
      exact (hV q (List.mem_range.1 hq)).2
theorem spot_of {r : Reach} {b0 : Nat} {t e : TypeId} {v : Value} (hu : P.underlying t = some (.slice e)) (h : Cell.okWide P w r b0 t v) : ∀ a n c, [v] = [.slice (some a) n c] → a.spot = none := fun a n c e1 => by
  obtain rfl := List.head_eq_of_cons_eq e1
  unfold Cell.okWide at h
  rw [hu] at h
  simp only [Cell.ok, hu] at h
  exact h.2.2.2.1
end
def spsOf : List Int → List Sp
  | a :: b :: r => ⟨a, b⟩ :: spsOf r
  | _ => []
theorem spsOf_enc : ∀ (n : Nat) (zs : List Int), zs.length = n * 2 → encs (spsOf zs) = ints zs
  | 0, zs, h => by
    obtain rfl := List.length_eq_zero_iff.1 (by simpa using h)
    rfl
  | n + 1, a :: b :: r, h => by
    have := spsOf_enc n r (by simp only [List.length_cons] at h; omega)
    simp only [spsOf, encs, this]
    rfl
  | n + 1, [], h => by simp at h
  | n + 1, [a], h => by simp at h; omega
def rusOf : List Int → List Ru
  | a :: b :: c :: d :: r => ⟨a, b, c, d⟩ :: rusOf r
  | _ => []
theorem rusOf_enc : ∀ (n : Nat) (zs : List Int), zs.length = n * 4 → encs (rusOf zs) = ints zs
  | 0, zs, h => by
    obtain rfl := List.length_eq_zero_iff.1 (by simpa using h)
    rfl
  | n + 1, a :: b :: c :: d :: r, h => by
    have := rusOf_enc n r (by simp only [List.length_cons] at h; omega)
    simp only [rusOf, encs, this]
    rfl
  | n + 1, [], h => by simp at h
  | n + 1, [a], h => by simp at h; omega
  | n + 1, [a, b], h => by simp at h; omega
  | n + 1, [a, b, c], h => by simp at h; omega
end Go.Lo
namespace Go.Proofs
open Go.Lo
set_option maxRecDepth 100000
section
variable {H : Type} {enc : TypeId × Value → H} {w : World} {sp : Nat → Bool} {held : Bool}
theorem int_arg {r : Reach} {b0 : Nat} {t : TypeId} {kd : IntKind} {v : Value} {d : DataW H} {ps : List MemPlace} (ht : Tryz.prog.underlying t = some (.int kd)) (hv : Value.okWide Tryz.prog w r b0 t v) (h : DataW.Trod enc Tryz.prog w 0 sp held t v d ps) :
    ∃ n, v = .int kd n ∧ (Lit.int kd n).wf = true := by
  obtain ⟨n, e, _, _, hw⟩ := ChangeShapes.open_int ht hv h
  exact ⟨n, e, hw⟩
theorem nat_arg {n M : Int} {kd : IntKind} {v : Value} (e : v = .int kd n ∧ (Lit.int kd n).wf = true) (h : (Lit.int kd n).wf = true → 0 ≤ n ∧ n ≤ M) : ∃ z : Nat, v = .int kd (z : Int) ∧ (z : Int) ≤ M := by
  obtain ⟨h0, h1⟩ := h e.2
  exact ⟨n.toNat, by rw [e.1, Int.toNat_of_nonneg h0], by rw [Int.toNat_of_nonneg h0]; exact h1⟩
theorem u8_arg {r : Reach} {b0 : Nat} {v : Value} {d : DataW H} {ps : List MemPlace} (hv : Value.okWide Tryz.prog w r b0 5 v) (h : DataW.Trod enc Tryz.prog w 0 sp held 5 v d ps) : ∃ z : Nat, v = .int .u8 (z : Int) ∧ z ≤ 255 := by
  obtain ⟨n, e⟩ := int_arg (kd := .u8) (by kernel_rfl) hv h
  obtain ⟨z, e, hz⟩ := nat_arg (M := 255) e (fun hw => by simp [Lit.wf, IntKind.min, IntKind.max, IntKind.signed, IntKind.bits] at hw; omega)
  exact ⟨z, e, by omega⟩
theorem nums_arg {r : Reach} {b0 : Nat} {t e : TypeId} {kd : IntKind} {v : Value} {d : DataW H} {ps : List MemPlace} (hu : Tryz.prog.underlying t = some (.slice e)) (hB : intsB Tryz.prog kd 3 e 1 = true) (hv : Value.okWide Tryz.prog w r b0 t v) (h : DataW.Trod enc Tryz.prog w 0 sp held t v d ps) :
    ∃ (p : Option Addr) (n c : Nat) (xs : List Int), v = .slice p n c ∧ RdS w.heap [] 1 (.slice p n c) n (xs.map (Value.int kd)) ∧ ∀ x ∈ xs, (Lit.int kd x).wf = true := by
  have hv' : Cell.okWide Tryz.prog w r b0 t v := by
    unfold Value.okWide at hv
    rw [hu] at hv
    exact hv
  obtain ⟨fuel, h⟩ := h
  have hsl : v.cells.toList = [v] := by
    unfold Cell.okWide at hv'
    rw [hu] at hv'
    cases v <;> first | rfl | (simp [Cell.ok, hu] at hv')
  rw [hsl] at h
  obtain ⟨p, n, c, zs, e, _, _, rd, hw⟩ := slice_open hu hB h (spot_of hu hv')
  exact ⟨p, n, c, zs, List.head_eq_of_cons_eq e, rd, hw⟩
theorem picks_arg {r : Reach} {b0 : Nat} {v : Value} {d : DataW H} {ps : List MemPlace} (hv : Value.okWide Tryz.prog w r b0 48 v) (h : DataW.Trod enc Tryz.prog w 0 sp held 48 v d ps) :
    ∃ (p : Option Addr) (n c : Nat) (xs : List Int), v = .slice p n c ∧ RdS w.heap [] 1 (.slice p n c) n (xs.map (Value.int .u16)) ∧ ∀ x ∈ xs, 0 ≤ x ∧ x ≤ 65535 := by
  obtain ⟨p, n, c, xs, e, rd, hw⟩ := nums_arg (e := 55) (kd := .u16) (by kernel_rfl) (by kernel_rfl) hv h
  exact ⟨p, n, c, xs, e, rd, fun x hx => by have := hw x hx; simp [Lit.wf, IntKind.min, IntKind.max, IntKind.signed, IntKind.bits] at this; omega⟩
theorem trodAll_cons {P : Program} {base : Nat} {t : TypeId} {ts : List TypeId} {vs : List Value} {ds : List (DataW H)} {ps : List MemPlace} (h : DataW.TrodAll enc P w base sp held (t :: ts) vs ds ps) :
    ∃ v vr d dr p q, vs = v :: vr ∧ ds = d :: dr ∧ ps = p ++ q ∧ DataW.Trod enc P w base sp held t v d p ∧ DataW.TrodAll enc P w base sp held ts vr dr q := by
  cases vs with
  | nil => cases ds <;> exact absurd h id
  | cons v vr =>
    cases ds with
    | nil => exact absurd h id
    | cons d dr =>
      obtain ⟨p, q, h1, h2, e⟩ := h
      exact ⟨v, vr, d, dr, p, q, rfl, rfl, e, h1, h2⟩
theorem trodAll_end {P : Program} {base : Nat} {vs : List Value} {ds : List (DataW H)} {ps : List MemPlace} (h : DataW.TrodAll enc P w base sp held [] vs ds ps) : vs = [] ∧ ds = [] ∧ ps = [] := by
  cases vs with
  | nil =>
    cases ds with
    | nil => exact ⟨rfl, rfl, h⟩
    | cons d dr => exact absurd h id
  | cons v vr => cases ds <;> exact absurd h id
theorem trodAll_more {P : Program} {base : Nat} {t : TypeId} {ts : List TypeId} {v : Value} {vs : List Value} {d : DataW H} {ds : List (DataW H)} {p q : List MemPlace} (h : DataW.Trod enc P w base sp held t v d p) (k : DataW.TrodAll enc P w base sp held ts vs ds q) : DataW.TrodAll enc P w base sp held (t :: ts) (v :: vs) (d :: ds) (p ++ q) := ⟨p, q, h, k, rfl⟩
theorem book_arg {r : Reach} {b0 : Nat} {v : Value} {d : DataW H} {ps : List MemPlace} (hv : Value.okWide Tryz.prog w r b0 25 v) (h : DataW.Trod enc Tryz.prog w 0 sp held 25 v d ps) :
    ∃ b pm nm cm pr nr cr, v = bkV b pm nm cm pr nr cr ∧ nm ≤ cm ∧ nr ≤ cr ∧ RdS w.heap [] 2 (.slice pm nm cm) nm (encs b.marks) ∧ RdS w.heap [] 4 (.slice pr nr cr) nr (encs b.rules) ∧ (Lit.int .i64 b.bend).wf = true ∧ (Lit.int .i64 b.twist).wf = true ∧ (Lit.int .i64 b.turns).wf = true := by
  obtain ⟨fs, hu, hfs⟩ : ∃ fs, Tryz.prog.underlying 25 = some (.struct fs) ∧ fs.toList.map (fun f => (f.offset, f.type)) = [(0, 3), (1, 3), (2, 3), (3, 22), (4, 23)] := ⟨_, Tryz.underlying25, by kernel_rfl⟩
  have hct : Tryz.prog.cellTypes Tryz.prog.depth 25 = some [3, 3, 3, 22, 23] := by kernel_rfl
  have h3 : Tryz.prog.underlying 3 = some (.int .i64) := by kernel_rfl
  have h22 : Tryz.prog.underlying 22 = some (.slice 92) := by kernel_rfl
  have h23 : Tryz.prog.underlying 23 = some (.slice 94) := by kernel_rfl
  unfold Value.okWide at hv
  rw [hu] at hv
  obtain ⟨cs, rfl, hsz, ts, hts, _, hall⟩ := hv
  rw [hct] at hts
  obtain rfl := Option.some.inj hts
  obtain ⟨fuel, h⟩ := h
  obtain ⟨xs, m, _, _, hl, hxl, hx⟩ := DataW.trod_struct hu h
  have hl5 : cs.size = 5 := hsz.trans (by kernel_rfl)
  obtain ⟨cl⟩ := cs
  have hl5' : cl.length = 5 := hl5
  obtain ⟨c0, c1, c2, c3, c4, rfl⟩ : ∃ c0 c1 c2 c3 c4, cl = [c0, c1, c2, c3, c4] := by
    match cl, hl5' with
    | [c0, c1, c2, c3, c4], _ => exact ⟨_, _, _, _, _, rfl⟩
  obtain ⟨f0, f1, f2, f3, f4, rfl⟩ : ∃ f0 f1 f2 f3 f4, fs = #[f0, f1, f2, f3, f4] := by
    obtain ⟨fl⟩ := fs
    have hlen : fl.length = 5 := by simpa using congrArg List.length hfs
    match fl, hlen with
    | [f0, f1, f2, f3, f4], _ => exact ⟨_, _, _, _, _, rfl⟩
  simp only [List.map_cons, List.map_nil, List.cons.injEq, Prod.mk.injEq, and_true] at hfs
  obtain ⟨⟨o0, t0⟩, ⟨o1, t1⟩, ⟨o2, t2⟩, ⟨o3, t3⟩, o4, t4⟩ := hfs
  have s3 : Tryz.prog.cellsOf 3 = 1 := by kernel_rfl
  have s22 : Tryz.prog.cellsOf 22 = 1 := by kernel_rfl
  have s23 : Tryz.prog.cellsOf 23 = 1 := by kernel_rfl
  have go : ∀ i, i < 5 → ∃ y, xs[i]? = some y := fun i hi => ⟨_, List.getElem?_eq_getElem (by rw [hxl]; exact hi)⟩
  obtain ⟨y0, e0⟩ := go 0 (by omega); obtain ⟨y1, e1⟩ := go 1 (by omega); obtain ⟨y2, e2⟩ := go 2 (by omega); obtain ⟨y3, e3⟩ := go 3 (by omega); obtain ⟨y4, e4⟩ := go 4 (by omega)
  have g0 := (hx 0 f0 rfl).trans e0
  have g1 := (hx 1 f1 rfl).trans e1
  have g2 := (hx 2 f2 rfl).trans e2
  have g3 := (hx 3 f3 rfl).trans e3
  have g4 := (hx 4 f4 rfl).trans e4
  rw [t0, o0, s3] at g0
  rw [t1, o1, s3] at g1
  rw [t2, o2, s3] at g2
  rw [t3, o3, s22] at g3
  rw [t4, o4, s23] at g4
  obtain ⟨n0, q0, _, w0⟩ := DataW.trod_int h3 g0
  obtain ⟨n1, q1, _, w1⟩ := DataW.trod_int h3 g1
  obtain ⟨n2, q2, _, w2⟩ := DataW.trod_int h3 g2
  obtain rfl := List.head_eq_of_cons_eq (show [c0] = [Value.int .i64 n0] from q0)
  obtain rfl := List.head_eq_of_cons_eq (show [c1] = [Value.int .i64 n1] from q1)
  obtain rfl := List.head_eq_of_cons_eq (show [c2] = [Value.int .i64 n2] from q2)
  obtain ⟨u3, hu3, k3⟩ := hall 3 c3 rfl
  obtain ⟨u4, hu4, k4⟩ := hall 4 c4 rfl
  obtain rfl : 22 = u3 := Option.some.inj hu3
  obtain rfl : 23 = u4 := Option.some.inj hu4
  obtain ⟨pm, nm, cm, zm, em, hcm, hzm, rdm, _⟩ := slice_open (cs := [c3]) h22 (by kernel_rfl : intsB Tryz.prog .i64 3 92 2 = true) g3 (spot_of h22 k3)
  obtain ⟨pr, nr, cr, zr, er, hcr, hzr, rdr, _⟩ := slice_open (cs := [c4]) h23 (by kernel_rfl : intsB Tryz.prog .i64 3 94 4 = true) g4 (spot_of h23 k4)
  obtain rfl := List.head_eq_of_cons_eq em
  obtain rfl := List.head_eq_of_cons_eq er
  exact ⟨⟨n0, n1, n2, spsOf zm, rusOf zr⟩, pm, nm, cm, pr, nr, cr, rfl, hcm, hcr, by rw [spsOf_enc _ _ hzm]; exact rdm, by rw [rusOf_enc _ _ hzr]; exact rdr, w0, w1, w2⟩
end
end Go.Proofs
namespace Go.Proofs
open Go.Lo
set_option maxRecDepth 100000
section
variable {H : Type} {enc : TypeId × Value → H} {w : World} {sp : Nat → Bool} {held : Bool}
theorem i16_arg {r : Reach} {b0 : Nat} {v : Value} {d : DataW H} {ps : List MemPlace} (hv : Value.okWide Tryz.prog w r b0 74 v) (h : DataW.Trod enc Tryz.prog w 0 sp held 74 v d ps) : ∃ z : Int, v = .int .i16 z ∧ (-32768 ≤ z ∧ z ≤ 32767) := by
  obtain ⟨n, e, hw⟩ := int_arg (kd := .i16) (by kernel_rfl) hv h
  refine ⟨n, e, ?_⟩
  simp [Lit.wf, IntKind.min, IntKind.max, IntKind.signed, IntKind.bits] at hw
  omega
end
end Go.Proofs
namespace Go.Proofs.YtlbkicemccikgaaGreatDoor
open Go Go.Lo Go.ChangeShapes Go.WideShapes Go.ChangeAt Go.RowKit Go.Conc
set_option maxRecDepth 100000
theorem tied_goes_at (Lk : Looks) {p : Pinned} {s : OpenSpec} {k : StoodClaim8} {ks : List StandKind} (kinds : List LaidKind) (tests : Bool) (h : Claim7.holdsNew p (.plain s) { stood := k, kinds := ks }) (hw : k.row.wfByText s = true) :
    Claim7.holdsNew p (.plain s) { stood := k, kinds := ks, goes := true, laidByText := true, laidKinds := kinds, laidTests := tests, laidLooks := Lk } := by
  obtain ⟨_, rest⟩ := h
  exact ⟨hw, rest⟩
theorem card_of (Lk : Looks) {p : Pinned} {s : OpenSpec} {c : OpenClaim} (kinds : List LaidKind) (tests : Bool) (har : Bool × String) (lk : Bool)
    (hc : c.holds p s) (hw : c.wfByText s = true) (htie : c.laidByTextAt Lk p kinds tests)
    (hst : c.start = .entering) (hnb : c.noBlocks = false ∧ c.again = false) (hm : p.checked.prog.mainIs = some (har.1, har.2.toList)) (hn : (!har.1 && har.2.isEmpty && !lk) = false)
    (hl : ∀ f fn, p.checked.prog.funcNamed c.func = some f → p.checked.prog.funcs[f]? = some fn → lk = p.checked.prog.looks [] ∧ ∀ (j : Nat) t, fn.params[j]? = some t → p.checked.prog.wantsStandIn t = false)
    (hg : true = c.goesBy p.checked.prog) :
    Claim7.holds p (.plain s) { stood := { row := c, standIns := [], harness := har, looks := lk }, kinds := [], alts := [], goes := true, laidByText := true, laidKinds := kinds, laidTests := tests, laidLooks := Lk } := by
  have h6 : ∀ r : OpenClaim, Claim7.isSixth { stood := { row := r, standIns := [], harness := har, looks := lk }, kinds := [] } = false := fun r => by simpa [Claim7.isSixth] using hn
  exact ⟨tied_goes_at Lk kinds tests (Claim7.new_of_sixth hc har lk hst hnb hm (h6 c) hl) hw, (fun D hD => by cases hD), htie, (fun h => by cases h), hg⟩
theorem own : ownKnob Tryz.prog.godebug = none := by kernel_rfl
theorem laidOut : laidOutB Tryz.prog = true := by kernel_rfl
theorem laidOutP : laidOutB Tryz.pinned.checked.prog = true := laidOut
def laidL : List (String × DataW Unit) := [("ribband/batten.checks", Rows.laid_ribband_batten_checks)]
theorem door_met (os : Os) (args : Array Value) : laidMetH Tryz.prog laidL ((World.doorLaid Tryz.prog 14 os).forCall (fun _ _ => 0) ⟨#[], args, []⟩).memory :=
  laidMetH_of_parts3 (fuel := 8) (laidMet_nil _ _) (by kernel_rfl) (by kernel_rfl)
theorem laid_of {W : World} (h : laidMetH Tryz.prog laidL W) : Laid W.heap := by
  obtain ⟨g, t, cs, fuel, p, hg, ht, hv, hd⟩ := h.funcs (n := "ribband/batten.checks") (List.mem_cons_self ..)
  obtain rfl := Option.some.inj ((show Tryz.prog.globalNamed "ribband/batten.checks" = some 0 by kernel_rfl).symm.trans hg)
  obtain rfl := Option.some.inj ((show (Tryz.prog.globals[0]?).map (·.type) = some 107 by kernel_rfl).symm.trans ht)
  have hu : Tryz.prog.underlying 107 = some (.array 3 106) := by kernel_rfl
  have hc1 : Tryz.prog.cellsOf 106 = 1 := by kernel_rfl
  obtain ⟨ps, rs, va, h106⟩ : ∃ ps rs va, Tryz.prog.underlying 106 = some (.func ps rs va) := ⟨_, _, _, Tryz.underlying106⟩
  obtain ⟨xs, m, _, ex, hl, hxl, hx⟩ := DataW.trod_array hu hd
  have hl3 : cs.toList.length = 3 := hl.trans (by kernel_rfl)
  obtain ⟨cl⟩ := cs
  obtain ⟨c0, c1, c2, rfl⟩ : ∃ c0 c1 c2, cl = [c0, c1, c2] := by
    match cl, hl3 with
    | [c0, c1, c2], _ => exact ⟨_, _, _, rfl⟩
  obtain ⟨y0, y1, y2, rfl⟩ : ∃ y0 y1 y2, xs = [y0, y1, y2] := by
    match xs, hxl with
    | [y0, y1, y2], _ => exact ⟨_, _, _, rfl⟩
  have e2 : ∃ a b c : List UInt8, (Rows.laid_ribband_batten_checks : DataW Unit) = .iface "func table" (.agg [.iface "func" (.lit (.string a)), .iface "func" (.lit (.string b)), .iface "func" (.lit (.string c))]) ∧
      ((List.range Tryz.prog.funcs.size).filter fun f => (Tryz.prog.funcs[f]?).any (·.name.toUTF8.data.toList == a)) = [199] ∧ ((List.range Tryz.prog.funcs.size).filter fun f => (Tryz.prog.funcs[f]?).any (·.name.toUTF8.data.toList == b)) = [200] ∧
      ((List.range Tryz.prog.funcs.size).filter fun f => (Tryz.prog.funcs[f]?).any (·.name.toUTF8.data.toList == c)) = [201] ∧ a ≠ [] ∧ b ≠ [] ∧ c ≠ [] ∧
      [y0.1, y1.1, y2.1] = [.held a, .held b, .held c] := by
    refine ⟨_, _, _, rfl, by kernel_rfl, by kernel_rfl, by kernel_rfl, by simp, by simp, by simp, ?_⟩
    have := congrArg Prod.fst ex
    simp only [DataW.funcsOut] at this
    injection this with this
    exact this.symm
  obtain ⟨a, b, c, _, fa, fb, fc, na, nb, nc, e3⟩ := e2
  simp only [List.cons.injEq, and_true] at e3
  obtain ⟨z0, z1, z2⟩ := e3
  have g0 := hx 0 (by omega)
  have g1 := hx 1 (by omega)
  have g2 := hx 2 (by omega)
  rw [hc1] at g0 g1 g2
  have key : ∀ (v : Value) (y : DataW (List UInt8) × List MemPlace) (l : List UInt8) (f0 : FuncId), DataW.trod (funcToken Tryz.prog) Tryz.prog W 0 (fun _ => true) true m 106 [v] = some y → y.1 = .held l → l ≠ [] → ((List.range Tryz.prog.funcs.size).filter fun f => (Tryz.prog.funcs[f]?).any (·.name.toUTF8.data.toList == l)) = [f0] → v = .func (.func f0) #[] #[] := by
    intro v y l f0 h1 h2 h3 h4
    obtain ⟨y1, y2⟩ := y
    obtain rfl : y1 = .held l := h2
    cases l with
    | nil => exact absurd rfl h3
    | cons b0 r0 => exact func_of_trod h106 h4 h1
  obtain rfl := key c0 y0 a 199 g0 z0 na fa
  obtain rfl := key c1 y1 b 200 g1 z1 nb fb
  obtain rfl := key c2 y2 c 201 g2 z2 nc fc
  unfold World.var? at hv
  rw [hg] at hv
  simp only [Option.bind_some] at hv
  split at hv
  · rename_i cs t f hb
    obtain rfl := Option.some.inj hv
    exact ⟨t, f, hb⟩
  · cases hv
end Go.Proofs.YtlbkicemccikgaaGreatDoor
