/- A part of the proof of a law: my own separation logic over the machine, and walks of the program. Condition of each theorem: as its statement says. -/
import Derived.Test.YtlbkicemccikgaaGreatDoorWLStiffer9
import Derived.SevenTiedAt
import Derived.LaidOnce
import Derived.Test.YtlbkicemccikgaaGreatDoorCards
import Derived.Test.YtlbkicemccikgaaGreatDoorTie
set_option linter.all false
namespace Go.Proofs
open Go.Lo
open Go.Conc (G)
set_option maxRecDepth 100000
set_option synthInstance.maxSize 100000
set_option synthInstance.maxHeartbeats 1000000
set_option maxHeartbeats 4000000
variable {B : Array Obj}
variable [Laid B]
def stfB (b : Bk) (x y z : Nat) : Bk := ⟨min (b.bend + ((x % 9 : Nat) : Int)) 99, min (b.twist + ((y % 9 : Nat) : Int)) 99, min (b.turns + ((z % 4 : Nat) : Int)) 5, b.marks, b.rules⟩
theorem withinL_mono {l : List Int} {x y : Int} (h : withinL l x) (hxy : x ≤ y) : withinL l y := fun z hz => by have := h z hz; omega
theorem stf_facts {b : Bk} (h0 : bookS b = 0) (x y z : Nat) : bookS (stfB b x y z) = 0 ∧ (boatsOf b).Sublist (boatsOf (stfB b x y z)) ∧ (∀ l, handedS (stfB b x y z) l = handedS b l) ∧ ∀ l, fair b.bend b.twist b.turns l → fair (stfB b x y z).bend (stfB b x y z).twist (stfB b x y z).turns l := by
  have hv := valid_of h0
  obtain ⟨m1, m2, m3⟩ := marks_zero h0
  have hb := hv.bend; have ht := hv.twist; have hu := hv.turns
  have b1 : b.bend ≤ (stfB b x y z).bend ∧ (stfB b x y z).bend ≤ 99 := by show b.bend ≤ min _ _ ∧ min _ _ ≤ _; omega
  have b2 : b.twist ≤ (stfB b x y z).twist ∧ (stfB b x y z).twist ≤ 99 := by show b.twist ≤ min _ _ ∧ min _ _ ≤ _; omega
  have b3 : b.turns ≤ (stfB b x y z).turns ∧ (stfB b x y z).turns ≤ 5 := by show b.turns ≤ min _ _ ∧ min _ _ ≤ _; omega
  have hf : ∀ l, fair b.bend b.twist b.turns l → fair (stfB b x y z).bend (stfB b x y z).twist (stfB b x y z).turns l := fun l ⟨f1, f2, f3⟩ => ⟨withinL_mono f1 b1.1, withinL_mono f2 b2.1, by omega⟩
  have h1 : bookS (stfB b x y z) = 0 := by
    rw [bookS, if_neg (by omega)]; show (if marksS b.marks ≠ 0 then _ else rulesS b.marks.length b.rules) = 0
    rw [if_neg (fun e => e m1), m2]
  refine ⟨h1, ?_, fun l => by rw [handedS, handedS, if_neg (fun e => e h1), if_neg (fun e => e h0)]; rfl, hf⟩
  unfold boatsOf
  exact filter_sub _ fun l _ hl => by
    obtain ⟨c1, c2, c3⟩ := of_decide_eq_true hl
    exact decide_eq_true ⟨c1, c2, hf l c3⟩
section
variable {P : Program} {B : Array Obj} {m : Md P B} {ops : Array Oper} {l l' : List Value} {S h h' H : Hp} {C : List Value → Hp → Prop} {i : Nat} {kd : Kd} {r : List (Nat × Kd)}
  {d : Option Tmp} {ty : TypeId} {pos : String} {af : Array Edge} {g : Option (Nat × Bool)}
theorem k_leqT {t u : TypeId} {x y : Operand} {a b : Int} {k : IntKind} (ho : ops[i]? = some ⟨d, .binOp .leq t x y u, ty, pos, af, g⟩) (hw : Wt ops l g) [kh : KHeap kd S h H] [ex : OpV l x (.int k a)] [ey : OpV l y (.int k b)] (e : a ≤ b) [pt : PutV l d (.bool true) l'] (q : RegK m S ops r l' h C) : RegK m S ops ((i, kd) :: r) l h C := by
  have pq := pt; rw [← decide_eq_true e] at pq; exact k_leq (l' := l') ho hw q
end
theorem f11_t (h : Hp) {b : Bk} {pm : Option Addr} {nm cm : Nat} {pr : Option Addr} {nr cr : Nat} (rdm : RdS B h 2 (.slice pm nm cm) nm (encs b.marks)) (rdr : RdS B h 4 (.slice pr nr cr) nr (encs b.rules)) {p : Option Addr} {n c : Nat} {zs : List Int} (rd : RdS B h 1 (.slice p n c) n (u16s zs)) (hz : ∀ z ∈ zs, 0 ≤ z ∧ z ≤ 65535) {u x y z : Nat} (hu : u ≤ 255) (hx : x ≤ 255) (hy : y ≤ 255) (hz2 : z ≤ 255) : (Md.star Tryz.prog B).R (AtEnd Tryz.prog B fun v _ => v = .bool true) (G (Frame.enter Tryz.prog 11 #[bkV b pm nm cm pr nr cr, .slice p n c, .int .u8 (u : Int), .int .u8 (x : Int), .int .u8 (y : Int), .int .u8 (z : Int)] .normal) []) h := by
  refine top_enter Tryz.func11 rfl rfl (l := (bkV b pm nm cm pr nr cr) :: (.slice p n c) :: (.int .u8 (u : Int)) :: (.int .u8 (x : Int)) :: (.int .u8 (y : Int)) :: (.int .u8 (z : Int)) :: uu119) rfl ?_
  refine rs2 (by kernel_rfl) ?_; refine k_box rfl zq (fun q3 => k_hp (k_put ?_)); refine aq rfl ?_; refine run_seq ?_; refine rs3 (by kernel_rfl) ?_; refine k_ldA rfl zq ?_; refine k_calP (Post := fun v => IsB _ v) rfl zq (by kernel_rfl) (fun H' hH => f48_c _ H' (rdm.keeps (sq hH)) (rdr.keeps (sq hH))) ?_; rintro v (⟨hc, rfl⟩ | ⟨hc, rfl⟩)
  · refine k_put ?_; refine k_notT rfl zq ?_; refine k_nil ?_; refine run_no ?_; refine run_skip ?_; refine run_seq ?_; obtain ⟨hm20, hr20, hb0⟩ : nm ≤ 20 ∧ nr ≤ 20 ∧ bookS b = 0 := by assumption
    have hm : nm ≤ 1000 := by omega
    have hr : nr ≤ 1000 := by omega
    have hml := rdm.elen (by decide)
    have hv := valid_of hb0
    have hbl := boats_le hv
    have hmany := hv.many
    have hrl := rdr.elen (by decide)
    obtain ⟨s1, s2, s3, s4⟩ := stf_facts hb0 x y z
    have hbe := hv.bend
    have htw := hv.twist
    have htu := hv.turns
    refine run_draw [(2, .pure), (0, .read), (1, .read), (3, .call), (4, .alloc), (5, .free), (6, .pure)] (by kernel_rfl) (by kernel_rfl) (List.Sublist.refl _) ?_; refine mq rfl ?_; refine k_ldA rfl zq ?_; refine k_ldA rfl zq ?_; refine k_calC rfl zq (by kernel_rfl) (Post := fun v new => ∃ ln, OwnS 3 1 v ln.length (ints ln) new ∧ ln.length = b.marks.length ∧ ∀ x ∈ ln, 0 ≤ x ∧ x ≤ 959) (fun H' hH => f58_c _ H' (rdm.keeps (sq hH)) hm hb0 (rd.keeps (sq hH)) hz) ?_; rintro v n58 ⟨ln, o58, hll, hla⟩; obtain ⟨p58, c58, rfl, _, r58⟩ := own_rdA (B := B) o58
    refine k_hpA (k_put ?_); obtain ⟨hls0, hlh, hlO, hlS⟩ := line_handed hb0 hll hla
    refine k_new rfl zq (fun q13 => k_hp (k_put ?_)); refine k_stA rfl zq rfl ?_; refine aq rfl ?_; refine run_seq ?_; refine run_draw (S := h ++ [⟨true, q3, .cells (bkL b pm nm cm pr nr cr).toArray 25 (0, 0)⟩] ++ n58) [(0, .pure), (2, .pure), (3, .pure), (4, .pure), (7, .pure), (9, .pure), (10, .pure), (11, .pure), (14, .pure), (16, .pure), (17, .pure), (18, .pure), (1, .read), (5, .pure), (6, .pure), (21, .pure), (8, .read), (12, .pure), (13, .pure), (15, .read), (19, .pure), (20, .pure), (22, .keep), (23, .pure), (24, .keep), (25, .pure), (26, .keep)] (by kernel_rfl) (by kernel_rfl) SubH.sub ?_; first | refine k_fa0 rfl zq ?_ | refine k_fa rfl zq ?_
    refine mq rfl ?_; refine k_conv rfl zq (by kernel_rfl) (n' := (x : Int)) (by unfold IntKind.wrap; simp [IntKind.bits, IntKind.signed]; omega) ?_; refine k_rem (a := x) (b := 9) rfl zq (by omega) ?_; have hx9 := Nat.mod_lt x (show 9 > 0 by omega)
    first | refine k_fa0 rfl zq ?_ | refine k_fa rfl zq ?_
    refine mq rfl ?_; refine k_conv rfl zq (by kernel_rfl) (n' := (y : Int)) (by unfold IntKind.wrap; simp [IntKind.bits, IntKind.signed]; omega) ?_; refine k_rem (a := y) (b := 9) rfl zq (by omega) ?_; have hy9 := Nat.mod_lt y (show 9 > 0 by omega)
    first | refine k_fa0 rfl zq ?_ | refine k_fa rfl zq ?_
    refine mq rfl ?_; refine k_conv rfl zq (by kernel_rfl) (n' := (z : Int)) (by unfold IntKind.wrap; simp [IntKind.bits, IntKind.signed]; omega) ?_; refine k_rem (a := z) (b := 4) rfl zq (by omega) ?_; have hz4 := Nat.mod_lt z (show 4 > 0 by omega)
    refine k_ldh rfl zq ?_; refine k_add rfl zq (by unfold In64; omega) ?_; refine k_min rfl zq ?_; first | refine k_fa0 rfl zq ?_ | refine k_fa rfl zq ?_
    refine k_ldh rfl zq ?_; refine k_add rfl zq (by unfold In64; omega) ?_; refine k_min rfl zq ?_; refine k_ldh rfl zq ?_; refine k_add rfl zq (by unfold In64; omega) ?_; refine k_min rfl zq ?_; refine k_st1 rfl zq ?_; first | refine k_fa0 rfl zq ?_ | refine k_fa rfl zq ?_
    refine k_st1 rfl zq ?_; first | refine k_fa0 rfl zq ?_ | refine k_fa rfl zq ?_
    refine k_st1 rfl zq ?_; refine k_nil ?_; refine rs6 (by kernel_rfl) ?_; refine mq rfl ?_; refine k_conv rfl zq (by kernel_rfl) (n' := (u : Int)) (by unfold IntKind.wrap; simp [IntKind.bits, IntKind.signed]; omega) ?_; refine mq rfl ?_; refine k_len rfl zq ?_; refine k_rem (a := u) (b := ln.length) rfl zq (by omega) ?_; have hul := Nat.mod_lt u (show ln.length > 0 by omega)
    refine aq rfl ?_; refine run_seq ?_; refine rs5 (by kernel_rfl) ?_; refine k_ldA rfl zq ?_; refine k_ldA rfl zq ?_; refine mq rfl ?_; refine k_calC rfl zq (by kernel_rfl) (Post := fun v new => v = .bool true) (fun H' hH => f69_c (Md.star Tryz.prog B) H' (b := (stfB b x y z)) (b2 := b) (rdm.keeps (sq hH)) hm (rdr.keeps (sq hH)) hr (rdm.keeps (sq hH)) hm (rdr.keeps (sq hH)) hr s1 hb0 rfl s2 _ (by omega)) ?_; rintro v n69 rfl; refine k_hpA (k_put ?_); refine k_notT rfl zq ?_; refine k_nil ?_; refine run_no ?_; refine run_skip ?_; refine rs10 (by kernel_rfl) ?_; refine k_ldA rfl zq ?_; refine mq rfl ?_; refine k_calC rfl zq (by kernel_rfl) (Post := fun v new => ∃ w, v = .tuple [w, .int .i64 (nearN b ln), .int .i64 (lineO b ln)].toArray ∧ RdI B new w (nearL b ln)) (fun H' hH => f42_c _ H' (b := b) (xs := ln) (rdm.keeps (sq hH)) hm (rdr.keeps (sq hH)) hr (r58.keeps (sq hH)) (by omega)) ?_; rintro v n8 ⟨w8, rfl, p8, c8, rfl, r8⟩; refine k_hpA (k_put ?_); refine mq rfl ?_; refine k_ext0 rfl zq ?_; refine k_ext1 rfl zq ?_; refine k_ext2 rfl zq ?_; refine k_as rfl zq ?_; refine k_as rfl zq ?_; refine aq rfl ?_; refine rs10 (by kernel_rfl) ?_; refine k_ldA rfl zq ?_; refine mq rfl ?_; refine k_calC rfl zq (by kernel_rfl) (Post := fun v new => ∃ w, v = .tuple [w, .int .i64 (nearN (stfB b x y z) ln), .int .i64 (lineO (stfB b x y z) ln)].toArray ∧ RdI B new w (nearL (stfB b x y z) ln)) (fun H' hH => f42_c _ H' (b := (stfB b x y z)) (xs := ln) (rdm.keeps (sq hH)) hm (rdr.keeps (sq hH)) hr (r58.keeps (sq hH)) (by omega)) ?_; rintro v n9 ⟨w9, rfl, p9, c9, rfl, r9⟩; refine k_hpA (k_put ?_); refine mq rfl ?_; refine k_ext0 rfl zq ?_; refine k_ext1 rfl zq ?_; refine k_ext2 rfl zq ?_; refine k_as rfl zq ?_; refine k_as rfl zq ?_; refine k_as rfl zq ?_
    refine k_nil ?_; refine rs8 (by kernel_rfl) ?_; refine k_ldA rfl zq ?_; refine mq rfl ?_; refine k_calP (Post := fun v => ∃ w, v = .tuple [w, .int .i64 0].toArray ∧ IsB (fair b.bend b.twist b.turns ln) w) rfl zq (by kernel_rfl) (fun H' hH => by have := f29_c (Md.star Tryz.prog B) H' (b := b) (xs := ln) (rdm.keeps (sq hH)) hm (rdr.keeps (sq hH)) hr (r58.keeps (sq hH)) (by omega); simp only [hlh, eq_self, true_and] at this; exact this) ?_; rintro v ⟨w10, rfl, hw10⟩; obtain ⟨t10, rfl⟩ := isB_bool hw10
    refine k_put ?_; refine mq rfl ?_; refine k_ext0 rfl zq ?_; refine k_ext1 rfl zq ?_; refine k_as rfl zq ?_; refine aq rfl ?_; refine rs8 (by kernel_rfl) ?_; refine k_ldA rfl zq ?_; refine mq rfl ?_; refine k_calP (Post := fun v => ∃ w, v = .tuple [w, .int .i64 0].toArray ∧ IsB (fair (stfB b x y z).bend (stfB b x y z).twist (stfB b x y z).turns ln) w) rfl zq (by kernel_rfl) (fun H' hH => by have := f29_c (Md.star Tryz.prog B) H' (b := (stfB b x y z)) (xs := ln) (rdm.keeps (sq hH)) hm (rdr.keeps (sq hH)) hr (r58.keeps (sq hH)) (by omega); simp only [s3, hlh, eq_self, true_and] at this; exact this) ?_; rintro v ⟨w11, rfl, hw11⟩; obtain ⟨t11, rfl⟩ := isB_bool hw11
    refine k_put ?_; have himp : t10 = true → t11 = true := fun e => by
      subst e
      have h1 : fair b.bend b.twist b.turns ln := by rcases hw10 with ⟨h, _⟩ | ⟨_, h⟩; exact h; cases h
      have := isB_true hw11 (s4 _ h1)
      injection this
    refine mq rfl ?_; refine k_ext0 rfl zq ?_; refine k_ext1 rfl zq ?_; refine k_as rfl zq ?_; refine aq rfl ?_; refine run_seq ?_; refine run_seq ?_; rcases t10 with _ | _
    · refine rr13 (by kernel_rfl) ?_; refine mq rfl ?_; refine k_neqF rfl zq rfl ?_; refine mq rfl ?_; refine k_mv rfl rfl ?_; refine k_neqF rfl rfl rfl ?_; refine k_pickF rfl zq ?_; refine mq rfl ?_; refine k_mv rfl rfl ?_; refine k_mv rfl rfl ?_; refine k_off rfl rfl ?_; refine k_off rfl rfl ?_; refine k_pickF rfl rfl ?_; refine k_pickF rfl zq ?_; refine k_nil ?_; refine run_no ?_; refine run_skip ?_; refine run_seq ?_; rcases Classical.em (boatsOf b = []) with hbn | hbn
      · rw [(near_none hb0 hbn hll hla).1]; refine rr19 (by kernel_rfl) ?_; refine mq rfl ?_; refine k_eqlT rfl zq rfl ?_; refine mq rfl ?_; refine k_off rfl rfl ?_; refine k_off rfl rfl ?_; refine k_off rfl rfl ?_; refine k_off rfl rfl ?_; refine k_off rfl rfl ?_; refine k_off rfl rfl ?_; refine k_off rfl rfl ?_; refine k_off rfl rfl ?_; refine k_off rfl rfl ?_; refine k_off rfl rfl ?_; refine k_off rfl rfl ?_; refine k_pickT rfl zq ?_; refine mq rfl ?_; refine k_cal rfl rfl (by kernel_rfl) (f20_c _) ?_; rintro v h' ⟨nF, rfl, rfl⟩; refine k_put ?_; refine k_pickT rfl zq ?_; refine aq rfl ?_; refine run_ret rfl ?_; refine run_top rfl Tryz.func11 (by kernel_rfl) rfl ?_; rfl
      · obtain ⟨eo, _, _, _, _, _, _, _, hnear⟩ := near_facts hb0 hbn hll hla
        obtain ⟨eo2, _, _, _, _, _, _, _, hnear2⟩ := near_facts s1 (fun e => hbn (List.sublist_nil.1 (e ▸ s2))) (ln := ln) hll hla
        have hle : nearN (stfB b x y z) ln ≤ nearN b ln := by
          obtain ⟨_, hgm, en, _⟩ := near_facts hb0 hbn hll hla
          have := (hnear2 _ (s2.subset hgm)).1
          rw [en]; exact this
        rw [eo, eo2]; refine rr19 (by kernel_rfl) ?_; refine mq rfl ?_; refine k_eqlF rfl zq (by decide) ?_; refine mq rfl ?_; refine k_mv rfl rfl ?_; refine k_eqlT rfl rfl rfl ?_; refine k_mv rfl rfl ?_; refine k_mv rfl rfl ?_; refine k_eqlT rfl rfl rfl ?_; refine k_pickT rfl rfl ?_; refine k_mv rfl rfl ?_; refine k_mv rfl rfl ?_; refine k_mv rfl rfl ?_; refine k_leqT rfl rfl hle ?_; refine k_pickT rfl rfl ?_; refine k_pickF rfl zq ?_; refine mq rfl ?_; refine k_cal rfl rfl (by kernel_rfl) (f20_c _) ?_; rintro v h' ⟨nF, rfl, rfl⟩; refine k_put ?_; refine k_pickT rfl zq ?_; refine aq rfl ?_; refine run_ret rfl ?_; refine run_top rfl Tryz.func11 (by kernel_rfl) rfl ?_; rfl
    · obtain rfl := himp rfl
      refine rr13 (by kernel_rfl) ?_; refine mq rfl ?_; refine k_neqF rfl zq rfl ?_; refine mq rfl ?_; refine k_mv rfl rfl ?_; refine k_neqF rfl rfl rfl ?_; refine k_pickF rfl zq ?_; refine mq rfl ?_; refine k_mv rfl rfl ?_; refine k_mv rfl rfl ?_; refine k_mv rfl rfl ?_; refine k_notT rfl rfl ?_; refine k_pickT rfl rfl ?_; refine k_pickF rfl zq ?_; refine k_nil ?_; refine run_no ?_; refine run_skip ?_; refine run_seq ?_; rcases Classical.em (boatsOf b = []) with hbn | hbn
      · rw [(near_none hb0 hbn hll hla).1]; refine rr19 (by kernel_rfl) ?_; refine mq rfl ?_; refine k_eqlT rfl zq rfl ?_; refine mq rfl ?_; refine k_off rfl rfl ?_; refine k_off rfl rfl ?_; refine k_off rfl rfl ?_; refine k_off rfl rfl ?_; refine k_off rfl rfl ?_; refine k_off rfl rfl ?_; refine k_off rfl rfl ?_; refine k_off rfl rfl ?_; refine k_off rfl rfl ?_; refine k_off rfl rfl ?_; refine k_off rfl rfl ?_; refine k_pickT rfl zq ?_; refine mq rfl ?_; refine k_cal rfl rfl (by kernel_rfl) (f20_c _) ?_; rintro v h' ⟨nF, rfl, rfl⟩; refine k_put ?_; refine k_pickT rfl zq ?_; refine aq rfl ?_; refine run_ret rfl ?_; refine run_top rfl Tryz.func11 (by kernel_rfl) rfl ?_; rfl
      · obtain ⟨eo, _, _, _, _, _, _, _, hnear⟩ := near_facts hb0 hbn hll hla
        obtain ⟨eo2, _, _, _, _, _, _, _, hnear2⟩ := near_facts s1 (fun e => hbn (List.sublist_nil.1 (e ▸ s2))) (ln := ln) hll hla
        have hle : nearN (stfB b x y z) ln ≤ nearN b ln := by
          obtain ⟨_, hgm, en, _⟩ := near_facts hb0 hbn hll hla
          have := (hnear2 _ (s2.subset hgm)).1
          rw [en]; exact this
        rw [eo, eo2]; refine rr19 (by kernel_rfl) ?_; refine mq rfl ?_; refine k_eqlF rfl zq (by decide) ?_; refine mq rfl ?_; refine k_mv rfl rfl ?_; refine k_eqlT rfl rfl rfl ?_; refine k_mv rfl rfl ?_; refine k_mv rfl rfl ?_; refine k_eqlT rfl rfl rfl ?_; refine k_pickT rfl rfl ?_; refine k_mv rfl rfl ?_; refine k_mv rfl rfl ?_; refine k_mv rfl rfl ?_; refine k_leqT rfl rfl hle ?_; refine k_pickT rfl rfl ?_; refine k_pickF rfl zq ?_; refine mq rfl ?_; refine k_cal rfl rfl (by kernel_rfl) (f20_c _) ?_; rintro v h' ⟨nF, rfl, rfl⟩; refine k_put ?_; refine k_pickT rfl zq ?_; refine aq rfl ?_; refine run_ret rfl ?_; refine run_top rfl Tryz.func11 (by kernel_rfl) rfl ?_; rfl
  · refine k_put ?_; refine k_notF rfl zq ?_; refine k_nil ?_; refine run_yes ?_; refine rs2 (by kernel_rfl) ?_; refine k_cal rfl zq (by kernel_rfl) (f20_c _) ?_; rintro v h' ⟨nF, rfl, rfl⟩; refine k_put ?_; refine aq rfl ?_; refine run_ret rfl ?_; refine run_top rfl Tryz.func11 (by kernel_rfl) rfl ?_; rfl
end Go.Proofs
namespace Go.Lo
set_option maxRecDepth 100000
section
variable {H : Type} {enc : TypeId × Value → H} {P : Program} {w : World} {base : Nat} {sp : Nat → Bool} {held : Bool}
theorem slice_open {kd : IntKind} {t e : TypeId} {k fuel : Nat} {cs : List Value} {x : DataW H × List MemPlace} (hu : P.underlying t = some (.slice e)) (hB : intsB P kd 3 e k = true) (h : DataW.trod enc P w base sp held fuel t cs = some x) (hs : ∀ a n c, cs = [.slice (some a) n c] → a.spot = none) :
    ∃ (p : Option Addr) (n c : Nat) (zs : List Int), cs = [.slice p n c] ∧ n ≤ c ∧ zs.length = n * k ∧ RdS w.heap [] k (.slice p n c) n (zs.map (Value.int kd)) ∧ ∀ z ∈ zs, (Lit.int kd z).wf = true := by
  rcases Deep.open_slice hu h with ⟨rfl, _⟩ | ⟨a, len, cap, m, n, D, Pl, rfl, hb, hl, hm, hmm, _, hx⟩
  · exact ⟨none, 0, 0, [], rfl, Nat.le_refl _, by simp, ⟨none, 0, rfl, by simp, .inl ⟨rfl, rfl⟩⟩, fun z hz => by simp at hz⟩
  · have hlm : len ≤ m := by rw [hmm]; split <;> omega
    have hc : P.cellsOf e = k := intsB_size hB
    obtain ⟨ab, ao, sx⟩ := a
    obtain rfl : sx = none := hs _ _ _ rfl
    obtain ⟨V, hV⟩ := Deep.choose_lt (α := Int) (n := len * k) (p := fun q z => w.cell? ⟨ab, ao + q, none⟩ = some (.int kd z) ∧ (Lit.int kd z).wf = true) (fun q hq => by
      have hk : 0 < k := by rcases Nat.eq_zero_or_pos k with e0 | e0; subst e0; simp at hq; exact e0
      have hi : q / k < len := Nat.div_lt_of_lt_mul (by rw [Nat.mul_comm]; exact hq)
      obtain ⟨cs', h1, h2⟩ := hx (q / k) (by omega)
      obtain ⟨_, hlen, hcell⟩ := World.cells?_some h1
      obtain ⟨_, hall⟩ := trod_cells 3 hB h2
      obtain ⟨z, hz, hw⟩ := hall (q % k) (Nat.mod_lt _ hk)
      refine ⟨z, ?_, hw⟩
      have := hcell (q % k) (by rw [hc]; exact Nat.mod_lt _ hk)
      rw [hz, Addr.add_none, Addr.add_none, hc] at this
      rw [← this]; have e := Nat.div_add_mod q k
      have e2 : q / k * k = k * (q / k) := Nat.mul_comm _ _
      congr 2; omega)
    refine ⟨some ⟨ab, ao, none⟩, len, cap, (List.range (len * k)).map V, rfl, hl, by simp, ⟨_, cap, rfl, by simp, .inr ⟨ab, ao, rfl, fun j hj => ?_⟩⟩, fun z hz => ?_⟩
    · have hj' : j < len * k := by simpa using hj
      have : (((List.range (len * k)).map V).map (Value.int kd)).getD j undef = .int kd (V j) := by
        rw [List.getD_eq_getElem?_getD, List.getElem?_map, List.getElem?_map, List.getElem?_range hj']; rfl
      rw [this]; exact rd_of_cell (hV j hj').1
    · obtain ⟨q, hq, rfl⟩ := List.mem_map.1 hz
      exact (hV q (List.mem_range.1 hq)).2
theorem spot_of {r : Reach} {b0 : Nat} {t e : TypeId} {v : Value} (hu : P.underlying t = some (.slice e)) (h : Cell.okWide P w r b0 t v) : ∀ a n c, [v] = [.slice (some a) n c] → a.spot = none := fun a n c e1 => by
  obtain rfl := List.head_eq_of_cons_eq e1
  unfold Cell.okWide at h
  rw [hu] at h
  simp only [Cell.ok, hu] at h
  exact h.2.2.2.1
end
def spsOf : List Int → List Sp
  | a :: b :: r => ⟨a, b⟩ :: spsOf r
  | _ => []
theorem spsOf_enc : ∀ (n : Nat) (zs : List Int), zs.length = n * 2 → encs (spsOf zs) = ints zs
  | 0, zs, h => by
    obtain rfl := List.length_eq_zero_iff.1 (by simpa using h)
    rfl
  | n + 1, a :: b :: r, h => by
    have := spsOf_enc n r (by simp only [List.length_cons] at h; omega)
    simp only [spsOf, encs, this]
    rfl
  | n + 1, [], h => by simp at h
  | n + 1, [a], h => by simp at h; omega
def rusOf : List Int → List Ru
  | a :: b :: c :: d :: r => ⟨a, b, c, d⟩ :: rusOf r
  | _ => []
theorem rusOf_enc : ∀ (n : Nat) (zs : List Int), zs.length = n * 4 → encs (rusOf zs) = ints zs
  | 0, zs, h => by
    obtain rfl := List.length_eq_zero_iff.1 (by simpa using h)
    rfl
  | n + 1, a :: b :: c :: d :: r, h => by
    have := rusOf_enc n r (by simp only [List.length_cons] at h; omega)
    simp only [rusOf, encs, this]
    rfl
  | n + 1, [], h => by simp at h
  | n + 1, [a], h => by simp at h; omega
  | n + 1, [a, b], h => by simp at h; omega
  | n + 1, [a, b, c], h => by simp at h; omega
end Go.Lo
namespace Go.Proofs
open Go.Lo
set_option maxRecDepth 100000
section
variable {H : Type} {enc : TypeId × Value → H} {w : World} {sp : Nat → Bool} {held : Bool}
theorem int_arg {r : Reach} {b0 : Nat} {t : TypeId} {kd : IntKind} {v : Value} {d : DataW H} {ps : List MemPlace} (ht : Tryz.prog.underlying t = some (.int kd)) (hv : Value.okWide Tryz.prog w r b0 t v) (h : DataW.Trod enc Tryz.prog w 0 sp held t v d ps) :
    ∃ n, v = .int kd n ∧ (Lit.int kd n).wf = true := by
  obtain ⟨n, e, _, _, hw⟩ := ChangeShapes.open_int ht hv h
  exact ⟨n, e, hw⟩
theorem nat_arg {n M : Int} {kd : IntKind} {v : Value} (e : v = .int kd n ∧ (Lit.int kd n).wf = true) (h : (Lit.int kd n).wf = true → 0 ≤ n ∧ n ≤ M) : ∃ z : Nat, v = .int kd (z : Int) ∧ (z : Int) ≤ M := by
  obtain ⟨h0, h1⟩ := h e.2
  exact ⟨n.toNat, by rw [e.1, Int.toNat_of_nonneg h0], by rw [Int.toNat_of_nonneg h0]; exact h1⟩
theorem u8_arg {r : Reach} {b0 : Nat} {v : Value} {d : DataW H} {ps : List MemPlace} (hv : Value.okWide Tryz.prog w r b0 5 v) (h : DataW.Trod enc Tryz.prog w 0 sp held 5 v d ps) : ∃ z : Nat, v = .int .u8 (z : Int) ∧ z ≤ 255 := by
  obtain ⟨n, e⟩ := int_arg (kd := .u8) (by kernel_rfl) hv h
  obtain ⟨z, e, hz⟩ := nat_arg (M := 255) e (fun hw => by simp [Lit.wf, IntKind.min, IntKind.max, IntKind.signed, IntKind.bits] at hw; omega)
  exact ⟨z, e, by omega⟩
theorem nums_arg {r : Reach} {b0 : Nat} {t e : TypeId} {kd : IntKind} {v : Value} {d : DataW H} {ps : List MemPlace} (hu : Tryz.prog.underlying t = some (.slice e)) (hB : intsB Tryz.prog kd 3 e 1 = true) (hv : Value.okWide Tryz.prog w r b0 t v) (h : DataW.Trod enc Tryz.prog w 0 sp held t v d ps) :
    ∃ (p : Option Addr) (n c : Nat) (xs : List Int), v = .slice p n c ∧ RdS w.heap [] 1 (.slice p n c) n (xs.map (Value.int kd)) ∧ ∀ x ∈ xs, (Lit.int kd x).wf = true := by
  have hv' : Cell.okWide Tryz.prog w r b0 t v := by
    unfold Value.okWide at hv
    rw [hu] at hv
    exact hv
  obtain ⟨fuel, h⟩ := h
  have hsl : v.cells.toList = [v] := by
    unfold Cell.okWide at hv'
    rw [hu] at hv'
    cases v <;> first | rfl | (simp [Cell.ok, hu] at hv')
  rw [hsl] at h
  obtain ⟨p, n, c, zs, e, _, _, rd, hw⟩ := slice_open hu hB h (spot_of hu hv')
  exact ⟨p, n, c, zs, List.head_eq_of_cons_eq e, rd, hw⟩
theorem picks_arg {r : Reach} {b0 : Nat} {v : Value} {d : DataW H} {ps : List MemPlace} (hv : Value.okWide Tryz.prog w r b0 48 v) (h : DataW.Trod enc Tryz.prog w 0 sp held 48 v d ps) :
    ∃ (p : Option Addr) (n c : Nat) (xs : List Int), v = .slice p n c ∧ RdS w.heap [] 1 (.slice p n c) n (xs.map (Value.int .u16)) ∧ ∀ x ∈ xs, 0 ≤ x ∧ x ≤ 65535 := by
  obtain ⟨p, n, c, xs, e, rd, hw⟩ := nums_arg (e := 55) (kd := .u16) (by kernel_rfl) (by kernel_rfl) hv h
  exact ⟨p, n, c, xs, e, rd, fun x hx => by have := hw x hx; simp [Lit.wf, IntKind.min, IntKind.max, IntKind.signed, IntKind.bits] at this; omega⟩
theorem trodAll_cons {P : Program} {base : Nat} {t : TypeId} {ts : List TypeId} {vs : List Value} {ds : List (DataW H)} {ps : List MemPlace} (h : DataW.TrodAll enc P w base sp held (t :: ts) vs ds ps) :
    ∃ v vr d dr p q, vs = v :: vr ∧ ds = d :: dr ∧ ps = p ++ q ∧ DataW.Trod enc P w base sp held t v d p ∧ DataW.TrodAll enc P w base sp held ts vr dr q := by
  cases vs with
  | nil => cases ds <;> exact absurd h id
  | cons v vr =>
    cases ds with
    | nil => exact absurd h id
    | cons d dr =>
      obtain ⟨p, q, h1, h2, e⟩ := h
      exact ⟨v, vr, d, dr, p, q, rfl, rfl, e, h1, h2⟩
theorem trodAll_end {P : Program} {base : Nat} {vs : List Value} {ds : List (DataW H)} {ps : List MemPlace} (h : DataW.TrodAll enc P w base sp held [] vs ds ps) : vs = [] ∧ ds = [] ∧ ps = [] := by
  cases vs with
  | nil =>
    cases ds with
    | nil => exact ⟨rfl, rfl, h⟩
    | cons d dr => exact absurd h id
  | cons v vr => cases ds <;> exact absurd h id
theorem trodAll_more {P : Program} {base : Nat} {t : TypeId} {ts : List TypeId} {v : Value} {vs : List Value} {d : DataW H} {ds : List (DataW H)} {p q : List MemPlace} (h : DataW.Trod enc P w base sp held t v d p) (k : DataW.TrodAll enc P w base sp held ts vs ds q) : DataW.TrodAll enc P w base sp held (t :: ts) (v :: vs) (d :: ds) (p ++ q) := ⟨p, q, h, k, rfl⟩
theorem book_arg {r : Reach} {b0 : Nat} {v : Value} {d : DataW H} {ps : List MemPlace} (hv : Value.okWide Tryz.prog w r b0 25 v) (h : DataW.Trod enc Tryz.prog w 0 sp held 25 v d ps) :
    ∃ b pm nm cm pr nr cr, v = bkV b pm nm cm pr nr cr ∧ nm ≤ cm ∧ nr ≤ cr ∧ RdS w.heap [] 2 (.slice pm nm cm) nm (encs b.marks) ∧ RdS w.heap [] 4 (.slice pr nr cr) nr (encs b.rules) ∧ (Lit.int .i64 b.bend).wf = true ∧ (Lit.int .i64 b.twist).wf = true ∧ (Lit.int .i64 b.turns).wf = true := by
  obtain ⟨fs, hu, hfs⟩ : ∃ fs, Tryz.prog.underlying 25 = some (.struct fs) ∧ fs.toList.map (fun f => (f.offset, f.type)) = [(0, 3), (1, 3), (2, 3), (3, 22), (4, 23)] := ⟨_, Tryz.underlying25, by kernel_rfl⟩
  have hct : Tryz.prog.cellTypes Tryz.prog.depth 25 = some [3, 3, 3, 22, 23] := by kernel_rfl
  have h3 : Tryz.prog.underlying 3 = some (.int .i64) := by kernel_rfl
  have h22 : Tryz.prog.underlying 22 = some (.slice 92) := by kernel_rfl
  have h23 : Tryz.prog.underlying 23 = some (.slice 94) := by kernel_rfl
  unfold Value.okWide at hv
  rw [hu] at hv
  obtain ⟨cs, rfl, hsz, ts, hts, _, hall⟩ := hv
  rw [hct] at hts
  obtain rfl := Option.some.inj hts
  obtain ⟨fuel, h⟩ := h
  obtain ⟨xs, m, _, _, hl, hxl, hx⟩ := DataW.trod_struct hu h
  have hl5 : cs.size = 5 := hsz.trans (by kernel_rfl)
  obtain ⟨cl⟩ := cs
  have hl5' : cl.length = 5 := hl5
  obtain ⟨c0, c1, c2, c3, c4, rfl⟩ : ∃ c0 c1 c2 c3 c4, cl = [c0, c1, c2, c3, c4] := by
    match cl, hl5' with
    | [c0, c1, c2, c3, c4], _ => exact ⟨_, _, _, _, _, rfl⟩
  obtain ⟨f0, f1, f2, f3, f4, rfl⟩ : ∃ f0 f1 f2 f3 f4, fs = #[f0, f1, f2, f3, f4] := by
    obtain ⟨fl⟩ := fs
    have hlen : fl.length = 5 := by simpa using congrArg List.length hfs
    match fl, hlen with
    | [f0, f1, f2, f3, f4], _ => exact ⟨_, _, _, _, _, rfl⟩
  simp only [List.map_cons, List.map_nil, List.cons.injEq, Prod.mk.injEq, and_true] at hfs
  obtain ⟨⟨o0, t0⟩, ⟨o1, t1⟩, ⟨o2, t2⟩, ⟨o3, t3⟩, o4, t4⟩ := hfs
  have s3 : Tryz.prog.cellsOf 3 = 1 := by kernel_rfl
  have s22 : Tryz.prog.cellsOf 22 = 1 := by kernel_rfl
  have s23 : Tryz.prog.cellsOf 23 = 1 := by kernel_rfl
  have go : ∀ i, i < 5 → ∃ y, xs[i]? = some y := fun i hi => ⟨_, List.getElem?_eq_getElem (by rw [hxl]; exact hi)⟩
  obtain ⟨y0, e0⟩ := go 0 (by omega); obtain ⟨y1, e1⟩ := go 1 (by omega); obtain ⟨y2, e2⟩ := go 2 (by omega); obtain ⟨y3, e3⟩ := go 3 (by omega); obtain ⟨y4, e4⟩ := go 4 (by omega)
  have g0 := (hx 0 f0 rfl).trans e0
  have g1 := (hx 1 f1 rfl).trans e1
  have g2 := (hx 2 f2 rfl).trans e2
  have g3 := (hx 3 f3 rfl).trans e3
  have g4 := (hx 4 f4 rfl).trans e4
  rw [t0, o0, s3] at g0
  rw [t1, o1, s3] at g1
  rw [t2, o2, s3] at g2
  rw [t3, o3, s22] at g3
  rw [t4, o4, s23] at g4
  obtain ⟨n0, q0, _, w0⟩ := DataW.trod_int h3 g0
  obtain ⟨n1, q1, _, w1⟩ := DataW.trod_int h3 g1
  obtain ⟨n2, q2, _, w2⟩ := DataW.trod_int h3 g2
  obtain rfl := List.head_eq_of_cons_eq (show [c0] = [Value.int .i64 n0] from q0)
  obtain rfl := List.head_eq_of_cons_eq (show [c1] = [Value.int .i64 n1] from q1)
  obtain rfl := List.head_eq_of_cons_eq (show [c2] = [Value.int .i64 n2] from q2)
  obtain ⟨u3, hu3, k3⟩ := hall 3 c3 rfl
  obtain ⟨u4, hu4, k4⟩ := hall 4 c4 rfl
  obtain rfl : 22 = u3 := Option.some.inj hu3
  obtain rfl : 23 = u4 := Option.some.inj hu4
  obtain ⟨pm, nm, cm, zm, em, hcm, hzm, rdm, _⟩ := slice_open (cs := [c3]) h22 (by kernel_rfl : intsB Tryz.prog .i64 3 92 2 = true) g3 (spot_of h22 k3)
  obtain ⟨pr, nr, cr, zr, er, hcr, hzr, rdr, _⟩ := slice_open (cs := [c4]) h23 (by kernel_rfl : intsB Tryz.prog .i64 3 94 4 = true) g4 (spot_of h23 k4)
  obtain rfl := List.head_eq_of_cons_eq em
  obtain rfl := List.head_eq_of_cons_eq er
  exact ⟨⟨n0, n1, n2, spsOf zm, rusOf zr⟩, pm, nm, cm, pr, nr, cr, rfl, hcm, hcr, by rw [spsOf_enc _ _ hzm]; exact rdm, by rw [rusOf_enc _ _ hzr]; exact rdr, w0, w1, w2⟩
end
end Go.Proofs
namespace Go.Proofs.YtlbkicemccikgaaGreatDoor
open Go Go.Lo Go.ChangeShapes Go.WideShapes Go.ChangeAt Go.RowKit Go.Conc
set_option maxRecDepth 100000
theorem tied_goes_at (Lk : Looks) {p : Pinned} {s : OpenSpec} {k : StoodClaim8} {ks : List StandKind} (kinds : List LaidKind) (tests : Bool) (h : Claim7.holdsNew p (.plain s) { stood := k, kinds := ks }) (hw : k.row.wfByText s = true) :
    Claim7.holdsNew p (.plain s) { stood := k, kinds := ks, goes := true, laidByText := true, laidKinds := kinds, laidTests := tests, laidLooks := Lk } := by
  obtain ⟨_, rest⟩ := h
  exact ⟨hw, rest⟩
theorem card_of (Lk : Looks) {p : Pinned} {s : OpenSpec} {c : OpenClaim} (kinds : List LaidKind) (tests : Bool) (har : Bool × String) (lk : Bool)
    (hc : c.holds p s) (hw : c.wfByText s = true) (htie : c.laidByTextAt Lk p kinds tests)
    (hst : c.start = .entering) (hnb : c.noBlocks = false ∧ c.again = false) (hm : p.checked.prog.mainIs = some (har.1, har.2.toList)) (hn : (!har.1 && har.2.isEmpty && !lk) = false)
    (hl : ∀ f fn, p.checked.prog.funcNamed c.func = some f → p.checked.prog.funcs[f]? = some fn → lk = p.checked.prog.looks [] ∧ ∀ (j : Nat) t, fn.params[j]? = some t → p.checked.prog.wantsStandIn t = false)
    (hg : true = c.goesBy p.checked.prog) :
    Claim7.holds p (.plain s) { stood := { row := c, standIns := [], harness := har, looks := lk }, kinds := [], alts := [], goes := true, laidByText := true, laidKinds := kinds, laidTests := tests, laidLooks := Lk } := by
  have h6 : ∀ r : OpenClaim, Claim7.isSixth { stood := { row := r, standIns := [], harness := har, looks := lk }, kinds := [] } = false := fun r => by simpa [Claim7.isSixth] using hn
  exact ⟨tied_goes_at Lk kinds tests (Claim7.new_of_sixth hc har lk hst hnb hm (h6 c) hl) hw, (fun D hD => by cases hD), htie, (fun h => by cases h), hg⟩
theorem own : ownKnob Tryz.prog.godebug = none := by kernel_rfl
theorem laidOut : laidOutB Tryz.prog = true := by kernel_rfl
theorem laidOutP : laidOutB Tryz.pinned.checked.prog = true := laidOut
def laidL : List (String × DataW Unit) := [("ribband/batten.checks", Rows.laid_ribband_batten_checks)]
theorem door_met (os : Os) (args : Array Value) : laidMetH Tryz.prog laidL ((World.doorLaid Tryz.prog 14 os).forCall (fun _ _ => 0) ⟨#[], args, []⟩).memory :=
  laidMetH_of_parts3 (fuel := 8) (laidMet_nil _ _) (by kernel_rfl) (by kernel_rfl)
theorem laid_of {W : World} (h : laidMetH Tryz.prog laidL W) : Laid W.heap := by
  obtain ⟨g, t, cs, fuel, p, hg, ht, hv, hd⟩ := h.funcs (n := "ribband/batten.checks") (List.mem_cons_self ..)
  obtain rfl := Option.some.inj ((show Tryz.prog.globalNamed "ribband/batten.checks" = some 0 by kernel_rfl).symm.trans hg)
  obtain rfl := Option.some.inj ((show (Tryz.prog.globals[0]?).map (·.type) = some 107 by kernel_rfl).symm.trans ht)
  have hu : Tryz.prog.underlying 107 = some (.array 3 106) := by kernel_rfl
  have hc1 : Tryz.prog.cellsOf 106 = 1 := by kernel_rfl
  obtain ⟨ps, rs, va, h106⟩ : ∃ ps rs va, Tryz.prog.underlying 106 = some (.func ps rs va) := ⟨_, _, _, Tryz.underlying106⟩
  obtain ⟨xs, m, _, ex, hl, hxl, hx⟩ := DataW.trod_array hu hd
  have hl3 : cs.toList.length = 3 := hl.trans (by kernel_rfl)
  obtain ⟨cl⟩ := cs
  obtain ⟨c0, c1, c2, rfl⟩ : ∃ c0 c1 c2, cl = [c0, c1, c2] := by
    match cl, hl3 with
    | [c0, c1, c2], _ => exact ⟨_, _, _, rfl⟩
  obtain ⟨y0, y1, y2, rfl⟩ : ∃ y0 y1 y2, xs = [y0, y1, y2] := by
    match xs, hxl with
    | [y0, y1, y2], _ => exact ⟨_, _, _, rfl⟩
  have e2 : ∃ a b c : List UInt8, (Rows.laid_ribband_batten_checks : DataW Unit) = .iface "func table" (.agg [.iface "func" (.lit (.string a)), .iface "func" (.lit (.string b)), .iface "func" (.lit (.string c))]) ∧
      ((List.range Tryz.prog.funcs.size).filter fun f => (Tryz.prog.funcs[f]?).any (·.name.toUTF8.data.toList == a)) = [199] ∧ ((List.range Tryz.prog.funcs.size).filter fun f => (Tryz.prog.funcs[f]?).any (·.name.toUTF8.data.toList == b)) = [200] ∧
      ((List.range Tryz.prog.funcs.size).filter fun f => (Tryz.prog.funcs[f]?).any (·.name.toUTF8.data.toList == c)) = [201] ∧ a ≠ [] ∧ b ≠ [] ∧ c ≠ [] ∧
      [y0.1, y1.1, y2.1] = [.held a, .held b, .held c] := by
    refine ⟨_, _, _, rfl, by kernel_rfl, by kernel_rfl, by kernel_rfl, by simp, by simp, by simp, ?_⟩
    have := congrArg Prod.fst ex
    simp only [DataW.funcsOut] at this
    injection this with this
    exact this.symm
  obtain ⟨a, b, c, _, fa, fb, fc, na, nb, nc, e3⟩ := e2
  simp only [List.cons.injEq, and_true] at e3
  obtain ⟨z0, z1, z2⟩ := e3
  have g0 := hx 0 (by omega)
  have g1 := hx 1 (by omega)
  have g2 := hx 2 (by omega)
  rw [hc1] at g0 g1 g2
  have key : ∀ (v : Value) (y : DataW (List UInt8) × List MemPlace) (l : List UInt8) (f0 : FuncId), DataW.trod (funcToken Tryz.prog) Tryz.prog W 0 (fun _ => true) true m 106 [v] = some y → y.1 = .held l → l ≠ [] → ((List.range Tryz.prog.funcs.size).filter fun f => (Tryz.prog.funcs[f]?).any (·.name.toUTF8.data.toList == l)) = [f0] → v = .func (.func f0) #[] #[] := by
    intro v y l f0 h1 h2 h3 h4
    obtain ⟨y1, y2⟩ := y
    obtain rfl : y1 = .held l := h2
    cases l with
    | nil => exact absurd rfl h3
    | cons b0 r0 => exact func_of_trod h106 h4 h1
  obtain rfl := key c0 y0 a 199 g0 z0 na fa
  obtain rfl := key c1 y1 b 200 g1 z1 nb fb
  obtain rfl := key c2 y2 c 201 g2 z2 nc fc
  unfold World.var? at hv
  rw [hg] at hv
  simp only [Option.bind_some] at hv
  split at hv
  · rename_i cs t f hb
    obtain rfl := Option.some.inj hv
    exact ⟨t, f, hb⟩
  · cases hv
end Go.Proofs.YtlbkicemccikgaaGreatDoor
