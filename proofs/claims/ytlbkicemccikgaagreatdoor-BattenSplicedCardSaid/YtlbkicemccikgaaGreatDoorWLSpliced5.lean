/- A part of the proof of a law: my own separation logic over the machine, and walks of the program. Condition of each theorem: as its statement says. -/
import Derived.Test.YtlbkicemccikgaaGreatDoorWLSpliced4
set_option linter.all false
namespace Go.Proofs
open Go.Lo
open Go.Conc (G)
set_option maxRecDepth 100000
set_option synthInstance.maxSize 100000
set_option synthInstance.maxHeartbeats 1000000
set_option maxHeartbeats 4000000
variable {B : Array Obj}
variable [Laid B]
section
variable {P : Program} {B : Array Obj} {m : Md P B} {ops : Array Oper} {l l' : List Value} {S h h' H : Hp} {C : List Value → Hp → Prop} {i : Nat} {kd : Kd} {r : List (Nat × Kd)}
  {d : Option Tmp} {ty : TypeId} {pos : String} {af : Array Edge} {g : Option (Nat × Bool)}
theorem k_eqH {t u e : Nat} {x y : Operand} {xs ys : List Int} (ho : ops[i]? = some ⟨d, .binOp .eql t x y u, ty, pos, af, g⟩) (hw : Wt ops l g) [KHeap kd S h H] [ex : OpV l x (.agg (hts xs).toArray)] [ey : OpV l y (.agg (hts ys).toArray)] [ArrayT P t 7 e 1] [Scal P e]
    (he : P.underlying e = some (.int .i64)) (hg : P.eqGuardType P.depth t = false) [PutV l d (.bool (decide (padL xs = padL ys))) l'] (q : RegK m S ops r l' h C) : RegK m S ops ((i, kd) :: r) l h C :=
  k_eqA (ex := ex) (ey := ey) (n := 7) ho hw he hg (padL_length _) (padL_length _) q
end
theorem mem_boats {b : Bk} {l : List Int} (hl : l.length = b.marks.length) : l ∈ boatsOf b ↔ boat b l := by
  rw [boatsOf, List.mem_filter, decide_eq_true_iff]; refine ⟨fun h => h.2, fun h => ⟨?_, h⟩⟩
  have := (mem_linesOf (ms := b.marks) (k := b.marks.length) (l := l) (Nat.le_refl _)).2 ⟨hl, fun i hi => h.1 i (by omega)⟩
  rwa [List.take_length] at this
theorem boats_len {b : Bk} {l : List Int} (h : l ∈ boatsOf b) : l.length = b.marks.length := (line_of (boat_line h)).1
theorem boats_small {b : Bk} (hv : Valid b) {l : List Int} (h : l ∈ boatsOf b) : Small 959 l := line_small hv (boat_line h)
theorem callB105 : callB Tryz.prog 105 = true := by kernel_rfl
theorem f105_c (m : Md Tryz.prog B) (h : Hp) {o ln : List Int} {q : Nat} (rd : RdN B h q 0 (hts ln)) : FnC m 105 #[htV o, .pointer (some ⟨q, 0, none⟩)] h fun v h' => h' = h ∧ IsB (padL o = padL ln) v := by
  refine fn_enter Tryz.func105 rfl rfl (l := [htV o, .pointer (some ⟨q, 0, none⟩), undef, undef, undef, undef, undef]) rfl ?_
  intro cf cs K hK
  refine rs2 (by kernel_rfl) ?_; refine k_box rfl zq (fun q2 => k_hp (k_put ?_)); refine aq rfl ?_; refine rs4 (by kernel_rfl) ?_; refine k_ldA rfl zq ?_; refine k_ldN (vs := hts ln) rfl zq (hts_length _) (fun j hj => (rd j hj).keeps SubH.sub) ?_; refine k_eqH (e := 3) rfl zq (by kernel_rfl) (by kernel_rfl) ?_; refine aq rfl ?_; refine run_ret rfl ?_; refine run_res (h) rfl Tryz.func105 rfl weakSub ?_; refine hK _ _ ?_
  refine ⟨rfl, ?_⟩
  by_cases e : padL o = padL ln
  · rw [decide_eq_true e]; exact IsB.yes e
  · rw [decide_eq_false e]; exact IsB.no e
theorem f32_c (m : Md Tryz.prog B) (h : Hp) {b : Bk} {pm : Option Addr} {nm cm : Nat} {pr : Option Addr} {nr cr : Nat} (rdm : RdS B h 2 (.slice pm nm cm) nm (encs b.marks)) (hm : nm ≤ 1000) (rdr : RdS B h 4 (.slice pr nr cr) nr (encs b.rules)) (hr : nr ≤ 1000) {p : Option Addr} {n c : Nat} {xs : List Int} (rd : RdS B h 1 (.slice p n c) n (ints xs)) (hn : n ≤ 1000) : FnC m 32 #[bkV b pm nm cm pr nr cr, .slice p n c] h fun v h' => h' = h ∧ ∃ w, v = .tuple [w, .int .i64 (handedS b xs)].toArray ∧ IsB (handedS b xs = 0 ∧ boat b xs) w := by
  refine fn_enter Tryz.func32 rfl rfl (l := (bkV b pm nm cm pr nr cr) :: (.slice p n c) :: uu23) rfl ?_
  intro cf cs K hK
  refine rs3 (by kernel_rfl) ?_; refine k_box rfl zq (fun q2 => k_hp (k_put ?_)); refine k_as rfl zq ?_; refine aq rfl ?_; refine rs12 (by kernel_rfl) ?_; refine k_ldA rfl zq ?_; refine mq rfl ?_; refine k_calP (Post := Handed (handedS b xs) (bkV b pm nm cm pr nr cr) xs) rfl zq (by kernel_rfl) (fun H' hH => f93_c m H' (rdm.keeps (sq hH)) hm (rdr.keeps (sq hH)) hr (rd.keeps (sq hH)) hn) ?_; rintro v ⟨x1, x2, x3, y1, y2, y3, y4, y5, y6, yl, rfl, hz⟩; refine k_put ?_; refine mq rfl ?_; refine k_ext0 rfl zq ?_; refine k_ext1 rfl zq ?_; refine k_ext2 rfl zq ?_; refine k_new rfl zq (fun q7 => k_hp (k_put ?_)); refine k_new rfl zq (fun q7 => k_hp (k_put ?_)); refine k_stA rfl zq rfl ?_; refine k_stA rfl zq (by first | rfl | exact hts_length _) ?_; refine aq rfl ?_; refine run_seq ?_; refine rs2 (by kernel_rfl) ?_; refine mq rfl ?_; refine k_neqS rfl zq (fun hc => ?_) (fun hc => ?_)
  · refine k_nil ?_; refine run_yes ?_; refine rs3 (by kernel_rfl) ?_; refine mq rfl ?_; refine k_as rfl zq ?_; refine aq rfl ?_; refine run_ret rfl ?_; refine run_res (h) rfl Tryz.func32 rfl weakSub ?_; refine hK _ _ ?_
    first
      | exact ⟨rfl, _, rfl, IsB.no (fun e => absurd e.1 (by omega))⟩
      | (refine ⟨rfl, _, by rw [hz0], IsB.yes ⟨hz0, ?_⟩⟩
         obtain ⟨i, h1, h2⟩ := hc
         have hmem : (boatsOf b).getD i default ∈ boatsOf b := mem_getDR.2 ⟨i, h1, rfl⟩
         have hll := boats_len hmem
         have h3 := (padL_eq (l := (boatsOf b).getD i default) (m := yl) (by omega) (by omega)).1 h2
         rw [← h3]; exact (mem_boats hll).1 hmem)
      | (refine ⟨rfl, _, by rw [hz0], IsB.no (fun e => ?_)⟩
         obtain ⟨i, h1, h2⟩ := mem_getDR.1 ((mem_boats hln).2 e.2)
         exact hc ⟨i, h1, by rw [h2]⟩)
  · refine k_nil ?_; refine run_no ?_; refine run_skip ?_; refine rs5 (by kernel_rfl) ?_; have hz0 : handedS b xs = 0 := by omega
    obtain ⟨hz1, rfl⟩ := hz hz0
    injection hz1 with hz1
    injection hz1 with hz1
    injection hz1 with z1 hz1; injection hz1 with z2 hz1; injection hz1 with z3 hz1; injection hz1 with z4 hz1; injection hz1 with z5 hz1
    injection z1 with _ z1; injection z2 with _ z2; injection z3 with _ z3; injection z4 with u1 u2 u3; injection z5 with u4 u5 u6
    subst z1 z2 z3 u1 u2 u3 u4 u5 u6
    obtain ⟨hv, hlo⟩ := hand_zero hz0
    have hln := (lineS_zero hlo).1
    have hml := rdm.elen (by decide)
    have h7 := hv.many
    have hsm := lineS_small hlo
    have hbl := boats_le hv
    refine k_ldA rfl zq ?_; refine k_calC rfl zq (by kernel_rfl) (Post := fun v nw => OwnS 112 7 v (boatsOf b).length (encs (boatsOf b)) nw) (fun H' hH => f104_c m H' (rdm.keeps (sq hH)) hm (rdr.keeps (sq hH)) hr hv) ?_; rintro v nw o; obtain ⟨bp, bc, rfl, _⟩ := o.len
    refine k_hpA (k_put ?_); refine k_fun rfl zq ?_; refine k_calP (Post := fun v => IsB _ v) rfl zq (by kernel_rfl) (fun H' hH => f103_c m H' (pr := fun i => padL ((boatsOf b).getD i default) = padL yl) (o.rd'.keeps hH) (by omega) callB105 (fun i hi K hK => by simpa using f105_c m K (o := (boatsOf b).getD i default) ((rdN_has (q := q7)).keeps (hH.trans hK)))) ?_; rintro v (⟨hc, rfl⟩ | ⟨hc, rfl⟩)
    · refine k_put ?_; refine aq rfl ?_; refine rs3 (by kernel_rfl) ?_; refine mq rfl ?_; refine k_as rfl zq ?_; refine aq rfl ?_; refine run_ret rfl ?_; refine run_res (h) rfl Tryz.func32 rfl weakSub ?_; refine hK _ _ ?_
      first
        | exact ⟨rfl, _, rfl, IsB.no (fun e => absurd e.1 (by omega))⟩
        | (refine ⟨rfl, _, by rw [hz0], IsB.yes ⟨hz0, ?_⟩⟩
           obtain ⟨i, h1, h2⟩ := hc
           have hmem : (boatsOf b).getD i default ∈ boatsOf b := mem_getDR.2 ⟨i, h1, rfl⟩
           have hll := boats_len hmem
           have h3 := (padL_eq (l := (boatsOf b).getD i default) (m := yl) (by omega) (by omega)).1 h2
           rw [← h3]; exact (mem_boats hll).1 hmem)
        | (refine ⟨rfl, _, by rw [hz0], IsB.no (fun e => ?_)⟩
           obtain ⟨i, h1, h2⟩ := mem_getDR.1 ((mem_boats hln).2 e.2)
           exact hc ⟨i, h1, by rw [h2]⟩)
    · refine k_put ?_; refine aq rfl ?_; refine rs3 (by kernel_rfl) ?_; refine mq rfl ?_; refine k_as rfl zq ?_; refine aq rfl ?_; refine run_ret rfl ?_; refine run_res (h) rfl Tryz.func32 rfl weakSub ?_; refine hK _ _ ?_
      first
        | exact ⟨rfl, _, rfl, IsB.no (fun e => absurd e.1 (by omega))⟩
        | (refine ⟨rfl, _, by rw [hz0], IsB.yes ⟨hz0, ?_⟩⟩
           obtain ⟨i, h1, h2⟩ := hc
           have hmem : (boatsOf b).getD i default ∈ boatsOf b := mem_getDR.2 ⟨i, h1, rfl⟩
           have hll := boats_len hmem
           have h3 := (padL_eq (l := (boatsOf b).getD i default) (m := yl) (by omega) (by omega)).1 h2
           rw [← h3]; exact (mem_boats hll).1 hmem)
        | (refine ⟨rfl, _, by rw [hz0], IsB.no (fun e => ?_)⟩
           obtain ⟨i, h1, h2⟩ := mem_getDR.1 ((mem_boats hln).2 e.2)
           exact hc ⟨i, h1, by rw [h2]⟩)
theorem f34_c (m : Md Tryz.prog B) (h : Hp) {b : Bk} {pm : Option Addr} {nm cm : Nat} {pr : Option Addr} {nr cr : Nat} (rdm : RdS B h 2 (.slice pm nm cm) nm (encs b.marks)) (hm : nm ≤ 1000) (rdr : RdS B h 4 (.slice pr nr cr) nr (encs b.rules)) (hr : nr ≤ 1000) : FnC m 34 #[bkV b pm nm cm pr nr cr] h fun v h' => h' = h ∧ v = .tuple [.int .i64 (if bookS b ≠ 0 then 0 else ((boatsOf b).length : Int)), .int .i64 (bookS b)].toArray := by
  refine fn_enter Tryz.func34 rfl rfl (l := (bkV b pm nm cm pr nr cr) :: uu13) rfl ?_
  intro cf cs K hK
  refine rs3 (by kernel_rfl) ?_; refine k_box rfl zq (fun q1 => k_hp (k_put ?_)); refine k_as rfl zq ?_; refine aq rfl ?_; refine run_seq ?_; refine rs3 (by kernel_rfl) ?_; refine k_ldA rfl zq ?_; refine k_calP (Post := fun v => v = _) rfl zq (by kernel_rfl) (fun H' hH => f21_c m H' (rdm.keeps (sq hH)) hm (rdr.keeps (sq hH)) hr) ?_; rintro v rfl; refine k_put ?_; refine aq rfl ?_; refine rs2 (by kernel_rfl) ?_; refine mq rfl ?_; refine k_neqS rfl zq (fun hc => ?_) (fun hc => ?_)
  · refine k_nil ?_; refine run_yes ?_; refine rs3 (by kernel_rfl) ?_; refine mq rfl ?_; refine k_as rfl zq ?_; refine aq rfl ?_; refine run_ret rfl ?_; refine run_res (h) rfl Tryz.func34 rfl weakSub ?_; refine hK _ _ ?_
    exact ⟨rfl, by rw [if_pos (by assumption)]⟩
  · refine k_nil ?_; refine run_no ?_; refine run_skip ?_; refine rs6 (by kernel_rfl) ?_; have hz0 : bookS b = 0 := by omega
    have hv := valid_of hz0
    have hbl := boats_le hv
    refine k_ldA rfl zq ?_; refine k_bld rfl zq ?_; refine k_calC rfl zq (by kernel_rfl) (Post := fun v nw => OwnS 112 7 v (boatsOf b).length (encs (boatsOf b)) nw) (fun H' hH => f104_c m H' (rdm.keeps (sq hH)) hm (rdr.keeps (sq hH)) hr hv) ?_; rintro v nw o; obtain ⟨bp, bc, rfl, _⟩ := o.len
    refine k_hpA (k_put ?_); refine k_len rfl zq ?_; refine k_as rfl zq ?_; refine aq rfl ?_; refine run_ret rfl ?_; refine run_res (h) rfl Tryz.func34 rfl weakSub ?_; refine hK _ _ ?_
    exact ⟨rfl, by rw [hz0, if_neg (fun e => e rfl)]⟩
theorem f120_c (m : Md Tryz.prog B) (h : Hp) {b : Bk} {pm : Option Addr} {nm cm : Nat} {pr : Option Addr} {nr cr : Nat} : FnC m 120 #[bkV b pm nm cm pr nr cr] h fun v h' => h' = h ∧ v = .int .i64 0 := by
  refine fn_enter Tryz.func120 rfl rfl (l := [bkV b pm nm cm pr nr cr, undef, undef]) rfl ?_
  intro cf cs K hK
  refine rs2 (by kernel_rfl) ?_; refine k_box rfl zq (fun q1 => k_hp (k_put ?_)); refine aq rfl ?_; refine rs1 (by kernel_rfl) ?_; refine aq rfl ?_; refine run_ret rfl ?_; refine run_res (h) rfl Tryz.func120 rfl weakSub ?_; refine hK _ _ ?_
  exact ⟨rfl, rfl⟩
theorem f108_c (m : Md Tryz.prog B) (h : Hp) {b : Bk} {pm : Option Addr} {nm cm : Nat} {pr : Option Addr} {nr cr : Nat} (hm : nm ≤ 1000) {q : Nat} {st : Int} (rd : Rd B h ⟨q, 0, none⟩ (.int .i64 st)) : FnC m 108 #[bkV b pm nm cm pr nr cr, .pointer (some ⟨q, 0, none⟩)] h fun v h' => h' = h ∧ v = .int .i64 (if 0 ≤ st ∧ st ≤ nm - 1 then 0 else 6) := by
  refine fn_enter Tryz.func108 rfl rfl (l := [bkV b pm nm cm pr nr cr, .pointer (some ⟨q, 0, none⟩), undef, undef, undef, undef, undef]) rfl ?_
  intro cf cs K hK
  refine rs2 (by kernel_rfl) ?_; refine k_box rfl zq (fun q2 => k_hp (k_put ?_)); refine aq rfl ?_; refine rs4 (by kernel_rfl) ?_; refine k_ldA rfl zq ?_; refine k_ld rfl zq (rd.keeps SubH.sub) ?_; refine k_calP (Post := fun v => v = _) rfl zq (by kernel_rfl) (fun H' hH => f109_c m H' _ _ _ _ _ _ _ _ _ _ (by omega)) ?_; rintro v rfl; refine k_put ?_; refine aq rfl ?_; refine run_ret rfl ?_; refine run_res (h) rfl Tryz.func108 rfl weakSub ?_; refine hK _ _ ?_
  exact ⟨rfl, rfl⟩
theorem f116_c (m : Md Tryz.prog B) (h : Hp) {b : Bk} {pm : Option Addr} {nm cm : Nat} {pr : Option Addr} {nr cr : Nat} (hm : nm ≤ 1000) {q : Nat} {st : Int} (rd : Rd B h ⟨q, 0, none⟩ (.int .i64 st)) : FnC m 116 #[bkV b pm nm cm pr nr cr, .pointer (some ⟨q, 0, none⟩)] h fun v h' => h' = h ∧ v = .int .i64 (if 1 ≤ st ∧ st ≤ nm - 2 then 0 else 6) := by
  refine fn_enter Tryz.func116 rfl rfl (l := (bkV b pm nm cm pr nr cr) :: (.pointer (some ⟨q, 0, none⟩)) :: uu8) rfl ?_
  intro cf cs K hK
  refine rs2 (by kernel_rfl) ?_; refine k_box rfl zq (fun q2 => k_hp (k_put ?_)); refine aq rfl ?_; refine run_seq ?_; refine run_seq ?_; refine run_draw [(0, .read), (1, .read), (2, .keep), (3, .pure), (4, .keep), (5, .pure)] (by kernel_rfl) (by kernel_rfl) (List.Sublist.refl _) ?_; refine k_ld rfl zq (rd.keeps SubH.sub) ?_; refine k_ldA rfl zq ?_; refine k_calP (Post := fun v => v = _) rfl zq (by kernel_rfl) (fun H' hH => f118_c m H' _ _ _ _ _ _ _ _ _) ?_; rintro v rfl; refine k_put ?_; refine k_sub rfl zq (by unfold In64; omega) ?_; refine k_calP (Post := fun v => IsB _ v) rfl zq (by kernel_rfl) (fun H' hH => f117_c m H' _ _ _) ?_; rintro v (⟨hc, rfl⟩ | ⟨hc, rfl⟩)
  · refine k_put ?_; refine k_notT rfl zq ?_; refine k_nil ?_; refine run_no ?_; refine run_skip ?_; refine rs1 (by kernel_rfl) ?_; refine aq rfl ?_; refine run_ret rfl ?_; refine run_res (h) rfl Tryz.func116 rfl weakSub ?_; refine hK _ _ ?_
    first | exact ⟨rfl, by rw [if_neg (by omega)]⟩ | exact ⟨rfl, by rw [if_pos (by omega)]⟩
  · refine k_put ?_; refine k_notF rfl zq ?_; refine k_nil ?_; refine run_yes ?_; refine rs1 (by kernel_rfl) ?_; refine aq rfl ?_; refine run_ret rfl ?_; refine run_res (h) rfl Tryz.func116 rfl weakSub ?_; refine hK _ _ ?_
    first | exact ⟨rfl, by rw [if_neg (by omega)]⟩ | exact ⟨rfl, by rw [if_pos (by omega)]⟩
theorem f155_c (m : Md Tryz.prog B) (h : Hp) {b : Bk} {pm : Option Addr} {nm cm : Nat} {pr : Option Addr} {nr cr : Nat} (rdm : RdS B h 2 (.slice pm nm cm) nm (encs b.marks)) (hm : nm ≤ 1000) {p : Option Addr} {n c : Nat} {xs : List Int} (rd : RdS B h 1 (.slice p n c) n (ints xs)) (hn : n ≤ 1000) {q : Nat} (rq : Rd B h ⟨q, 0, none⟩ (.slice p n c)) : FnC m 155 #[bkV b pm nm cm pr nr cr, .pointer (some ⟨q, 0, none⟩)] h fun v h' => h' = h ∧ v = .int .i64 (lineS b.marks.length xs) := by
  refine fn_enter Tryz.func155 rfl rfl (l := [bkV b pm nm cm pr nr cr, .pointer (some ⟨q, 0, none⟩), undef, undef, undef, undef, undef]) rfl ?_
  intro cf cs K hK
  refine rs2 (by kernel_rfl) ?_; refine k_box rfl zq (fun q2 => k_hp (k_put ?_)); refine aq rfl ?_; refine rs4 (by kernel_rfl) ?_; refine k_ldA rfl zq ?_; refine k_ld rfl zq (rq.keeps SubH.sub) ?_; refine k_calP (Post := fun v => v = _) rfl zq (by kernel_rfl) (fun H' hH => f142_c m H' (rdm.keeps (sq hH)) hm (rd.keeps (sq hH)) hn) ?_; rintro v rfl; refine k_put ?_; refine aq rfl ?_; refine run_ret rfl ?_; refine run_res (h) rfl Tryz.func155 rfl weakSub ?_; refine hK _ _ ?_
  exact ⟨rfl, rfl⟩
def Opened (b : Bk) (bv : Value) (s : Int) (nw : Hp) (v : Value) : Prop := ∃ x y z p1 n1 c1 p2 n2 c2 p3 n3 c3, v = .tuple [.agg [.int .i64 x, .int .i64 y, .int .i64 z, .slice p1 n1 c1, .slice p2 n2 c2, .slice p3 n3 c3].toArray, .int .i64 s].toArray ∧
  (s = 0 → bookV x y z (.slice p1 n1 c1) (.slice p2 n2 c2) = bv ∧ n3 = (boatsOf b).length ∧ n3 ≤ c3 ∧ ∀ {B : Array Obj}, RdS B nw 7 (.slice p3 n3 c3) n3 (encs (boatsOf b)))
theorem opened_no {b : Bk} {bv : Value} {s : Int} (h : s ≠ 0) : Opened b bv s [] (.tuple [.agg [.int .i64 0, .int .i64 0, .int .i64 0, .slice none 0 0, .slice none 0 0, .slice none 0 0].toArray, .int .i64 s].toArray) :=
  ⟨0, 0, 0, none, 0, 0, none, 0, 0, none, 0, 0, rfl, fun e => absurd e h⟩
theorem f107_c (m : Md Tryz.prog B) (h : Hp) {b : Bk} {pm : Option Addr} {nm cm : Nat} {pr : Option Addr} {nr cr : Nat} (rdm : RdS B h 2 (.slice pm nm cm) nm (encs b.marks)) (hm : nm ≤ 1000) (rdr : RdS B h 4 (.slice pr nr cr) nr (encs b.rules)) (hr : nr ≤ 1000) {fid : Nat} {fc cp : Array Value} {own : Int} (hcall : callB Tryz.prog fid = true) (hown : bookS b = 0 → ∀ H' : Hp, h.Sublist H' → FnC m fid (fc ++ [bkV b pm nm cm pr nr cr].toArray ++ cp) H' fun v h' => h' = H' ∧ v = .int .i64 own) : FnC m 107 #[bkV b pm nm cm pr nr cr, .func (.func fid) fc cp] h fun v h' => ∃ nw, h' = h ++ nw ∧ Opened b (bkV b pm nm cm pr nr cr) (openS b own) nw v := by
  refine fn_enter Tryz.func107 rfl rfl (l := (bkV b pm nm cm pr nr cr) :: (.func (.func fid) fc cp) :: uu32) rfl ?_
  intro cf cs K hK
  refine rs3 (by kernel_rfl) ?_; refine k_box rfl zq (fun q2 => k_hp (k_put ?_)); refine k_new rfl zq (fun q4 => k_hp (k_put ?_)); refine aq rfl ?_; refine run_seq ?_; refine rs3 (by kernel_rfl) ?_; refine k_ldA rfl zq ?_; refine k_calP (Post := fun v => v = _) rfl zq (by kernel_rfl) (fun H' hH => f21_c m H' (rdm.keeps (sq hH)) hm (rdr.keeps (sq hH)) hr) ?_; rintro v rfl; refine k_put ?_; refine aq rfl ?_; refine rs2 (by kernel_rfl) ?_; refine mq rfl ?_; refine k_neqS rfl zq (fun hc => ?_) (fun hc => ?_)
  · refine k_nil ?_; refine run_yes ?_; refine rs4 (by kernel_rfl) ?_; refine k_bld rfl zq ?_; refine mq rfl ?_; refine k_stA rfl zq rfl ?_; refine aq rfl ?_; refine run_ret rfl ?_; refine run_res (h) rfl Tryz.func107 rfl weakSub ?_; refine hK _ _ ?_
    have e : openS b own = bookS b := by rw [openS, if_pos (by assumption)]
    exact ⟨[], by simp, by rw [e]; exact opened_no (by assumption)⟩
  · refine k_nil ?_; refine run_no ?_; refine run_skip ?_; refine rs4 (by kernel_rfl) ?_; refine k_ldA rfl zq ?_; refine k_bld rfl zq ?_; refine k_new rfl zq (fun q7 => k_hp (k_put ?_)); refine k_stA rfl zq rfl ?_; refine k_nil ?_; refine run_seq ?_; refine rs4 (by kernel_rfl) ?_; refine mq rfl ?_; refine k_ldA rfl zq ?_; refine k_valP (Post := fun v => v = _) rfl zq hcall (fun H' hH => hown (by omega) H' (sq hH)) ?_; rintro v rfl; refine k_put ?_; refine aq rfl ?_; refine rs2 (by kernel_rfl) ?_; refine mq rfl ?_; refine k_neqS rfl zq (fun hc => ?_) (fun hc => ?_)
    · refine k_nil ?_; refine run_yes ?_; refine rs4 (by kernel_rfl) ?_; refine k_bld rfl zq ?_; refine mq rfl ?_; refine k_stA rfl zq rfl ?_; refine aq rfl ?_; refine run_ret rfl ?_; refine run_res (h) rfl Tryz.func107 rfl weakSub ?_; refine hK _ _ ?_
      have e : openS b own = own := by rw [openS, if_neg (by omega), if_pos (by assumption)]
      exact ⟨[], by simp, by rw [e]; exact opened_no (by assumption)⟩
    · refine k_nil ?_; refine run_no ?_; refine run_skip ?_; refine rs3 (by kernel_rfl) ?_; refine k_ldA rfl zq ?_; have hv : Valid b := valid_of (by omega)
      have hbl := boats_le hv
      refine k_calC rfl zq (by kernel_rfl) (Post := fun v nw => OwnS 112 7 v (boatsOf b).length (encs (boatsOf b)) nw) (fun H' hH => f104_c m H' (rdm.keeps (sq hH)) hm (rdr.keeps (sq hH)) hr hv) ?_; rintro v nw o; obtain ⟨bp, bc, rfl, _⟩ := o.len
      refine k_hpA (k_put ?_); refine aq rfl ?_; refine run_seq ?_; refine rs3 (by kernel_rfl) ?_; refine mq rfl ?_; refine k_len rfl zq ?_; refine k_eqlS rfl zq (fun hc => ?_) (fun hc => ?_)
      · refine k_nil ?_; refine run_yes ?_; refine rs3 (by kernel_rfl) ?_; refine k_bld rfl zq ?_; refine k_stA rfl zq rfl ?_; refine aq rfl ?_; refine run_ret rfl ?_; refine run_res (h) rfl Tryz.func107 rfl weakSub ?_; refine hK _ _ ?_
        have e : openS b own = 9 := by rw [openS, if_neg (by omega), if_neg (by omega), if_pos (List.length_eq_zero_iff.1 (by omega))]
        exact ⟨[], by simp, by rw [e]; exact opened_no (by decide)⟩
      · refine k_nil ?_; refine run_no ?_; refine run_skip ?_; refine rs5 (by kernel_rfl) ?_; refine k_ldA rfl zq ?_; refine mq rfl ?_; refine k_bld rfl zq ?_; refine k_stA rfl zq rfl ?_; refine aq rfl ?_; refine run_ret rfl ?_; refine run_res (h ++ nw) rfl Tryz.func107 rfl weakSub ?_; refine hK _ _ ?_
        have e : openS b own = 0 := by rw [openS, if_neg (by omega), if_neg (by omega), if_neg (fun e => hc (by rw [e]; rfl))]
        exact ⟨nw, rfl, _, _, _, _, _, _, _, _, _, _, _, _, by rw [e], fun _ => ⟨rfl, rfl, o.cap, o.rd (List.Sublist.refl _)⟩⟩
def Opened2 (b : Bk) (bv : Value) (s : Int) (xs : List Int) (nw : Hp) (v : Value) : Prop := ∃ x y z p1 n1 c1 p2 n2 c2 p3 n3 c3, v = .tuple [.agg [.int .i64 x, .int .i64 y, .int .i64 z, .slice p1 n1 c1, .slice p2 n2 c2, .slice p3 n3 c3].toArray, htV xs, .int .i64 s].toArray ∧
  (s = 0 → bookV x y z (.slice p1 n1 c1) (.slice p2 n2 c2) = bv ∧ n3 = (boatsOf b).length ∧ n3 ≤ c3 ∧ ∀ {B : Array Obj}, RdS B nw 7 (.slice p3 n3 c3) n3 (encs (boatsOf b)))
theorem callB155 : callB Tryz.prog 155 = true := by kernel_rfl
theorem callB108 : callB Tryz.prog 108 = true := by kernel_rfl
theorem callB116 : callB Tryz.prog 116 = true := by kernel_rfl
theorem callB120 : callB Tryz.prog 120 = true := by kernel_rfl
theorem f124_c (m : Md Tryz.prog B) (h : Hp) {b : Bk} {pm : Option Addr} {nm cm : Nat} {pr : Option Addr} {nr cr : Nat} (rdm : RdS B h 2 (.slice pm nm cm) nm (encs b.marks)) (hm : nm ≤ 1000) (rdr : RdS B h 4 (.slice pr nr cr) nr (encs b.rules)) (hr : nr ≤ 1000) {p : Option Addr} {n c : Nat} {xs : List Int} (rd : RdS B h 1 (.slice p n c) n (ints xs)) (hn : n ≤ 1000) : FnC m 124 #[bkV b pm nm cm pr nr cr, .slice p n c] h fun v h' => ∃ nw, h' = h ++ nw ∧ Opened2 b (bkV b pm nm cm pr nr cr) (openS b (lineS b.marks.length xs)) xs nw v := by
  refine fn_enter Tryz.func124 rfl rfl (l := (bkV b pm nm cm pr nr cr) :: (.slice p n c) :: uu17) rfl ?_
  intro cf cs K hK
  refine rs5 (by kernel_rfl) ?_; refine k_box rfl zq (fun q2 => k_hp (k_put ?_)); refine k_box rfl zq (fun q3 => k_hp (k_put ?_)); refine k_new rfl zq (fun q4 => k_hp (k_put ?_)); refine k_new rfl zq (fun q5 => k_hp (k_put ?_)); refine aq rfl ?_; refine rs9 (by kernel_rfl) ?_; refine k_ldA rfl zq ?_; refine k_fun rfl zq ?_; refine k_calC rfl zq (by kernel_rfl) (Post := fun v nw => Opened b (bkV b pm nm cm pr nr cr) (openS b (lineS b.marks.length xs)) nw v) (fun H' hH => f107_c m H' (rdm.keeps (sq hH)) hm (rdr.keeps (sq hH)) hr callB155 (fun hbz K hK => by simpa using f155_c m K (rdm.keeps (SubH.sub.trans (hH.trans hK))) hm (rd.keeps (SubH.sub.trans (hH.trans hK))) hn ((rd_has (q := q3)).keeps (hH.trans hK)))) ?_; rintro v nw ⟨x1, x2, x3, y1, y2, y3, y4, y5, y6, z1, z2, z3, rfl, hz⟩; refine k_hpA (k_put ?_); refine mq rfl ?_; refine k_ext0 rfl zq ?_; refine k_ext1 rfl zq ?_; refine k_new rfl zq (fun q7 => k_hp (k_put ?_)); refine k_stA rfl zq rfl ?_; refine aq rfl ?_; refine run_seq ?_; refine run_draw [(3, .pure), (0, .read), (1, .read), (2, .keep), (4, .free), (5, .free), (6, .pure)] (by kernel_rfl) (by kernel_rfl) (List.Sublist.refl _) ?_; refine mq rfl ?_; refine k_ldA rfl zq ?_; refine k_ldh rfl zq ?_; refine k_calP (Post := fun v => v = _) rfl zq (by kernel_rfl) (fun H' hH => f143_c m H' (rd.keeps (sq hH)) hn) ?_; rintro v rfl; refine k_put ?_; refine k_stA rfl zq rfl ?_; refine k_stA rfl zq (by first | rfl | exact hts_length _) ?_; refine aq rfl ?_; refine run_ret rfl ?_; refine run_res (h ++ nw) rfl Tryz.func124 rfl weakSub ?_; refine hK _ _ ?_
  exact ⟨nw, rfl, _, _, _, _, _, _, _, _, _, _, _, _, rfl, hz⟩
theorem f181_c (m : Md Tryz.prog B) (h : Hp) (x : Int) : FnC m 181 #[.int .i64 x] h fun v h' => h' = h ∧ v = .bool false := by
  refine fn_enter Tryz.func181 rfl rfl (l := [.int .i64 x, undef, undef, undef, undef, undef]) rfl ?_
  intro cf cs K hK
  refine rs1 (by kernel_rfl) ?_; refine aq rfl ?_; refine rs4 (by kernel_rfl) ?_; refine mq rfl ?_; refine mq rfl ?_; refine k_neq rfl zq ?_; refine aq rfl ?_; refine run_ret rfl ?_; refine run_res (h) rfl Tryz.func181 rfl weakSub ?_; refine hK _ _ ?_
  exact ⟨rfl, by simp⟩
theorem f169_c (m : Md Tryz.prog B) (h : Hp) (x y : Int) : FnC m 169 #[.int .i64 x, .int .i64 y] h fun v h' => h' = h ∧ IsB (x < y) v := by
  refine fn_enter Tryz.func169 rfl rfl (l := (.int .i64 x) :: (.int .i64 y) :: uu15) rfl ?_
  intro cf cs K hK
  refine rs1 (by kernel_rfl) ?_; refine aq rfl ?_; refine rs13 (by kernel_rfl) ?_; refine mq rfl ?_; refine k_calP (Post := fun v => v = _) rfl zq (by kernel_rfl) (fun H' hH => f181_c m H' _) ?_; rintro v rfl; refine k_put ?_; refine mq rfl ?_; refine k_off rfl rfl ?_; refine k_off rfl rfl ?_; refine k_off rfl rfl ?_; refine k_pickF rfl zq ?_; refine mq rfl ?_; refine k_mv rfl rfl ?_; refine k_mv rfl rfl ?_; refine k_lssS rfl rfl (fun hc => ?_) (fun hc => ?_)
  · refine k_pickF rfl zq ?_; refine aq rfl ?_; refine run_ret rfl ?_; refine run_res (h) rfl Tryz.func169 rfl weakSub ?_; refine hK _ _ ?_
    first | exact ⟨rfl, IsB.yes (by assumption)⟩ | exact ⟨rfl, IsB.no (by omega)⟩
  · refine k_pickF rfl zq ?_; refine aq rfl ?_; refine run_ret rfl ?_; refine run_res (h) rfl Tryz.func169 rfl weakSub ?_; refine hK _ _ ?_
    first | exact ⟨rfl, IsB.yes (by assumption)⟩ | exact ⟨rfl, IsB.no (by omega)⟩
def Ins (ys : List Int) (a i j : Nat) : Prop := (∀ p q, a ≤ p → p < q → q ≤ i → p ≠ j → q ≠ j → ys.getD p 0 ≤ ys.getD q 0) ∧ (∀ q, j < q → q ≤ i → ys.getD j 0 ≤ ys.getD q 0)
theorem Ins.start {ys : List Int} {a i : Nat} (h : SortR ys a i) : Ins ys a i i := ⟨fun p q h1 h2 h3 h4 h5 => h p q h1 h2 (by omega), fun q h1 h2 => by omega⟩
theorem Ins.stop {ys : List Int} {a i j : Nat} (h : Ins ys a i j) (hj : j = a ∨ (a < j ∧ ys.getD (j - 1) 0 ≤ ys.getD j 0)) (haj : a ≤ j) (hji : j ≤ i) : SortR ys a (i + 1) := fun p q h1 h2 h3 => by
  by_cases e1 : p = j
  · subst e1; exact h.2 q h2 (by omega)
  · by_cases e2 : q = j
    · subst e2
      rcases hj with hj | ⟨hj, hle⟩
      · omega
      · by_cases e3 : p = q - 1
        · subst e3; exact hle
        · have := h.1 p (q - 1) h1 (by omega) (by omega) e1 (by omega)
          omega
    · exact h.1 p q h1 h2 (by omega) e1 e2
theorem Ins.step {ys : List Int} {a i j : Nat} (h : Ins ys a i j) (haj : a < j) (hji : j ≤ i) (hi : i < ys.length) (hlt : ys.getD j 0 < ys.getD (j - 1) 0) : Ins (swapL ys j (j - 1)) a i (j - 1) := by
  have g : ∀ k, (swapL ys j (j - 1)).getD k 0 = if k = j - 1 then ys.getD j 0 else if k = j then ys.getD (j - 1) 0 else ys.getD k 0 := fun k => swapL_getD (by omega) (by omega)
  refine ⟨fun p q h1 h2 h3 h4 h5 => ?_, fun q h1 h2 => ?_⟩
  · rw [g, g, if_neg h4, if_neg h5]; by_cases e1 : p = j
    · subst e1
      rw [if_pos rfl, if_neg (by omega)]; exact h.1 (p - 1) q (by omega) (by omega) h3 (by omega) (by omega)
    · rw [if_neg e1]; by_cases e2 : q = j
      · subst e2; rw [if_pos rfl]; exact h.1 p (q - 1) h1 (by omega) (by omega) e1 (by omega)
      · rw [if_neg e2]; exact h.1 p q h1 h2 h3 e1 e2
  · rw [g, g, if_pos rfl, if_neg (by omega)]; by_cases e2 : q = j
    · subst e2; rw [if_pos rfl]; omega
    · rw [if_neg e2]; exact h.2 q (by omega) h2
theorem swapL_at {ys : List Int} {i j : Nat} : (ys.set i (ys.getD j 0)).set j (ys.getD i 0) = swapL ys i j := rfl
theorem f163_c (m : Md Tryz.prog B) (h : Hp) {bk n c : Nat} {xs : List Int} {junk : List Value} (hl : xs.length = n) (hn : n ≤ 100000) (a b : Nat) (hab : a ≤ b) (hb : b ≤ n) : FnC m 163 #[.slice (some ⟨bk, 0, none⟩) n c, .int .i64 (a : Int), .int .i64 (b : Int)] (h ++ [blkC bk xs junk]) fun v h' => v = .tuple [].toArray ∧ ∃ ys, h' = h ++ [blkC bk ys junk] ∧ Sw a b xs ys ∧ SortR ys a b := by
  refine fn_enter Tryz.func163 rfl rfl (l := (.slice (some ⟨bk, 0, none⟩) n c) :: (.int .i64 (a : Int)) :: (.int .i64 (b : Int)) :: uu46) rfl ?_
  intro cf cs K hK
  refine rs3 (by kernel_rfl) ?_; refine mq rfl ?_; refine k_add rfl zq (by unfold In64; omega) ?_; refine aq rfl ?_; refine run_block ?_; refine run_loop (fun nn l h' => ∃ (i : Nat) (ys : List Int), nn = b - i ∧ (a + 1 ≤ i) ∧ (i ≤ max (a + 1) b) ∧ (Sw a b xs ys) ∧ (SortR ys a i) ∧ (∃ U : Nat → Value, l = [.slice (some ⟨bk, 0, none⟩) n c, .int .i64 (a : Int), .int .i64 (b : Int), U 3, U 4, U 5, .int .i64 (i : Int), U 7, U 8, U 9, U 10, U 11, U 12, U 13, U 14, U 15, U 16, U 17, U 18, U 19, U 20, U 21, U 22, U 23, U 24, U 25, U 26, U 27, U 28, U 29, U 30, U 31, U 32, U 33, U 34, U 35, U 36, U 37, U 38, U 39, U 40, U 41, U 42, U 43, U 44, U 45, U 46, U 47, U 48]) ∧ h ++ [blkC bk ys junk] = h') _ ⟨a + 1, xs, rfl, by omega, by omega, .refl _, fun p q h1 h2 h3 => by omega, exU rfl, rfl⟩ ?_; rintro nn l h' ⟨i, ys, rfl, hi1, hi2, hsw, hso, ⟨U, rfl⟩, rfl⟩ hnext1; have hyl := hsw.length
  refine run_seq ?_; refine rs3 (by kernel_rfl) ?_; refine mq rfl ?_; refine mq rfl ?_; refine k_lssS rfl zq (fun hc => ?_) (fun hc => ?_)
  · refine k_nil ?_; refine run_yes ?_; refine run_skip ?_; refine run_seq ?_; refine run_block ?_; refine rs2 (by kernel_rfl) ?_; refine mq rfl ?_; refine aq rfl ?_; refine run_block ?_; refine run_loop (fun nn l h' => ∃ (j : Nat) (zs : List Int), nn = j + 1 ∧ (a ≤ j) ∧ (j ≤ i) ∧ (Sw a b xs zs) ∧ (Ins zs a i j) ∧ (∃ U : Nat → Value, l = [.slice (some ⟨bk, 0, none⟩) n c, .int .i64 (a : Int), .int .i64 (b : Int), U 3, U 4, U 5, .int .i64 (i : Int), .int .i64 (j : Int), U 8, U 9, U 10, U 11, U 12, U 13, U 14, U 15, U 16, U 17, U 18, U 19, U 20, U 21, U 22, U 23, U 24, U 25, U 26, U 27, U 28, U 29, U 30, U 31, U 32, U 33, U 34, U 35, U 36, U 37, U 38, U 39, U 40, U 41, U 42, U 43, U 44, U 45, U 46, U 47, U 48]) ∧ h ++ [blkC bk zs junk] = h') _ ⟨i, ys, rfl, by omega, by omega, hsw, Ins.start hso, exU rfl, rfl⟩ ?_; rintro nn l h' ⟨j, zs, rfl, hj1, hj2, hzw, hin, ⟨U, rfl⟩, rfl⟩ hnext2; have hzl := hzw.length
    refine run_seq ?_; refine run_seq ?_; refine run_draw [(0, .pure), (1, .pure), (2, .pure), (3, .pure), (4, .pure), (5, .pure), (6, .pure), (8, .pure), (9, .pure), (10, .pure), (11, .pure), (7, .read), (12, .read), (13, .keep), (14, .pure)] (by kernel_rfl) (by kernel_rfl) (List.Sublist.refl _) ?_; refine mq rfl ?_; refine mq rfl ?_; refine k_gtrS rfl zq (fun hc => ?_) (fun hc => ?_)
    · refine mq rfl ?_; refine k_mv rfl rfl ?_; refine k_mv rfl rfl ?_; refine k_ixs rfl rfl (by first | rfl | assumption) (by omega) (by omega) ?_; refine k_mv rfl rfl ?_; refine k_mv rfl rfl ?_; refine k_sub rfl rfl (by unfold In64; omega) ?_; refine k_ixs rfl rfl (by first | rfl | assumption) (by omega) (by omega) ?_; refine k_ld rfl rfl (rd_blkI j rfl (by omega)) ?_; refine k_ld rfl rfl (rd_blkI (j - 1) (by omega) (by omega)) ?_; refine k_calP (Post := fun v => IsB _ v) rfl rfl (by kernel_rfl) (fun H' hH => f169_c m H' _ _) ?_; rintro v (⟨hc, rfl⟩ | ⟨hc, rfl⟩)
      · refine k_put ?_; refine k_pickT rfl zq ?_; refine k_nil ?_; refine run_yes ?_; refine run_skip ?_; refine run_seq ?_; refine run_block ?_; refine run_draw [(0, .pure), (1, .pure), (2, .pure), (3, .pure), (4, .pure), (5, .pure), (6, .pure), (7, .pure), (8, .pure), (10, .pure), (11, .pure), (12, .pure), (9, .read), (13, .read), (14, .pure), (15, .free), (16, .pure), (17, .free)] (by kernel_rfl) (by kernel_rfl) (List.Sublist.refl _) ?_; refine mq rfl ?_; refine mq rfl ?_; refine mq rfl ?_; refine mq rfl ?_; refine k_sub rfl zq (by unfold In64; omega) ?_; refine mq rfl ?_; refine mq rfl ?_; refine k_sub rfl zq (by unfold In64; omega) ?_; refine k_ixs rfl zq (by first | rfl | assumption) (by omega) (by omega) ?_; refine mq rfl ?_; refine mq rfl ?_; refine k_ixs rfl zq (by first | rfl | assumption) (by omega) (by omega) ?_; refine k_ld rfl zq (rd_blkI (j - 1) (by omega) (by omega)) ?_; refine k_ld rfl zq (rd_blkI j rfl (by omega)) ?_; refine k_ixs rfl zq (by first | rfl | assumption) (by omega) (by omega) ?_; haveI hs1 := setSeg_ints (xs := zs) (junk := junk) (v := zs.getD (j - 1) 0) (i := (j : Int)) (k := j) rfl (by omega)
        refine k_st1 rfl zq ?_; refine k_ixs rfl zq (by first | rfl | assumption) (by omega) (by omega) ?_; haveI hs2 := setSeg_ints (xs := zs.set j (zs.getD (j - 1) 0)) (junk := junk) (v := zs.getD j 0) (i := (j : Int) - 1) (k := j - 1) (by omega) (by simp; omega)
        refine k_st1 rfl zq ?_; rw [swapL_at]; refine k_nil ?_; refine run_inBlock ?_; refine rr3 (by kernel_rfl) ?_; refine mq rfl ?_; refine k_sub rfl zq (by unfold In64; omega) ?_; refine aq rfl ?_; have ej : (j : Int) - 1 = ((j - 1 : Nat) : Int) := by omega
        rw [ej]; exact m.weak weakSub (hnext2 _ _ _ (by omega) ⟨j - 1, swapL zs j (j - 1), rfl, by omega, by omega, .step j (j - 1) ⟨by omega, by omega⟩ ⟨by omega, by omega⟩ hzw, hin.step (by omega) (by omega) (by omega) (by omega), exU rfl, rfl⟩)
      · refine k_put ?_; refine k_pickT rfl zq ?_; refine k_nil ?_; refine run_no ?_; refine run_exit rfl ?_; refine run_inBlock ?_; refine rr3 (by kernel_rfl) ?_; refine mq rfl ?_; refine k_add rfl zq (by unfold In64; omega) ?_; refine aq rfl ?_; exact m.weak weakSub (hnext1 _ _ _ (by omega) ⟨i + 1, zs, rfl, by omega, by omega, hzw, hin.stop (by omega) (by omega) (by omega), exU rfl, rfl⟩)
    · refine mq rfl ?_; refine k_off rfl rfl ?_; refine k_off rfl rfl ?_; refine k_off rfl rfl ?_; refine k_off rfl rfl ?_; refine k_off rfl rfl ?_; refine k_off rfl rfl ?_; refine k_off rfl rfl ?_; refine k_off rfl rfl ?_; refine k_off rfl rfl ?_; refine k_off rfl rfl ?_; refine k_pickF rfl zq ?_; refine k_nil ?_; refine run_no ?_; refine run_exit rfl ?_; refine run_inBlock ?_; refine rr3 (by kernel_rfl) ?_; refine mq rfl ?_; refine k_add rfl zq (by unfold In64; omega) ?_; refine aq rfl ?_; exact m.weak weakSub (hnext1 _ _ _ (by omega) ⟨i + 1, zs, rfl, by omega, by omega, hzw, hin.stop (by omega) (by omega) (by omega), exU rfl, rfl⟩)
  · refine k_nil ?_; refine run_no ?_; refine run_exit rfl ?_; refine run_end rfl ?_; refine run_res (h ++ [blkC bk ys junk]) rfl Tryz.func163 rfl weakSub ?_; refine hK _ _ ?_
    refine ⟨rfl, ys, rfl, hsw, fun p q h1 h2 h3 => ?_⟩
    by_cases e : a < b
    · exact hso p q h1 h2 (by omega)
    · omega
theorem f173_c (m : Md Tryz.prog B) (h : Hp) (x : Int) (hx : 0 ≤ x ∧ x < 65536) : FnC m 173 #[.int .u64 x] h fun v h' => h' = h ∧ ∃ k : Int, v = .int .i64 k ∧ 0 ≤ k ∧ k ≤ 1000 := by
  refine fn_enter Tryz.func173 rfl rfl (l := (.int .u64 x) :: uu24) rfl ?_
  intro cf cs K hK
  refine rs1 (by kernel_rfl) ?_; refine aq rfl ?_; refine run_seq ?_; refine rs2 (by kernel_rfl) ?_; refine mq rfl ?_; refine k_geqS rfl zq (fun hc => ?_) (fun hc => ?_)
  · exfalso; omega
  · refine k_nil ?_; refine run_no ?_; refine run_skip ?_; refine run_seq ?_; refine rs2 (by kernel_rfl) ?_; refine mq rfl ?_; refine k_geqS rfl zq (fun hc => ?_) (fun hc => ?_)
    · exfalso; omega
    · refine k_nil ?_; refine run_no ?_; refine run_skip ?_; refine run_seq ?_; refine rs2 (by kernel_rfl) ?_; refine mq rfl ?_; refine k_geqS rfl zq (fun hc => ?_) (fun hc => ?_)
      · refine k_nil ?_; refine run_yes ?_; refine rs3 (by kernel_rfl) ?_; refine mq rfl ?_; have hq : x.fdiv (2 ^ (min (8 : Int).toNat IntKind.u64.bits)) = x / 256 := by
          rw [Int.fdiv_eq_ediv_of_nonneg _ (by decide)]; rfl
        refine k_shr (x / 256) rfl zq (by decide) hq ?_; refine aq rfl ?_; refine rr3 (by kernel_rfl) ?_; refine mq rfl ?_; refine k_add rfl zq (by unfold In64; omega) ?_; refine aq rfl ?_; refine rs7 (by kernel_rfl) ?_; refine mq rfl ?_; refine mq rfl ?_; first
          | refine k_conv rfl zq (by kernel_rfl) (n' := x) (by unfold IntKind.wrap; simp [IntKind.bits, IntKind.signed]; omega) ?_
          | refine k_conv rfl zq (by kernel_rfl) (n' := x / 256) (by unfold IntKind.wrap; simp [IntKind.bits, IntKind.signed]; omega) ?_
        refine k_ixS (n := 256) rfl zq (by kernel_rfl) (by kernel_rfl) (by omega) (by omega) (fun b8 => k_put ?_); have hb8 := b8.toNat_lt
        refine k_conv rfl zq (by kernel_rfl) (n' := (b8.toNat : Int)) (by unfold IntKind.wrap; simp [IntKind.bits, IntKind.signed]; omega) ?_; refine k_add rfl zq (by unfold In64; omega) ?_; refine aq rfl ?_; refine run_ret rfl ?_; refine run_res (h) rfl Tryz.func173 rfl weakSub ?_; refine hK _ _ ?_
        exact ⟨rfl, _, rfl, by omega, by omega⟩
      · refine k_nil ?_; refine run_no ?_; refine run_skip ?_; refine rs7 (by kernel_rfl) ?_; refine mq rfl ?_; refine mq rfl ?_; first
          | refine k_conv rfl zq (by kernel_rfl) (n' := x) (by unfold IntKind.wrap; simp [IntKind.bits, IntKind.signed]; omega) ?_
          | refine k_conv rfl zq (by kernel_rfl) (n' := x / 256) (by unfold IntKind.wrap; simp [IntKind.bits, IntKind.signed]; omega) ?_
        refine k_ixS (n := 256) rfl zq (by kernel_rfl) (by kernel_rfl) (by omega) (by omega) (fun b8 => k_put ?_); have hb8 := b8.toNat_lt
        refine k_conv rfl zq (by kernel_rfl) (n' := (b8.toNat : Int)) (by unfold IntKind.wrap; simp [IntKind.bits, IntKind.signed]; omega) ?_; refine k_add rfl zq (by unfold In64; omega) ?_; refine aq rfl ?_; refine run_ret rfl ?_; refine run_res (h) rfl Tryz.func173 rfl weakSub ?_; refine hK _ _ ?_
        exact ⟨rfl, _, rfl, by omega, by omega⟩
theorem f153_c (m : Md Tryz.prog B) (h : Hp) (x : Int) (hx : 0 ≤ x ∧ x < 65536) : FnC m 153 #[.int .u64 x] h fun v h' => h' = h ∧ ∃ k : Int, v = .int .i64 k ∧ 0 ≤ k ∧ k ≤ 1000 := by
  refine fn_enter Tryz.func153 rfl rfl (l := (.int .u64 x) :: uu7) rfl ?_
  intro cf cs K hK
  refine rs1 (by kernel_rfl) ?_; refine aq rfl ?_; refine run_seq ?_; refine run_no ?_; refine run_skip ?_; refine rs3 (by kernel_rfl) ?_; refine mq rfl ?_; refine k_calP rfl zq (by kernel_rfl) (fun H' hH => f173_c m H' _ hx) ?_; rintro v ⟨k, rfl, hk0, hk1⟩; refine k_put ?_; refine aq rfl ?_; refine run_ret rfl ?_; refine run_res (h) rfl Tryz.func153 rfl weakSub ?_; refine hK _ _ ?_
  exact ⟨rfl, _, rfl, hk0, hk1⟩
def PdqC {B : Array Obj} (m : Md Tryz.prog B) (N : Nat) : Prop := ∀ (h : Hp) (bk n c : Nat) (xs : List Int) (junk : List Value) (lim : Int), xs.length = n → n ≤ N → 0 ≤ lim → lim ≤ 1000 →
  FnC m 152 #[.slice (some ⟨bk, 0, none⟩) n c, .int .i64 0, .int .i64 (n : Int), .int .i64 lim] (h ++ [blkC bk xs junk]) fun v h' => v = .tuple [].toArray ∧ ∃ ys, h' = h ++ [blkC bk ys junk] ∧ Sw 0 n xs ys ∧ SortR ys 0 n
def uniqT (xs : List Int) : Nat → List Int
  | 0 => []
  | t + 1 => uniqT xs t ++ if t = 0 ∨ xs.getD t 0 ≠ xs.getD (t - 1) 0 then [xs.getD t 0] else []
theorem uniqT_all (xs : List Int) : ∀ t, t ≤ xs.length → (∀ i, 0 < i → i < t → xs.getD i 0 ≠ xs.getD (i - 1) 0) → uniqT xs t = xs.take t
  | 0, _, _ => rfl
  | t + 1, h, hd => by
    rw [uniqT, uniqT_all xs t (by omega) (fun i h1 h2 => hd i h1 (by omega)), take_snoc' xs t (by omega), if_pos]; by_cases e : t = 0
    · exact .inl e
    · exact .inr (hd t (by omega) (by omega))
theorem uniqT_asc {xs : List Int} (hs : SortR xs 0 xs.length) : ∀ t, t ≤ xs.length → Asc (uniqT xs t) ∧ (∀ z ∈ uniqT xs t, ∃ i, i < t ∧ z = xs.getD i 0)
  | 0, _ => ⟨List.Pairwise.nil, by simp [uniqT]⟩
  | t + 1, h => by
    obtain ⟨h1, h2⟩ := uniqT_asc hs t (by omega)
    rw [uniqT]; by_cases e : t = 0 ∨ xs.getD t 0 ≠ xs.getD (t - 1) 0
    · rw [if_pos e]; refine ⟨?_, fun z hz => ?_⟩
      · unfold Asc at h1 ⊢
        rw [List.pairwise_append]; refine ⟨h1, by simp, fun x hx y hy => ?_⟩
        simp only [List.mem_singleton] at hy
        subst hy
        obtain ⟨i, hi, rfl⟩ := h2 x hx
        have e1 : xs.getD i 0 ≤ xs.getD (t - 1) 0 := by
          by_cases e2 : i = t - 1
          · subst e2; exact Int.le_refl _
          · exact hs i (t - 1) (by omega) (by omega) (by omega)
        have e3 : xs.getD (t - 1) 0 ≤ xs.getD t 0 := hs (t - 1) t (by omega) (by omega) (by omega)
        rcases e with e | e
        · omega
        · omega
      · rcases List.mem_append.1 hz with hz | hz
        · obtain ⟨i, hi, e⟩ := h2 z hz; exact ⟨i, by omega, e⟩
        · simp only [List.mem_singleton] at hz; exact ⟨t, by omega, hz⟩
    · rw [if_neg e, List.append_nil]; exact ⟨h1, fun z hz => by obtain ⟨i, hi, e⟩ := h2 z hz; exact ⟨i, by omega, e⟩⟩
theorem uniqT_mem {xs : List Int} : ∀ t i, i < t → xs.getD i 0 ∈ uniqT xs t
  | 0, i, h => by omega
  | t + 1, i, h => by
    rw [uniqT, List.mem_append]; rcases Nat.lt_or_ge i t with h1 | h1
    · exact .inl (uniqT_mem t i h1)
    · obtain rfl : i = t := by omega
      by_cases e : i = 0 ∨ xs.getD i 0 ≠ xs.getD (i - 1) 0
      · rw [if_pos e]; exact .inr (by simp)
      · have h0 : i ≠ 0 := fun x => e (.inl x)
        have e2 : xs.getD i 0 = xs.getD (i - 1) 0 := Classical.byContradiction fun x => e (.inr x)
        rw [e2]; exact .inl (uniqT_mem i (i - 1) (by omega))
theorem take_set_snoc {ys : List Int} {k : Nat} {v : Int} (h : k < ys.length) : (ys.set k v).take (k + 1) = ys.take k ++ [v] := take_set h
theorem own_blk {bk n c : Nat} {ys : List Int} {junk : List Value} (hl : ys.length = n) (hj : n + junk.length = c) : OwnS 3 1 (.slice (some ⟨bk, 0, none⟩) n c) n (ints ys) [blkC bk ys junk] :=
  .blk (by simp [hl]) (by simp [hl]; omega) (by omega)
theorem own_cut {bk n c k : Nat} {ys : List Int} {junk : List Value} (hl : ys.length = n) (hj : n + junk.length = c) (hk : k ≤ n) : OwnS 3 1 (.slice (some ⟨bk, 0, none⟩) k c) k (ints (ys.take k)) [blkC bk ys junk] := by
  have := (own_blk (bk := bk) hl hj).pre (m := k) hk
  rwa [Nat.mul_one, ← ints_take] at this
theorem f111_c (m : Md Tryz.prog B) (h : Hp) {bk n c : Nat} {xs : List Int} {junk : List Value} (hl : xs.length = n) (hj : n + junk.length = c) (hn : n ≤ 100000) : FnC m 111 #[.slice (some ⟨bk, 0, none⟩) n c] (h ++ [blkC bk xs junk]) fun v h' => ∃ nw, h' = h ++ nw ∧ ∃ k, k = (uniqT xs n).length ∧ OwnS 3 1 v k (ints (uniqT xs n)) nw := by
  refine fn_enter Tryz.func111 rfl rfl (l := (.slice (some ⟨bk, 0, none⟩) n c) :: uu60) rfl ?_
  intro cf cs K hK
  refine rs1 (by kernel_rfl) ?_; refine aq rfl ?_; refine run_seq ?_; refine rs3 (by kernel_rfl) ?_; refine mq rfl ?_; refine k_len rfl zq ?_; refine k_lssS rfl zq (fun hc => ?_) (fun hc => ?_)
  · refine k_nil ?_; refine run_yes ?_; refine rs2 (by kernel_rfl) ?_; refine mq rfl ?_; refine aq rfl ?_; refine run_ret rfl ?_; refine run_res (h ++ [blkC bk xs junk]) rfl Tryz.func111 rfl weakSub ?_; refine hK _ _ ?_
    have hall : uniqT xs n = xs := by rw [uniqT_all xs n (by omega) (fun i h1 h2 => by omega), List.take_of_length_le (by omega)]
    exact ⟨_, rfl, n, by rw [hall, hl], by rw [hall]; exact own_blk hl hj⟩
  · refine k_nil ?_; refine run_no ?_; refine run_skip ?_; refine run_seq ?_; refine rs1 (by kernel_rfl) ?_; refine aq rfl ?_; refine run_block ?_; refine run_loop (fun nn l h' => ∃ (k : Nat), nn = n - k ∧ (1 ≤ k) ∧ (k ≤ n) ∧ (∀ i, 0 < i → i < k → xs.getD i 0 ≠ xs.getD (i - 1) 0) ∧ (∃ U : Nat → Value, l = [.slice (some ⟨bk, 0, none⟩) n c, U 1, U 2, .int .i64 (k : Int), U 4, U 5, U 6, U 7, U 8, U 9, U 10, U 11, U 12, U 13, U 14, U 15, U 16, U 17, U 18, U 19, U 20, U 21, U 22, U 23, U 24, U 25, U 26, U 27, U 28, U 29, U 30, U 31, U 32, U 33, U 34, U 35, U 36, U 37, U 38, U 39, U 40, U 41, U 42, U 43, U 44, U 45, U 46, U 47, U 48, U 49, U 50, U 51, U 52, U 53, U 54, U 55, U 56, U 57, U 58, U 59, U 60]) ∧ h ++ [blkC bk xs junk] = h') _ ⟨1, rfl, by omega, by omega, fun i h1 h2 => by omega, exU rfl, rfl⟩ ?_; rintro nn l h' ⟨k, rfl, hk1, hk2, hd, ⟨U, rfl⟩, rfl⟩ hnext1; have hu := uniqT_all xs k (by omega) hd
    refine run_seq ?_; refine rs4 (by kernel_rfl) ?_; refine mq rfl ?_; refine mq rfl ?_; refine k_len rfl zq ?_; refine k_lssS rfl zq (fun hc => ?_) (fun hc => ?_)
    · refine k_nil ?_; refine run_yes ?_; refine run_skip ?_; refine run_seq ?_; refine run_block ?_; refine run_seq ?_; refine run_draw [(0, .pure), (1, .pure), (2, .pure), (4, .pure), (5, .pure), (6, .pure), (7, .pure), (3, .read), (8, .read), (9, .pure)] (by kernel_rfl) (by kernel_rfl) (List.Sublist.refl _) ?_; refine mq rfl ?_; refine mq rfl ?_; refine k_ixs rfl zq (by first | rfl | assumption) (by omega) (by omega) ?_; refine mq rfl ?_; refine mq rfl ?_; refine k_sub rfl zq (by unfold In64; omega) ?_; refine k_ixs rfl zq (by first | rfl | assumption) (by omega) (by omega) ?_; refine k_ld rfl zq (rd_blkI k rfl (by omega)) ?_; refine k_ld rfl zq (rd_blkI (k - 1) (by omega) (by omega)) ?_; refine k_eqlS rfl zq (fun hc => ?_) (fun hc => ?_)
      · refine k_nil ?_; refine run_yes ?_; refine rs4 (by kernel_rfl) ?_; refine mq rfl ?_; refine mq rfl ?_; refine k_slFrom (a := k) rfl zq rfl (by omega) ?_; rw [cutP_lt (by omega)]; refine aq rfl ?_; refine run_seq ?_; refine rs1 (by kernel_rfl) ?_; have hu1 : uniqT xs (k + 1) = xs.take k := by rw [uniqT, if_neg (by rintro (e | e) <;> omega), List.append_nil, hu]
        refine aq rfl ?_; refine run_block ?_; refine run_loop (fun nn l h' => ∃ (j e : Nat) (ys : List Int), nn = n - j ∧ (1 ≤ j) ∧ (k + j ≤ n) ∧ (e = (uniqT xs (k + j)).length) ∧ (e < k + j) ∧ (k ≤ e) ∧ (ys.length = n) ∧ (ys.take e = uniqT xs (k + j)) ∧ (∀ i, k + j ≤ i + 1 → ys.getD i 0 = xs.getD i 0) ∧ (∃ U : Nat → Value, l = [.slice (some ⟨bk, 0, none⟩) n c, U 1, U 2, .int .i64 (e : Int), .slice (some ⟨bk, k, none⟩) (n - k) (c - k), .int .i64 (j : Int), U 6, U 7, U 8, U 9, U 10, U 11, U 12, U 13, U 14, U 15, U 16, U 17, U 18, U 19, U 20, U 21, U 22, U 23, U 24, U 25, U 26, U 27, U 28, U 29, U 30, U 31, U 32, U 33, U 34, U 35, U 36, U 37, U 38, U 39, U 40, U 41, U 42, U 43, U 44, U 45, U 46, U 47, U 48, U 49, U 50, U 51, U 52, U 53, U 54, U 55, U 56, U 57, U 58, U 59, U 60]) ∧ h ++ [blkC bk ys junk] = h') _ ⟨1, k, xs, rfl, by omega, by omega, by rw [hu1, List.length_take]; omega, by omega, by omega, hl, by rw [hu1], fun i hi => rfl, exU rfl, rfl⟩ ?_; rintro nn l h' ⟨j, e, ys, rfl, hj1, hj2, he, hek, hke, hyl, hyt, hys, ⟨U, rfl⟩, rfl⟩ hnext2; refine run_seq ?_; refine rs4 (by kernel_rfl) ?_; refine mq rfl ?_; refine mq rfl ?_; refine k_len rfl zq ?_; refine k_lssS rfl zq (fun hc => ?_) (fun hc => ?_)
        · refine k_nil ?_; refine run_yes ?_; refine run_skip ?_; refine run_seq ?_; refine run_block ?_; refine run_seq ?_; refine run_draw [(0, .pure), (1, .pure), (2, .pure), (4, .pure), (5, .pure), (6, .pure), (7, .pure), (3, .read), (8, .read), (9, .pure)] (by kernel_rfl) (by kernel_rfl) (List.Sublist.refl _) ?_; have hy1 := hys (k + j) (by omega)
          have hy2 := hys (k + (j - 1)) (by omega)
          refine mq rfl ?_; refine mq rfl ?_; refine k_ixs rfl zq (by first | rfl | assumption) (by omega) (by omega) ?_; refine mq rfl ?_; refine mq rfl ?_; refine k_sub rfl zq (by unfold In64; omega) ?_; refine k_ixs rfl zq (by first | rfl | assumption) (by omega) (by omega) ?_; refine k_ld rfl zq (rd_blkO j rfl (by omega)) ?_; refine k_ld rfl zq (rd_blkO (j - 1) (by omega) (by omega)) ?_; rw [hy1, hy2]; refine k_neqS rfl zq (fun hc => ?_) (fun hc => ?_)
          · have hU : uniqT xs (k + (j + 1)) = uniqT xs (k + j) ++ [xs.getD (k + j) 0] := by
              rw [show k + (j + 1) = (k + j) + 1 by omega, uniqT, if_pos (.inr (by rw [show k + j - 1 = k + (j - 1) by omega]; exact hc))]
            refine k_nil ?_; refine run_yes ?_; refine rs8 (by kernel_rfl) ?_; refine mq rfl ?_; refine mq rfl ?_; refine mq rfl ?_; refine mq rfl ?_; refine k_ixs rfl zq (by first | rfl | assumption) (by omega) (by omega) ?_; refine k_ld rfl zq (rd_blkO j rfl (by omega)) ?_; rw [hy1]; refine k_ixs rfl zq (by first | rfl | assumption) (by omega) (by omega) ?_; haveI hs1 := setSeg_ints (xs := ys) (junk := junk) (v := xs.getD (k + j) 0) (i := (e : Int)) (k := e) rfl (by omega)
            refine k_st1 rfl zq ?_; refine k_nil ?_; refine rr3 (by kernel_rfl) ?_; refine mq rfl ?_; refine k_add rfl zq (by unfold In64; omega) ?_; refine aq rfl ?_; refine run_inBlock ?_; refine rr3 (by kernel_rfl) ?_; refine mq rfl ?_; refine k_add rfl zq (by unfold In64; omega) ?_; refine aq rfl ?_; exact m.weak weakSub (hnext2 _ _ _ (by omega) ⟨j + 1, e + 1, ys.set e (xs.getD (k + j) 0), rfl, by omega, by omega, by rw [hU, List.length_append, ← he]; rfl, by omega, by omega, by simp [hyl], by rw [take_set_snoc (by omega), hyt, hU], fun i hi => by rw [getD_set (by omega), if_neg (by omega)]; exact hys i (by omega), exU rfl, rfl⟩)
          · have hU : uniqT xs (k + (j + 1)) = uniqT xs (k + j) := by
              rw [show k + (j + 1) = (k + j) + 1 by omega, uniqT, if_neg (fun y => y.elim (fun x => by omega) (fun x => x (by rw [show k + j - 1 = k + (j - 1) by omega]; exact hc))), List.append_nil]
            refine k_nil ?_; refine run_no ?_; refine run_skip ?_; refine run_inBlock ?_; refine rr3 (by kernel_rfl) ?_; refine mq rfl ?_; refine k_add rfl zq (by unfold In64; omega) ?_; refine aq rfl ?_; exact m.weak weakSub (hnext2 _ _ _ (by omega) ⟨j + 1, e, ys, rfl, by omega, by omega, by rw [hU, ← he], by omega, by omega, hyl, by rw [hU, hyt], fun i hi => hys i (by omega), exU rfl, rfl⟩)
        · refine k_nil ?_; refine run_no ?_; refine run_exit rfl ?_; refine rs4 (by kernel_rfl) ?_; obtain rfl : n = k + j := by omega
          refine mq rfl ?_; refine mq rfl ?_; refine k_slFrom (a := e) rfl zq rfl (by omega) ?_; refine k_clear rfl zq hyl (by omega) (by omega) ?_; refine k_nil ?_; refine rs4 (by kernel_rfl) ?_; refine mq rfl ?_; refine mq rfl ?_; refine k_slTo (b := e) rfl zq (.inr ⟨_, _, rfl⟩) rfl (by omega) ?_; refine aq rfl ?_; refine run_ret rfl ?_; refine run_res (h ++ [blkC bk (ys.take e ++ List.replicate (k + j - e) 0) junk]) rfl Tryz.func111 rfl weakSub ?_; refine hK _ _ ?_
          refine ⟨_, rfl, e, he, ?_⟩
          have := own_cut (bk := bk) (n := k + j) (c := c) (k := e) (ys := ys.take e ++ List.replicate (k + j - e) 0) (junk := junk) (by simp; omega) hj (by omega)
          rw [List.take_append_of_le_length (by simp; omega), List.take_take, Nat.min_self, hyt] at this
          rw [hyt]; exact this
      · refine k_nil ?_; refine run_no ?_; refine run_skip ?_; refine run_inBlock ?_; refine rr3 (by kernel_rfl) ?_; refine mq rfl ?_; refine k_add rfl zq (by unfold In64; omega) ?_; refine aq rfl ?_; exact m.weak weakSub (hnext1 _ _ _ (by omega) ⟨k + 1, rfl, by omega, by omega, fun i h1 h2 => by
          rcases Nat.lt_or_ge i k with h3 | h3
          · exact hd i h1 h3
          · obtain rfl : i = k := by omega
            assumption, exU rfl, rfl⟩)
    · refine k_nil ?_; refine run_no ?_; refine run_exit rfl ?_; refine rs2 (by kernel_rfl) ?_; refine mq rfl ?_; refine aq rfl ?_; refine run_ret rfl ?_; refine run_res (h ++ [blkC bk xs junk]) rfl Tryz.func111 rfl weakSub ?_; refine hK _ _ ?_
      obtain rfl : k = n := by omega
      have hall : uniqT xs k = xs := by rw [hu, List.take_of_length_le (by omega)]
      exact ⟨_, rfl, k, by rw [hall, hl], by rw [hall]; exact own_blk hl hj⟩
theorem f110_c (m : Md Tryz.prog B) (h : Hp) {N : Nat} (hP : PdqC m N) (hN : N ≤ 60000) {bk n c : Nat} {xs : List Int} {junk : List Value} (hl : xs.length = n) (hn : n ≤ N) : FnC m 110 #[.slice (some ⟨bk, 0, none⟩) n c] (h ++ [blkC bk xs junk]) fun v h' => v = .tuple [].toArray ∧ ∃ ys, h' = h ++ [blkC bk ys junk] ∧ Sw 0 n xs ys ∧ SortR ys 0 n := by
  refine fn_enter Tryz.func110 rfl rfl (l := (.slice (some ⟨bk, 0, none⟩) n c) :: uu10) rfl ?_
  intro cf cs K hK
  refine rs3 (by kernel_rfl) ?_; refine mq rfl ?_; refine k_len rfl zq ?_; refine aq rfl ?_; refine rr6 (by kernel_rfl) ?_; refine mq rfl ?_; refine mq rfl ?_; refine mq rfl ?_; refine k_conv rfl zq (by kernel_rfl) (n' := (n : Int)) (by unfold IntKind.wrap; simp [IntKind.bits, IntKind.signed]; omega) ?_; refine k_calP rfl zq (by kernel_rfl) (fun H' hH => f153_c m H' _ (by omega)) ?_; rintro v ⟨lim, rfl, hk0, hk1⟩; refine k_put ?_; refine k_cal rfl zq (by kernel_rfl) (hP h bk n c xs junk lim hl hn hk0 hk1) ?_; rintro v h' ⟨rfl, ys, rfl, hsw, hso⟩; refine k_put ?_; refine k_nil ?_; refine run_end rfl ?_; refine run_res (h ++ [blkC bk ys junk]) rfl Tryz.func110 rfl weakSub ?_; refine hK _ _ ?_
  exact ⟨rfl, ys, rfl, hsw, hso⟩
theorem f152_s (m : Md Tryz.prog B) : PdqC m 12 := by
  intro h bk n c xs junk lim hl hn hk0 hk1
  refine fn_enter Tryz.func152 rfl rfl (l := (.slice (some ⟨bk, 0, none⟩) n c) :: (.int .i64 0) :: (.int .i64 (n : Int)) :: (.int .i64 lim) :: uu130) rfl ?_
  intro cf cs K hK
  refine rs1 (by kernel_rfl) ?_; refine aq rfl ?_; refine rs1 (by kernel_rfl) ?_; refine aq rfl ?_; refine run_block ?_; refine run_loop (fun nn l h' => ∃ (k : Nat), nn = k + 1 ∧ (k = 0) ∧ (∃ U : Nat → Value, l = [.slice (some ⟨bk, 0, none⟩) n c, .int .i64 0, .int .i64 (n : Int), .int .i64 lim, U 4, U 5, U 6, U 7, U 8, U 9, U 10, U 11, U 12, U 13, U 14, U 15, U 16, U 17, U 18, U 19, U 20, U 21, U 22, U 23, U 24, U 25, U 26, U 27, U 28, U 29, U 30, U 31, U 32, U 33, U 34, U 35, U 36, U 37, U 38, U 39, U 40, U 41, U 42, U 43, U 44, U 45, U 46, U 47, U 48, U 49, U 50, U 51, U 52, U 53, U 54, U 55, U 56, U 57, U 58, U 59, U 60, U 61, U 62, U 63, U 64, U 65, U 66, U 67, U 68, U 69, U 70, U 71, U 72, U 73, U 74, U 75, U 76, U 77, U 78, U 79, U 80, U 81, U 82, U 83, U 84, U 85, U 86, U 87, U 88, U 89, U 90, U 91, U 92, U 93, U 94, U 95, U 96, U 97, U 98, U 99, U 100, U 101, U 102, U 103, U 104, U 105, U 106, U 107, U 108, U 109, U 110, U 111, U 112, U 113, U 114, U 115, U 116, U 117, U 118, U 119, U 120, U 121, U 122, U 123, U 124, U 125, U 126, U 127, U 128, U 129, U 130, U 131, U 132, U 133]) ∧ h ++ [blkC bk xs junk] = h') _ ⟨0, rfl, rfl, exU rfl, rfl⟩ ?_; rintro nn l h' ⟨k, rfl, hk, ⟨U, rfl⟩, rfl⟩ hnext; refine run_block ?_; refine rs4 (by kernel_rfl) ?_; refine mq rfl ?_; refine mq rfl ?_; refine k_sub rfl zq (by unfold In64; omega) ?_; refine aq rfl ?_; refine run_seq ?_; refine rs2 (by kernel_rfl) ?_; refine mq rfl ?_; refine k_leqS rfl zq (fun hc => ?_) (fun hc => ?_)
  · refine k_nil ?_; refine run_yes ?_; refine rs4 (by kernel_rfl) ?_; refine mq rfl ?_; refine mq rfl ?_; refine mq rfl ?_; refine k_cal rfl zq (by kernel_rfl) (f163_c m h hl (by omega) 0 n (by omega) (Nat.le_refl _)) ?_; rintro v h' ⟨rfl, ys, rfl, hsw, hso⟩; refine k_put ?_; refine k_nil ?_; refine run_ret rfl ?_; refine run_res (h ++ [blkC bk ys junk]) rfl Tryz.func152 rfl weakSub ?_; refine hK _ _ ?_
    exact ⟨rfl, ys, rfl, hsw, hso⟩
  · exfalso; omega
theorem own_block {v : Value} {n : Nat} {xs : List Int} {new : Hp} (o : OwnS 3 1 v n (ints xs) new) (h : 0 < n) : ∃ b c junk, v = .slice (some ⟨b, 0, none⟩) n c ∧ new = [blkC b xs junk] ∧ xs.length = n ∧ n + junk.length = c := by
  unfold blkC
  generalize hg : ints xs = ys at o ⊢
  have hy : ys.length = xs.length := by rw [← hg]; simp
  cases o with
  | nil => omega
  | blk hl hc hn => exact ⟨_, _, _, rfl, rfl, by omega, by omega⟩
theorem mem_uniqT {xs : List Int} {z : Int} (hs : SortR xs 0 xs.length) : z ∈ uniqT xs xs.length ↔ z ∈ xs := by
  constructor
  · intro h
    obtain ⟨i, hi, rfl⟩ := (uniqT_asc hs _ (Nat.le_refl _)).2 z h
    exact mem_getD.2 ⟨i, hi, rfl⟩
  · intro h
    obtain ⟨i, hi, rfl⟩ := mem_getD.1 h
    exact uniqT_mem _ i hi
theorem bookV_inj {b : Bk} {pm pr p q : Option Addr} {nm cm nr cr n c k d : Nat} {x y z : Int} (e : bookV x y z (.slice p n c) (.slice q k d) = bkV b pm nm cm pr nr cr) : b.bend = x ∧ b.twist = y ∧ b.turns = z ∧ pm = p ∧ nm = n ∧ cm = c ∧ pr = q ∧ nr = k ∧ cr = d := by
  injection e with e
  injection e with e
  injection e with z1 e; injection e with z2 e; injection e with z3 e; injection e with z4 e; injection e with z5 e
  injection z1 with _ z1; injection z2 with _ z2; injection z3 with _ z3; injection z4 with u1 u2 u3; injection z5 with u4 u5 u6
  exact ⟨z1.symm, z2.symm, z3.symm, u1.symm, u2.symm, u3.symm, u4.symm, u5.symm, u6.symm⟩
theorem openL_no {b : Bk} {own : Int} (h : openS b own ≠ 0) : openL b own = [] := by rw [openL, if_neg h]
theorem openL_yes {b : Bk} {own : Int} (h : openS b own = 0) : openL b own = boatsOf b := by rw [openL, if_pos h]
theorem f36_c (m : Md Tryz.prog B) (h : Hp) {N : Nat} (hP : PdqC m N) (hN : N ≤ 60000) {b : Bk} {pm : Option Addr} {nm cm : Nat} {pr : Option Addr} {nr cr : Nat} (rdm : RdS B h 2 (.slice pm nm cm) nm (encs b.marks)) (hm : nm ≤ 1000) (rdr : RdS B h 4 (.slice pr nr cr) nr (encs b.rules)) (hr : nr ≤ 1000) (hbn : bookS b = 0 → (boatsOf b).length ≤ N) (st : Int) : FnC m 36 #[bkV b pm nm cm pr nr cr, .int .i64 st] h fun v h' => ∃ new, h' = h ++ new ∧ ∃ w ys, v = .tuple [w, .int .i64 (openS b (if 0 ≤ st ∧ st ≤ nm - 1 then 0 else 6))].toArray ∧ OwnS 3 1 w ys.length (ints ys) new ∧ Asc ys ∧ ∀ z, z ∈ ys ↔ z ∈ heightsAt (openL b (if 0 ≤ st ∧ st ≤ nm - 1 then 0 else 6)) st.toNat := by
  refine fn_enter Tryz.func36 rfl rfl (l := (bkV b pm nm cm pr nr cr) :: (.int .i64 st) :: uu36) rfl ?_
  intro cf cs K hK
  refine rs4 (by kernel_rfl) ?_; refine k_box rfl zq (fun q2 => k_hp (k_put ?_)); refine k_box rfl zq (fun q3 => k_hp (k_put ?_)); refine k_as rfl zq ?_; refine aq rfl ?_; refine rs9 (by kernel_rfl) ?_; refine k_ldA rfl zq ?_; refine k_fun rfl zq ?_; refine k_calC rfl zq (by kernel_rfl) (Post := fun v nw => Opened b (bkV b pm nm cm pr nr cr) (openS b ((if 0 ≤ st ∧ st ≤ nm - 1 then 0 else 6))) nw v) (fun H' hH => f107_c m H' (rdm.keeps (sq hH)) hm (rdr.keeps (sq hH)) hr callB108 (fun hbz K hK => by simpa using f108_c m K hm ((rd_has (q := q3)).keeps (hH.trans hK)))) ?_; rintro v nw ⟨x1, x2, x3, y1, y2, y3, y4, y5, y6, z1, z2, z3, rfl, hz⟩; refine k_hpA (k_put ?_); refine mq rfl ?_; refine k_ext0 rfl zq ?_; refine k_ext1 rfl zq ?_; refine k_new rfl zq (fun q6 => k_hp (k_put ?_)); refine k_stA rfl zq rfl ?_; refine aq rfl ?_; refine run_seq ?_; refine rs2 (by kernel_rfl) ?_; refine mq rfl ?_; refine k_neqS rfl zq (fun hc => ?_) (fun hc => ?_)
  · refine k_nil ?_; refine run_yes ?_; refine rs3 (by kernel_rfl) ?_; refine mq rfl ?_; refine k_as rfl zq ?_; refine aq rfl ?_; refine run_ret rfl ?_; refine run_res (h) rfl Tryz.func36 rfl weakSub ?_; refine hK _ _ ?_
    exact ⟨[], by simp, _, [], rfl, OwnS.nil, List.Pairwise.nil, by rw [openL_no (by assumption)]; simp [heightsAt]⟩
  · refine k_nil ?_; refine run_no ?_; refine run_skip ?_; refine rs1 (by kernel_rfl) ?_; have hz0 : openS b (if 0 ≤ st ∧ st ≤ nm - 1 then 0 else 6) = 0 := by first | assumption | omega
    obtain ⟨hz1, rfl, hzc, rdB⟩ := hz hz0
    obtain ⟨rfl, rfl, rfl, rfl, rfl, rfl, rfl, rfl, rfl⟩ := bookV_inj hz1
    obtain ⟨hbz, hoz, hbne⟩ := openS_zero hz0
    have hv := valid_of hbz
    have h7 := hv.many
    have hml := rdm.elen (by decide)
    have hbl := boats_le hv
    have hpos : 0 < (boatsOf b).length := List.length_pos_iff.2 hbne
    obtain ⟨zb, zo, rfl⟩ := RdS.ptr (B := B) rdB hpos
    have hst1 : 0 ≤ st ∧ st ≤ nm - 1 := Classical.byContradiction fun e => by rw [if_neg e] at hoz; omega
    refine aq rfl ?_; refine run_seq ?_; refine rs4 (by kernel_rfl) ?_; first | refine k_fa0 rfl zq ?_ | refine k_fa rfl zq ?_
    refine k_ldh rfl zq ?_; refine k_len rfl zq ?_; refine mq rfl ?_; refine k_nil ?_; refine run_block ?_; refine run_loop (fun nn l h' => ∃ (k : Nat) (w8 : Value) (n8 : Hp), nn = (boatsOf b).length - k ∧ (k ≤ (boatsOf b).length) ∧ (OwnS 3 1 w8 k (ints (heightsAt ((boatsOf b).take k) st.toNat)) n8) ∧ (∃ U : Nat → Value, l = [bkV b pm nm cm pr nr cr, .int .i64 st, U 2, .pointer (some ⟨q3, 0, none⟩), U 4, U 5, U 6, U 7, w8, U 9, U 10, U 11, U 12, U 13, U 14, U 15, U 16, U 17, U 18, U 19, U 20, .slice (some ⟨zb, zo, none⟩) (boatsOf b).length z3, .int .i64 ((boatsOf b).length : Int), .int .i64 (k : Int), U 24, U 25, U 26, U 27, U 28, U 29, U 30, U 31, U 32, U 33, U 34, U 35, U 36, U 37]) ∧ h ++ [⟨true, q2, .cells (bkL b pm nm cm pr nr cr).toArray 25 (0, 0)⟩, ⟨true, q3, .cells [.int .i64 st].toArray 3 (0, 0)⟩] ++ nw ++ [⟨true, q6, .cells [.int .i64 b.bend, .int .i64 b.twist, .int .i64 b.turns, .slice pm nm cm, .slice pr nr cr, .slice (some ⟨zb, zo, none⟩) (boatsOf b).length z3].toArray 123 (0, 0)⟩] ++ n8 = h') _ ⟨0, _, [], rfl, by omega, OwnS.nil, exU rfl, (by simp)⟩ ?_; rintro nn l h' ⟨k, w8, n8, rfl, hk, ho, ⟨U, rfl⟩, rfl⟩ hnext; refine rs1 (by kernel_rfl) ?_; refine k_lssS rfl zq (fun hc => ?_) (fun hc => ?_)
    · refine k_nil ?_; refine run_seq ?_; refine run_yes ?_; refine run_skip ?_; refine run_seq ?_; refine run_block ?_; refine rs4 (by kernel_rfl) ?_; refine k_ixs rfl zq (by first | rfl | assumption) (by omega) (by omega) ?_; refine k_ldN (vs := hts ((boatsOf b).getD k default)) rfl zq (hts_length _) (rdB.eat k (by omega) (by omega)) ?_; have hbm : (boatsOf b).getD k default ∈ boatsOf b := mem_getDR.2 ⟨k, by omega, rfl⟩
      have hbln := boats_len hbm
      have hbs := boats_small hv hbm
      generalize hrow : (boatsOf b).getD k default = ln at hbm hbln hbs ⊢
      refine k_new rfl zq (fun q10 => k_hp (k_put ?_)); refine k_stA rfl zq (by first | rfl | exact hts_length _) ?_; refine k_nil ?_; refine rr7 (by kernel_rfl) ?_; obtain ⟨s, hs⟩ := Int.eq_ofNat_of_zero_le (hst1.1)
      refine mq rfl ?_; refine k_ldh rfl zq ?_; refine k_ixa rfl zq (by omega) (by omega) ?_; refine k_ld rfl zq (rd_hts s (by omega) (by omega)) ?_; refine k_bs kdq rfl zq (by decide) (by decide) rfl (fun q31 => k_hp (k_put ?_)); refine k_app1 (F := h ++ [⟨true, q2, .cells (bkL b pm nm cm pr nr cr).toArray 25 (0, 0)⟩, ⟨true, q3, .cells [.int .i64 st].toArray 3 (0, 0)⟩] ++ nw ++ [⟨true, q6, .cells [.int .i64 b.bend, .int .i64 b.twist, .int .i64 b.turns, .slice pm nm cm, .slice pr nr cr, .slice (some ⟨zb, zo, none⟩) (boatsOf b).length z3].toArray 123 (0, 0)⟩]) rfl zq rfl ho kdq (by omega) (by omega) (fun w9 n9 o9 => k_put ?_); rw [show ints (heightsAt ((boatsOf b).take k) st.toNat) ++ [Value.int .i64 (ln.getD s 0)] = ints (heightsAt ((boatsOf b).take (k + 1)) st.toNat) by rw [heightsAt_take _ _ _ (by omega), show st.toNat = s by omega, ← hrow]; simp; rfl] at o9
      refine aq rfl ?_; refine run_inBlock ?_; refine rr2 (by kernel_rfl) ?_; refine k_add rfl zq (by unfold In64; omega) ?_; refine mq rfl ?_; refine k_nil ?_; exact m.weak weakSub (hnext _ _ _ (by omega) ⟨k + 1, _, n9, rfl, by omega, o9, exU rfl, rfl⟩)
    · refine k_nil ?_; refine run_seq ?_; refine run_no ?_; refine run_exit rfl ?_; refine rs2 (by kernel_rfl) ?_; obtain rfl : k = (boatsOf b).length := by omega
      rw [List.take_of_length_le (by omega)] at ho
      obtain ⟨bk, c, junk, rfl, rfl, hbk1, hbk2⟩ := own_block ho hpos
      refine mq rfl ?_; refine k_cal rfl zq (by kernel_rfl) (f110_c m _ hP hN hbk1 (hbn hbz)) ?_; rintro v h' ⟨rfl, ys, rfl, hsw, hso⟩; refine k_put ?_; have hyl := hsw.length
      refine k_nil ?_; refine rs4 (by kernel_rfl) ?_; refine mq rfl ?_; refine k_cal rfl zq (by kernel_rfl) (f111_c m _ (show ys.length = _ by omega) hbk2 (by omega)) ?_; rintro v h' ⟨n11, rfl, k, hk', ho'⟩; refine k_put ?_; refine k_as rfl zq ?_; refine aq rfl ?_; refine run_ret rfl ?_; refine run_res (h ++ n11) rfl Tryz.func36 rfl weakSub ?_; refine hK _ _ ?_
      have hyn : ys.length = (boatsOf b).length := by omega
      rw [← hyn] at hso ho' hk'
      subst hk'
      refine ⟨n11, rfl, _, _, by rw [hz0], ho', (uniqT_asc hso _ (Nat.le_refl _)).1, fun z => ?_⟩
      rw [openL_yes hz0, mem_uniqT hso]; exact (hsw.perm (by omega)).mem_iff
theorem f38_c (m : Md Tryz.prog B) (h : Hp) {b : Bk} {pm : Option Addr} {nm cm : Nat} {pr : Option Addr} {nr cr : Nat} (rdm : RdS B h 2 (.slice pm nm cm) nm (encs b.marks)) (hm : nm ≤ 1000) (rdr : RdS B h 4 (.slice pr nr cr) nr (encs b.rules)) (hr : nr ≤ 1000) (st : Int) (hst : In64 st) : FnC m 38 #[bkV b pm nm cm pr nr cr, .int .i64 st] h fun v h' => h' = h ∧ v = .tuple [.int .i64 (if openS b (if 1 ≤ st ∧ st ≤ nm - 2 then 0 else 6) ≠ 0 then 0 else told (hollowN (boatsOf b) (st - 1).toNat) (boatsOf b).length), .int .i64 (openS b (if 1 ≤ st ∧ st ≤ nm - 2 then 0 else 6))].toArray := by
  refine fn_enter Tryz.func38 rfl rfl (l := (bkV b pm nm cm pr nr cr) :: (.int .i64 st) :: uu45) rfl ?_
  intro cf cs K hK
  refine rs4 (by kernel_rfl) ?_; refine k_box rfl zq (fun q2 => k_hp (k_put ?_)); refine k_box rfl zq (fun q3 => k_hp (k_put ?_)); refine k_as rfl zq ?_; refine aq rfl ?_; refine rs9 (by kernel_rfl) ?_; refine k_ldA rfl zq ?_; refine k_fun rfl zq ?_; refine k_calC rfl zq (by kernel_rfl) (Post := fun v nw => Opened b (bkV b pm nm cm pr nr cr) (openS b ((if 1 ≤ st ∧ st ≤ nm - 2 then 0 else 6))) nw v) (fun H' hH => f107_c m H' (rdm.keeps (sq hH)) hm (rdr.keeps (sq hH)) hr callB116 (fun hbz K hK => by simpa using f116_c m K hm ((rd_has (q := q3)).keeps (hH.trans hK)))) ?_; rintro v nw ⟨x1, x2, x3, y1, y2, y3, y4, y5, y6, z1, z2, z3, rfl, hz⟩; refine k_hpA (k_put ?_); refine mq rfl ?_; refine k_ext0 rfl zq ?_; refine k_ext1 rfl zq ?_; refine k_new rfl zq (fun q6 => k_hp (k_put ?_)); refine k_stA rfl zq rfl ?_; refine aq rfl ?_; refine run_seq ?_; refine rs2 (by kernel_rfl) ?_; refine mq rfl ?_; refine k_neqS rfl zq (fun hc => ?_) (fun hc => ?_)
  · refine k_nil ?_; refine run_yes ?_; refine rs3 (by kernel_rfl) ?_; refine mq rfl ?_; refine k_as rfl zq ?_; refine aq rfl ?_; refine run_ret rfl ?_; refine run_res (h) rfl Tryz.func38 rfl weakSub ?_; refine hK _ _ ?_
    exact ⟨rfl, by rw [if_pos (show openS b (if 1 ≤ st ∧ st ≤ nm - 2 then 0 else 6) ≠ 0 by assumption)]⟩
  · refine k_nil ?_; refine run_no ?_; refine run_skip ?_; refine rs1 (by kernel_rfl) ?_; have hz0 : openS b (if 1 ≤ st ∧ st ≤ nm - 2 then 0 else 6) = 0 := by first | assumption | omega
    obtain ⟨hz1, rfl, hzc, rdB⟩ := hz hz0
    obtain ⟨rfl, rfl, rfl, rfl, rfl, rfl, rfl, rfl, rfl⟩ := bookV_inj hz1
    obtain ⟨hbz, hoz, hbne⟩ := openS_zero hz0
    have hv := valid_of hbz
    have h7 := hv.many
    have hml := rdm.elen (by decide)
    have hbl := boats_le hv
    have hpos : 0 < (boatsOf b).length := List.length_pos_iff.2 hbne
    obtain ⟨zb, zo, rfl⟩ := RdS.ptr (B := B) rdB hpos
    have hst1 : 1 ≤ st ∧ st ≤ nm - 2 := Classical.byContradiction fun e => by rw [if_neg e] at hoz; omega
    obtain ⟨s, hs⟩ := Int.eq_ofNat_of_zero_le (show 0 ≤ st - 1 by omega)
    refine aq rfl ?_; refine run_seq ?_; refine rs4 (by kernel_rfl) ?_; first | refine k_fa0 rfl zq ?_ | refine k_fa rfl zq ?_
    refine k_ldh rfl zq ?_; refine k_len rfl zq ?_; refine mq rfl ?_; refine k_nil ?_; refine run_block ?_; refine run_loop (fun nn l h' => ∃ (cnt k : Nat), nn = (boatsOf b).length - k ∧ (k ≤ (boatsOf b).length) ∧ (cnt = hollowN ((boatsOf b).take k) (st - 1).toNat) ∧ (cnt ≤ k) ∧ (∃ U : Nat → Value, l = [bkV b pm nm cm pr nr cr, .int .i64 st, U 2, .pointer (some ⟨q3, 0, none⟩), U 4, U 5, .pointer (some ⟨q6, 0, none⟩), U 7, .int .i64 (cnt : Int), U 9, U 10, U 11, U 12, U 13, U 14, U 15, U 16, U 17, U 18, U 19, U 20, .slice (some ⟨zb, zo, none⟩) (boatsOf b).length z3, .int .i64 ((boatsOf b).length : Int), .int .i64 (k : Int), U 24, U 25, U 26, U 27, U 28, U 29, U 30, U 31, U 32, U 33, U 34, U 35, U 36, U 37, U 38, U 39, U 40, U 41, U 42, U 43, U 44, U 45, U 46]) ∧ h ++ [⟨true, q2, .cells (bkL b pm nm cm pr nr cr).toArray 25 (0, 0)⟩, ⟨true, q3, .cells [.int .i64 st].toArray 3 (0, 0)⟩] ++ nw ++ [⟨true, q6, .cells [.int .i64 b.bend, .int .i64 b.twist, .int .i64 b.turns, .slice pm nm cm, .slice pr nr cr, .slice (some ⟨zb, zo, none⟩) (boatsOf b).length z3].toArray 123 (0, 0)⟩] = h') _ ⟨0, 0, rfl, by omega, rfl, by omega, exU rfl, rfl⟩ ?_; rintro nn l h' ⟨cnt, k, rfl, hk, hcnt, hck, ⟨U, rfl⟩, rfl⟩ hnext; refine rs1 (by kernel_rfl) ?_; refine k_lssS rfl zq (fun hc => ?_) (fun hc => ?_)
    · refine k_nil ?_; refine run_seq ?_; refine run_yes ?_; refine run_skip ?_; refine run_seq ?_; refine run_block ?_; refine rs4 (by kernel_rfl) ?_; refine k_ixs rfl zq (by first | rfl | assumption) (by omega) (by omega) ?_; refine k_ldN (vs := hts ((boatsOf b).getD k default)) rfl zq (hts_length _) (rdB.eat k (by omega) (by omega)) ?_; have hbm : (boatsOf b).getD k default ∈ boatsOf b := mem_getDR.2 ⟨k, by omega, rfl⟩
      have hbln := boats_len hbm
      have hbs := boats_small hv hbm
      generalize hrow : (boatsOf b).getD k default = ln at hbm hbln hbs ⊢
      refine k_new rfl zq (fun q10 => k_hp (k_put ?_)); refine k_stA rfl zq (by first | rfl | exact hts_length _) ?_; refine k_nil ?_; refine run_seq ?_; refine run_draw [(0, .pure), (1, .read), (2, .read), (4, .read), (5, .pure), (3, .keep), (6, .pure), (7, .keep), (8, .pure)] (by kernel_rfl) (by kernel_rfl) (List.Sublist.refl _) ?_; first | refine k_fa0 rfl zq ?_ | refine k_fa rfl zq ?_
      refine k_ldA rfl zq ?_; refine k_ldA rfl zq ?_; refine k_ldh rfl zq ?_; refine k_sub rfl zq (by unfold In64; omega) ?_; refine k_calC rfl zq (by kernel_rfl) (fun H' hH => f94_c m H' (by omega) (by omega) hbs) ?_; rintro v bnw bo; refine k_hpA (k_put ?_); obtain ⟨bep, bec, rfl, _⟩ := bo.len
      have ber : RdS B bnw 1 (.slice bep _ bec) _ _ := bo.rd'
      obtain ⟨eb, eo, rfl⟩ := ber.ptr (by omega)
      refine k_ixs rfl zq (by first | rfl | assumption) (by omega) (by omega) ?_; refine k_ld rfl zq (ber.iat s (by omega) (by omega)) ?_; refine k_gtrS rfl zq (fun hc => ?_) (fun hc => ?_)
      · refine k_nil ?_; refine run_yes ?_; refine rr3 (by kernel_rfl) ?_; refine mq rfl ?_; refine k_add rfl zq (by unfold In64; omega) ?_; refine aq rfl ?_; refine run_inBlock ?_; refine rr2 (by kernel_rfl) ?_; refine k_add rfl zq (by unfold In64; omega) ?_; refine mq rfl ?_; refine k_nil ?_; exact m.weak weakSub (hnext _ _ _ (by omega) ⟨cnt + 1, k + 1, rfl, by omega, by rw [hollowN_yes _ _ _ (by omega) (by rw [show (st - 1).toNat = s by omega]; exact (show (boatsOf b).getD k [] = ln from hrow) ▸ (by omega)), ← hcnt], by omega, exU rfl, rfl⟩)
      · refine k_nil ?_; refine run_no ?_; refine run_skip ?_; refine run_inBlock ?_; refine rr2 (by kernel_rfl) ?_; refine k_add rfl zq (by unfold In64; omega) ?_; refine mq rfl ?_; refine k_nil ?_; exact m.weak weakSub (hnext _ _ _ (by omega) ⟨cnt, k + 1, rfl, by omega, by rw [hollowN_no _ _ _ (by omega) (by rw [show (st - 1).toNat = s by omega]; exact (show (boatsOf b).getD k [] = ln from hrow) ▸ (by omega)), ← hcnt], by omega, exU rfl, rfl⟩)
    · refine k_nil ?_; refine run_seq ?_; refine run_no ?_; refine run_exit rfl ?_; refine run_seq ?_; refine rs1 (by kernel_rfl) ?_; obtain rfl : k = (boatsOf b).length := by omega
      rw [List.take_of_length_le (by omega)] at hcnt
      refine mq rfl ?_; refine k_nil ?_; refine run_block ?_; refine rs2 (by kernel_rfl) ?_; refine k_eqlS rfl zq (fun hc => ?_) (fun hc => ?_)
      · refine aq rfl ?_; refine run_yes ?_; refine rs2 (by kernel_rfl) ?_; refine k_as rfl zq ?_; refine aq rfl ?_; refine run_ret rfl ?_; refine run_res (h) rfl Tryz.func38 rfl weakSub ?_; refine hK _ _ ?_
        exact ⟨rfl, by rw [hz0, if_neg (fun e => e rfl)]; unfold told; repeat first | rw [if_pos (by omega)] | rw [if_neg (by omega)]⟩
      · refine aq rfl ?_; refine run_no ?_; refine rs5 (by kernel_rfl) ?_; first | refine k_fa0 rfl zq ?_ | refine k_fa rfl zq ?_
        refine k_ldh rfl zq ?_; refine k_len rfl zq ?_; refine k_eqlS rfl zq (fun hc => ?_) (fun hc => ?_)
        · refine aq rfl ?_; refine run_yes ?_; refine rs2 (by kernel_rfl) ?_; refine k_as rfl zq ?_; refine aq rfl ?_; refine run_ret rfl ?_; refine run_res (h) rfl Tryz.func38 rfl weakSub ?_; refine hK _ _ ?_
          exact ⟨rfl, by rw [hz0, if_neg (fun e => e rfl)]; unfold told; repeat first | rw [if_pos (by omega)] | rw [if_neg (by omega)]⟩
        · refine aq rfl ?_; refine run_no ?_; refine run_skip ?_; refine run_inBlock ?_; refine rs2 (by kernel_rfl) ?_; refine k_as rfl zq ?_; refine aq rfl ?_; refine run_ret rfl ?_; refine run_res (h) rfl Tryz.func38 rfl weakSub ?_; refine hK _ _ ?_
          exact ⟨rfl, by rw [hz0, if_neg (fun e => e rfl)]; unfold told; repeat first | rw [if_pos (by omega)] | rw [if_neg (by omega)]⟩
end Go.Proofs
namespace Go.Lo
def HeapF (ys : List Int) (f lo hi : Nat) : Prop := ∀ k c, lo ≤ k → (c = 2 * k + 1 ∨ c = 2 * k + 2) → c < hi → ys.getD (f + c) 0 ≤ ys.getD (f + k) 0
def HeapR (ys : List Int) (f lo hi root : Nat) : Prop := (∀ k c, lo ≤ k → k ≠ root → (c = 2 * k + 1 ∨ c = 2 * k + 2) → c < hi → ys.getD (f + c) 0 ≤ ys.getD (f + k) 0) ∧
  ∀ p c, lo ≤ p → (root = 2 * p + 1 ∨ root = 2 * p + 2) → (c = 2 * root + 1 ∨ c = 2 * root + 2) → c < hi → ys.getD (f + c) 0 ≤ ys.getD (f + p) 0
theorem HeapR.start {ys : List Int} {f lo hi : Nat} (h : HeapF ys f (lo + 1) hi) : HeapR ys f lo hi lo := ⟨fun k c h1 h2 => h k c (by omega), fun p c h1 h2 => by omega⟩
theorem HeapR.stop {ys : List Int} {f lo hi root : Nat} (h : HeapR ys f lo hi root) (hc : ∀ c, (c = 2 * root + 1 ∨ c = 2 * root + 2) → c < hi → ys.getD (f + c) 0 ≤ ys.getD (f + root) 0) : HeapF ys f lo hi := fun k c h1 h2 h3 => by
  by_cases e : k = root
  · subst e; exact hc c h2 h3
  · exact h.1 k c h1 e h2 h3
theorem HeapR.step {ys : List Int} {f lo hi root ch : Nat} (h : HeapR ys f lo hi root) (hlo : lo ≤ root) (hch : ch = 2 * root + 1 ∨ ch = 2 * root + 2) (hlt : ch < hi) (hb : f + hi ≤ ys.length)
    (hmax : ∀ c, (c = 2 * root + 1 ∨ c = 2 * root + 2) → c < hi → ys.getD (f + c) 0 ≤ ys.getD (f + ch) 0) (hl : ys.getD (f + root) 0 < ys.getD (f + ch) 0) : HeapR (swapL ys (f + root) (f + ch)) f lo hi ch := by
  have g : ∀ k, (swapL ys (f + root) (f + ch)).getD (f + k) 0 = if k = ch then ys.getD (f + root) 0 else if k = root then ys.getD (f + ch) 0 else ys.getD (f + k) 0 := fun k => by
    rw [swapL_getD (by omega) (by omega)]; by_cases e : k = ch
    · rw [if_pos (by omega), if_pos e]
    · rw [if_neg (by omega), if_neg e]; by_cases e2 : k = root
      · rw [if_pos (by omega), if_pos e2]
      · rw [if_neg (by omega), if_neg e2]
  refine ⟨fun k c h1 h2 h3 h4 => ?_, fun p c h1 h2 h3 h4 => ?_⟩
  · rw [g, g, if_neg h2]; by_cases e : k = root
    · subst e
      rw [if_pos rfl]; by_cases e2 : c = ch
      · rw [if_pos e2]; omega
      · rw [if_neg e2, if_neg (by omega)]; exact hmax c h3 h4
    · rw [if_neg e, if_neg (by omega)]; by_cases e2 : c = root
      · rw [if_pos e2]; subst e2; exact h.2 k ch h1 h3 hch hlt
      · rw [if_neg e2]; exact h.1 k c h1 e h3 h4
  · have e : p = root := by omega
    subst e
    rw [g, g, if_neg (by omega), if_neg (by omega), if_neg (by omega), if_pos rfl]; exact h.1 ch c (by omega) (by omega) h3 h4
theorem HeapF.top {ys : List Int} {f hi : Nat} (h : HeapF ys f 0 hi) : ∀ k, k < hi → ys.getD (f + k) 0 ≤ ys.getD (f + 0) 0
  | 0, _ => by omega
  | k + 1, hk => by
    have h1 := h (k / 2) (k + 1) (by omega) (by omega) hk
    have h2 := HeapF.top h (k / 2) (by omega)
    omega
theorem HeapF.cut {ys : List Int} {f i : Nat} (h : HeapF ys f 0 (i + 1)) (hb : f + i < ys.length) : HeapF (swapL ys (f + 0) (f + i)) f 1 i := fun k c h1 h2 h3 => by
  rw [swapL_getD (by omega) (by omega), swapL_getD (by omega) (by omega), if_neg (by omega), if_neg (by omega), if_neg (by omega), if_neg (by omega)]; exact h k c (by omega) h2 (by omega)
def Pop (ys : List Int) (a b i : Nat) : Prop := HeapF ys a 0 i ∧ SortR ys (a + i) b ∧ ∀ p q, p < i → a + i ≤ q → q < b → ys.getD (a + p) 0 ≤ ys.getD q 0
theorem Pop.start {ys : List Int} {a b : Nat} (h : HeapF ys a 0 (b - a)) (hab : a ≤ b) : Pop ys a b (b - a) := ⟨h, fun p q h1 h2 h3 => by omega, fun p q h1 h2 h3 => by omega⟩
theorem Pop.step {ys zs : List Int} {a b i : Nat} (h : Pop ys a b (i + 1)) (hb : a + i < b) (hl : b ≤ ys.length) (s : Sw (a + 0) (a + i) (swapL ys (a + 0) (a + i)) zs) (hz : HeapF zs a 0 i) : Pop zs a b i := by
  obtain ⟨h1, h2, h3⟩ := h
  have hlen := s.length
  rw [swapL_length] at hlen
  have top := h1.top
  have o : ∀ k, a + i ≤ k → zs.getD k 0 = if k = a + i then ys.getD (a + 0) 0 else ys.getD k 0 := fun k hk => by
    rw [s.out (by rw [swapL_length]; omega) (.inr hk), swapL_getD (by omega) (by omega)]; by_cases e : k = a + i
    · rw [if_pos e, if_pos e]
    · rw [if_neg e, if_neg e, if_neg (by omega)]
  have up : ∀ q, a + i ≤ q → q < b → ys.getD (a + 0) 0 ≤ zs.getD q 0 := fun q hq1 hq2 => by
    rw [o q hq1]; by_cases e : q = a + i
    · rw [if_pos e]; omega
    · rw [if_neg e]; exact h3 0 q (by omega) (by omega) hq2
  have dn : ∀ k, a + 0 ≤ k → k < a + i → zs.getD k 0 ≤ ys.getD (a + 0) 0 := s.all (p := fun v => v ≤ ys.getD (a + 0) 0) (by rw [swapL_length]; omega) fun k hk1 hk2 => by
    rw [swapL_getD (by omega) (by omega), if_neg (by omega)]; by_cases e : k = a + 0
    · rw [if_pos e]; exact top i (by omega)
    · rw [if_neg e]; have := top (k - a) (by omega); rw [show a + (k - a) = k by omega] at this; exact this
  refine ⟨hz, fun p q hp hq hqb => ?_, fun p q hp hq hqb => ?_⟩
  · rw [o p (by omega), o q (by omega), if_neg (show q ≠ a + i by omega)]; by_cases e : p = a + i
    · rw [if_pos e]; exact h3 0 q (by omega) (by omega) hqb
    · rw [if_neg e]; exact h2 p q (by omega) hq hqb
  · have := dn (a + p) (by omega) (by omega); have := up q hq hqb; omega
def Part (ys : List Int) (a b i j : Nat) : Prop := (∀ k, a < k → k < i → ys.getD k 0 < ys.getD a 0) ∧ ∀ k, j < k → k < b → ys.getD a 0 ≤ ys.getD k 0
theorem Part.start (ys : List Int) (a b : Nat) : Part ys a b (a + 1) (b - 1) := ⟨fun k h1 h2 => by omega, fun k h1 h2 => by omega⟩
theorem Part.left {ys : List Int} {a b i j : Nat} (h : Part ys a b i j) (hl : ys.getD i 0 < ys.getD a 0) : Part ys a b (i + 1) j := ⟨fun k h1 h2 => by
  by_cases e : k = i
  · subst e; exact hl
  · exact h.1 k h1 (by omega), h.2⟩
theorem Part.swap {ys : List Int} {a b i j : Nat} (h : Part ys a b i j) (ha : a < i) (hij : i ≤ j) (hj : j < b) (hb : b ≤ ys.length) (h1 : ys.getD a 0 ≤ ys.getD i 0) (h2 : ys.getD j 0 < ys.getD a 0) : Part (swapL ys i j) a b (i + 1) (j - 1) := by
  have g : ∀ k, (swapL ys i j).getD k 0 = if k = j then ys.getD i 0 else if k = i then ys.getD j 0 else ys.getD k 0 := fun k => swapL_getD (by omega) (by omega)
  have hne : i ≠ j := fun e => by subst e; omega
  refine ⟨fun k hk1 hk2 => ?_, fun k hk1 hk2 => ?_⟩
  · rw [g, g, if_neg (show a ≠ j by omega), if_neg (show a ≠ i by omega), if_neg (by omega)]; by_cases e : k = i
    · rw [if_pos e]; exact h2
    · rw [if_neg e]; exact h.1 k hk1 (by omega)
  · rw [g, g, if_neg (show a ≠ j by omega), if_neg (show a ≠ i by omega)]; by_cases e : k = j
    · rw [if_pos e]; exact h1
    · rw [if_neg e, if_neg (by omega)]; exact h.2 k (by omega) hk2
def Cut (ys : List Int) (a b j : Nat) : Prop := (∀ k, a ≤ k → k < j → ys.getD k 0 ≤ ys.getD j 0) ∧ ∀ k, j < k → k < b → ys.getD j 0 ≤ ys.getD k 0
theorem Part.cut {ys : List Int} {a b i j : Nat} (h : Part ys a b i j) (ha : a ≤ j) (hij : i = j + 1) (hj : j < b) (hb : b ≤ ys.length) : Cut (swapL ys j a) a b j := by
  have g : ∀ k, (swapL ys j a).getD k 0 = if k = a then ys.getD j 0 else if k = j then ys.getD a 0 else ys.getD k 0 := fun k => swapL_getD (by omega) (by omega)
  have hjv : (swapL ys j a).getD j 0 = ys.getD a 0 := by
    rw [g]; by_cases e : j = a
    · rw [if_pos e, e]
    · rw [if_neg e, if_pos rfl]
  refine ⟨fun k hk1 hk2 => ?_, fun k hk1 hk2 => ?_⟩
  · rw [hjv, g]; by_cases e : k = a
    · rw [if_pos e]; have := h.1 j (by omega) (by omega); omega
    · rw [if_neg e, if_neg (by omega)]; have := h.1 k (by omega) (by omega); omega
  · rw [hjv, g, if_neg (by omega), if_neg (by omega)]; exact h.2 k hk1 hk2
def Pare (ys : List Int) (a b i j : Nat) : Prop := (∀ k, a ≤ k → k < i → ys.getD k 0 ≤ ys.getD a 0) ∧ ∀ k, j < k → k < b → ys.getD a 0 < ys.getD k 0
theorem Pare.start (ys : List Int) (a b : Nat) : Pare ys a b (a + 1) (b - 1) := ⟨fun k h1 h2 => by rw [show k = a by omega]; omega, fun k h1 h2 => by omega⟩
theorem Pare.left {ys : List Int} {a b i j : Nat} (h : Pare ys a b i j) (hl : ys.getD i 0 ≤ ys.getD a 0) : Pare ys a b (i + 1) j := ⟨fun k h1 h2 => by
  by_cases e : k = i
  · subst e; exact hl
  · exact h.1 k h1 (by omega), h.2⟩
theorem Pare.swap {ys : List Int} {a b i j : Nat} (h : Pare ys a b i j) (ha : a < i) (hij : i ≤ j) (hj : j < b) (hb : b ≤ ys.length) (h1 : ys.getD a 0 < ys.getD i 0) (h2 : ys.getD j 0 ≤ ys.getD a 0) : Pare (swapL ys i j) a b (i + 1) (j - 1) := by
  have g : ∀ k, (swapL ys i j).getD k 0 = if k = j then ys.getD i 0 else if k = i then ys.getD j 0 else ys.getD k 0 := fun k => swapL_getD (by omega) (by omega)
  have hne : i ≠ j := fun e => by subst e; omega
  refine ⟨fun k hk1 hk2 => ?_, fun k hk1 hk2 => ?_⟩
  · rw [g, g, if_neg (show a ≠ j by omega), if_neg (show a ≠ i by omega), if_neg (by omega)]; by_cases e : k = i
    · rw [if_pos e]; exact h2
    · rw [if_neg e]; exact h.1 k hk1 (by omega)
  · rw [g, g, if_neg (show a ≠ j by omega), if_neg (show a ≠ i by omega)]; by_cases e : k = j
    · rw [if_pos e]; exact h1
    · rw [if_neg e, if_neg (by omega)]; exact h.2 k (by omega) hk2
def Low (ys : List Int) (a b : Nat) : Prop := a = 0 ∨ ∀ k, a ≤ k → k < b → ys.getD (a - 1) 0 ≤ ys.getD k 0
end Go.Lo
namespace Go.Proofs
open Go.Lo
open Go.Conc (G)
set_option maxRecDepth 100000
set_option synthInstance.maxSize 100000
set_option synthInstance.maxHeartbeats 1000000
set_option maxHeartbeats 4000000
variable {B : Array Obj}
variable [Laid B]
section
variable {P : Program} {B : Array Obj} {m : Md P B} {ops : Array Oper} {l l' : List Value} {S h h' H : Hp} {C : List Value → Hp → Prop} {i : Nat} {kd : Kd} {r : List (Nat × Kd)}
  {d : Option Tmp} {ty : TypeId} {pos : String} {af : Array Edge} {g : Option (Nat × Bool)}
end
theorem SortR.snoc {ys : List Int} {a i : Nat} (h : SortR ys a i) (ha : a < i) (hl : ys.getD (i - 1) 0 ≤ ys.getD i 0) : SortR ys a (i + 1) := fun p q h1 h2 h3 => by
  by_cases e : q = i
  · subst e
    by_cases e2 : p = q - 1
    · subst e2; exact hl
    · have := h p (q - 1) h1 (by omega) (by omega); omega
  · exact h p q h1 h2 (by omega)

section
variable {P : Program} {B : Array Obj} {m : Md P B} {ops : Array Oper} {l l' : List Value} {S h h' H : Hp} {C : List Value → Hp → Prop} {i : Nat} {kd : Kd} {r : List (Nat × Kd)}
  {d : Option Tmp} {ty : TypeId} {pos : String} {af : Array Edge} {g : Option (Nat × Bool)}
def tabB (s : ByteArray) : Bool := (List.range 256).all fun j => match s.data[j]? with | some b => decide (j = 0 ∨ 2 ^ b.toNat ≤ 2 * j) | none => true
end
section
variable {P : Program} {B : Array Obj} {m : Md P B} {ops : Array Oper} {l l' : List Value} {S h h' H : Hp} {C : List Value → Hp → Prop} {i : Nat} {kd : Kd} {r : List (Nat × Kd)}
  {d : Option Tmp} {ty : TypeId} {pos : String} {af : Array Edge} {g : Option (Nat × Bool)}
end
def Out (ys : List Int) (a b a1 b1 : Nat) : Prop := ∀ p q, a ≤ p → p < q → q < b → (p < a1 ∨ b1 ≤ q) → ys.getD p 0 ≤ ys.getD q 0
theorem Out.all {ys : List Int} {a b a1 b1 : Nat} (h : Out ys a b a1 b1) (hs : SortR ys a1 b1) : SortR ys a b := fun p q h1 h2 h3 => by
  by_cases e : p < a1 ∨ b1 ≤ q
  · exact h p q h1 h2 h3 e
  · exact hs p q (by omega) h2 (by omega)
theorem Out.left {ys : List Int} {a b a1 b1 q0 : Nat} (h : Out ys a b a1 b1) (hc : Cut ys a1 b1 q0) (hs : SortR ys a1 q0) : Out ys a b (q0 + 1) b1 := fun p q h1 h2 h3 h4 => by
  by_cases e : p < a1 ∨ b1 ≤ q
  · exact h p q h1 h2 h3 e
  · by_cases e1 : q < q0
    · exact hs p q (by omega) h2 e1
    · by_cases e2 : q = q0
      · subst e2; exact hc.1 p (by omega) h2
      · have h5 := hc.2 q (by omega) (by omega)
        by_cases e3 : p = q0
        · subst e3; exact h5
        · have := hc.1 p (by omega) (by omega); omega
theorem Out.equal {ys : List Int} {a b a1 b1 q0 : Nat} (h : Out ys a b a1 b1) (hs : SortR ys a1 q0) (hx : ∀ p k, a1 ≤ p → p < q0 → q0 ≤ k → k < b1 → ys.getD p 0 ≤ ys.getD k 0) : Out ys a b q0 b1 := fun p q h1 h2 h3 h4 => by
  by_cases e : p < a1 ∨ b1 ≤ q
  · exact h p q h1 h2 h3 e
  · by_cases e1 : q < q0
    · exact hs p q (by omega) h2 e1
    · exact hx p q (by omega) (by omega) (by omega) (by omega)
def PdqP {B : Array Obj} (m : Md Tryz.prog B) (N : Nat) : Prop := ∀ (h : Hp) (bk n c : Nat) (xs : List Int) (junk : List Value) (lim : Int) (a b : Nat), xs.length = n → n ≤ 60000 → 0 ≤ lim → lim ≤ 1000 → a ≤ b → b ≤ n → b - a ≤ N → Low xs a b →
  FnC m 152 #[.slice (some ⟨bk, 0, none⟩) n c, .int .i64 (a : Int), .int .i64 (b : Int), .int .i64 lim] (h ++ [blkC bk xs junk]) fun v h' => v = .tuple [].toArray ∧ ∃ ys, h' = h ++ [blkC bk ys junk] ∧ Sw a b xs ys ∧ SortR ys a b
section
variable {P : Program} {B : Array Obj} {m : Md P B} {ops : Array Oper} {l l' : List Value} {S h h' H : Hp} {C : List Value → Hp → Prop} {i : Nat} {kd : Kd} {r : List (Nat × Kd)}
  {d : Option Tmp} {ty : TypeId} {pos : String} {af : Array Edge} {g : Option (Nat × Bool)}
theorem reads_eqNil (dd : Nat) {t e k n c : Nat} {p : Option Addr} [SliceT P t e k] : Reads P B (Op.equalIn (dd + 1) t (.slice p n c) (.slice none 0 0)) h p.isNone := by
  unfold Op.equalIn
  obtain ⟨hu, _⟩ := slice_und (P := P) (B := B) (h := h) (t := t)
  refine Reads.bind (still_und hu).reads ?_
  cases p <;> exact Reads.pure _
theorem k_eqNil {t u e k n c : Nat} {x y : Operand} {p : Option Addr} (ho : ops[i]? = some ⟨d, .binOp .eql t x y u, ty, pos, af, g⟩) (hw : Wt ops l g) [KHeap kd S h H] [ex : OpV l x (.slice p n c)] [ey : OpV l y (.slice none 0 0)] [SliceT P t e k]
    [PutV l d (.bool p.isNone) l'] (q : RegK m S ops r l' h C) : RegK m S ops ((i, kd) :: r) l h C :=
  RegK.rd (v := .bool p.isNone) ho hw (by
    simp only [execOp, ex.eq, ey.eq]
    refine Reads.value (Reads.bind (a := ()) ?_ ?_)
    · exact Reads.pure ()
    · show Reads P B (Op.equal t (.slice p n c) (.slice none 0 0) >>= fun b => pure (Value.bool b)) H _
      exact Reads.bind (reads_eqNil 9999) (Reads.pure _)) q
theorem k_eqNilS {t u e k n c : Nat} {x y : Operand} {p : Option Addr} {l'' : List Value} (ho : ops[i]? = some ⟨d, .binOp .eql t x y u, ty, pos, af, g⟩) (hw : Wt ops l g) [kh : KHeap kd S h H] [ex : OpV l x (.slice p n c)] [ey : OpV l y (.slice none 0 0)] [SliceT P t e k]
    [pt : PutV l d (.bool true) l'] [pf : PutV l d (.bool false) l''] (yes : p = none → RegK m S ops r l' h C) (no : p ≠ none → RegK m S ops r l'' h C) : RegK m S ops ((i, kd) :: r) l h C := by
  cases p with
  | none => have pq := pt; rw [show true = (none : Option Addr).isNone from rfl] at pq; exact k_eqNil (l' := l') ho hw (yes rfl)
  | some a => have pq := pf; rw [show false = (some a).isNone from rfl] at pq; exact k_eqNil (l' := l'') ho hw (no (by simp))
end
def lexB (ms : Nat → List Int → Int) (x o : List Int) : Nat → Nat → Bool
  | 0, _ => false
  | n + 1, j => if ms j x < ms j o then true else if ms j x ≠ ms j o then false else lexB ms x o n (j + 1)
theorem lexB_step {ms : Nat → List Int → Int} {x o : List Int} {k j : Nat} (h : j < k) : lexB ms x o (k - j) j = if ms j x < ms j o then true else if ms j x ≠ ms j o then false else lexB ms x o (k - (j + 1)) (j + 1) := by
  rw [show k - j = (k - (j + 1)) + 1 by omega]; rfl
theorem encs_drop1 (ll : List (List Int)) : (encs ll).drop (1 * 7) = encs (ll.drop 1) := (encs_drop ll 1).symm
theorem own_none {B : Array Obj} {h : Hp} {n c : Nat} {xs : List Int} (rd : RdS B h 1 (.slice none n c) n (ints xs)) : OwnS 3 1 (.slice none 0 0) n (ints xs) [] := by
  obtain ⟨p, c', e, hl, r⟩ := rd
  injection e with e1 e2 e3
  subst e1
  rcases r with ⟨_, rfl⟩ | ⟨b, o, e, _⟩
  · have h0 : ints xs = [] := List.eq_nil_of_length_eq_zero (by omega)
    rw [h0]; exact OwnS.nil
  · cases e
theorem f122_c (m : Md Tryz.prog B) (h : Hp) {b : Bk} {pm : Option Addr} {nm cm : Nat} {pr : Option Addr} {nr cr : Nat} {ln : List Int} (hl : ln.length = nm) (h7 : nm ≤ 7) (hs : Small 959 ln) : FnC m 122 #[bkV b pm nm cm pr nr cr, htV ln] h fun v h' => h' = h ∧ v = .int .i64 (strain ln) := by
  refine fn_enter Tryz.func122 rfl rfl (l := (bkV b pm nm cm pr nr cr) :: (htV ln) :: uu21) rfl ?_
  intro cf cs K hK
  refine rs3 (by kernel_rfl) ?_; refine k_box rfl zq (fun q2 => k_hp (k_put ?_)); refine k_box rfl zq (fun q3 => k_hp (k_put ?_)); refine aq rfl ?_; refine rs1 (by kernel_rfl) ?_; refine aq rfl ?_; refine run_seq ?_; refine rs5 (by kernel_rfl) ?_; refine k_ldA rfl zq ?_; refine k_ldA rfl zq ?_; refine k_calC rfl zq (by kernel_rfl) (fun H' hH => f94_c m H' hl h7 hs) ?_; rintro v bnew bo; refine k_hpA (k_put ?_); obtain ⟨pb, cb, rfl, _⟩ := bo.len
  have rdb : RdS B bnew 1 (.slice pb _ cb) _ _ := bo.rd'
  have hbl := bends_length ln
  have hbb := Small.bends hs
  refine k_len rfl zq ?_; refine mq rfl ?_; refine k_nil ?_; refine run_block ?_; refine m.weak (h' := h ++ bnew) weakSub ?_
  refine run_loop (fun nn l h' => ∃ (k : Nat) (s : Int), nn = nm - k ∧ (k ≤ nm - 2) ∧ (s = sqs ((bends ln).take k)) ∧ (0 ≤ s) ∧ (s ≤ 160000000000 * k) ∧ (∃ U : Nat → Value, l = [bkV b pm nm cm pr nr cr, htV ln, U 2, U 3, U 4, .int .i64 s, U 6, U 7, U 8, U 9, .slice pb (nm - 2) cb, .int .i64 ((nm - 2 : Nat) : Int), .int .i64 (k : Int), U 13, U 14, U 15, U 16, U 17, U 18, U 19, U 20, U 21, U 22]) ∧ h ++ bnew = h') _ ⟨0, 0, rfl, by omega, rfl, by omega, by omega, exU rfl, rfl⟩ ?_; rintro nn l h' ⟨k, s, rfl, hk, hs', hs0, hs1, ⟨U, rfl⟩, rfl⟩ hnext; have hsq := sq_bound (hbb k)
  refine rs1 (by kernel_rfl) ?_; refine k_lssS rfl zq (fun hc => ?_) (fun hc => ?_)
  · refine k_nil ?_; refine run_seq ?_; refine run_yes ?_; refine run_skip ?_; refine run_seq ?_; refine run_block ?_; refine rs3 (by kernel_rfl) ?_; obtain ⟨rdb_b, rdb_o, rfl⟩ := rdb.ptr (by omega)
    refine k_ixs rfl zq (by first | rfl | assumption) (by omega) (by omega) ?_; refine k_ld rfl zq (rdb.iat k (by omega) (by omega)) ?_; refine aq rfl ?_; refine rr6 (by kernel_rfl) ?_; refine mq rfl ?_; refine mq rfl ?_; refine mq rfl ?_; refine k_mul rfl zq (by unfold In64; omega) ?_; refine k_add rfl zq (by unfold In64; omega) ?_; refine aq rfl ?_; refine run_inBlock ?_; refine rr2 (by kernel_rfl) ?_; refine k_add rfl zq (by unfold In64; omega) ?_; refine mq rfl ?_; refine k_nil ?_; exact m.weak weakSub (hnext _ _ _ (by omega) ⟨k + 1, _, rfl, by omega, by rw [sqs_take _ _ (by omega), ← hs'], by omega, by omega, exU rfl, rfl⟩)
  · refine k_nil ?_; refine run_seq ?_; refine run_no ?_; refine run_exit rfl ?_; refine rs2 (by kernel_rfl) ?_; refine mq rfl ?_; refine aq rfl ?_; refine run_ret rfl ?_; refine run_res (h) rfl Tryz.func122 rfl weakSub ?_; refine hK _ _ ?_
    obtain rfl : k = nm - 2 := by omega
    rw [List.take_of_length_le (by omega)] at hs'
    exact ⟨rfl, by rw [hs']; rfl⟩
theorem f154_c (m : Md Tryz.prog B) (h : Hp) {p : Option Addr} {n c : Nat} {xs : List Int} (rd : RdS B h 1 (.slice p n c) n (ints xs)) (hn : n ≤ 1000) : FnC m 154 #[.slice p n c] h fun v h' => ∃ nw, h' = h ++ nw ∧ OwnS 3 1 v n (ints xs) nw := by
  refine fn_enter Tryz.func154 rfl rfl (l := (.slice p n c) :: uu7) rfl ?_
  intro cf cs K hK
  refine rs1 (by kernel_rfl) ?_; refine aq rfl ?_; refine run_seq ?_; refine rs2 (by kernel_rfl) ?_; refine mq rfl ?_; refine k_eqNilS rfl zq (fun hc => ?_) (fun hc => ?_)
  · refine k_nil ?_; refine run_yes ?_; refine rs1 (by kernel_rfl) ?_; refine aq rfl ?_; refine run_ret rfl ?_; refine run_res (h) rfl Tryz.func154 rfl weakSub ?_; refine hK _ _ ?_
    exact ⟨[], by simp, by subst hc; exact own_none rd⟩
  · refine k_nil ?_; refine run_no ?_; refine run_skip ?_; refine rs4 (by kernel_rfl) ?_; refine k_bs0 kdq rfl zq (fun q5 => k_hp (k_put ?_)); refine mq rfl ?_; refine k_app (F := h) rfl zq weakSub OwnS.zero rd.up (ints_one _) kdq (by omega) (by omega) (fun w9 n9 o9 => k_put ?_); refine aq rfl ?_; refine run_ret rfl ?_; refine run_res (h ++ n9) rfl Tryz.func154 rfl weakSub ?_; refine hK _ _ ?_
    exact ⟨n9, rfl, by simpa using o9⟩
theorem f123_c (m : Md Tryz.prog B) (h : Hp) {b : Bk} {pm : Option Addr} {nm cm : Nat} {pr : Option Addr} {nr cr : Nat} {l : List Int} (hl : l.length = nm) (h7 : nm ≤ 7) : FnC m 123 #[bkV b pm nm cm pr nr cr, htV l] h fun v h' => ∃ nw, h' = h ++ nw ∧ OwnS 3 1 v nm (ints l) nw := by
  refine fn_enter Tryz.func123 rfl rfl (l := (bkV b pm nm cm pr nr cr) :: (htV l) :: uu7) rfl ?_
  intro cf cs K hK
  refine rs3 (by kernel_rfl) ?_; refine k_box rfl zq (fun q2 => k_hp (k_put ?_)); refine k_box rfl zq (fun q3 => k_hp (k_put ?_)); refine aq rfl ?_; refine rs5 (by kernel_rfl) ?_; refine k_ldA rfl zq ?_; refine k_calP (Post := fun v => v = _) rfl zq (by kernel_rfl) (fun H' hH => f118_c m H' _ _ _ _ _ _ _ _ _) ?_; rintro v rfl; refine k_put ?_; refine k_slA (c := nm) rfl zq rfl (by omega) ?_; refine k_calC rfl zq (by kernel_rfl) (fun H' hH => f154_c m H' ((rdS_hts (q := q3) hl h7 7).keeps hH) (by omega)) ?_; rintro v nw o; refine k_hpA (k_put ?_); refine aq rfl ?_; refine run_ret rfl ?_; refine run_res (h ++ nw) rfl Tryz.func123 rfl weakSub ?_; refine hK _ _ ?_
  exact ⟨nw, rfl, o⟩
theorem f121_c (m : Md Tryz.prog B) (h : Hp) {vb vo n c : Nat} {ll : List (List Int)} (rd : RdS B h 7 (.slice (some ⟨vb, vo, none⟩) n c) n (encs ll)) (hn : n ≤ 100000) (hpos : 0 < n) (hnc : n ≤ c) {k wb wo wc : Nat} {ws : List Value} (rdw : RdS B h 1 (.slice (some ⟨wb, wo, none⟩) k wc) k ws) (hk9 : k ≤ 9) {ms : Nat → List Int → Int} (hms : ∀ j, j < k → ∃ fid fc cp, ws.getD j undef = .func (.func fid) fc cp ∧ callB Tryz.prog fid = true ∧ ∀ x ∈ ll, ∀ H' : Hp, h.Sublist H' → FnC m fid (fc ++ [htV x].toArray ++ cp) H' fun v h' => h' = H' ∧ v = .int .i64 (ms j x)) : FnC m 121 #[.slice (some ⟨vb, vo, none⟩) n c, .slice (some ⟨wb, wo, none⟩) k wc] h fun v h' => h' = h ∧ v = htV (bestBy (fun x o => lexB ms x o k 0) ll) := by
  have hln := rd.elen (by decide)
  refine fn_enter Tryz.func121 rfl rfl (l := (.slice (some ⟨vb, vo, none⟩) n c) :: (.slice (some ⟨wb, wo, none⟩) k wc) :: uu42) rfl ?_
  intro cf cs K hK
  refine rs1 (by kernel_rfl) ?_; refine k_new rfl zq (fun q4 => k_hp (k_put ?_)); refine k_nil ?_; refine rs5 (by kernel_rfl) ?_; refine mq rfl ?_; refine k_ixs rfl zq (by first | rfl | assumption) (by omega) (by omega) ?_; refine k_ldN (vs := hts (ll.getD 0 default)) rfl zq (hts_length _) (rd.eat 0 (by omega) (by omega)) ?_; refine k_new rfl zq (fun q5 => k_hp (k_put ?_)); refine k_stA rfl zq (by first | rfl | exact hts_length _) ?_; refine k_nil ?_; refine run_seq ?_; refine rs4 (by kernel_rfl) ?_; have hln := rd.elen (by decide)
  have rdc := rd.cut (lo := 1) (by omega) hnc
  rw [encs_drop1] at rdc
  refine mq rfl ?_; refine k_slFrom (a := 1) rfl zq rfl (by omega) ?_; generalize hcp : cutP 7 (some ⟨vb, vo, none⟩) c 1 = cp at rdc ⊢
  refine k_len rfl zq ?_; refine mq rfl ?_; refine k_nil ?_; refine run_block ?_; refine run_loop (fun nn l h' => ∃ (i : Nat) (g : List Int), nn = n - i ∧ (i ≤ n - 1) ∧ (g = bestBy (fun x o => lexB ms x o k 0) (ll.take (i + 1))) ∧ (∃ U : Nat → Value, l = [.slice (some ⟨vb, vo, none⟩) n c, .slice (some ⟨wb, wo, none⟩) k wc, U 2, U 3, .pointer (some ⟨q4, 0, none⟩), .pointer (some ⟨q5, 0, none⟩), U 6, U 7, U 8, U 9, U 10, U 11, U 12, U 13, U 14, U 15, .slice cp (n - 1) (c - 1), .int .i64 ((n - 1 : Nat) : Int), .int .i64 (i : Int), U 19, U 20, U 21, U 22, U 23, U 24, U 25, U 26, U 27, U 28, U 29, U 30, U 31, U 32, U 33, U 34, U 35, U 36, U 37, U 38, U 39, U 40, U 41, U 42, U 43]) ∧ h ++ [⟨true, q4, .cells (hts []).toArray 112 (0, 0)⟩, ⟨true, q5, .cells (hts g).toArray 112 (0, 0)⟩] = h') _ ⟨0, _, rfl, by omega, (bestBy_one _ _).symm, exU rfl, rfl⟩ ?_; rintro nn l h' ⟨i, g, rfl, hi, hg, ⟨U, rfl⟩, rfl⟩ hnext1; have hgm : g ∈ ll := by rw [hg]; exact List.mem_of_mem_take (bestBy_mem _ _ (by rw [List.length_take]; omega))
  refine rs1 (by kernel_rfl) ?_; refine k_lssS rfl zq (fun hc => ?_) (fun hc => ?_)
  · refine k_nil ?_; refine run_seq ?_; refine run_yes ?_; refine run_skip ?_; refine run_seq ?_; refine run_block ?_; refine rs4 (by kernel_rfl) ?_; obtain ⟨cb, co, rfl⟩ := rdc.ptr (by omega)
    refine k_ixs rfl zq (by first | rfl | assumption) (by omega) (by omega) ?_; refine k_ldN (vs := hts ((ll.drop 1).getD i default)) rfl zq (hts_length _) (rdc.eat i (by omega) (by omega)) ?_; have hx0 : (ll.drop 1).getD i default = ll.getD (i + 1) [] := by rw [List.getD_eq_getElem?_getD, List.getElem?_drop, Nat.add_comm, List.getD_eq_getElem?_getD]; rfl
    have hbs := bestBy_succ (fun x o => lexB ms x o k 0) ll (i + 1) (by omega) (by omega)
    have hxm : ll.getD (i + 1) [] ∈ ll := mem_getDR.2 ⟨i + 1, by omega, rfl⟩
    rw [hx0]; rw [← hg] at hbs
    generalize ll.getD (i + 1) [] = x at hbs hxm ⊢
    refine k_new rfl zq (fun q7 => k_hp (k_put ?_)); refine k_stA rfl zq (by first | rfl | exact hts_length _) ?_; refine k_nil ?_; refine rs3 (by kernel_rfl) ?_; refine mq rfl ?_; refine k_len rfl zq ?_; refine mq rfl ?_; refine k_nil ?_; refine run_block ?_; refine run_loop (fun nn l h' => ∃ (j : Nat), nn = k - j ∧ (j ≤ k) ∧ (lexB ms x g k 0 = lexB ms x g (k - j) j) ∧ (∃ U : Nat → Value, l = [.slice (some ⟨vb, vo, none⟩) n c, .slice (some ⟨wb, wo, none⟩) k wc, U 2, U 3, .pointer (some ⟨q4, 0, none⟩), .pointer (some ⟨q5, 0, none⟩), U 6, .pointer (some ⟨q7, 0, none⟩), U 8, U 9, U 10, U 11, U 12, U 13, U 14, U 15, .slice (some ⟨cb, co, none⟩) (n - 1) (c - 1), .int .i64 ((n - 1 : Nat) : Int), .int .i64 (i : Int), U 19, U 20, U 21, .slice (some ⟨wb, wo, none⟩) k wc, .int .i64 (k : Int), .int .i64 (j : Int), U 25, U 26, U 27, U 28, U 29, U 30, U 31, U 32, U 33, U 34, U 35, U 36, U 37, U 38, U 39, U 40, U 41, U 42, U 43]) ∧ h ++ [⟨true, q4, .cells (hts []).toArray 112 (0, 0)⟩, ⟨true, q5, .cells (hts g).toArray 112 (0, 0)⟩, ⟨true, q7, .cells (hts x).toArray 112 (0, 0)⟩] = h') _ ⟨0, rfl, by omega, rfl, exU rfl, rfl⟩ ?_; rintro nn l h' ⟨j, rfl, hj, hlx, ⟨U, rfl⟩, rfl⟩ hnext2; refine rs1 (by kernel_rfl) ?_; refine k_lssS rfl zq (fun hc => ?_) (fun hc => ?_)
    · refine k_nil ?_; refine run_seq ?_; refine run_yes ?_; refine run_skip ?_; refine run_seq ?_; refine run_block ?_; refine rs3 (by kernel_rfl) ?_; refine k_ixs rfl zq (by first | rfl | assumption) (by omega) (by omega) ?_; obtain ⟨fid, fc, cp, hwe, hcb, hfn⟩ := hms j (by omega)
      refine k_ld (v := .func (.func fid) fc cp) rfl zq (by rw [← hwe]; exact rdw.vat j (by omega) (by omega)) ?_; refine aq rfl ?_; refine run_seq ?_; refine run_draw [(0, .pure), (3, .pure), (1, .read), (4, .read), (2, .keep), (5, .keep), (6, .pure), (7, .pure)] (by kernel_rfl) (by kernel_rfl) (List.Sublist.refl _) ?_; refine mq rfl ?_; refine mq rfl ?_; refine k_ldN (vs := hts x) rfl zq (hts_length _) (rdN_has (q := q7)) ?_; refine k_ldN (vs := hts g) rfl zq (hts_length _) (rdN_has (q := q5)) ?_; refine k_valP (Post := fun v => v = _) rfl zq hcb (fun H' hH => hfn x hxm H' (sq hH)) ?_; rintro v rfl; refine k_put ?_; refine k_valP (Post := fun v => v = _) rfl zq hcb (fun H' hH => hfn g hgm H' (sq hH)) ?_; rintro v rfl; refine k_put ?_; refine k_as rfl zq ?_; refine aq rfl ?_; refine run_seq ?_; refine rs3 (by kernel_rfl) ?_; refine mq rfl ?_; refine mq rfl ?_; refine k_lssS rfl zq (fun hc => ?_) (fun hc => ?_)
      · have hA := hc
        refine k_nil ?_; refine run_yes ?_; refine rr2 (by kernel_rfl) ?_; refine k_ldA rfl zq ?_; refine k_stA rfl zq (by first | rfl | exact hts_length _) ?_; refine k_nil ?_; refine rs3 (by kernel_rfl) ?_; refine mq rfl ?_; refine mq rfl ?_; refine k_neqS rfl zq (fun hc => ?_) (fun hc => ?_)
        · have hD := hc
          refine k_nil ?_; refine run_yes ?_; refine run_exit rfl ?_; refine run_inBlock ?_; refine rr2 (by kernel_rfl) ?_; refine k_add rfl zq (by unfold In64; omega) ?_; refine mq rfl ?_; refine k_nil ?_; exact m.weak weakSub (hnext1 _ _ _ (by omega) ⟨i + 1, x, rfl, by omega, by rw [hbs, hlx, lexB_step (by omega), if_pos hA, if_pos rfl], exU rfl, rfl⟩)
        · have hD := hc
          refine k_nil ?_; refine run_no ?_; refine run_skip ?_; refine run_inBlock ?_; refine rr2 (by kernel_rfl) ?_; refine k_add rfl zq (by unfold In64; omega) ?_; refine mq rfl ?_; refine k_nil ?_; exfalso; omega
      · have hA : ¬ ms j x < ms j g := by omega
        refine k_nil ?_; refine run_no ?_; refine run_skip ?_; refine rs3 (by kernel_rfl) ?_; refine mq rfl ?_; refine mq rfl ?_; refine k_neqS rfl zq (fun hc => ?_) (fun hc => ?_)
        · have hD := hc
          refine k_nil ?_; refine run_yes ?_; refine run_exit rfl ?_; refine run_inBlock ?_; refine rr2 (by kernel_rfl) ?_; refine k_add rfl zq (by unfold In64; omega) ?_; refine mq rfl ?_; refine k_nil ?_; exact m.weak weakSub (hnext1 _ _ _ (by omega) ⟨i + 1, g, rfl, by omega, by rw [hbs, hlx, lexB_step (by omega), if_neg hA, if_pos hD, if_neg (by decide)], exU rfl, rfl⟩)
        · have hD := hc
          refine k_nil ?_; refine run_no ?_; refine run_skip ?_; refine run_inBlock ?_; refine rr2 (by kernel_rfl) ?_; refine k_add rfl zq (by unfold In64; omega) ?_; refine mq rfl ?_; refine k_nil ?_; exact m.weak weakSub (hnext2 _ _ _ (by omega) ⟨j + 1, rfl, by omega, by rw [hlx, lexB_step (by omega), if_neg hA, if_neg (fun e => e hD)], exU rfl, rfl⟩)
    · refine k_nil ?_; refine run_seq ?_; refine run_no ?_; refine run_exit rfl ?_; refine run_inBlock ?_; refine rr2 (by kernel_rfl) ?_; refine k_add rfl zq (by unfold In64; omega) ?_; refine mq rfl ?_; refine k_nil ?_; exact m.weak weakSub (hnext1 _ _ _ (by omega) ⟨i + 1, g, rfl, by omega, by rw [hbs, hlx, show k - j = 0 by omega, lexB, if_neg (by decide)], exU rfl, rfl⟩)
  · refine k_nil ?_; refine run_seq ?_; refine run_no ?_; refine run_exit rfl ?_; refine rs2 (by kernel_rfl) ?_; refine k_ldN (vs := hts g) rfl zq (hts_length _) (rdN_has (q := q5)) ?_; refine k_stA rfl zq (by first | rfl | exact hts_length _) ?_; refine k_nil ?_; refine run_ret rfl ?_; refine run_res (h) rfl Tryz.func121 rfl weakSub ?_; refine hK _ _ ?_
    obtain rfl : i = n - 1 := by omega
    rw [List.take_of_length_le (by omega)] at hg
    subst hg
    exact ⟨rfl, rfl⟩
theorem lexB_one {ms : Nat → List Int → Int} : (fun x o => lexB ms x o 1 0) = fun x o => decide (ms 0 x < ms 0 o) := by
  funext x o
  simp only [lexB, Nat.zero_add]
  split
  · rw [decide_eq_true (by assumption)]
  · rw [decide_eq_false (by assumption)]; split <;> rfl
theorem lexB_two {ms : Nat → List Int → Int} : (fun x o => lexB ms x o 2 0) = fun x o => decide (ms 0 x < ms 0 o ∨ (ms 0 x = ms 0 o ∧ ms 1 x < ms 1 o)) := by
  funext x o
  simp only [lexB, Nat.zero_add]
  split
  · rw [decide_eq_true (by omega)]
  · split
    · rw [decide_eq_false (by omega)]
    · split
      · rw [decide_eq_true (by omega)]
      · rw [decide_eq_false (by omega)]; split <;> rfl
theorem boats_ln {b : Bk} {x : List Int} (hv : Valid b) {nm : Nat} (hm : b.marks.length = nm) (h : x ∈ boatsOf b) : x.length = nm ∧ Small 959 x := ⟨(boats_len h).trans hm, boats_small hv h⟩
theorem callB122 : callB Tryz.prog 122 = true := by kernel_rfl
theorem f40_c (m : Md Tryz.prog B) (h : Hp) {b : Bk} {pm : Option Addr} {nm cm : Nat} {pr : Option Addr} {nr cr : Nat} (rdm : RdS B h 2 (.slice pm nm cm) nm (encs b.marks)) (hm : nm ≤ 1000) (rdr : RdS B h 4 (.slice pr nr cr) nr (encs b.rules)) (hr : nr ≤ 1000) : FnC m 40 #[bkV b pm nm cm pr nr cr] h fun v h' => ∃ new, h' = h ++ new ∧ ∃ w, v = .tuple [w, .int .i64 (straightN b), .int .i64 (openS b 0)].toArray ∧ RdI B new w (straightL b) := by
  refine fn_enter Tryz.func40 rfl rfl (l := (bkV b pm nm cm pr nr cr) :: uu29) rfl ?_
  intro cf cs K hK
  refine rs4 (by kernel_rfl) ?_; refine k_box rfl zq (fun q1 => k_hp (k_put ?_)); refine k_as rfl zq ?_; refine k_as rfl zq ?_; refine aq rfl ?_; refine rs8 (by kernel_rfl) ?_; refine k_ldA rfl zq ?_; refine k_calC rfl zq (by kernel_rfl) (Post := fun v nw => Opened b (bkV b pm nm cm pr nr cr) (openS b (0)) nw v) (fun H' hH => f107_c m H' (rdm.keeps (sq hH)) hm (rdr.keeps (sq hH)) hr callB120 (fun hbz K hK => by simpa using f120_c m K)) ?_; rintro v nw ⟨x1, x2, x3, y1, y2, y3, y4, y5, y6, z1, z2, z3, rfl, hz⟩; refine k_hpA (k_put ?_); refine mq rfl ?_; refine k_ext0 rfl zq ?_; refine k_ext1 rfl zq ?_; refine k_new rfl zq (fun q5 => k_hp (k_put ?_)); refine k_stA rfl zq rfl ?_; refine aq rfl ?_; refine run_seq ?_; refine rs2 (by kernel_rfl) ?_; refine mq rfl ?_; refine k_neqS rfl zq (fun hc => ?_) (fun hc => ?_)
  · refine k_nil ?_; refine run_yes ?_; refine rs4 (by kernel_rfl) ?_; refine mq rfl ?_; refine k_as rfl zq ?_; refine k_as rfl zq ?_; refine aq rfl ?_; refine run_ret rfl ?_; refine run_res (h) rfl Tryz.func40 rfl weakSub ?_; refine hK _ _ ?_
    exact ⟨[], by simp, _, by rw [straightN, if_pos (by assumption)], by rw [straightL, if_pos (by assumption)]; exact RdI.nil⟩
  · refine k_nil ?_; refine run_no ?_; refine run_skip ?_; refine rs9 (by kernel_rfl) ?_; have hz0 : openS b 0 = 0 := by first | assumption | omega
    obtain ⟨hz1, rfl, hzc, rdB⟩ := hz hz0
    obtain ⟨rfl, rfl, rfl, rfl, rfl, rfl, rfl, rfl, rfl⟩ := bookV_inj hz1
    obtain ⟨hbz, hoz, hbne⟩ := openS_zero hz0
    have hv := valid_of hbz
    have h7 := hv.many
    have hml := rdm.elen (by decide)
    have hbl := boats_le hv
    have hpos : 0 < (boatsOf b).length := List.length_pos_iff.2 hbne
    obtain ⟨zb, zo, rfl⟩ := RdS.ptr (B := B) rdB hpos
    first | refine k_fa0 rfl zq ?_ | refine k_fa rfl zq ?_
    refine k_ldh rfl zq ?_; first | refine k_fa0 rfl zq ?_ | refine k_fa rfl zq ?_
    refine k_ldA rfl zq ?_; refine k_fun rfl zq ?_; refine k_bs kdq rfl zq (by decide) (by decide) rfl (fun q20 => k_hp (k_put ?_)); refine k_calP (Post := fun v => v = _) rfl zq (by kernel_rfl) (fun H' hH => f121_c m H' (ms := fun _ => strain) (rdB.keeps (sq hH)) (by omega) hpos hzc ((rdS_has (q := q20) rfl).keeps hH) (by decide) (fun j hj => ⟨122, #[bkV b pm nm cm pr nr cr], #[], (by obtain rfl : j = 0 := (by omega); rfl), callB122, fun x hx K hK => f122_c m K (boats_ln hv hml hx).1 (by omega) (boats_ln hv hml hx).2⟩)) ?_; rintro v rfl; refine k_put ?_; refine k_new rfl zq (fun q6 => k_hp (k_put ?_)); refine k_stA rfl zq (by first | rfl | exact hts_length _) ?_; refine k_nil ?_; refine run_seq ?_; refine run_draw [(0, .pure), (4, .pure), (1, .read), (2, .read), (5, .read), (6, .read), (3, .keep), (7, .keep), (8, .pure), (9, .pure), (10, .pure)] (by kernel_rfl) (by kernel_rfl) (List.Sublist.refl _) ?_; rw [lexB_one]; have hgm : bestBy ltStrain (boatsOf b) ∈ boatsOf b := bestBy_mem _ _ hpos
    have hge : (bestBy (fun x o => decide ((fun (_ : Nat) => strain) 0 x < (fun (_ : Nat) => strain) 0 o)) (boatsOf b)) = bestBy ltStrain (boatsOf b) := rfl
    rw [hge]; generalize hg : bestBy ltStrain (boatsOf b) = gg at hgm ⊢
    obtain ⟨hgl, hgs⟩ := boats_ln hv hml hgm
    first | refine k_fa0 rfl zq ?_ | refine k_fa rfl zq ?_
    first | refine k_fa0 rfl zq ?_ | refine k_fa rfl zq ?_
    refine k_ldA rfl zq ?_; refine k_ldN (vs := hts gg) rfl zq (hts_length _) (rdN_has (q := q6)) ?_; refine k_ldA rfl zq ?_; refine k_ldN (vs := hts gg) rfl zq (hts_length _) (rdN_has (q := q6)) ?_; refine k_calC rfl zq (by kernel_rfl) (fun H' hH => f123_c m H' hgl (by omega)) ?_; rintro v n3 o3; refine k_hpA (k_put ?_); refine k_calP (Post := fun v => v = _) rfl zq (by kernel_rfl) (fun H' hH => f122_c m H' hgl (by omega) hgs) ?_; rintro v rfl; refine k_put ?_; refine k_as rfl zq ?_; refine k_as rfl zq ?_; refine aq rfl ?_; refine run_ret rfl ?_; refine run_res (h ++ n3) rfl Tryz.func40 rfl weakSub ?_; refine hK _ _ ?_
    have e1 : straightL b = gg := by rw [straightL, if_neg (fun e => e hz0), hg]
    have e2 : straightN b = strain gg := by rw [straightN, if_neg (fun e => e hz0), hg]
    exact ⟨n3, rfl, _, by rw [hz0, e2], by rw [e1]; exact OwnS.rdI (hgl ▸ o3)⟩
theorem padL_getD {l : List Int} (hl : l.length ≤ 7) (k : Nat) : (padL l).getD k 0 = l.getD k 0 := by
  have h7 := padL_length l
  by_cases hk : k < 7
  · have := padL_get (l := l) hk
    rw [List.getD_eq_getElem?_getD, this]; rfl
  · rw [List.getD_eq_getElem?_getD, List.getD_eq_getElem?_getD, List.getElem?_eq_none (by omega), List.getElem?_eq_none (by omega)]
theorem padL_app {l : List Int} (hl : l.length ≤ 7) : padL l = l ++ List.replicate (7 - l.length) 0 := by
  rw [padL, List.take_append, List.take_of_length_le hl, List.take_replicate, Nat.min_eq_left (by omega)]
theorem gaps_app : ∀ (x y : List Int) (k : Nat), x.length = y.length → gaps (x ++ List.replicate k 0) (y ++ List.replicate k 0) = gaps x y ++ List.replicate k 0
  | [], [], k, _ => by
    induction k with
    | zero => rfl
    | succ k ih => simp only [List.nil_append, gaps, List.replicate_succ, List.zipWith_cons_cons] at ih ⊢; rw [ih]; rfl
  | a :: r, b :: s, k, h => by
    have := gaps_app r s k (by simpa using h)
    simp only [gaps, List.cons_append, List.zipWith_cons_cons] at this ⊢
    rw [this]
  | [], _ :: _, _, h => by simp at h
  | _ :: _, [], _, h => by simp at h
theorem sumL_zeros (l : List Int) : ∀ k, sumL (l ++ List.replicate k 0) = sumL l
  | 0 => by simp
  | k + 1 => by
    rw [List.replicate_succ', ← List.append_assoc, sumL, List.foldl_append]; have := sumL_zeros l k
    rw [sumL] at this
    rw [this]; simp
theorem mostL_nonneg (l : List Int) : 0 ≤ mostL l := by
  have gen : ∀ (r : List Int) (a : Int), a ≤ r.foldl max a := by
    intro r
    induction r with
    | nil => exact fun a => Int.le_refl _
    | cons x r ih => exact fun a => Int.le_trans (by omega : a ≤ max a x) (ih _)
  exact gen l 0
theorem mostL_zeros (l : List Int) : ∀ k, mostL (l ++ List.replicate k 0) = mostL l
  | 0 => by simp
  | k + 1 => by
    rw [List.replicate_succ', ← List.append_assoc, mostL, List.foldl_append]; have := mostL_zeros l k
    rw [mostL] at this
    rw [this]; have := mostL_nonneg l
    show max (mostL l) 0 = mostL l
    omega
theorem gaps_comm : ∀ (x y : List Int), gaps x y = gaps y x
  | [], [] => rfl
  | a :: r, b :: s => by
    have := gaps_comm r s
    simp only [gaps, List.zipWith_cons_cons] at this ⊢
    rw [this, show max (a - b) (b - a) = max (b - a) (a - b) by omega]
  | [], _ :: _ => rfl
  | _ :: _, [] => rfl
theorem f156_c (m : Md Tryz.prog B) (h : Hp) {x y : List Int} (hx : x.length ≤ 7) (hxy : x.length = y.length) (hsx : Small 959 x) (hsy : Small 959 y) : FnC m 156 #[htV x, htV y] h fun v h' => h' = h ∧ v = .tuple [.int .i64 (sumL (gaps x y)), .int .i64 (mostL (gaps x y))].toArray := by
  refine fn_enter Tryz.func156 rfl rfl (l := (htV x) :: (htV y) :: uu33) rfl ?_
  intro cf cs K hK
  refine rs4 (by kernel_rfl) ?_; refine k_box rfl zq (fun q2 => k_hp (k_put ?_)); refine k_box rfl zq (fun q3 => k_hp (k_put ?_)); refine k_as rfl zq ?_; refine aq rfl ?_; refine run_seq ?_; refine rs1 (by kernel_rfl) ?_; refine mq rfl ?_; refine k_nil ?_; refine run_block ?_; refine run_loop (fun nn l h' => ∃ (k : Nat) (s t : Int), nn = 7 - k ∧ (k ≤ 7) ∧ (s = sumL ((gaps (padL x) (padL y)).take k)) ∧ (t = mostL ((gaps (padL x) (padL y)).take k)) ∧ (0 ≤ s ∧ s ≤ 2000 * k) ∧ (0 ≤ t ∧ t ≤ 2000) ∧ (∃ U : Nat → Value, l = [htV x, htV y, .pointer (some ⟨q2, 0, none⟩), .pointer (some ⟨q3, 0, none⟩), .int .i64 s, .int .i64 t, U 6, U 7, .int .i64 (k : Int), U 9, U 10, U 11, U 12, U 13, U 14, U 15, U 16, U 17, U 18, U 19, U 20, U 21, U 22, U 23, U 24, U 25, U 26, U 27, U 28, U 29, U 30, U 31, U 32, U 33, U 34]) ∧ h ++ [⟨true, q2, .cells (hts x).toArray 112 (0, 0)⟩, ⟨true, q3, .cells (hts y).toArray 112 (0, 0)⟩] = h') _ ⟨0, 0, 0, rfl, by omega, rfl, rfl, by omega, by omega, exU rfl, rfl⟩ ?_; rintro nn l h' ⟨k, s, t, rfl, hk, hs, ht, hs0, ht0, ⟨U, rfl⟩, rfl⟩ hnext; have hxk := hsx k
  have hyk := hsy k
  have hgk : ∀ j, j < 7 → (gaps (padL x) (padL y)).getD j 0 = max (x.getD j 0 - y.getD j 0) (y.getD j 0 - x.getD j 0) := fun j hj => by rw [gaps_getD _ _ _ (by rw [padL_length]; exact hj) (by rw [padL_length]; exact hj), padL_getD hx, padL_getD (by omega)]
  have hgl : (gaps (padL x) (padL y)).length = 7 := by rw [gaps_length _ _ (by rw [padL_length, padL_length]; exact Nat.le_refl _), padL_length]
  refine rs1 (by kernel_rfl) ?_; refine k_lssS rfl zq (fun hc => ?_) (fun hc => ?_)
  · refine k_nil ?_; refine run_seq ?_; refine run_yes ?_; refine run_skip ?_; refine run_seq ?_; refine run_block ?_; refine rs2 (by kernel_rfl) ?_; refine mq rfl ?_; refine aq rfl ?_; refine run_seq ?_; refine run_draw [(0, .pure), (1, .pure), (3, .pure), (4, .pure), (7, .pure), (8, .pure), (10, .pure), (11, .pure), (2, .read), (5, .read), (6, .pure), (9, .read), (12, .read), (13, .pure), (14, .pure), (15, .pure)] (by kernel_rfl) (by kernel_rfl) (List.Sublist.refl _) ?_; refine mq rfl ?_; refine k_ixa rfl zq (by omega) (by omega) ?_; refine mq rfl ?_; refine k_ixa rfl zq (by omega) (by omega) ?_; refine mq rfl ?_; refine k_ixa rfl zq (by omega) (by omega) ?_; refine mq rfl ?_; refine k_ixa rfl zq (by omega) (by omega) ?_; refine k_ld rfl zq (rd_hts (q := q2) k (by omega) (by omega)) ?_; refine k_ld rfl zq (rd_hts (q := q3) k (by omega) (by omega)) ?_; refine k_sub rfl zq (by unfold In64; omega) ?_; refine k_ld rfl zq (rd_hts (q := q3) k (by omega) (by omega)) ?_; refine k_ld rfl zq (rd_hts (q := q2) k (by omega) (by omega)) ?_; refine k_sub rfl zq (by unfold In64; omega) ?_; refine k_max rfl zq ?_; refine aq rfl ?_; refine rr8 (by kernel_rfl) ?_; refine mq rfl ?_; refine mq rfl ?_; refine k_add rfl zq (by unfold In64; omega) ?_; refine mq rfl ?_; refine mq rfl ?_; refine k_max rfl zq ?_; refine k_as rfl zq ?_; refine aq rfl ?_; refine run_inBlock ?_; refine rr2 (by kernel_rfl) ?_; refine k_add rfl zq (by unfold In64; omega) ?_; refine mq rfl ?_; refine k_nil ?_; exact m.weak weakSub (hnext _ _ _ (by omega) ⟨k + 1, _, _, rfl, by omega, by rw [sumL_take _ _ (by omega), ← hs, hgk k (by omega)], by rw [mostL_take _ _ (by omega), ← ht, hgk k (by omega)], by omega, by omega, exU rfl, rfl⟩)
  · refine k_nil ?_; refine run_seq ?_; refine run_no ?_; refine run_exit rfl ?_; refine rs4 (by kernel_rfl) ?_; refine mq rfl ?_; refine mq rfl ?_; refine k_as rfl zq ?_; refine aq rfl ?_; refine run_ret rfl ?_; refine run_res (h) rfl Tryz.func156 rfl weakSub ?_; refine hK _ _ ?_
    obtain rfl : k = 7 := by omega
    rw [List.take_of_length_le (by omega), padL_app hx, padL_app (by omega), ← hxy, gaps_app _ _ _ hxy] at hs ht
    rw [sumL_zeros] at hs
    rw [mostL_zeros] at ht
    subst hs ht
    exact ⟨rfl, rfl⟩
theorem f125_c (m : Md Tryz.prog B) (h : Hp) {x y : List Int} (hx : x.length ≤ 7) (hxy : x.length = y.length) (hsx : Small 959 x) (hsy : Small 959 y) : FnC m 125 #[htV x, htV y] h fun v h' => h' = h ∧ v = .int .i64 (sumL (gaps x y)) := by
  refine fn_enter Tryz.func125 rfl rfl (l := (htV x) :: (htV y) :: uu13) rfl ?_
  intro cf cs K hK
  refine rs3 (by kernel_rfl) ?_; refine k_box rfl zq (fun q2 => k_hp (k_put ?_)); refine k_box rfl zq (fun q3 => k_hp (k_put ?_)); refine aq rfl ?_; refine rs9 (by kernel_rfl) ?_; first | refine k_fa0 rfl zq ?_ | refine k_fa rfl zq ?_
  refine k_ldN (vs := hts x) rfl zq (hts_length _) (rdN_has (q := q2)) ?_; refine k_ldN (vs := hts y) rfl zq (hts_length _) (rdN_has (q := q3)) ?_; refine k_calP (Post := fun v => v = _) rfl zq (by kernel_rfl) (fun H' hH => f156_c m H' hx hxy hsx hsy) ?_; rintro v rfl; refine k_put ?_; refine mq rfl ?_; refine k_ext0 rfl zq ?_; refine k_ext1 rfl zq ?_; refine k_as rfl zq ?_; refine aq rfl ?_; refine rs2 (by kernel_rfl) ?_; refine mq rfl ?_; refine aq rfl ?_; refine run_ret rfl ?_; refine run_res (h) rfl Tryz.func125 rfl weakSub ?_; refine hK _ _ ?_
  exact ⟨rfl, rfl⟩
theorem f126_c (m : Md Tryz.prog B) (h : Hp) {x y : List Int} (hx : x.length ≤ 7) (hxy : x.length = y.length) (hsx : Small 959 x) (hsy : Small 959 y) : FnC m 126 #[htV x, htV y] h fun v h' => h' = h ∧ v = .int .i64 (mostL (gaps x y)) := by
  refine fn_enter Tryz.func126 rfl rfl (l := (htV x) :: (htV y) :: uu13) rfl ?_
  intro cf cs K hK
  refine rs3 (by kernel_rfl) ?_; refine k_box rfl zq (fun q2 => k_hp (k_put ?_)); refine k_box rfl zq (fun q3 => k_hp (k_put ?_)); refine aq rfl ?_; refine rs9 (by kernel_rfl) ?_; first | refine k_fa0 rfl zq ?_ | refine k_fa rfl zq ?_
  refine k_ldN (vs := hts x) rfl zq (hts_length _) (rdN_has (q := q2)) ?_; refine k_ldN (vs := hts y) rfl zq (hts_length _) (rdN_has (q := q3)) ?_; refine k_calP (Post := fun v => v = _) rfl zq (by kernel_rfl) (fun H' hH => f156_c m H' hx hxy hsx hsy) ?_; rintro v rfl; refine k_put ?_; refine mq rfl ?_; refine k_ext0 rfl zq ?_; refine k_ext1 rfl zq ?_; refine k_as rfl zq ?_; refine aq rfl ?_; refine rs2 (by kernel_rfl) ?_; refine mq rfl ?_; refine aq rfl ?_; refine run_ret rfl ?_; refine run_res (h) rfl Tryz.func126 rfl weakSub ?_; refine hK _ _ ?_
  exact ⟨rfl, rfl⟩
theorem callB125 : callB Tryz.prog 125 = true := by kernel_rfl
theorem callB126 : callB Tryz.prog 126 = true := by kernel_rfl
def msFar (xs : List Int) (j : Nat) (x : List Int) : Int := if j = 0 then sumL (gaps xs x) else mostL (gaps xs x)
theorem far_msFar (xs : List Int) : (fun x o => lexB (msFar xs) x o 2 0) = ltFar xs := by
  rw [lexB_two]; funext x o
  simp only [msFar, ltFar, if_true, Nat.one_ne_zero, if_false, gaps_comm xs]
theorem f42_c (m : Md Tryz.prog B) (h : Hp) {b : Bk} {pm : Option Addr} {nm cm : Nat} {pr : Option Addr} {nr cr : Nat} (rdm : RdS B h 2 (.slice pm nm cm) nm (encs b.marks)) (hm : nm ≤ 1000) (rdr : RdS B h 4 (.slice pr nr cr) nr (encs b.rules)) (hr : nr ≤ 1000) {p : Option Addr} {n c : Nat} {xs : List Int} (rd : RdS B h 1 (.slice p n c) n (ints xs)) (hn : n ≤ 1000) : FnC m 42 #[bkV b pm nm cm pr nr cr, .slice p n c] h fun v h' => ∃ new, h' = h ++ new ∧ ∃ w, v = .tuple [w, .int .i64 (nearN b xs), .int .i64 (lineO b xs)].toArray ∧ RdI B new w (nearL b xs) := by
  refine fn_enter Tryz.func42 rfl rfl (l := (bkV b pm nm cm pr nr cr) :: (.slice p n c) :: uu36) rfl ?_
  intro cf cs K hK
  refine rs4 (by kernel_rfl) ?_; refine k_box rfl zq (fun q2 => k_hp (k_put ?_)); refine k_as rfl zq ?_; refine k_as rfl zq ?_; refine aq rfl ?_; refine rs12 (by kernel_rfl) ?_; refine k_ldA rfl zq ?_; refine mq rfl ?_; refine k_calC rfl zq (by kernel_rfl) (Post := fun v nw => Opened2 b (bkV b pm nm cm pr nr cr) (openS b (lineS b.marks.length xs)) xs nw v) (fun H' hH => f124_c m H' (rdm.keeps (sq hH)) hm (rdr.keeps (sq hH)) hr (rd.keeps (sq hH)) hn) ?_; rintro v nw ⟨x1, x2, x3, y1, y2, y3, y4, y5, y6, z1, z2, z3, rfl, hz⟩; refine k_hpA (k_put ?_); refine mq rfl ?_; refine k_ext0 rfl zq ?_; refine k_ext1 rfl zq ?_; refine k_ext2 rfl zq ?_; refine k_new rfl zq (fun q7 => k_hp (k_put ?_)); refine k_new rfl zq (fun q8 => k_hp (k_put ?_)); refine k_stA rfl zq rfl ?_; refine k_stA rfl zq (by first | rfl | exact hts_length _) ?_; refine aq rfl ?_; refine run_seq ?_; refine rs2 (by kernel_rfl) ?_; refine mq rfl ?_; refine k_neqS rfl zq (fun hc => ?_) (fun hc => ?_)
  · refine k_nil ?_; refine run_yes ?_; refine rs4 (by kernel_rfl) ?_; refine mq rfl ?_; refine k_as rfl zq ?_; refine k_as rfl zq ?_; refine aq rfl ?_; refine run_ret rfl ?_; refine run_res (h) rfl Tryz.func42 rfl weakSub ?_; refine hK _ _ ?_
    exact ⟨[], by simp, _, by rw [nearN, if_pos (show lineO b xs ≠ 0 by assumption)]; rfl, by rw [nearL, if_pos (show lineO b xs ≠ 0 by assumption)]; exact RdI.nil⟩
  · refine k_nil ?_; refine run_no ?_; refine run_skip ?_; refine rs4 (by kernel_rfl) ?_; have hz0 : openS b (lineS b.marks.length xs) = 0 := by first | assumption | omega
    obtain ⟨hz1, rfl, hzc, rdB⟩ := hz hz0
    obtain ⟨rfl, rfl, rfl, rfl, rfl, rfl, rfl, rfl, rfl⟩ := bookV_inj hz1
    obtain ⟨hbz, hoz, hbne⟩ := openS_zero hz0
    have hv := valid_of hbz
    have h7 := hv.many
    have hml := rdm.elen (by decide)
    have hbl := boats_le hv
    have hpos : 0 < (boatsOf b).length := List.length_pos_iff.2 hbne
    obtain ⟨zb, zo, rfl⟩ := RdS.ptr (B := B) rdB hpos
    have hlx := lineS_zero hoz
    have hls := lineS_small hoz
    have hxl := rd.ilen
    refine k_ldN (vs := hts xs) rfl zq (hts_length _) (rdN_has (q := q8)) ?_; refine k_bld rfl zq ?_; refine k_new rfl zq (fun q9 => k_hp (k_put ?_)); refine k_stA rfl zq (by first | rfl | exact hts_length _) ?_; refine k_nil ?_; refine rs10 (by kernel_rfl) ?_; first | refine k_fa0 rfl zq ?_ | refine k_fa rfl zq ?_
    refine k_ldh rfl zq ?_; refine k_ldN (vs := hts xs) rfl zq (hts_length _) (rdN_has (q := q9)) ?_; refine k_fun rfl zq ?_; refine k_ldN (vs := hts xs) rfl zq (hts_length _) (rdN_has (q := q9)) ?_; refine k_fun rfl zq ?_; refine k_bs kdq rfl zq (by decide) (by decide) rfl (fun q29 => k_hp (k_put ?_)); refine k_calP (Post := fun v => v = _) rfl zq (by kernel_rfl) (fun H' hH => f121_c m H' (ms := msFar xs) (rdB.keeps (sq hH)) (by omega) hpos hzc ((rdS_has (q := q29) rfl).keeps hH) (by decide) (fun j hj => by
          rcases (by omega : j = 0 ∨ j = 1) with rfl | rfl
          · exact ⟨125, #[htV xs], #[], rfl, callB125, fun x hx K hK => f125_c m K (by omega) (by have := (boats_ln hv hml hx).1; omega) hls (boats_ln hv hml hx).2⟩
          · exact ⟨126, #[htV xs], #[], rfl, callB126, fun x hx K hK => f126_c m K (by omega) (by have := (boats_ln hv hml hx).1; omega) hls (boats_ln hv hml hx).2⟩)) ?_
    rintro v rfl; refine k_put ?_; refine k_new rfl zq (fun q10 => k_hp (k_put ?_)); refine k_stA rfl zq (by first | rfl | exact hts_length _) ?_; refine k_nil ?_; refine run_seq ?_; refine run_draw [(0, .pure), (1, .read), (2, .read), (4, .read), (5, .read), (3, .keep), (6, .keep), (7, .pure), (8, .pure), (9, .pure)] (by kernel_rfl) (by kernel_rfl) (List.Sublist.refl _) ?_; rw [far_msFar]; have hgm : bestBy (ltFar xs) (boatsOf b) ∈ boatsOf b := bestBy_mem _ _ hpos
    generalize hg : bestBy (ltFar xs) (boatsOf b) = gg at hgm ⊢
    obtain ⟨hgl, hgs⟩ := boats_ln hv hml hgm
    first | refine k_fa0 rfl zq ?_ | refine k_fa rfl zq ?_
    refine k_ldA rfl zq ?_; refine k_ldN (vs := hts gg) rfl zq (hts_length _) (rdN_has (q := q10)) ?_; refine k_ldN (vs := hts xs) rfl zq (hts_length _) (rdN_has (q := q9)) ?_; refine k_ldN (vs := hts gg) rfl zq (hts_length _) (rdN_has (q := q10)) ?_; refine k_calC rfl zq (by kernel_rfl) (fun H' hH => f123_c m H' hgl (by omega)) ?_; rintro v n3 o3; refine k_hpA (k_put ?_); refine k_calP (Post := fun v => v = _) rfl zq (by kernel_rfl) (fun H' hH => f125_c m H' (by omega) (by omega) hls hgs) ?_; rintro v rfl; refine k_put ?_; refine k_as rfl zq ?_; refine k_as rfl zq ?_; refine aq rfl ?_; refine run_ret rfl ?_; refine run_res (h ++ n3) rfl Tryz.func42 rfl weakSub ?_; refine hK _ _ ?_
    have hz0 : lineO b xs = 0 := hz0
    have e1 : nearL b xs = gg := by rw [nearL, if_neg (fun e => e hz0), hg]
    have e2 : nearN b xs = sumL (gaps gg xs) := by rw [nearN, if_neg (fun e => e hz0), hg]
    exact ⟨n3, rfl, _, by rw [hz0, e2, gaps_comm], by rw [e1]; exact OwnS.rdI (hgl ▸ o3)⟩
end Go.Proofs
