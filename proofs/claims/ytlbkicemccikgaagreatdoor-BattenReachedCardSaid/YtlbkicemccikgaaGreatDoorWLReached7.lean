/- A part of the proof of a law: my own separation logic over the machine, and walks of the program. Condition of each theorem: as its statement says. -/
import Derived.Test.YtlbkicemccikgaaGreatDoorWLReached6
import Derived.Conc.TokenTrace
import Derived.Conc.CrowdSel
import Derived.Conc.QuitsD
import Derived.Conc.Pipeline3
set_option linter.all false
namespace Go.Proofs
open Go.Lo
open Go.Conc (G)
set_option maxRecDepth 100000
set_option synthInstance.maxSize 100000
set_option synthInstance.maxHeartbeats 1000000
set_option maxHeartbeats 4000000
variable {B : Array Obj}
variable [Laid B]
def moreB (b : Bk) (r : Ru) : Bk := { b with rules := b.rules ++ [r] }
def noteS (b : Bk) (r : Ru) : Int := if bookS b ≠ 0 then bookS b else agreeS (moreB b r)
def noteB (b : Bk) (r : Ru) : Bk := if bookS b ≠ 0 then noBk else agreeB (moreB b r)
theorem encs_ruL (r : Ru) : encs [r] = ruL r := by simp [encs, Enc.enc]
theorem f81_c (m : Md Tryz.prog B) (h : Hp) {b : Bk} {pm : Option Addr} {nm cm : Nat} {pr : Option Addr} {nr cr : Nat} (rdm : RdS B h 2 (.slice pm nm cm) nm (encs b.marks)) (hm : nm ≤ 1000) (rdr : RdS B h 4 (.slice pr nr cr) nr (encs b.rules)) (hr : nr ≤ 1000) (r : Ru) : FnC m 81 #[bkV b pm nm cm pr nr cr, ruV r] h fun v h' => ∃ nw, h' = h ++ nw ∧ ∃ w, v = .tuple [w, .int .i64 (noteS b r)].toArray ∧ BkR B (noteB b r) nw w := by
  have hml := rdm.elen (by decide)
  have hrl := rdr.elen (by decide)
  refine fn_enter Tryz.func81 rfl rfl (l := (bkV b pm nm cm pr nr cr) :: (ruV r) :: uu22) rfl ?_
  intro cf cs K hK
  refine rs4 (by kernel_rfl) ?_; refine k_box rfl zq (fun q2 => k_hp (k_put ?_)); refine k_box rfl zq (fun q3 => k_hp (k_put ?_)); refine k_new rfl zq (fun q4 => k_hp (k_put ?_)); refine aq rfl ?_; refine run_seq ?_; refine rs3 (by kernel_rfl) ?_; refine k_ldA rfl zq ?_; refine k_calP (Post := fun v => v = _) rfl zq (by kernel_rfl) (fun H' hH => f21_c m H' (rdm.keeps (sq hH)) hm (rdr.keeps (sq hH)) hr) ?_; rintro v rfl; refine k_put ?_; refine aq rfl ?_; refine rs2 (by kernel_rfl) ?_; refine mq rfl ?_; refine k_neqS rfl zq (fun hc => ?_) (fun hc => ?_)
  · refine k_nil ?_; refine run_yes ?_; refine rs4 (by kernel_rfl) ?_; refine k_bld rfl zq ?_; refine mq rfl ?_; refine k_stA rfl zq rfl ?_; refine aq rfl ?_; refine run_ret rfl ?_; refine run_res (h) rfl Tryz.func81 rfl weakSub ?_; refine hK _ _ ?_
    exact ⟨[], by simp, _, by rw [noteS, if_pos (by assumption)], by rw [noteB, if_pos (by assumption)]; exact BkR.zero⟩
  · have hv := valid_of hc
    have hf := hv.few
    refine k_nil ?_; refine run_no ?_; refine run_skip ?_; refine run_seq ?_; refine run_drawT [0, 1, 2, 3, 4, 5, 6, 7] (by kernel_rfl) (by kernel_rfl) (List.Sublist.refl _) ?_; refine DrawT.split 2 4 (by decide) ?_ ?_
    · refine DrawT.leaf [(0, .pure), (1, .read), (3, .read), (2, .keep), (4, .keep), (5, .free), (6, .pure), (7, .free)] (by kernel_rfl) ?_
      first | refine k_fa0 rfl zq ?_ | refine k_fa rfl zq ?_
      refine k_ldh rfl zq ?_; refine k_ldA rfl zq ?_; refine k_calC rfl zq (by kernel_rfl) (fun H' hH => f135_c m H' (rdr.keeps (sq hH)) (by omega)) ?_; rintro v n2 o2; refine k_hpA (k_put ?_); obtain ⟨p2, c2, rfl, hc2, r2⟩ := own_rdA (B := B) o2
      refine k_bs kdq rfl zq (by decide) (by decide) rfl (fun q17 => k_hp (k_put ?_)); refine k_app1 (F := h ++ [⟨true, q2, .cells (bkL b pm nm cm pr nr cr).toArray 25 (0, 0)⟩, ⟨true, q3, .cells (ruL r).toArray 94 (0, 0)⟩, ⟨true, q4, .cells [.int .i64 0, .int .i64 0, .int .i64 0, .slice none 0 0, .slice none 0 0].toArray 25 (0, 0)⟩]) rfl zq rfl o2 kdq (by omega) (by omega) (fun w9 n9 o9 => k_put ?_); replace o9 : OwnS 94 4 w9 (nr + 1) (encs (moreB b r).rules) n9 := by rw [show encs (moreB b r).rules = encs b.rules ++ ruL r by rw [moreB, encs_append, encs_ruL]]; exact o9
      obtain ⟨p9, c9, rfl, hc9, r9⟩ := own_rdA (B := B) o9
      first | refine k_fa0 rfl zq ?_ | refine k_fa rfl zq ?_
      refine k_st1 rfl zq ?_; refine k_nil ?_; refine rs6 (by kernel_rfl) ?_; refine k_ldA rfl zq ?_; refine k_calC rfl zq (by kernel_rfl) (fun H' hH => f137_c m H' (b := moreB b r) (rdm.keeps (sq hH)) hm (r9.keeps (sq hH)) (by omega)) ?_; rintro v n5 ⟨w5, rfl, pm5, nm5, cm5, pr5, nr5, cr5, rfl, hb5⟩; refine k_hpA (k_put ?_); refine k_ext0 rfl zq ?_; refine k_ext1 rfl zq ?_; refine k_stA rfl zq rfl ?_; refine aq rfl ?_; refine run_ret rfl ?_; refine run_res (h ++ n5) rfl Tryz.func81 rfl weakSub ?_; refine hK _ _ ?_
      exact ⟨n5, rfl, _, by rw [noteS, if_neg (fun e => e hc)], by rw [noteB, if_neg (fun e => e hc)]; exact ⟨_, _, _, _, _, _, rfl, hb5⟩⟩
    · refine DrawT.leaf [(0, .pure), (1, .read), (3, .read), (4, .keep), (2, .keep), (5, .free), (6, .pure), (7, .free)] (by kernel_rfl) ?_
      first | refine k_fa0 rfl zq ?_ | refine k_fa rfl zq ?_
      refine k_ldh rfl zq ?_; refine k_ldA rfl zq ?_; refine k_bs kdq rfl zq (by decide) (by decide) rfl (fun q17 => k_hp (k_put ?_)); refine k_calC rfl zq (by kernel_rfl) (fun H' hH => f135_c m H' (rdr.keeps (sq hH)) (by omega)) ?_; rintro v n2 o2; refine k_hpA (k_put ?_); obtain ⟨p2, c2, rfl, hc2, r2⟩ := own_rdA (B := B) o2
      refine k_app1 (F := h ++ [⟨true, q2, .cells (bkL b pm nm cm pr nr cr).toArray 25 (0, 0)⟩, ⟨true, q3, .cells (ruL r).toArray 94 (0, 0)⟩, ⟨true, q4, .cells [.int .i64 0, .int .i64 0, .int .i64 0, .slice none 0 0, .slice none 0 0].toArray 25 (0, 0)⟩]) rfl zq rfl o2 kdq (by omega) (by omega) (fun w9 n9 o9 => k_put ?_); replace o9 : OwnS 94 4 w9 (nr + 1) (encs (moreB b r).rules) n9 := by rw [show encs (moreB b r).rules = encs b.rules ++ ruL r by rw [moreB, encs_append, encs_ruL]]; exact o9
      obtain ⟨p9, c9, rfl, hc9, r9⟩ := own_rdA (B := B) o9
      first | refine k_fa0 rfl zq ?_ | refine k_fa rfl zq ?_
      refine k_st1 rfl zq ?_; refine k_nil ?_; refine rs6 (by kernel_rfl) ?_; refine k_ldA rfl zq ?_; refine k_calC rfl zq (by kernel_rfl) (fun H' hH => f137_c m H' (b := moreB b r) (rdm.keeps (sq hH)) hm (r9.keeps (sq hH)) (by omega)) ?_; rintro v n5 ⟨w5, rfl, pm5, nm5, cm5, pr5, nr5, cr5, rfl, hb5⟩; refine k_hpA (k_put ?_); refine k_ext0 rfl zq ?_; refine k_ext1 rfl zq ?_; refine k_stA rfl zq rfl ?_; refine aq rfl ?_; refine run_ret rfl ?_; refine run_res (h ++ n5) rfl Tryz.func81 rfl weakSub ?_; refine hK _ _ ?_
      exact ⟨n5, rfl, _, by rw [noteS, if_neg (fun e => e hc)], by rw [noteB, if_neg (fun e => e hc)]; exact ⟨_, _, _, _, _, _, rfl, hb5⟩⟩
section
variable {P : Program} {B : Array Obj} {m : Md P B} {ops : Array Oper} {l l' : List Value} {S h h' H : Hp} {C : List Value → Hp → Prop} {i : Nat} {kd : Kd} {r : List (Nat × Kd)}
  {d : Option Tmp} {ty : TypeId} {pos : String} {af : Array Edge} {g : Option (Nat × Bool)}
theorem k_subW {t u : TypeId} {x y : Operand} {a b : Int} (ho : ops[i]? = some ⟨d, .binOp .sub t x y u, ty, pos, af, g⟩) (hw : Wt ops l g) [KHeap kd S h H] [ex : OpV l x (.int .i64 a)] [ey : OpV l y (.int .i64 b)]
    (n : ∀ z, (In64 (a - b) → z = a - b) → RegK m S ops r (put l d (.int .i64 z)) h C) : RegK m S ops ((i, kd) :: r) l h C :=
  RegK.rd (v := .int .i64 (IntKind.wrap .i64 (a - b))) (p := ⟨rfl⟩) ho hw (reads_int ex.eq ey.eq (by simp) (by simp [binOp, Op.intArith]; rfl)) (n _ fun e => wrap_in e)
theorem rdN_part {B : Array Obj} {h : Hp} {q t : Nat} {rw : Bool} {f : Nat × Nat} {cs : List Value} (vs : List Value) {o : Nat} [x : Has h q rw (.cells cs.toArray t f)] (e : (cs.drop o).take vs.length = vs) : RdN B h q o vs := fun j hj => Rd.held x.mem (by
  have e2 : cs[o + j]? = vs[j]? := by
    rw [← List.getElem?_drop, ← e, List.getElem?_take, if_pos hj]
  rw [List.getElem?_toArray, e2, List.getD_eq_getElem?_getD, List.getElem?_eq_getElem hj]; rfl)
end
def meetSp (x y : Sp) : Sp := ⟨max x.lo y.lo, min x.hi y.hi⟩
def atS (a : Bk) (k : Int) : Nat := (a.marks.length - k).toNat
def spMark (a b : Bk) (k : Int) (i : Nat) : Sp := if (i : Int) < k then meetSp (a.marks.getD (atS a k + i) default) (b.marks.getD i default) else b.marks.getD i default
def spMarks (a b : Bk) (k : Int) (j : Nat) : List Sp := a.marks.take (atS a k) ++ (List.range j).map (spMark a b k)
def shR (at' : Int) (r : Ru) : Ru := ⟨r.a + at', r.b + at', r.lo, r.hi⟩
def spRules (a b : Bk) (k : Int) (j : Nat) : List Ru := a.rules ++ (b.rules.take j).map (shR (atS a k : Int))
def spB (a b : Bk) (k : Int) : Bk := ⟨min a.bend b.bend, min a.twist b.twist, min a.turns b.turns, spMarks a b k b.marks.length, spRules a b k b.rules.length⟩
def misses (a b : Bk) (k : Int) : Prop := ∃ i : Nat, (i : Int) < k ∧ i < b.marks.length ∧ (spMark a b k i).hi < (spMark a b k i).lo
instance (a b : Bk) (k : Int) : Decidable (misses a b k) := decidable_of_iff (∃ i ∈ List.range b.marks.length, ((i : Int) < k ∧ (spMark a b k i).hi < (spMark a b k i).lo)) (by
  simp only [misses, List.mem_range]
  exact ⟨fun ⟨i, h1, h2, h3⟩ => ⟨i, h2, h1, h3⟩, fun ⟨i, h1, h2, h3⟩ => ⟨i, h2, h1, h3⟩⟩)
def spS0 (a b : Bk) (k : Int) : Int := if bookS a ≠ 0 then bookS a else if bookS b ≠ 0 then bookS b else if ¬ (2 ≤ k ∧ k ≤ min a.marks.length b.marks.length) then 1
  else if 7 < (a.marks.length : Int) - k + b.marks.length ∨ 4 < a.rules.length + b.rules.length then 2 else if misses a b k then 9 else 0
def spliceS (a b : Bk) (k : Int) : Int := if spS0 a b k ≠ 0 then spS0 a b k else agreeS (spB a b k)
def spliceB (a b : Bk) (k : Int) : Bk := if spS0 a b k ≠ 0 then noBk else agreeB (spB a b k)
theorem spMarks_succ (a b : Bk) (k : Int) (j : Nat) : spMarks a b k (j + 1) = spMarks a b k j ++ [spMark a b k j] := by
  rw [spMarks, List.range_succ, List.map_append, ← List.append_assoc]; rfl
theorem spRules_succ (a b : Bk) (k : Int) (j : Nat) (h : j < b.rules.length) : spRules a b k (j + 1) = spRules a b k j ++ [shR (atS a k : Int) (b.rules.getD j default)] := by
  rw [spRules, spRules, List.append_assoc, ← List.map_singleton, ← List.map_append]; congr 2
  rw [List.take_succ, List.getElem?_eq_getElem h, List.getD_eq_getElem?_getD, List.getElem?_eq_getElem h]; rfl
theorem encs_spL (x : Sp) : encs [x] = spL x := by simp [encs, Enc.enc]
def selV (k : Nat) (x y : Value) : Value := if k = 0 then x else y
theorem weak_swap {B : Array Obj} {A X Y : Hp} : Weak B (A ++ X ++ Y) (A ++ Y ++ X) := Weak.perm (by
  rw [List.append_assoc, List.append_assoc]; exact List.Perm.append_left A List.perm_append_comm)
theorem f74_c (m : Md Tryz.prog B) (h : Hp) {b : Bk} {pm : Option Addr} {nm cm : Nat} {pr : Option Addr} {nr cr : Nat} (rdm : RdS B h 2 (.slice pm nm cm) nm (encs b.marks)) (hm : nm ≤ 1000) (hcm : nm ≤ cm) (rdr : RdS B h 4 (.slice pr nr cr) nr (encs b.rules)) (hr : nr ≤ 1000) {b2 : Bk} {pm2 : Option Addr} {nm2 cm2 : Nat} {pr2 : Option Addr} {nr2 cr2 : Nat} (rdm2 : RdS B h 2 (.slice pm2 nm2 cm2) nm2 (encs b2.marks)) (hm2 : nm2 ≤ 1000) (rdr2 : RdS B h 4 (.slice pr2 nr2 cr2) nr2 (encs b2.rules)) (hr2 : nr2 ≤ 1000) (k : Int) (hk64 : In64 k) : FnC m 74 #[bkV b pm nm cm pr nr cr, bkV b2 pm2 nm2 cm2 pr2 nr2 cr2, .int .i64 k] h fun v h' => ∃ nw, h' = h ++ nw ∧ ∃ w, v = .tuple [w, .int .i64 (spliceS b b2 k)].toArray ∧ BkR B (spliceB b b2 k) nw w := by
  have hml := rdm.elen (by decide)
  have hrl := rdr.elen (by decide)
  have hml2 := rdm2.elen (by decide)
  have hrl2 := rdr2.elen (by decide)
  refine fn_enter Tryz.func74 rfl rfl (l := (bkV b pm nm cm pr nr cr) :: (bkV b2 pm2 nm2 cm2 pr2 nr2 cr2) :: (.int .i64 k) :: uu152) rfl ?_
  intro cf cs K hK
  refine rs4 (by kernel_rfl) ?_; refine k_box rfl zq (fun q3 => k_hp (k_put ?_)); refine k_box rfl zq (fun q4 => k_hp (k_put ?_)); refine k_new rfl zq (fun q6 => k_hp (k_put ?_)); refine aq rfl ?_; refine run_seq ?_; refine rs5 (by kernel_rfl) ?_; refine k_ldA rfl zq ?_; refine k_ldA rfl zq ?_; refine k_bs kdq rfl zq (by decide) (by decide) rfl (fun q21 => k_hp (k_put ?_)); refine k_len rfl zq ?_; refine mq rfl ?_; refine k_nil ?_; refine run_block ?_; refine run_loop (fun nn l h' => ∃ (i : Nat), nn = 2 - i ∧ (i ≤ 2) ∧ (0 < i → bookS b = 0) ∧ (1 < i → bookS b2 = 0) ∧ (∃ U : Nat → Value, l = [bkV b pm nm cm pr nr cr, bkV b2 pm2 nm2 cm2 pr2 nr2 cr2, .int .i64 k, .pointer (some ⟨q3, 0, none⟩), .pointer (some ⟨q4, 0, none⟩), U 5, .pointer (some ⟨q6, 0, none⟩), U 7, U 8, U 9, U 10, U 11, U 12, U 13, U 14, U 15, U 16, U 17, U 18, U 19, U 20, .slice (some ⟨q21, 0, none⟩) 2 2, .int .i64 2, .int .i64 (i : Int), U 24, U 25, U 26, U 27, U 28, U 29, U 30, U 31, U 32, U 33, U 34, U 35, U 36, U 37, U 38, U 39, U 40, U 41, U 42, U 43, U 44, U 45, U 46, U 47, U 48, U 49, U 50, U 51, U 52, U 53, U 54, U 55, U 56, U 57, U 58, U 59, U 60, U 61, U 62, U 63, U 64, U 65, U 66, U 67, U 68, U 69, U 70, U 71, U 72, U 73, U 74, U 75, U 76, U 77, U 78, U 79, U 80, U 81, U 82, U 83, U 84, U 85, U 86, U 87, U 88, U 89, U 90, U 91, U 92, U 93, U 94, U 95, U 96, U 97, U 98, U 99, U 100, U 101, U 102, U 103, U 104, U 105, U 106, U 107, U 108, U 109, U 110, U 111, U 112, U 113, U 114, U 115, U 116, U 117, U 118, U 119, U 120, U 121, U 122, U 123, U 124, U 125, U 126, U 127, U 128, U 129, U 130, U 131, U 132, U 133, U 134, U 135, U 136, U 137, U 138, U 139, U 140, U 141, U 142, U 143, U 144, U 145, U 146, U 147, U 148, U 149, U 150, U 151, U 152, U 153, U 154]) ∧ h ++ [⟨true, q3, .cells (bkL b pm nm cm pr nr cr).toArray 25 (0, 0)⟩, ⟨true, q4, .cells (bkL b2 pm2 nm2 cm2 pr2 nr2 cr2).toArray 25 (0, 0)⟩, ⟨true, q6, .cells ([.int .i64 0, .int .i64 0, .int .i64 0, .slice none 0 0, .slice none 0 0] : List Value).toArray 25 (0, 0)⟩, ⟨true, q21, .cells (bkL b pm nm cm pr nr cr ++ bkL b2 pm2 nm2 cm2 pr2 nr2 cr2).toArray 25 (0, 0)⟩] = h') _ ⟨0, rfl, by omega, by omega, by omega, exU rfl, rfl⟩ ?_
  rintro nn l h' ⟨i, rfl, hi, hi1, hi2, ⟨U, rfl⟩, rfl⟩ hnext1; refine rs1 (by kernel_rfl) ?_; refine k_lssS rfl zq (fun hc => ?_) (fun hc => ?_)
  · refine k_nil ?_; refine run_seq ?_; refine run_yes ?_; refine run_skip ?_; refine run_seq ?_; refine run_block ?_; refine rs4 (by kernel_rfl) ?_; obtain ⟨b', pm', nm', cm', pr', nr', cr', hsel, hbs, rm', hm', rr', hr'⟩ : ∃ (b' : Bk) (pm' : Option Addr) (nm' cm' : Nat) (pr' : Option Addr) (nr' cr' : Nat), ((bkL b pm nm cm pr nr cr ++ bkL b2 pm2 nm2 cm2 pr2 nr2 cr2).drop (0 + i * 5)).take 5 = bkL b' pm' nm' cm' pr' nr' cr' ∧ bookS b' = (if i = 0 then bookS b else bookS b2) ∧ RdS B h 2 (.slice pm' nm' cm') nm' (encs b'.marks) ∧ nm' ≤ 1000 ∧ RdS B h 4 (.slice pr' nr' cr') nr' (encs b'.rules) ∧ nr' ≤ 1000 := by
      rcases (by omega : i = 0 ∨ i = 1) with rfl | rfl
      · exact ⟨b, pm, nm, cm, pr, nr, cr, rfl, rfl, rdm, hm, rdr, hr⟩
      · exact ⟨b2, pm2, nm2, cm2, pr2, nr2, cr2, rfl, rfl, rdm2, hm2, rdr2, hr2⟩
    refine k_ixs rfl zq (by first | rfl | assumption) (by omega) (by omega) ?_; refine k_ldN (vs := bkL b' pm' nm' cm' pr' nr' cr') rfl zq rfl (rdN_part _ hsel) ?_; refine k_new rfl zq (fun q9 => k_hp (k_put ?_)); refine k_stA rfl zq rfl ?_; refine k_nil ?_; refine rs3 (by kernel_rfl) ?_; refine k_ldA rfl zq ?_; refine k_calP (Post := fun v => v = _) rfl zq (by kernel_rfl) (fun H' hH => f21_c m H' (rm'.keeps (sq hH)) hm' (rr'.keeps (sq hH)) hr') ?_; rintro v rfl; refine k_put ?_; refine aq rfl ?_; refine rs2 (by kernel_rfl) ?_; refine mq rfl ?_; refine k_neqS rfl zq (fun hc => ?_) (fun hc => ?_)
    · have hS : spS0 b b2 k = (if i = 0 then bookS b else bookS b2) := by
        rw [hbs] at hc
        by_cases e : i = 0
        · rw [if_pos e] at hc ⊢; rw [spS0, if_pos hc]
        · rw [if_neg e] at hc ⊢; rw [spS0, if_neg (fun x => x (hi1 (by omega))), if_pos hc]
      refine k_nil ?_; refine run_yes ?_; refine rs4 (by kernel_rfl) ?_; refine k_bld rfl zq ?_; refine mq rfl ?_; refine k_stA rfl zq rfl ?_; refine aq rfl ?_; refine run_ret rfl ?_; refine run_res (h) rfl Tryz.func74 rfl weakSub ?_; refine hK _ _ ?_
      rw [hbs] at hc ⊢
      have hne : spS0 b b2 k ≠ 0 := by rw [hS]; first | decide | assumption
      exact ⟨[], by simp, _, by rw [spliceS, if_pos hne, hS], by rw [spliceB, if_pos hne]; exact BkR.zero⟩
    · rw [hbs] at hc
      have hz1 : bookS b = 0 := by
        by_cases e : i = 0
        · rw [if_pos e] at hc; exact hc
        · exact hi1 (by omega)
      have hz2 : 0 < i → bookS b2 = 0 := fun e => by rw [if_neg (by omega)] at hc; exact hc
      refine k_nil ?_; refine run_no ?_; refine run_skip ?_; refine run_inBlock ?_; refine rr2 (by kernel_rfl) ?_; refine k_add rfl zq (by unfold In64; omega) ?_; refine mq rfl ?_; refine k_nil ?_; exact m.weak weakSub (hnext1 _ _ _ (by omega) ⟨i + 1, rfl, by omega, fun _ => hz1, fun e => hz2 (by omega), exU rfl, rfl⟩)
  · refine k_nil ?_; refine run_seq ?_; refine run_no ?_; refine run_exit rfl ?_; refine rs6 (by kernel_rfl) ?_; have hz1 := hi1 (by omega)
    have hz2 := hi2 (by omega)
    have hv := valid_of hz1
    have hv2 := valid_of hz2
    have hvm := hv.many
    have hvm2 := hv2.many
    have hS0 : spS0 b b2 k = spS0 b b2 k := rfl
    conv at hS0 => rhs; rw [spS0, if_neg (fun e => e hz1), if_neg (fun e => e hz2)]
    first | refine k_fa0 rfl zq ?_ | refine k_fa rfl zq ?_
    refine k_ldh rfl zq ?_; refine k_len rfl zq ?_; refine mq rfl ?_; refine k_subW rfl zq (fun at0 hat0 => k_put ?_); refine aq rfl ?_; refine run_seq ?_; refine run_block ?_; refine run_seq ?_; refine run_region [(0, .free), (1, .free), (2, .free), (3, .free), (4, .free), (5, .free), (6, .free), (7, .free), (8, .free), (9, .free), (10, .free)] (by kernel_rfl) (by kernel_rfl) ?_; refine mq rfl ?_; first | refine k_fa0 rfl zq ?_ | refine k_fa rfl zq ?_
    refine k_ldh rfl zq ?_; refine k_len rfl zq ?_; first | refine k_fa0 rfl zq ?_ | refine k_fa rfl zq ?_
    refine k_ldh rfl zq ?_; refine k_len rfl zq ?_; refine k_min rfl zq ?_; refine k_calP (Post := fun v => IsB _ v) rfl zq (by kernel_rfl) (fun H' hH => f117_c m H' _ _ _) ?_; rintro v (⟨hc, rfl⟩ | ⟨hc, rfl⟩)
    · refine k_put ?_; refine k_notT rfl zq ?_; refine aq rfl ?_; refine run_no ?_; refine run_seq ?_; refine rs7 (by kernel_rfl) ?_; obtain rfl := hat0 (by unfold In64; omega)
      rw [if_neg (by omega)] at hS0
      refine mq rfl ?_; first | refine k_fa0 rfl zq ?_ | refine k_fa rfl zq ?_
      refine k_ldh rfl zq ?_; refine k_len rfl zq ?_; refine k_add rfl zq (by unfold In64; omega) ?_; refine k_gtrS rfl zq (fun hc => ?_) (fun hc => ?_)
      · refine aq rfl ?_; refine run_yes ?_; refine run_skip ?_; refine run_yes ?_; refine rs3 (by kernel_rfl) ?_; have hS : spS0 b b2 k = 2 := by rw [hS0, if_pos (by omega)]
        refine k_bld rfl zq ?_; refine k_stA rfl zq rfl ?_; refine aq rfl ?_; refine run_ret rfl ?_; refine run_res (h) rfl Tryz.func74 rfl weakSub ?_; refine hK _ _ ?_
        have hne : spS0 b b2 k ≠ 0 := by rw [hS]; first | decide | assumption
        exact ⟨[], by simp, _, by rw [spliceS, if_pos hne, hS], by rw [spliceB, if_pos hne]; exact BkR.zero⟩
      · refine aq rfl ?_; refine run_no ?_; refine rr9 (by kernel_rfl) ?_; first | refine k_fa0 rfl zq ?_ | refine k_fa rfl zq ?_
        refine k_ldh rfl zq ?_; refine k_len rfl zq ?_; first | refine k_fa0 rfl zq ?_ | refine k_fa rfl zq ?_
        refine k_ldh rfl zq ?_; refine k_len rfl zq ?_; refine k_add rfl zq (by unfold In64; omega) ?_; refine k_gtrS rfl zq (fun hc => ?_) (fun hc => ?_)
        · refine aq rfl ?_; refine run_yes ?_; refine rs3 (by kernel_rfl) ?_; have hS : spS0 b b2 k = 2 := by rw [hS0, if_pos (by omega)]
          refine k_bld rfl zq ?_; refine k_stA rfl zq rfl ?_; refine aq rfl ?_; refine run_ret rfl ?_; refine run_res (h) rfl Tryz.func74 rfl weakSub ?_; refine hK _ _ ?_
          have hne : spS0 b b2 k ≠ 0 := by rw [hS]; first | decide | assumption
          exact ⟨[], by simp, _, by rw [spliceS, if_pos hne, hS], by rw [spliceB, if_pos hne]; exact BkR.zero⟩
        · refine aq rfl ?_; refine run_no ?_; refine run_skip ?_; refine run_inBlock ?_; refine run_seq ?_; refine run_region [(0, .free), (1, .free), (2, .free), (3, .free), (4, .free), (5, .free), (6, .free), (7, .free), (8, .free), (9, .free), (10, .free), (11, .free), (12, .free), (13, .free), (14, .free), (15, .free), (16, .free), (17, .free)] (by kernel_rfl) (by kernel_rfl) ?_; obtain ⟨w, hw⟩ := Int.eq_ofNat_of_zero_le (show 0 ≤ (nm : Int) - k by omega)
          rw [hw]; rw [if_neg (by omega)] at hS0
          have hat : atS b k = w := by unfold atS; omega
          obtain ⟨mb, mo, rfl⟩ := rdm.ptr (by omega)
          obtain ⟨mb2, mo2, rfl⟩ := rdm2.ptr (by omega)
          first | refine k_fa0 rfl zq ?_ | refine k_fa rfl zq ?_
          refine k_ldh rfl zq ?_; first | refine k_fa0 rfl zq ?_ | refine k_fa rfl zq ?_
          refine k_ldh rfl zq ?_; refine k_min rfl zq ?_; first | refine k_fa0 rfl zq ?_ | refine k_fa rfl zq ?_
          refine k_ldh rfl zq ?_; first | refine k_fa0 rfl zq ?_ | refine k_fa rfl zq ?_
          refine k_ldh rfl zq ?_; refine k_min rfl zq ?_; first | refine k_fa0 rfl zq ?_ | refine k_fa rfl zq ?_
          refine k_ldh rfl zq ?_; first | refine k_fa0 rfl zq ?_ | refine k_fa rfl zq ?_
          refine k_ldh rfl zq ?_; refine k_min rfl zq ?_; refine k_bld rfl zq ?_; refine k_new rfl zq (fun q12 => k_hp (k_put ?_)); refine k_stA rfl zq rfl ?_; refine k_nil ?_; refine run_seq ?_; refine run_draw [(0, .pure), (2, .pure), (5, .pure), (1, .read), (3, .pure), (6, .read), (4, .keep), (8, .pure), (7, .keep), (9, .free), (10, .pure), (11, .free)] (by kernel_rfl) (by kernel_rfl) (List.Sublist.refl _) ?_; first | refine k_fa0 rfl zq ?_ | refine k_fa rfl zq ?_
          refine mq rfl ?_; first | refine k_fa0 rfl zq ?_ | refine k_fa rfl zq ?_
          refine k_ldh rfl zq ?_; refine k_slTo (b := w) rfl zq rdm.okp rfl (by omega) ?_; refine k_ldh rfl zq ?_; refine k_calC rfl zq (by kernel_rfl) (fun H' hH => f134_c m H' (xs := b.marks.take w) (by rw [encs_take]; exact (rdm.pre (m := w) (by omega)).keeps (sq hH)) (by omega)) ?_; rintro v n1 o1; refine k_hpA (k_put ?_); obtain ⟨p1, c1, rfl, hc1, r1⟩ := own_rdA (B := B) o1
          first | refine k_fa0 rfl zq ?_ | refine k_fa rfl zq ?_
          refine k_calC rfl zq (by kernel_rfl) (fun H' hH => f135_c m H' (rdr.keeps (sq hH)) (by omega)) ?_; rintro v n2 o2; refine k_hpA (k_put ?_); obtain ⟨p2, c2, rfl, hc2, r2⟩ := own_rdA (B := B) o2
          refine k_st1 rfl zq ?_; first | refine k_fa0 rfl zq ?_ | refine k_fa rfl zq ?_
          refine k_st1 rfl zq ?_; refine k_nil ?_; refine run_seq ?_; refine rs4 (by kernel_rfl) ?_; first | refine k_fa0 rfl zq ?_ | refine k_fa rfl zq ?_
          refine k_ldh rfl zq ?_; refine k_len rfl zq ?_; refine mq rfl ?_; refine k_nil ?_; refine run_block ?_; refine m.weak (h' := h ++ [⟨true, q3, .cells (bkL b (some ⟨mb, mo, none⟩) nm cm pr nr cr).toArray 25 (0, 0)⟩, ⟨true, q4, .cells (bkL b2 (some ⟨mb2, mo2, none⟩) nm2 cm2 pr2 nr2 cr2).toArray 25 (0, 0)⟩, ⟨true, q6, .cells ([.int .i64 0, .int .i64 0, .int .i64 0, .slice none 0 0, .slice none 0 0] : List Value).toArray 25 (0, 0)⟩, ⟨true, q12, .cells [.int .i64 (min b.bend b2.bend), .int .i64 (min b.twist b2.twist), .int .i64 (min b.turns b2.turns), .slice p1 w c1, .slice p2 nr c2].toArray 25 (0, 0)⟩] ++ n1 ++ n2) weakSub ?_
          refine m.weak weak_swap ?_
          refine run_loop (fun nn l h' => ∃ (j : Nat) (mp : Option Addr) (mc : Nat) (M : Hp), nn = nm2 - j ∧ (j ≤ nm2) ∧ (OwnS 92 2 (.slice mp (w + j) mc) (w + j) (encs (spMarks b b2 k j)) M) ∧ (∀ i : Nat, i < j → (i : Int) < k → (spMark b b2 k i).lo ≤ (spMark b b2 k i).hi) ∧ (∃ U : Nat → Value, l = [U 0, U 1, .int .i64 k, .pointer (some ⟨q3, 0, none⟩), .pointer (some ⟨q4, 0, none⟩), U 5, .pointer (some ⟨q6, 0, none⟩), U 7, U 8, U 9, U 10, .int .i64 (w : Int), .pointer (some ⟨q12, 0, none⟩), U 13, U 14, U 15, U 16, U 17, U 18, U 19, U 20, U 21, U 22, U 23, U 24, U 25, U 26, U 27, U 28, U 29, U 30, U 31, U 32, U 33, U 34, U 35, U 36, U 37, U 38, U 39, U 40, U 41, U 42, U 43, U 44, U 45, U 46, U 47, U 48, U 49, U 50, U 51, U 52, U 53, U 54, U 55, U 56, U 57, U 58, U 59, U 60, U 61, U 62, U 63, U 64, U 65, U 66, U 67, U 68, U 69, U 70, U 71, U 72, U 73, U 74, U 75, U 76, U 77, U 78, U 79, U 80, U 81, U 82, U 83, U 84, U 85, U 86, U 87, U 88, U 89, U 90, U 91, U 92, U 93, .slice (some ⟨mb2, mo2, none⟩) nm2 cm2, .int .i64 (nm2 : Int), .int .i64 (j : Int), U 97, U 98, U 99, U 100, U 101, U 102, U 103, U 104, U 105, U 106, U 107, U 108, U 109, U 110, U 111, U 112, U 113, U 114, U 115, U 116, U 117, U 118, U 119, U 120, U 121, U 122, U 123, U 124, U 125, U 126, U 127, U 128, U 129, U 130, U 131, U 132, U 133, U 134, U 135, U 136, U 137, U 138, U 139, U 140, U 141, U 142, U 143, U 144, U 145, U 146, U 147, U 148, U 149, U 150, U 151, U 152, U 153, U 154]) ∧ h ++ [⟨true, q3, .cells (bkL b (some ⟨mb, mo, none⟩) nm cm pr nr cr).toArray 25 (0, 0)⟩, ⟨true, q4, .cells (bkL b2 (some ⟨mb2, mo2, none⟩) nm2 cm2 pr2 nr2 cr2).toArray 25 (0, 0)⟩, ⟨true, q6, .cells ([.int .i64 0, .int .i64 0, .int .i64 0, .slice none 0 0, .slice none 0 0] : List Value).toArray 25 (0, 0)⟩, ⟨true, q12, .cells [.int .i64 (min b.bend b2.bend), .int .i64 (min b.twist b2.twist), .int .i64 (min b.turns b2.turns), .slice mp (w + j) mc, .slice p2 nr c2].toArray 25 (0, 0)⟩] ++ n2 ++ M = h') _ ⟨0, _, _, _, rfl, by omega, by rw [spMarks, hat]; simpa using o1, fun i hi => by omega, exU rfl, rfl⟩ ?_
          rintro nn l h' ⟨j, mp, mc, M, rfl, hj, ho, hmt, ⟨U, rfl⟩, rfl⟩ hnext2; refine rs1 (by kernel_rfl) ?_; refine k_lssS rfl zq (fun hc => ?_) (fun hc => ?_)
          · refine k_nil ?_; refine run_seq ?_; refine run_yes ?_; refine run_skip ?_; refine run_seq ?_; refine run_block ?_; refine rs6 (by kernel_rfl) ?_; refine mq rfl ?_; refine k_ixs rfl zq (by first | rfl | assumption) (by omega) (by omega) ?_; refine k_ldN (vs := spL (b2.marks.getD j default)) rfl zq rfl (rdm2.eat j (by omega) (by omega)) ?_; refine k_new rfl zq (fun q14 => k_hp (k_put ?_)); refine k_as rfl zq ?_; refine k_stA rfl zq rfl ?_; refine k_nil ?_; refine run_seq ?_; refine rs3 (by kernel_rfl) ?_; refine mq rfl ?_; refine mq rfl ?_; refine k_lssS rfl zq (fun hc => ?_) (fun hc => ?_)
            · have hsm : (⟨max (b.marks.getD (w + j) default).lo (b2.marks.getD j default).lo, min (b.marks.getD (w + j) default).hi (b2.marks.getD j default).hi⟩ : Sp) = spMark b b2 k j := by rw [spMark, if_pos hc, hat]; rfl
              refine k_nil ?_; refine run_yes ?_; refine run_seq ?_; refine run_draw [(0, .pure), (2, .pure), (3, .pure), (4, .pure), (1, .read), (5, .pure), (6, .read), (7, .read), (8, .call), (9, .pure), (10, .pure), (11, .pure), (12, .alloc), (13, .free), (14, .pure)] (by kernel_rfl) (by kernel_rfl) (List.Sublist.refl _) ?_; first | refine k_fa0 rfl zq ?_ | refine k_fa rfl zq ?_
              refine mq rfl ?_; refine mq rfl ?_; refine k_add rfl zq (by unfold In64; omega) ?_; refine k_ldh rfl zq ?_; refine k_ixs rfl zq (by first | rfl | assumption) (by omega) (by omega) ?_; refine k_ldN (vs := spL (b.marks.getD (w + j) default)) rfl zq rfl (rdm.eat (w + j) (by omega) (by omega)) ?_; refine k_ldN (vs := spL (b2.marks.getD j default)) rfl zq rfl (rdN_has (q := q14)) ?_; refine k_calP (Post := fun v => v = .tuple [.agg [.int .i64 (max (b.marks.getD (w + j) default).lo (b2.marks.getD j default).lo), .int .i64 (min (b.marks.getD (w + j) default).hi (b2.marks.getD j default).hi)].toArray, .bool (decide (max (b.marks.getD (w + j) default).lo (b2.marks.getD j default).lo ≤ min (b.marks.getD (w + j) default).hi (b2.marks.getD j default).hi))].toArray) rfl zq (by kernel_rfl) (fun H' hH => f136_c m H' _ _ _ _) ?_; rintro v rfl; refine k_put ?_; generalize hok : decide (max (b.marks.getD (w + j) default).lo (b2.marks.getD j default).lo ≤ min (b.marks.getD (w + j) default).hi (b2.marks.getD j default).hi) = ok
              refine mq rfl ?_; refine k_ext0 rfl zq ?_; refine k_ext1 rfl zq ?_; refine k_new rfl zq (fun q15 => k_hp (k_put ?_)); refine k_stA rfl zq rfl ?_; refine aq rfl ?_; refine run_seq ?_; refine run_seq ?_; cases ok
              · refine rr2 (by kernel_rfl) ?_; refine mq rfl ?_; refine k_notF rfl zq ?_; refine k_nil ?_; refine run_yes ?_; refine rs3 (by kernel_rfl) ?_; have hS : spS0 b b2 k = 9 := by
                  have hm9 : misses b b2 k := by
                    refine ⟨j, by omega, by omega, ?_⟩
                    rw [← hsm]; have := of_decide_eq_false hok
                    show min (b.marks.getD (w + j) default).hi (b2.marks.getD j default).hi < max (b.marks.getD (w + j) default).lo (b2.marks.getD j default).lo
                    omega
                  rw [hS0, if_pos hm9]
                refine k_bld rfl zq ?_; refine k_stA rfl zq rfl ?_; refine aq rfl ?_; refine run_ret rfl ?_; refine run_res (h) rfl Tryz.func74 rfl weakSub ?_; refine hK _ _ ?_
                have hne : spS0 b b2 k ≠ 0 := by rw [hS]; first | decide | assumption
                exact ⟨[], by simp, _, by rw [spliceS, if_pos hne, hS], by rw [spliceB, if_pos hne]; exact BkR.zero⟩
              · refine rr2 (by kernel_rfl) ?_; refine mq rfl ?_; refine k_notT rfl zq ?_; refine k_nil ?_; refine run_no ?_; refine run_skip ?_; refine rr2 (by kernel_rfl) ?_; have hmeet : max (b.marks.getD (w + j) default).lo (b2.marks.getD j default).lo ≤ min (b.marks.getD (w + j) default).hi (b2.marks.getD j default).hi := of_decide_eq_true hok
                refine k_ldA rfl zq ?_; refine k_stA rfl zq rfl ?_; refine k_nil ?_; refine rr7 (by kernel_rfl) ?_; first | refine k_fa0 rfl zq ?_ | refine k_fa rfl zq ?_
                refine k_ldh rfl zq ?_; refine k_ldA rfl zq ?_; refine k_bs kdq rfl zq (by decide) (by decide) rfl (fun q123 => k_hp (k_put ?_)); refine k_app1 (F := h ++ [⟨true, q3, .cells (bkL b (some ⟨mb, mo, none⟩) nm cm pr nr cr).toArray 25 (0, 0)⟩, ⟨true, q4, .cells (bkL b2 (some ⟨mb2, mo2, none⟩) nm2 cm2 pr2 nr2 cr2).toArray 25 (0, 0)⟩, ⟨true, q6, .cells ([.int .i64 0, .int .i64 0, .int .i64 0, .slice none 0 0, .slice none 0 0] : List Value).toArray 25 (0, 0)⟩, ⟨true, q12, .cells [.int .i64 (min b.bend b2.bend), .int .i64 (min b.twist b2.twist), .int .i64 (min b.turns b2.turns), .slice mp (w + j) mc, .slice p2 nr c2].toArray 25 (0, 0)⟩] ++ n2) rfl zq rfl ho kdq (by omega) (by omega) (fun w9 n9 o9 => k_put ?_); replace o9 : OwnS 92 2 w9 (w + (j + 1)) (encs (spMarks b b2 k (j + 1))) n9 := by
                  rw [spMarks_succ, encs_append, encs_spL, ← hsm]; exact o9
                obtain ⟨p9, c9, rfl, hc9, r9⟩ := own_rdA (B := B) o9
                first | refine k_fa0 rfl zq ?_ | refine k_fa rfl zq ?_
                refine k_st1 rfl zq ?_; refine k_nil ?_; refine run_inBlock ?_; refine rr2 (by kernel_rfl) ?_; refine k_add rfl zq (by unfold In64; omega) ?_; refine mq rfl ?_; refine k_nil ?_; exact m.weak weakSub (hnext2 _ _ _ (by omega) ⟨j + 1, _, _, n9, rfl, by omega, o9, fun i hi hik => by
                  rcases Nat.lt_or_ge i j with h1 | h1
                  · exact hmt i h1 hik
                  · obtain rfl : i = j := by omega
                    rw [← hsm]; exact hmeet, exU rfl, rfl⟩)
            · have hsm : b2.marks.getD j default = spMark b b2 k j := by rw [spMark, if_neg (by omega)]
              refine k_nil ?_; refine run_no ?_; refine run_skip ?_; refine rr7 (by kernel_rfl) ?_; first | refine k_fa0 rfl zq ?_ | refine k_fa rfl zq ?_
              refine k_ldh rfl zq ?_; refine k_ldA rfl zq ?_; refine k_bs kdq rfl zq (by decide) (by decide) rfl (fun q123 => k_hp (k_put ?_)); refine k_app1 (F := h ++ [⟨true, q3, .cells (bkL b (some ⟨mb, mo, none⟩) nm cm pr nr cr).toArray 25 (0, 0)⟩, ⟨true, q4, .cells (bkL b2 (some ⟨mb2, mo2, none⟩) nm2 cm2 pr2 nr2 cr2).toArray 25 (0, 0)⟩, ⟨true, q6, .cells ([.int .i64 0, .int .i64 0, .int .i64 0, .slice none 0 0, .slice none 0 0] : List Value).toArray 25 (0, 0)⟩, ⟨true, q12, .cells [.int .i64 (min b.bend b2.bend), .int .i64 (min b.twist b2.twist), .int .i64 (min b.turns b2.turns), .slice mp (w + j) mc, .slice p2 nr c2].toArray 25 (0, 0)⟩] ++ n2) rfl zq rfl ho kdq (by omega) (by omega) (fun w9 n9 o9 => k_put ?_); replace o9 : OwnS 92 2 w9 (w + (j + 1)) (encs (spMarks b b2 k (j + 1))) n9 := by
                rw [spMarks_succ, encs_append, encs_spL, ← hsm]; exact o9
              obtain ⟨p9, c9, rfl, hc9, r9⟩ := own_rdA (B := B) o9
              first | refine k_fa0 rfl zq ?_ | refine k_fa rfl zq ?_
              refine k_st1 rfl zq ?_; refine k_nil ?_; refine run_inBlock ?_; refine rr2 (by kernel_rfl) ?_; refine k_add rfl zq (by unfold In64; omega) ?_; refine mq rfl ?_; refine k_nil ?_; exact m.weak weakSub (hnext2 _ _ _ (by omega) ⟨j + 1, _, _, n9, rfl, by omega, o9, fun i hi hik => by
                rcases Nat.lt_or_ge i j with h1 | h1
                · exact hmt i h1 hik
                · omega, exU rfl, rfl⟩)
          · refine k_nil ?_; refine run_seq ?_; refine run_no ?_; refine run_exit rfl ?_; refine run_seq ?_; refine rs4 (by kernel_rfl) ?_; obtain rfl : j = nm2 := by omega
            have hS : spS0 b b2 k = 0 := by
              rw [hS0, if_neg]; rintro ⟨i, h1, h2, h3⟩; have := hmt i (by omega) h1
              omega
            first | refine k_fa0 rfl zq ?_ | refine k_fa rfl zq ?_
            refine k_ldh rfl zq ?_; refine k_len rfl zq ?_; refine mq rfl ?_; refine k_nil ?_; refine run_block ?_; refine m.weak (h' := h ++ [⟨true, q6, .cells ([.int .i64 0, .int .i64 0, .int .i64 0, .slice none 0 0, .slice none 0 0] : List Value).toArray 25 (0, 0)⟩, ⟨true, q12, .cells [.int .i64 (min b.bend b2.bend), .int .i64 (min b.twist b2.twist), .int .i64 (min b.turns b2.turns), .slice mp (w + j) mc, .slice p2 nr c2].toArray 25 (0, 0)⟩] ++ n2 ++ M) weakSub ?_
            refine m.weak weak_swap ?_
            refine run_loop (fun nn l h' => ∃ (t : Nat) (rp : Option Addr) (rc : Nat) (R : Hp), nn = nr2 - t ∧ (t ≤ nr2) ∧ (OwnS 94 4 (.slice rp (nr + t) rc) (nr + t) (encs (spRules b b2 k t)) R) ∧ (∃ U : Nat → Value, l = [U 0, U 1, .int .i64 k, U 3, U 4, U 5, .pointer (some ⟨q6, 0, none⟩), U 7, U 8, U 9, U 10, .int .i64 (w : Int), .pointer (some ⟨q12, 0, none⟩), U 13, U 14, U 15, U 16, U 17, U 18, U 19, U 20, U 21, U 22, U 23, U 24, U 25, U 26, U 27, U 28, U 29, U 30, U 31, U 32, U 33, U 34, U 35, U 36, U 37, U 38, U 39, U 40, U 41, U 42, U 43, U 44, U 45, U 46, U 47, U 48, U 49, U 50, U 51, U 52, U 53, U 54, U 55, U 56, U 57, U 58, U 59, U 60, U 61, U 62, U 63, U 64, U 65, U 66, U 67, U 68, U 69, U 70, U 71, U 72, U 73, U 74, U 75, U 76, U 77, U 78, U 79, U 80, U 81, U 82, U 83, U 84, U 85, U 86, U 87, U 88, U 89, U 90, U 91, U 92, U 93, U 94, U 95, U 96, U 97, U 98, U 99, U 100, U 101, U 102, U 103, U 104, U 105, U 106, U 107, U 108, U 109, U 110, U 111, U 112, U 113, U 114, U 115, U 116, U 117, U 118, U 119, U 120, U 121, U 122, U 123, U 124, U 125, U 126, U 127, .slice pr2 nr2 cr2, .int .i64 (nr2 : Int), .int .i64 (t : Int), U 131, U 132, U 133, U 134, U 135, U 136, U 137, U 138, U 139, U 140, U 141, U 142, U 143, U 144, U 145, U 146, U 147, U 148, U 149, U 150, U 151, U 152, U 153, U 154]) ∧ h ++ [⟨true, q6, .cells ([.int .i64 0, .int .i64 0, .int .i64 0, .slice none 0 0, .slice none 0 0] : List Value).toArray 25 (0, 0)⟩, ⟨true, q12, .cells [.int .i64 (min b.bend b2.bend), .int .i64 (min b.twist b2.twist), .int .i64 (min b.turns b2.turns), .slice mp (w + j) mc, .slice rp (nr + t) rc].toArray 25 (0, 0)⟩] ++ M ++ R = h') _ ⟨0, _, _, _, rfl, by omega, by rw [spRules]; simpa using o2, exU rfl, rfl⟩ ?_; rintro nn l h' ⟨t, rp, rc, R, rfl, ht, hor, ⟨U, rfl⟩, rfl⟩ hnext3; refine rs1 (by kernel_rfl) ?_; refine k_lssS rfl zq (fun hc => ?_) (fun hc => ?_)
            · refine k_nil ?_; refine run_seq ?_; refine run_yes ?_; refine run_skip ?_; refine run_seq ?_; refine run_block ?_; refine rs4 (by kernel_rfl) ?_; obtain ⟨rb2, ro2, rfl⟩ := rdr2.ptr (by omega)
              refine k_ixs rfl zq (by first | rfl | assumption) (by omega) (by omega) ?_; refine k_ldN (vs := ruL (b2.rules.getD t default)) rfl zq rfl (rdr2.eat t (by omega) (by omega)) ?_; refine k_new rfl zq (fun q18 => k_hp (k_put ?_)); refine k_stA rfl zq rfl ?_; refine k_nil ?_; refine run_region [(0, .free), (1, .free), (2, .free), (3, .free), (4, .free), (5, .free), (6, .free), (7, .free), (8, .free), (9, .free), (10, .free), (11, .free), (12, .free), (13, .free), (14, .free), (15, .free), (16, .free)] (by kernel_rfl) (by kernel_rfl) ?_; have hrj := hv2.rules _ (mem_getDR.2 ⟨t, by omega, rfl⟩)
              first | refine k_fa0 rfl zq ?_ | refine k_fa rfl zq ?_
              refine k_ldh rfl zq ?_; first | refine k_fa0 rfl zq ?_ | refine k_fa rfl zq ?_
              refine k_ldh rfl zq ?_; refine mq rfl ?_; refine k_add rfl zq (by unfold In64; omega) ?_; first | refine k_fa0 rfl zq ?_ | refine k_fa rfl zq ?_
              refine k_ldh rfl zq ?_; refine mq rfl ?_; refine k_add rfl zq (by unfold In64; omega) ?_; first | refine k_fa0 rfl zq ?_ | refine k_fa rfl zq ?_
              refine k_ldA rfl zq ?_; refine k_bld rfl zq ?_; refine k_bs kdq rfl zq (by decide) (by decide) rfl (fun q147 => k_hp (k_put ?_)); refine k_app1 (F := h ++ [⟨true, q6, .cells ([.int .i64 0, .int .i64 0, .int .i64 0, .slice none 0 0, .slice none 0 0] : List Value).toArray 25 (0, 0)⟩, ⟨true, q12, .cells [.int .i64 (min b.bend b2.bend), .int .i64 (min b.twist b2.twist), .int .i64 (min b.turns b2.turns), .slice mp (w + j) mc, .slice rp (nr + t) rc].toArray 25 (0, 0)⟩] ++ M) rfl zq rfl hor kdq (by omega) (by omega) (fun w9 n9 o9 => k_put ?_); replace o9 : OwnS 94 4 w9 (nr + (t + 1)) (encs (spRules b b2 k (t + 1))) n9 := by
                rw [spRules_succ _ _ _ _ (by omega), encs_append, encs_ruL, hat]; exact o9
              obtain ⟨p9, c9, rfl, hc9, r9⟩ := own_rdA (B := B) o9
              first | refine k_fa0 rfl zq ?_ | refine k_fa rfl zq ?_
              refine k_st1 rfl zq ?_; refine k_nil ?_; refine run_inBlock ?_; refine rr2 (by kernel_rfl) ?_; refine k_add rfl zq (by unfold In64; omega) ?_; refine mq rfl ?_; refine k_nil ?_; exact m.weak weakSub (hnext3 _ _ _ (by omega) ⟨t + 1, _, _, n9, rfl, by omega, o9, exU rfl, rfl⟩)
            · refine k_nil ?_; refine run_seq ?_; refine run_no ?_; refine run_exit rfl ?_; refine rs6 (by kernel_rfl) ?_; obtain rfl : t = nr2 := by omega
              have hspm : (spB b b2 k).marks = spMarks b b2 k j := by rw [spB, hml2]
              have hspr : (spB b b2 k).rules = spRules b b2 k t := by rw [spB, hrl2]
              rw [← hspm] at ho
              rw [← hspr] at hor
              have rM : RdS B M 2 (.slice mp (w + j) mc) (w + j) (encs (spB b b2 k).marks) := ho.rd (List.Sublist.refl _)
              have rR : RdS B R 4 (.slice rp (nr + t) rc) (nr + t) (encs (spB b b2 k).rules) := hor.rd (List.Sublist.refl _)
              refine k_ldA rfl zq ?_; refine k_calC rfl zq (by kernel_rfl) (fun H' hH => f137_c m H' (b := spB b b2 k) (rM.keeps (sq hH)) (by omega) (rR.keeps (sq hH)) (by omega)) ?_; rintro v n5 ⟨w5, rfl, pm5, nm5, cm5, pr5, nr5, cr5, rfl, hb5⟩; refine k_hpA (k_put ?_); refine k_ext0 rfl zq ?_; refine k_ext1 rfl zq ?_; refine k_stA rfl zq rfl ?_; refine aq rfl ?_; refine run_ret rfl ?_; refine run_res (h ++ n5) rfl Tryz.func74 rfl weakSub ?_; refine hK _ _ ?_
              exact ⟨n5, rfl, _, by rw [spliceS, if_neg (fun e => e hS)], by rw [spliceB, if_neg (fun e => e hS)]; exact ⟨_, _, _, _, _, _, rfl, hb5⟩⟩
    · refine k_put ?_; refine k_notF rfl zq ?_; refine aq rfl ?_; refine run_yes ?_; refine rs3 (by kernel_rfl) ?_; have hS : spS0 b b2 k = 1 := by rw [hS0, if_pos (by omega)]
      refine k_bld rfl zq ?_; refine k_stA rfl zq rfl ?_; refine aq rfl ?_; refine run_ret rfl ?_; refine run_res (h) rfl Tryz.func74 rfl weakSub ?_; refine hK _ _ ?_
      have hne : spS0 b b2 k ≠ 0 := by rw [hS]; first | decide | assumption
      exact ⟨[], by simp, _, by rw [spliceS, if_pos hne, hS], by rw [spliceB, if_pos hne]; exact BkR.zero⟩
end Go.Proofs
namespace Go.Lo
open Go.Conc (G)
section
variable {P : Program} {B : Array Obj} {h : Hp}
theorem reads_partS {e : TypeId} {cs : Array Value} {o : Nat} {v : Value} [Scal P e] (hv : cs[o]? = some v) : Reads P B (part e cs o) h v := by
  unfold part
  refine Reads.bind und_scal ?_
  simp only [hv]
  exact Reads.pure _
def keyB (P : Program) (t : TypeId) : Bool := match P.underlying t with
  | some (.struct fs) => (match fs.toList with
    | [f, g] => f.offset == 0 && g.offset == 1 && f.name != "_" && g.name != "_" && scalB P f.type && scalB P g.type && (match P.underlying f.type with | some (.int .i64) => true | _ => false) && (match P.underlying g.type with | some (.int .i64) => true | _ => false)
    | _ => false) && !P.stoodInHeld t
  | _ => false
class KeyT (P : Program) (t : TypeId) : Prop where
  eq : keyB P t = true
theorem KeyT.spec {t : TypeId} [k : KeyT P t] : ∃ f g : Field, P.underlying t = some (.struct #[f, g]) ∧ f.offset = 0 ∧ g.offset = 1 ∧ f.name ≠ "_" ∧ g.name ≠ "_" ∧ Scal P f.type ∧ Scal P g.type ∧ P.underlying f.type = some (.int .i64) ∧ P.underlying g.type = some (.int .i64) ∧ P.stoodInHeld t = false := by
  have := k.eq
  unfold keyB at this
  split at this
  · rename_i fs hu
    rw [Bool.and_eq_true] at this
    obtain ⟨h1, h2⟩ := this
    split at h1
    · rename_i f g hfs
      simp only [Bool.and_eq_true, beq_iff_eq, bne_iff_ne, ne_eq] at h1
      obtain ⟨⟨⟨⟨⟨⟨⟨a1, a2⟩, a3⟩, a4⟩, a5⟩, a6⟩, a7⟩, a8⟩ := h1
      refine ⟨f, g, ?_, a1, a2, a3, a4, ⟨a5⟩, ⟨a6⟩, ?_, ?_, by simpa using h2⟩
      · rw [hu]; congr 2; exact Array.ext' (by rw [hfs])
      · split at a7
        · assumption
        · cases a7
      · split at a8
        · assumption
        · cases a8
    · cases h1
  · cases this
def keyV (s x : Int) : Value := .agg [.int .i64 s, .int .i64 x].toArray
theorem reads_eqK (dd : Nat) {t : TypeId} [KeyT P t] (a b c d : Int) : Reads P B (Op.equalIn (dd + 2) t (keyV a b) (keyV c d)) h (a == c && b == d) := by
  obtain ⟨f, g, hu, o1, o2, n1, n2, s1, s2, u1, u2, hs⟩ := KeyT.spec (P := P) (t := t)
  unfold Op.equalIn
  refine Reads.bind (still_und hu).reads ?_
  simp only [keyV]
  refine Reads.bind Reads.program' ?_
  simp only [hs, Bool.false_eq_true, if_false, pure_bind]
  rw [← Array.forIn_toList]; simp only [List.forIn_cons, List.forIn_nil, n1, n2, ne_eq, not_false_eq_true, if_true, o1, o2, bind_assoc]
  refine Reads.bind (reads_partS (v := .int .i64 a) rfl) (Reads.bind (reads_partS (v := .int .i64 c) rfl) (Reads.bind (reads_eqi dd u1 a c) ?_))
  cases hab : (a == c)
  · simp only [Bool.not_false, if_true, pure_bind, Bool.false_and]; exact Reads.pure _
  · simp only [Bool.not_true, Bool.false_eq_true, if_false, pure_bind, Bool.true_and, bind_assoc]
    refine Reads.bind (reads_partS (v := .int .i64 b) rfl) (Reads.bind (reads_partS (v := .int .i64 d) rfl) (Reads.bind (reads_eqi dd u2 b d) ?_))
    cases hbd : (b == d)
    · simp only [Bool.not_false, if_true, pure_bind]; exact Reads.pure _
    · simp only [Bool.not_true, Bool.false_eq_true, if_false, pure_bind]; exact Reads.pure _
theorem reads_check (dd : Nat) {e : Bool} {t : TypeId} [KeyT P t] (a b : Int) : Reads P B (Instr.checkKey e (dd + 2) t (keyV a b)) h () := by
  obtain ⟨f, g, hu, o1, o2, n1, n2, s1, s2, u1, u2, hs⟩ := KeyT.spec (P := P) (t := t)
  have one : ∀ (t : TypeId) (n : Int), P.underlying t = some (.int .i64) → Reads P B (Instr.checkKey e (dd + 1) t (.int .i64 n)) h () := fun t n ht => by
    unfold Instr.checkKey
    refine Reads.bind (still_und ht).reads ?_
    exact Reads.pure _
  unfold Instr.checkKey
  refine Reads.bind (still_und hu).reads ?_
  simp only [keyV]
  rw [← Array.forIn_toList]; simp only [List.forIn_cons, List.forIn_nil, n1, n2, ne_eq, not_false_eq_true, if_true, o1, o2, bind_assoc, pure_bind]
  refine Reads.bind (reads_partS (v := .int .i64 a) rfl) (Reads.bind (one _ _ u1) ?_)
  refine Reads.bind (reads_partS (v := .int .i64 b) rfl) (Reads.bind (one _ _ u2) ?_)
  exact Reads.pure _
def entsF : List (Int × Int × Int) → Nat → List MapEntry
  | [], _ => []
  | e :: r, b => ⟨keyV e.1 e.2.1, .int .i64 e.2.2, b⟩ :: entsF r (b + 1)
def mapO (l : List (Int × Int × Int)) : Obj := .map (entsF l 0).toArray l.length
def findE (s x : Int) : List (Int × Int × Int) → Nat → Option (Nat × Int)
  | [], _ => none
  | e :: r, i => if e.1 = s ∧ e.2.1 = x then some (i, e.2.2) else findE s x r (i + 1)
def cntE (l : List (Int × Int × Int)) (s x : Int) : Int := match findE s x l 0 with | some (_, n) => n | none => 0
def bumpE (l : List (Int × Int × Int)) (s x : Int) (n : Int) : List (Int × Int × Int) := match findE s x l 0 with | some (i, _) => l.set i (s, x, n) | none => l ++ [(s, x, n)]
def haveE (l : List (Int × Int × Int)) (s x : Int) : List (Int × Int × Int) := match findE s x l 0 with | some _ => l | none => l ++ [(s, x, 0)]
def posE (l : List (Int × Int × Int)) (s x : Int) : Nat := match findE s x l 0 with | some (i, _) => i | none => l.length
theorem reads_find {t : TypeId} [KeyT P t] (s x : Int) : ∀ (l : List (Int × Int × Int)) (b i : Nat), Reads P B (Instr.findAsking t (keyV s x) (entsF l b) i) h ((findE s x l i).map fun p => (p.1, .int .i64 p.2))
  | [], _, _ => Reads.pure _
  | e :: r, b, i => by
    unfold entsF Instr.findAsking findE
    refine Reads.bind (reads_eqK 9998 s x e.1 e.2.1) ?_
    by_cases hk : e.1 = s ∧ e.2.1 = x
    · rw [if_pos hk, if_pos (by simp [hk.1, hk.2])]; exact Reads.pure _
    · rw [if_neg hk, if_neg (by simp; exact fun a b => hk ⟨a.symm, b.symm⟩)]; exact reads_find s x r (b + 1) (i + 1)
theorem reads_findKey {t : TypeId} [KeyT P t] (s x : Int) (l : List (Int × Int × Int)) : Reads P B (Instr.findKey t (keyV s x) (entsF l 0)) h ((findE s x l 0).map fun p => (p.1, .int .i64 p.2)) := by
  obtain ⟨f, g, hu, _⟩ := KeyT.spec (P := P) (t := t)
  unfold Instr.findKey
  refine Reads.bind (still_und hu).reads ?_
  cases l with
  | nil => exact Reads.pure _
  | cons e r =>
    show Reads P B (match Instr.findNow (.struct #[f, g]) (keyV s x) (entsF (e :: r) 0) 0 with | some r => pure r | none => _) h _
    have : Instr.findNow (.struct #[f, g]) (keyV s x) (entsF (e :: r) 0) 0 = none := by
      unfold entsF Instr.findNow
      simp [Instr.sameNow]
    rw [this]; exact reads_find s x _ _ _
theorem entsF_get : ∀ (l : List (Int × Int × Int)) (b j : Nat), (entsF l b)[j]? = (l[j]?).map fun e => ⟨keyV e.1 e.2.1, .int .i64 e.2.2, b + j⟩
  | [], _, _ => by simp [entsF]
  | e :: r, b, 0 => by simp [entsF]
  | e :: r, b, j + 1 => by simp [entsF, entsF_get r (b + 1) j, Nat.add_assoc, Nat.add_comm 1 j]
theorem entsF_append : ∀ (l r : List (Int × Int × Int)) (b : Nat), entsF (l ++ r) b = entsF l b ++ entsF r (b + l.length)
  | [], r, b => by simp [entsF]
  | e :: l, r, b => by simp [entsF, entsF_append l r (b + 1), Nat.add_assoc, Nat.add_comm 1]
theorem findE_some (s x : Int) : ∀ (l : List (Int × Int × Int)) (i j : Nat) (n : Int), findE s x l i = some (j, n) → ∃ p, j = i + p ∧ l[p]? = some (s, x, n)
  | [], _, _, _, h => by simp [findE] at h
  | e :: r, i, j, n, h => by
    unfold findE at h
    split at h
    · rename_i hk
      obtain ⟨rfl, rfl⟩ := Prod.mk.inj (Option.some.inj h)
      obtain ⟨e1, e2, e3⟩ := e
      obtain ⟨rfl, rfl⟩ := hk
      exact ⟨0, rfl, rfl⟩
    · obtain ⟨p, rfl, hp⟩ := findE_some s x r (i + 1) j n h
      exact ⟨p + 1, by omega, by simpa using hp⟩
theorem findE_none (s x : Int) : ∀ (l : List (Int × Int × Int)) (i : Nat), findE s x l i = none → ∀ e ∈ l, ¬ (e.1 = s ∧ e.2.1 = x)
  | [], _, _, _, h => by simp at h
  | e :: r, i, h, e', he => by
    unfold findE at h
    split at h
    · cases h
    · rcases List.mem_cons.1 he with rfl | he
      · assumption
      · exact findE_none s x r (i + 1) h e' he
theorem entsF_set (l : List (Int × Int × Int)) (j : Nat) (s x n v : Int) (hj : l[j]? = some (s, x, n)) : (entsF l 0).toArray.modify j (fun e => { e with val := .int .i64 v }) = (entsF (l.set j (s, x, v)) 0).toArray := by
  apply Array.ext_getElem?
  intro i
  rw [Array.getElem?_modify, List.getElem?_toArray, List.getElem?_toArray, entsF_get, entsF_get, List.getElem?_set]; by_cases e : j = i
  · subst e
    have hlt := (List.getElem?_eq_some_iff.1 hj).1
    have hg := (List.getElem?_eq_some_iff.1 hj).2
    simp [hlt, hg]
  · simp [e]
theorem entsF_same (l : List (Int × Int × Int)) (j : Nat) (s x n : Int) (hj : l[j]? = some (s, x, n)) : (entsF l 0).toArray.modify j (fun e => { e with key := keyV s x }) = (entsF l 0).toArray := by
  apply Array.ext_getElem?
  intro i
  rw [Array.getElem?_modify, List.getElem?_toArray, entsF_get]; by_cases e : j = i
  · subst e; simp [hj]
  · simp [e]
theorem findIdx_born : ∀ (l : List (Int × Int × Int)) (b p : Nat), p < l.length → (entsF l b).findIdx? (fun e => (e.born : Int) == ((b + p : Nat) : Int)) = some p
  | [], _, _, h => by simp at h
  | e :: r, b, 0, _ => by rw [entsF, List.findIdx?_cons, if_pos (by simp)]
  | e :: r, b, p + 1, h => by
    have ih := findIdx_born r (b + 1) p (by simpa using h)
    unfold entsF
    rw [List.findIdx?_cons, if_neg (by simp; omega), show b + (p + 1) = (b + 1) + p by omega, ih]; rfl
end
section
variable {P : Program} {B : Array Obj} {m : Md P B} {ops : Array Oper} {l l' : List Value} {S h h' H : Hp} {C : List Value → Hp → Prop} {i : Nat} {kd : Kd} {r : List (Nat × Kd)}
  {d : Option Tmp} {ty : TypeId} {pos : String} {af : Array Edge} {g : Option (Nat × Bool)}
theorem k_mkmap {t : TypeId} (ho : ops[i]? = some ⟨d, .makeMap t none, ty, pos, af, g⟩) (hw : Wt ops l g) (n : ∀ q, RegK m S ops r (put l d (.map (some q))) (h ++ [⟨true, q, mapO []⟩]) C) : RegK m S ops ((i, .free) :: r) l h C := by
  refine RegK.ke (.inr rfl) ho hw ?_
  simp only [execOp]
  refine Tri.bind ?_
  unfold Instr.makeMap
  simp only [Option.map_none]
  refine Tri.bind (tri_new fun q _ _ => Tri.pure (Tri.pure ⟨.inl (by trivial), n q⟩))
theorem k_lookup {t k e q : Nat} {x y : Operand} {rw : Bool} {s v : Int} {es : List (Int × Int × Int)} (ht : P.underlying t = some (.map k e)) (ho : ops[i]? = some ⟨d, .lookup t x y false, ty, pos, af, g⟩) (hw : Wt ops l g) [KHeap kd S h H] [ex : OpV l x (.map (some q))] [ey : OpV l y (.agg [.int .i64 s, .int .i64 v].toArray)]
    [hq : Has H q rw (mapO es)] [KeyT P k] [ZeroT P e (.int .i64 0)] [PutV l d (.int .i64 (cntE es s v)) l'] (n : RegK m S ops r l' h C) : RegK m S ops ((i, kd) :: r) l h C :=
  RegK.rd (v := .int .i64 (cntE es s v)) ho hw (by
    simp only [execOp, ex.eq, ey.eq]
    refine Reads.value ?_
    unfold Instr.lookup
    refine Reads.bind (still_und ht).reads ?_
    dsimp only
    refine Reads.bind (reads_obj hq.mem rfl) ?_
    dsimp only [mapO]
    refine Reads.bind (Reads.pure _) ?_
    refine Reads.bind (reads_check 9998 s v) ?_
    refine Reads.bind (reads_findKey (t := k) s v es) ?_
    unfold cntE
    cases findE s v es 0 with
    | none => exact Reads.bind reads_zero (Reads.pure _)
    | some p => exact Reads.pure _) n
theorem k_mapEntry {t k e q : Nat} {x y : Operand} {s v : Int} {es : List (Int × Int × Int)} {rw : Bool} (ht : P.underlying t = some (.map k e)) (ho : ops[i]? = some ⟨d, .mapEntry t x y, ty, pos, af, g⟩) (hw : Wt ops l g) [ex : OpV l x (.map (some q))] [ey : OpV l y (.agg [.int .i64 s, .int .i64 v].toArray)]
    [hq : Has h q rw (mapO es)] [u : Upd h q (mapO (haveE es s v)) h'] [KeyT P k] [ZeroT P e (.int .i64 0)] (n : RegK m S ops r (put l d (.tuple [.int .i64 (cntE es s v), .int .i64 (posE es s v)].toArray)) h' C) : RegK m S ops ((i, .free) :: r) l h C := by
  obtain ⟨o1, h1, h2, e1, e2⟩ := u.ex
  refine RegK.ke (.inr rfl) ho hw ?_
  refine tri_upd hq.mem ⟨o1, h1, h2, e1, rfl⟩ ?_
  simp only [execOp, ex.eq, ey.eq]
  refine Tri.bind ?_
  unfold Instr.mapEntry
  refine Tri.bind ((still_und ht).reads.tri ?_)
  refine Tri.bind ((reads_obj (o := mapO es) (rw := true) (by simp) rfl).tri ?_)
  refine Tri.bind ((reads_check 9998 s v).tri ?_)
  refine Tri.bind ((reads_findKey (t := k) s v es).tri ?_)
  cases hf : findE s v es 0 with
  | none =>
    have e3 : haveE es s v = es ++ [(s, v, 0)] := by simp only [haveE, hf]
    have e4 : posE es s v = es.length := by simp only [posE, hf]
    have e5 : cntE es s v = 0 := by simp only [cntE, hf]
    simp only [Option.map_none]
    refine Tri.bind (reads_zero.tri ?_)
    refine Tri.bind (tri_setObj rfl rfl ?_)
    refine Tri.pure (Tri.pure ⟨.inl (by trivial), ?_⟩)
    have : (Obj.map ((entsF es 0).toArray.push { key := keyV s v, val := .int .i64 0, born := es.length }) (es.length + 1)) = mapO (haveE es s v) := by
      rw [e3, mapO, entsF_append]; simp [entsF]
    rw [e4, e5] at n
    show RegK m S ops r _ (h1 ++ ⟨true, q, Obj.map ((entsF es 0).toArray.push { key := keyV s v, val := .int .i64 0, born := es.length }) (es.length + 1)⟩ :: h2) C
    rw [this, ← e2]; exact n
  | some p =>
    obtain ⟨p, c⟩ := p
    obtain ⟨p', hp, hget⟩ := findE_some s v es 0 p c hf
    rw [Nat.zero_add] at hp
    subst hp
    have e3 : haveE es s v = es := by simp only [haveE, hf]
    have e4 : posE es s v = p := by simp only [posE, hf]
    have e5 : cntE es s v = c := by simp only [cntE, hf]
    have hold : (((entsF es 0).toArray[p]?).map (·.key)).getD (keyV s v) = keyV s v := by
      rw [List.getElem?_toArray, entsF_get, hget]; rfl
    have hborn : (((entsF es 0).toArray[p]?).map (fun x => (x.born : Int))).getD 0 = p := by
      rw [List.getElem?_toArray, entsF_get, hget]; simp
    simp only [Option.map_some]
    refine Tri.bind ?_
    have key : ∀ (Q : Value → Hp → Prop) (hh : Hp), Q (keyV s v) hh → Tri P B (Instr.keyThatStays (((entsF es 0).toArray[p]?.map (·.key)).getD (keyV s v)) (keyV s v)) hh Q := by
      intro Q hh hQ
      rw [hold]; unfold Instr.keyThatStays
      split
      · exact Tri.pure hQ
      · refine Tri.bind (tri_choose rfl fun z => Tri.pure ?_)
        split <;> exact hQ
    refine key _ _ ?_
    refine Tri.bind (tri_setObj rfl rfl ?_)
    refine Tri.pure (Tri.pure ⟨.inl (by trivial), ?_⟩)
    have : (Obj.map ((entsF es 0).toArray.modify p fun e => { e with key := keyV s v }) es.length) = mapO (haveE es s v) := by
      rw [e3, entsF_same es p s v c hget]; rfl
    show RegK m S ops r (put l d (.tuple #[.int .i64 c, goInt (((entsF es 0).toArray[p]?.map (fun x => (x.born : Int))).getD 0)])) (h1 ++ ⟨true, q, Obj.map ((entsF es 0).toArray.modify p fun e => { e with key := keyV s v }) es.length⟩ :: h2) C
    rw [this, ← e2, hborn]; rw [e4, e5] at n
    exact n
theorem k_entryStore {t q p : Nat} {x y z : Operand} {s v c w : Int} {es : List (Int × Int × Int)} {rw : Bool} (ho : ops[i]? = some ⟨none, .entryStore t x y z, ty, pos, af, g⟩) (hw : Wt ops l g) [ex : OpV l x (.map (some q))] [ey : OpV l y (.int .i64 (p : Int))] [ez : OpV l z (.int .i64 w)]
    [hq : Has h q rw (mapO es)] (hp : es[p]? = some (s, v, c)) [u : Upd h q (mapO (es.set p (s, v, w))) h'] (n : RegK m S ops r l h' C) : RegK m S ops ((i, .free) :: r) l h C := by
  obtain ⟨o1, h1, h2, e1, e2⟩ := u.ex
  refine RegK.ke (.inr rfl) ho hw ?_
  refine tri_upd hq.mem ⟨o1, h1, h2, e1, rfl⟩ ?_
  simp only [execOp, ex.eq, ey.eq, ez.eq]
  refine Tri.bind ?_
  unfold Instr.entryStore
  refine Tri.bind ((reads_obj (o := mapO es) (rw := true) (by simp) rfl).tri ?_)
  refine Tri.bind (Tri.pure (a := (p : Int)) ?_)
  have hi := findIdx_born es 0 p (List.getElem?_eq_some_iff.1 hp).1
  rw [Nat.zero_add] at hi
  have hi' : (entsF es 0).toArray.findIdx? (fun e => (e.born : Int) == (p : Int)) = some p := by simpa using hi
  simp only [mapO, hi']
  refine tri_setObj rfl rfl ?_
  refine Tri.pure ⟨.inl (by trivial), ?_⟩
  rw [entsF_set es p s v c w hp]; have : (Obj.map (entsF (es.set p (s, v, w)) 0).toArray es.length) = mapO (es.set p (s, v, w)) := by simp [mapO]
  rw [this, ← e2]; exact n
theorem tri_mapNext {n : Nat} {Q : Nat → Hp → Prop} (hn : 0 < n) (q : ∀ t, t < n → Q t h) : Tri P B (choose (.mapNext n)) h Q := by
  by_cases e : n ≤ 1
  · exact (show Reads P B (choose (.mapNext n)) h 0 from fun w _ => ⟨by simp [choose, Sem.run, Question.forced, e], by simp [choose, Sem.events, Sem.runT, Question.forced, e]⟩).tri (q 0 hn)
  · exact tri_choose (by simp [Question.forced, e]) fun t => q _ (Nat.mod_lt _ hn)
def iterO (mq n : Nat) (sn : List Nat) : Obj := .mapIter (some mq) n sn.toArray n
theorem k_range {t k e mq : Nat} {x : Operand} {rw : Bool} {es : List (Int × Int × Int)} (ht : P.underlying t = some (.map k e)) (ho : ops[i]? = some ⟨d, .range t x, ty, pos, af, g⟩) (hw : Wt ops l g) [ex : OpV l x (.map (some mq))] [hq : Has h mq rw (mapO es)]
    (n : ∀ q, RegK m S ops r (put l d (.pointer (some ⟨q, 0, none⟩))) (h ++ [⟨true, q, iterO mq es.length []⟩]) C) : RegK m S ops ((i, .free) :: r) l h C := by
  refine RegK.ke (.inr rfl) ho hw ?_
  simp only [execOp, ex.eq]
  refine Tri.bind ?_
  unfold Instr.range
  refine Tri.bind ((still_und ht).reads.tri ?_)
  dsimp only
  refine Tri.bind ((reads_obj hq.mem rfl).tri ?_)
  dsimp only [mapO]
  refine Tri.bind (Tri.pure ?_)
  refine Tri.bind (tri_new fun q _ _ => Tri.pure (Tri.pure ⟨.inl (by trivial), n q⟩))
theorem entsF_mem {es : List (Int × Int × Int)} {e : MapEntry} (h : e ∈ entsF es 0) : ∃ p, p < es.length ∧ e = ⟨keyV (es.getD p default).1 (es.getD p default).2.1, .int .i64 (es.getD p default).2.2, p⟩ := by
  obtain ⟨p, hp⟩ := List.mem_iff_getElem?.1 h
  rw [entsF_get] at hp
  cases hg : es[p]? with
  | none => rw [hg] at hp; cases hp
  | some a =>
    rw [hg] at hp
    refine ⟨p, (List.getElem?_eq_some_iff.1 hg).1, ?_⟩
    rw [List.getD_eq_getElem?_getD, hg]; simpa using hp.symm
theorem k_next {mq q : Nat} {x : Operand} {rw rw' : Bool} {es : List (Int × Int × Int)} {sn : List Nat} {h' : Nat → Hp} (ho : ops[i]? = some ⟨d, .next x false, ty, pos, af, g⟩) (hw : Wt ops l g) [ex : OpV l x (.pointer (some ⟨q, 0, none⟩))] [hm : Has h mq rw (mapO es)]
    [hq : Has h q rw' (iterO mq es.length sn)] [u : ∀ p, Upd h q (iterO mq es.length (sn ++ [p])) (h' p)] (done : (∀ p, p < es.length → p ∈ sn) → RegK m S ops r (put l d (.tuple [.bool false].toArray)) h C)
    (more : ∀ p, p < es.length → p ∉ sn → RegK m S ops r (put l d (.tuple [.bool true, .agg [.int .i64 (es.getD p default).1, .int .i64 (es.getD p default).2.1].toArray, .int .i64 (es.getD p default).2.2].toArray)) (h' p) C) : RegK m S ops ((i, .free) :: r) l h C := by
  refine RegK.ke (.inr rfl) ho hw ?_
  simp only [execOp, ex.eq]
  refine Tri.bind ?_
  unfold Instr.next
  refine Tri.bind ((reads_obj hq.mem rfl).tri ?_)
  dsimp only [iterO]
  refine Tri.bind ((reads_obj hm.mem rfl).tri ?_)
  dsimp only [mapO]
  have hun : (!sn.toArray.isEmpty && !(entsF es 0).toArray.isEmpty && (entsF es 0).toArray.all fun e => decide (e.born ≥ es.length)) = false := by
    cases es with
    | nil => simp [entsF]
    | cons a r => simp [entsF]
  rw [hun]; simp only [Bool.false_eq_true, if_false, pure_bind]
  have hold : ∀ (A : Array MapEntry), (∀ e ∈ A, e.born < es.length) → A.filter (fun e => decide (e.born < es.length)) = A ∧ A.filter (fun e => decide (e.born ≥ es.length)) = #[] := fun A hA => by
    constructor
    · rw [Array.filter_eq_self]; intro e he; simpa using hA e he
    · rw [Array.filter_eq_empty_iff]; intro e he; have := hA e he; simp; omega
  have hleft : ∀ e ∈ (entsF es 0).toArray.filter (fun e => !sn.toArray.contains e.born), ∃ p, p < es.length ∧ p ∉ sn ∧ e = ⟨keyV (es.getD p default).1 (es.getD p default).2.1, .int .i64 (es.getD p default).2.2, p⟩ := fun e he => by
    rw [Array.mem_filter] at he
    obtain ⟨h1, h2⟩ := he
    obtain ⟨p, hp, rfl⟩ := entsF_mem (by simpa using h1)
    exact ⟨p, hp, by simpa using h2, rfl⟩
  generalize hL : (entsF es 0).toArray.filter (fun e => !sn.toArray.contains e.born) = left at hleft ⊢
  obtain ⟨ho1, ho2⟩ := hold left fun e he => by obtain ⟨p, hp, _, rfl⟩ := hleft e he; exact hp
  rw [ho1, ho2]; have hne : 0 < ((if left.isEmpty = true then #[none] else #[]) ++ (left ++ #[]).map some).size := by
    split
    · simp; omega
    · rename_i hh; simp only [Array.append_empty, Array.size_append, Array.size_map]; have := Array.size_pos_iff.2 (show left ≠ #[] from fun e => hh (by rw [e]; rfl)); omega
  refine Tri.bind (tri_mapNext hne fun t ht => ?_)
  by_cases he : left.isEmpty = true
  · have hl0 : left = #[] := by simpa using he
    subst hl0
    have ht0 : t = 0 := by simpa using ht
    subst ht0
    simp only [Array.isEmpty_empty, if_true, Array.append_empty, Array.map_empty]
    refine Tri.pure (Tri.pure ⟨.inl (by trivial), done fun p hp => ?_⟩)
    apply Classical.byContradiction
    intro hnp
    have hmem : (⟨keyV (es.getD p default).1 (es.getD p default).2.1, .int .i64 (es.getD p default).2.2, p⟩ : MapEntry) ∈ (entsF es 0).toArray.filter (fun e => !sn.toArray.contains e.born) := by
      rw [Array.mem_filter]; refine ⟨?_, by simpa using hnp⟩
      rw [List.mem_toArray, List.mem_iff_getElem?]; refine ⟨p, ?_⟩
      rw [entsF_get, List.getD_eq_getElem?_getD, List.getElem?_eq_getElem hp]; simp
    rw [hL] at hmem
    simp at hmem
  · rw [if_neg he] at ht ⊢
    simp only [Array.append_empty, Array.empty_append, Array.size_map] at ht ⊢
    have hget : (left.map some)[t]? = some (some left[t]) := by simp [ht]
    rw [hget]; obtain ⟨p, hp, hps, hpe⟩ := hleft left[t] (Array.getElem_mem ht)
    obtain ⟨o1, h1, h2, e1, e2⟩ := (u p).ex
    have hmr := more p hp hps
    dsimp only
    rw [hpe]; refine tri_upd hq.mem ⟨o1, h1, h2, e1, rfl⟩ ?_
    refine Tri.bind (tri_setObj rfl rfl ?_)
    refine Tri.pure (Tri.pure ⟨.inl (by trivial), ?_⟩)
    have : (Obj.mapIter (some mq) es.length (sn.toArray.push p) es.length) = iterO mq es.length (sn ++ [p]) := by simp [iterO]
    rw [this, ← e2]; exact hmr
theorem k_entry {mq q p : Nat} {x : Operand} {rw rw' : Bool} {es : List (Int × Int × Int)} {sn : List Nat} (hp : p < es.length) (ho : ops[i]? = some ⟨d, .entry x, ty, pos, af, g⟩) (hw : Wt ops l g) [KHeap kd S h H] [ex : OpV l x (.pointer (some ⟨q, 0, none⟩))] [hm : Has H mq rw (mapO es)]
    [hq : Has H q rw' (iterO mq es.length (sn ++ [p]))] [PutV l d (.tuple [.agg [.int .i64 (es.getD p default).1, .int .i64 (es.getD p default).2.1].toArray, .int .i64 (es.getD p default).2.2].toArray) l'] (n : RegK m S ops r l' h C) : RegK m S ops ((i, kd) :: r) l h C :=
  RegK.rd (v := .tuple [.agg [.int .i64 (es.getD p default).1, .int .i64 (es.getD p default).2.1].toArray, .int .i64 (es.getD p default).2.2].toArray) ho hw (by
    simp only [execOp, ex.eq]
    refine Reads.value ?_
    unfold Instr.entry
    refine Reads.bind (reads_obj hq.mem rfl) ?_
    dsimp only [iterO]
    have hb : (sn ++ [p]).toArray.back? = some p := by simp
    rw [hb]; dsimp only
    refine Reads.bind (reads_obj hm.mem rfl) ?_
    dsimp only [mapO]
    have hf : (entsF es 0).toArray.find? (fun e => e.born == p) = some ⟨keyV (es.getD p default).1 (es.getD p default).2.1, .int .i64 (es.getD p default).2.2, p⟩ := by
      have gen : ∀ (l : List (Int × Int × Int)) (b j : Nat), j < l.length → (entsF l b).find? (fun e => e.born == b + j) = some ⟨keyV (l.getD j default).1 (l.getD j default).2.1, .int .i64 (l.getD j default).2.2, b + j⟩ := by
        intro l
        induction l with
        | nil => intro b j hj; simp at hj
        | cons a r ih =>
          intro b j hj
          cases j with
          | zero => simp [entsF]
          | succ j =>
            have := ih (b + 1) j (by simpa using hj)
            rw [entsF, List.find?_cons, show ((b : Nat) == b + (j + 1)) = false by simp]; rw [show b + (j + 1) = (b + 1) + j by omega]; simpa using this
      have := gen es 0 p hp
      simpa using this
    rw [hf]; simp only [bne_self_eq_false, Bool.false_eq_true, if_false, pure_bind]
    exact Reads.pure _) n
theorem k_mks {t e n by' : Nat} {x y : Operand} (ho : ops[i]? = some ⟨d, .makeSlice t x y, ty, pos, af, g⟩) (hw : Wt ops l g) [ex : OpV l x (.int .i64 (n : Int))] [ey : OpV l y (.int .i64 (n : Int))] [SliceT P t e 1] [el : ElemT P e 1 by'] [ZeroT P e (.int .i64 0)] (hn0 : 0 < n) (hn : n ≤ 1000) (hby : by' ≤ 8)
    (c : ∀ q, RegK m S ops r (put l d (.slice (some ⟨q, 0, none⟩) n n)) (h ++ [⟨true, q, .cells (ints (List.replicate n 0)).toArray e (0, 0)⟩]) C) : RegK m S ops ((i, .free) :: r) l h C := by
  refine RegK.ke (.inr rfl) ho hw ?_
  obtain ⟨hu, hsz⟩ := slice_und (P := P) (B := B) (h := h) (t := t)
  obtain ⟨inf, z, hi1, hi2, hi3, hi4, hi5⟩ := elem_size (P := P) (e := e)
  simp only [execOp, ex.eq, ey.eq]
  refine Tri.bind ?_
  unfold Instr.makeSlice
  refine Tri.bind ((still_und hu).reads.tri ?_)
  dsimp only
  refine Tri.bind (Tri.pure (a := (n : Int)) ?_)
  refine Tri.bind (Tri.pure (a := (n : Int)) ?_)
  refine Tri.bind (Reads.tri (a := inf) (Reads.bind Reads.program' (by simp only [hi1]; exact Reads.pure _)) ?_)
  have hwr : IntKind.wrap .i64 (n : Int) = n := wrap_in (by unfold In64; omega)
  have hbn : ((inf.bytes : Int) * (n : Int)) ≤ 8 * 1000 := by rw [hi3]; exact Int.mul_le_mul (by omega) (by omega) (by omega) (by omega)
  rw [hwr]; rw [if_neg (by simp; omega)]; refine Tri.bind (reads_room.tri ?_)
  refine Tri.bind (hsz.tri ?_)
  rw [Int.toNat_natCast, Nat.mul_one, if_neg (by omega)]; refine Tri.bind (reads_zero.tri ?_)
  refine Tri.bind (Tri.pure ?_)
  refine Tri.bind (tri_row fun q _ => Tri.pure (Tri.pure ⟨.inl (by trivial), ?_⟩))
  have : ((Array.range n).map ((Value.int IntKind.i64 0).cells[· % (Value.int IntKind.i64 0).cells.size]!)) = (ints (List.replicate n 0)).toArray := by
    have e : (Value.int IntKind.i64 0).cells = #[Value.int IntKind.i64 0] := rfl
    rw [e]; apply Array.ext'
    apply List.ext_getElem (by simp)
    intro j h1 h2
    simp
    have : j % 1 = 0 := Nat.mod_one j
    simp [Nat.mod_one]
  rw [this]; exact c q
end
theorem have_get (l : List (Int × Int × Int)) (s x : Int) : (haveE l s x)[posE l s x]? = some (s, x, cntE l s x) := by
  unfold haveE posE cntE
  cases hf : findE s x l 0 with
  | none => simp
  | some p =>
    obtain ⟨p, c⟩ := p
    obtain ⟨p', hp, hget⟩ := findE_some s x l 0 p c hf
    rw [Nat.zero_add] at hp
    subst hp
    exact hget
theorem bump_eq (l : List (Int × Int × Int)) (s x w : Int) : (haveE l s x).set (posE l s x) (s, x, w) = bumpE l s x w := by
  unfold haveE posE bumpE
  cases findE s x l 0 with
  | none => simp
  | some p => rfl
theorem findE_append (l : List (Int × Int × Int)) (s x : Int) (a : Int × Int × Int) : ∀ i, findE s x (l ++ [a]) i = match findE s x l i with | some p => some p | none => if a.1 = s ∧ a.2.1 = x then some (i + l.length, a.2.2) else none := by
  induction l with
  | nil => intro i; simp [findE]
  | cons e r ih =>
    intro i
    rw [List.cons_append]; unfold findE
    split
    · rfl
    · rw [ih (i + 1), List.length_cons, show i + 1 + r.length = i + (r.length + 1) by omega]
theorem cntE_have (l : List (Int × Int × Int)) (s x : Int) : cntE (haveE l s x) s x = cntE l s x := by
  unfold haveE
  cases hf : findE s x l 0 with
  | some p => rfl
  | none => simp [cntE, findE_append, hf]
def Keys (l : List (Int × Int × Int)) : Prop := l.Pairwise fun a b => ¬ (a.1 = b.1 ∧ a.2.1 = b.2.1)
theorem cntE_mem {l : List (Int × Int × Int)} (hk : Keys l) {e : Int × Int × Int} (he : e ∈ l) : cntE l e.1 e.2.1 = e.2.2 := by
  unfold cntE
  have gen : ∀ (l : List (Int × Int × Int)) (i : Nat), Keys l → e ∈ l → ∃ p, findE e.1 e.2.1 l i = some (p, e.2.2) := by
    intro l
    induction l with
    | nil => intro i _ h; simp at h
    | cons a r ih =>
      intro i hk h
      obtain ⟨h1, h2⟩ := List.pairwise_cons.1 hk
      unfold findE
      rcases List.mem_cons.1 h with rfl | h
      · rw [if_pos ⟨rfl, rfl⟩]; exact ⟨_, rfl⟩
      · rw [if_neg (h1 e h)]; exact ih (i + 1) h2 h
  obtain ⟨p, hp⟩ := gen l 0 hk he
  rw [hp]
theorem cntE_pos {l : List (Int × Int × Int)} {s x : Int} (h : cntE l s x ≠ 0) : ∃ p, p < l.length ∧ l.getD p default = (s, x, cntE l s x) := by
  unfold cntE at h ⊢
  cases hf : findE s x l 0 with
  | none => rw [hf] at h; exact absurd rfl h
  | some p =>
    obtain ⟨p, c⟩ := p
    obtain ⟨p', hp, hget⟩ := findE_some s x l 0 p c hf
    rw [Nat.zero_add] at hp
    subst hp
    exact ⟨p, (List.getElem?_eq_some_iff.1 hget).1, by rw [List.getD_eq_getElem?_getD, hget]; rfl⟩
theorem findE_set (s x w : Int) (s' x' : Int) : ∀ (l : List (Int × Int × Int)) (i p : Nat) (c : Int), findE s x l i = some (i + p, c) → findE s' x' (l.set p (s, x, w)) i = if s' = s ∧ x' = x then some (i + p, w) else findE s' x' l i
  | [], _, _, _, h => by simp [findE] at h
  | e :: r, i, 0, c, h => by
    have hk : e.1 = s ∧ e.2.1 = x := by
      unfold findE at h
      split at h
      · assumption
      · obtain ⟨p, hp, _⟩ := findE_some s x r (i + 1) (i + 0) c h; omega
    rw [List.set_cons_zero]; unfold findE
    by_cases e' : s' = s ∧ x' = x
    · rw [if_pos e', if_pos ⟨e'.1.symm, e'.2.symm⟩]; rfl
    · rw [if_neg e', if_neg (fun y => e' ⟨y.1.symm, y.2.symm⟩), if_neg (fun y => e' ⟨y.1.symm.trans hk.1, y.2.symm.trans hk.2⟩)]
  | e :: r, i, p + 1, c, h => by
    have hk : ¬ (e.1 = s ∧ e.2.1 = x) := fun hk => by
      unfold findE at h
      rw [if_pos hk] at h
      have := (Prod.mk.inj (Option.some.inj h)).1
      omega
    rw [List.set_cons_succ]; unfold findE at h ⊢
    rw [if_neg hk] at h
    have ih := findE_set s x w s' x' r (i + 1) p c (by rw [h, show i + (p + 1) = i + 1 + p by omega])
    by_cases e' : s' = s ∧ x' = x
    · rw [if_pos e'] at ih ⊢
      rw [if_neg (fun y => hk ⟨y.1.trans e'.1, y.2.trans e'.2⟩), ih, show i + 1 + p = i + (p + 1) by omega]
    · rw [if_neg e'] at ih ⊢
      split
      · rfl
      · exact ih
theorem cntE_bump (l : List (Int × Int × Int)) (s x w s' x' : Int) : cntE (bumpE l s x w) s' x' = if s' = s ∧ x' = x then w else cntE l s' x' := by
  unfold bumpE
  cases hf : findE s x l 0 with
  | none =>
    simp only [cntE, findE_append]
    by_cases e : s' = s ∧ x' = x
    · obtain ⟨rfl, rfl⟩ := e
      simp [hf]
    · rw [if_neg e, if_neg (fun y => e ⟨y.1.symm, y.2.symm⟩)]; cases findE s' x' l 0 <;> rfl
  | some p =>
    obtain ⟨p, c⟩ := p
    have := findE_set s x w s' x' l 0 p c (by rw [hf, Nat.zero_add])
    simp only [cntE, this]
    by_cases e : s' = s ∧ x' = x
    · rw [if_pos e, if_pos e]
    · rw [if_neg e, if_neg e]
theorem bump_mem {l : List (Int × Int × Int)} {s x w : Int} {e : Int × Int × Int} (h : e ∈ bumpE l s x w) : e ∈ l ∨ e = (s, x, w) := by
  unfold bumpE at h
  split at h
  · rcases List.mem_or_eq_of_mem_set h with h | h
    · exact .inl h
    · exact .inr h
  · rcases List.mem_append.1 h with h | h
    · exact .inl h
    · exact .inr (by simpa using h)
theorem Keys.bump {l : List (Int × Int × Int)} (hk : Keys l) (s x w : Int) : Keys (bumpE l s x w) := by
  unfold bumpE
  cases hf : findE s x l 0 with
  | none =>
    have := findE_none s x l 0 hf
    exact List.pairwise_append.2 ⟨hk, by simp, fun a ha b hb => by rw [List.mem_singleton] at hb; subst hb; exact this a ha⟩
  | some p =>
    obtain ⟨p, c⟩ := p
    obtain ⟨p', hp, hget⟩ := findE_some s x l 0 p c hf
    rw [Nat.zero_add] at hp
    subst hp
    have hmap : (l.set p (s, x, w)).map (fun e => (e.1, e.2.1)) = l.map (fun e => (e.1, e.2.1)) := by
      apply List.ext_getElem? 
      intro i
      rw [List.getElem?_map, List.getElem?_map, List.getElem?_set]; by_cases e : p = i
      · subst e
        have := (List.getElem?_eq_some_iff.1 hget).1
        have h2 := (List.getElem?_eq_some_iff.1 hget).2
        simp [this, h2]
      · simp [e]
    have key : ∀ (l : List (Int × Int × Int)), Keys l ↔ (l.map fun e => (e.1, e.2.1)).Pairwise (fun a b => ¬ (a.1 = b.1 ∧ a.2 = b.2)) := fun l => by
      rw [List.pairwise_map]; rfl
    show Keys (l.set p (s, x, w))
    rw [key, hmap, ← key]; exact hk
end Go.Lo
namespace Go.Proofs
open Go.Lo
open Go.Conc (G)
set_option maxRecDepth 100000
set_option synthInstance.maxSize 100000
set_option synthInstance.maxHeartbeats 1000000
set_option maxHeartbeats 4000000
variable {B : Array Obj}
variable [Laid B]
instance : KeyT Tryz.prog 147 := ⟨by kernel_rfl⟩
def askP (ll : List (List Int)) : Nat → Int × Int
  | 0 => (-1, ll.length)
  | s + 1 => if leftOf ll s < (askP ll s).2 then (s, leftOf ll s) else askP ll s
def cS (ll : List (List Int)) (nm k j : Nat) (s x : Int) : Int := if 0 ≤ s ∧ s < nm then (if s < j then (countAt (ll.take (k + 1)) s.toNat x : Int) else (countAt (ll.take k) s.toNat x : Int)) else 0
theorem cS_nonneg (ll : List (List Int)) (nm k j : Nat) (s x : Int) : 0 ≤ cS ll nm k j s x := by unfold cS; split; split <;> omega; omega
theorem countAt_le (ll : List (List Int)) (s : Nat) (x : Int) : countAt ll s x ≤ ll.length := List.length_filter_le _ _
theorem cS_le (ll : List (List Int)) (nm k j : Nat) (s x : Int) : cS ll nm k j s x ≤ ll.length := by
  have h1 := countAt_le (ll.take (k + 1)) s.toNat x
  have h2 := countAt_le (ll.take k) s.toNat x
  have h3 := List.length_take_le (k + 1) ll
  have h4 := List.length_take_le' (k + 1) ll
  have h5 := List.length_take_le' k ll
  unfold cS; split; split <;> omega; omega
structure MI (ll : List (List Int)) (nm k j : Nat) (es : List (Int × Int × Int)) : Prop where
  keys : Keys es
  cnt : ∀ s x, cntE es s x = cS ll nm k j s x
  ok : ∀ e ∈ es, 0 ≤ e.1 ∧ e.1 < nm ∧ 1 ≤ e.2.2
theorem MI.zero (ll : List (List Int)) (nm : Nat) : MI ll nm 0 0 [] := ⟨List.Pairwise.nil, fun s x => by
  show (0 : Int) = _
  unfold cS; split
  · rw [if_neg (by omega)]; rfl
  · rfl, by simp⟩
theorem MI.step {ll : List (List Int)} {nm k j : Nat} {es : List (Int × Int × Int)} (m : MI ll nm k j es) (hj : j < nm) (hk : k < ll.length) {x : Int} (hx : (ll.getD k []).getD j 0 = x) : MI ll nm k (j + 1) (bumpE es j x (cntE es j x + 1)) := by
  refine ⟨m.keys.bump _ _ _, fun s y => ?_, fun e he => ?_⟩
  · rw [cntE_bump, m.cnt, m.cnt]; by_cases e : s = j ∧ y = x
    · obtain ⟨rfl, rfl⟩ := e
      have a1 : cS ll nm k j j y = countAt (ll.take k) j y := by rw [cS, if_pos (by omega), if_neg (by omega), Int.toNat_natCast]
      have a2 : cS ll nm k (j + 1) j y = countAt (ll.take (k + 1)) j y := by rw [cS, if_pos (by omega), if_pos (by omega), Int.toNat_natCast]
      rw [if_pos ⟨rfl, rfl⟩, a1, a2, countAt_yes ll j y k hk hx]; rfl
    · rw [if_neg e]; unfold cS
      by_cases h1 : 0 ≤ s ∧ s < nm
      · rw [if_pos h1, if_pos h1]; by_cases h2 : s = j
        · subst h2
          rw [if_neg (by omega), if_pos (by omega), Int.toNat_natCast, countAt_no ll j y k hk (fun h => e ⟨rfl, h.symm.trans hx⟩)]
        · by_cases h3 : s < j
          · rw [if_pos h3, if_pos (by omega)]
          · rw [if_neg h3, if_neg (by omega)]
      · rw [if_neg h1, if_neg h1]
  · rcases bump_mem he with he | rfl
    · exact m.ok e he
    · refine ⟨by simp, by simp; omega, ?_⟩
      have := cS_nonneg ll nm k j j x
      rw [← m.cnt] at this
      show 1 ≤ cntE es j x + 1
      omega
theorem MI.roll {ll : List (List Int)} {nm k : Nat} {es : List (Int × Int × Int)} (m : MI ll nm k nm es) : MI ll nm (k + 1) 0 es := ⟨m.keys, fun s x => by
  rw [m.cnt]; unfold cS
  by_cases h1 : 0 ≤ s ∧ s < nm
  · rw [if_pos h1, if_pos h1, if_pos (by omega), if_neg (by omega)]
  · rw [if_neg h1, if_neg h1], m.ok⟩
def WI (es : List (Int × Int × Int)) (sn : List Nat) (s : Nat) (v : Int) : Prop :=
  0 ≤ v ∧ (∀ p ∈ sn, (es.getD p default).1 = s → (es.getD p default).2.2 ≤ v) ∧ (v = 0 ∨ ∃ p ∈ sn, p < es.length ∧ (es.getD p default).1 = s ∧ (es.getD p default).2.2 = v)
theorem WI.nil (es : List (Int × Int × Int)) (s : Nat) : WI es [] s 0 := ⟨by omega, by simp, .inl rfl⟩
theorem WI.other {es : List (Int × Int × Int)} {sn : List Nat} {s : Nat} {v : Int} {p : Nat} (w : WI es sn s v) (h : (es.getD p default).1 ≠ s) : WI es (sn ++ [p]) s v := ⟨w.1, fun q hq e => by
  rcases List.mem_append.1 hq with hq | hq
  · exact w.2.1 q hq e
  · rw [List.mem_singleton] at hq; subst hq; exact absurd e h, w.2.2.imp id fun ⟨q, hq, x⟩ => ⟨q, List.mem_append_left _ hq, x⟩⟩
theorem WI.this {es : List (Int × Int × Int)} {sn : List Nat} {s : Nat} {v : Int} {p : Nat} (w : WI es sn s v) (hp : p < es.length) (h : (es.getD p default).1 = s) : WI es (sn ++ [p]) s (max v (es.getD p default).2.2) := ⟨by have := w.1; omega, fun q hq e => by
  rcases List.mem_append.1 hq with hq | hq
  · have := w.2.1 q hq e; omega
  · rw [List.mem_singleton] at hq; subst hq; omega, by
  by_cases e : v ≤ (es.getD p default).2.2
  · exact .inr ⟨p, by simp, hp, h, by omega⟩
  · rcases w.2.2 with h0 | ⟨q, hq, h1, h2, h3⟩
    · exact .inl (by omega)
    · exact .inr ⟨q, List.mem_append_left _ hq, h1, h2, by omega⟩⟩
theorem mostL_spec (l : List Int) : (∀ x ∈ l, x ≤ mostL l) ∧ (mostL l = 0 ∨ mostL l ∈ l) := by
  have gen : ∀ (r : List Int) (a : Int), (a ≤ r.foldl max a) ∧ (∀ x ∈ r, x ≤ r.foldl max a) ∧ (r.foldl max a = a ∨ r.foldl max a ∈ r) := by
    intro r
    induction r with
    | nil => exact fun a => ⟨Int.le_refl _, by simp, .inl rfl⟩
    | cons y r ih =>
      intro a
      obtain ⟨h1, h2, h3⟩ := ih (max a y)
      rw [List.foldl_cons]; refine ⟨by omega, fun x hx => ?_, ?_⟩
      · rcases List.mem_cons.1 hx with rfl | hx
        · omega
        · exact h2 x hx
      · rcases h3 with h3 | h3
        · rcases (by omega : max a y = a ∨ max a y = y) with e | e
          · exact .inl (h3.trans e)
          · exact .inr (by rw [h3, e]; exact List.mem_cons_self)
        · exact .inr (List.mem_cons_of_mem _ h3)
  exact ⟨(gen l 0).2.1, (gen l 0).2.2⟩
theorem WI.left {ll : List (List Int)} {nm : Nat} {es : List (Int × Int × Int)} (m : MI ll nm ll.length 0 es) {sn : List Nat} (hall : ∀ p, p < es.length → p ∈ sn) {s : Nat} (hs : s < nm) {v : Int} (w : WI es sn s v) : v = leftOf ll s := by
  have hcnt : ∀ x, cntE es s x = countAt ll s x := fun x => by
    rw [m.cnt, cS, if_pos (by omega), if_neg (by omega), Int.toNat_natCast, List.take_length]
  obtain ⟨g1, g2⟩ := mostL_spec (lefts ll s)
  have g0 := mostL_nonneg (lefts ll s)
  apply Int.le_antisymm
  · rcases w.2.2 with h0 | ⟨p, _, hp, h1, h2⟩
    · rw [h0]; exact g0
    · have hmem : es.getD p default ∈ es := mem_getDR.2 ⟨p, hp, rfl⟩
      have hc := cntE_mem m.keys hmem
      rw [h1, h2, hcnt] at hc
      have hpos := (m.ok _ hmem).2.2
      rw [h2] at hpos
      have : 0 < countAt ll s (es.getD p default).2.1 := by omega
      obtain ⟨l, hl⟩ := List.exists_mem_of_length_pos this
      obtain ⟨hl1, hl2⟩ := List.mem_filter.1 hl
      have hl2 := of_decide_eq_true hl2
      rw [← hc, ← hl2]; exact g1 _ (List.mem_map.2 ⟨l, hl1, rfl⟩)
  · rcases g2 with h0 | h0
    · show mostL (lefts ll s) ≤ v
      rw [h0]; exact w.1
    · show mostL (lefts ll s) ≤ v
      obtain ⟨l, hl, e⟩ := List.mem_map.1 h0
      have hpos : 0 < countAt ll s (l.getD s 0) := List.length_pos_of_mem (List.mem_filter.2 ⟨hl, decide_eq_true rfl⟩)
      have hne : cntE es s (l.getD s 0) ≠ 0 := by rw [hcnt]; omega
      obtain ⟨p, hp, hg⟩ := cntE_pos hne
      have := w.2.1 p (hall p hp) (by rw [hg])
      rw [hg] at this
      rw [← e, ← hcnt]; exact this
theorem nodup_le {sn : List Nat} {n : Nat} (h : sn.Nodup) (hl : ∀ p ∈ sn, p < n) : sn.length ≤ n := by
  have := List.Nodup.length_le_of_subset h (l₂ := List.range n) fun x hx => List.mem_range.2 (hl x hx)
  simpa using this
def askAt (b : Bk) : Int := if openS b 0 ≠ 0 then 0 else (askP (boatsOf b) b.marks.length).1
def askLeft (b : Bk) : Int := if openS b 0 ≠ 0 then 0 else (askP (boatsOf b) b.marks.length).2
theorem f71_c (m : Md Tryz.prog B) (h : Hp) {b : Bk} {pm : Option Addr} {nm cm : Nat} {pr : Option Addr} {nr cr : Nat} (rdm : RdS B h 2 (.slice pm nm cm) nm (encs b.marks)) (hm : nm ≤ 1000) (rdr : RdS B h 4 (.slice pr nr cr) nr (encs b.rules)) (hr : nr ≤ 1000) : FnC m 71 #[bkV b pm nm cm pr nr cr] h fun v h' => h' = h ∧ v = .tuple [.int .i64 (askAt b), .int .i64 (askLeft b), .int .i64 (openS b 0)].toArray := by
  refine fn_enter Tryz.func71 rfl rfl (l := (bkV b pm nm cm pr nr cr) :: uu88) rfl ?_
  intro cf cs K hK
  refine rs4 (by kernel_rfl) ?_; refine k_box rfl zq (fun q1 => k_hp (k_put ?_)); refine k_as rfl zq ?_; refine k_as rfl zq ?_; refine aq rfl ?_; refine rs8 (by kernel_rfl) ?_; refine k_ldA rfl zq ?_; refine k_calC rfl zq (by kernel_rfl) (Post := fun v nw => Opened b (bkV b pm nm cm pr nr cr) (openS b (0)) nw v) (fun H' hH => f107_c m H' (rdm.keeps (sq hH)) hm (rdr.keeps (sq hH)) hr callB120 (fun hbz K hK => by simpa using f120_c m K)) ?_; rintro v nw ⟨x1, x2, x3, y1, y2, y3, y4, y5, y6, z1, z2, z3, rfl, hz⟩; refine k_hpA (k_put ?_); refine mq rfl ?_; refine k_ext0 rfl zq ?_; refine k_ext1 rfl zq ?_; refine k_new rfl zq (fun q5 => k_hp (k_put ?_)); refine k_stA rfl zq rfl ?_; refine aq rfl ?_; refine run_seq ?_; refine rs2 (by kernel_rfl) ?_; refine mq rfl ?_; refine k_neqS rfl zq (fun hc => ?_) (fun hc => ?_)
  · refine k_nil ?_; refine run_yes ?_; refine rs4 (by kernel_rfl) ?_; refine mq rfl ?_; refine k_as rfl zq ?_; refine k_as rfl zq ?_; refine aq rfl ?_; refine run_ret rfl ?_; refine run_res (h) rfl Tryz.func71 rfl weakSub ?_; refine hK _ _ ?_
    exact ⟨rfl, by rw [askAt, askLeft, if_pos (by assumption), if_pos (by assumption)]⟩
  · have hz0 : openS b 0 = 0 := by first | assumption | omega
    obtain ⟨hz1, rfl, hzc, rdB⟩ := hz hz0
    obtain ⟨rfl, rfl, rfl, rfl, rfl, rfl, rfl, rfl, rfl⟩ := bookV_inj hz1
    obtain ⟨hbz, hoz, hbne⟩ := openS_zero hz0
    have hv := valid_of hbz
    have h7 := hv.many
    have hml := rdm.elen (by decide)
    have hbl := boats_le hv
    have hpos : 0 < (boatsOf b).length := List.length_pos_iff.2 hbne
    obtain ⟨zb, zo, rfl⟩ := RdS.ptr (B := B) rdB hpos
    refine k_nil ?_; refine run_no ?_; refine run_skip ?_; refine rs2 (by kernel_rfl) ?_; refine k_mkmap rfl zq (fun qm => k_hp (k_put ?_)); refine aq rfl ?_; refine run_seq ?_; refine rs4 (by kernel_rfl) ?_; first | refine k_fa0 rfl zq ?_ | refine k_fa rfl zq ?_
    refine k_ldh rfl zq ?_; refine k_len rfl zq ?_; refine mq rfl ?_; refine k_nil ?_; refine run_block ?_; refine m.weak (h' := h ++ nw ++ [⟨true, q5, .cells [.int .i64 b.bend, .int .i64 b.twist, .int .i64 b.turns, .slice pm nm cm, .slice pr nr cr, .slice (some ⟨zb, zo, none⟩) (boatsOf b).length z3].toArray 123 (0, 0)⟩, ⟨true, qm, mapO []⟩]) weakSub ?_
    refine run_loop (fun nn l h' => ∃ (k : Nat) (es : List (Int × Int × Int)), nn = (boatsOf b).length - k ∧ (k ≤ (boatsOf b).length) ∧ (MI (boatsOf b) nm k 0 es) ∧ (∃ U : Nat → Value, l = [bkV b pm nm cm pr nr cr, U 1, U 2, U 3, U 4, .pointer (some ⟨q5, 0, none⟩), .map (some qm), U 7, U 8, U 9, U 10, U 11, U 12, U 13, U 14, U 15, U 16, U 17, U 18, U 19, U 20, U 21, U 22, U 23, U 24, .slice (some ⟨zb, zo, none⟩) (boatsOf b).length z3, .int .i64 ((boatsOf b).length : Int), .int .i64 (k : Int), U 28, U 29, U 30, U 31, U 32, U 33, U 34, U 35, U 36, U 37, U 38, U 39, U 40, U 41, U 42, U 43, U 44, U 45, U 46, U 47, U 48, U 49, U 50, U 51, U 52, U 53, U 54, U 55, U 56, U 57, U 58, U 59, U 60, U 61, U 62, U 63, U 64, U 65, U 66, U 67, U 68, U 69, U 70, U 71, U 72, U 73, U 74, U 75, U 76, U 77, U 78, U 79, U 80, U 81, U 82, U 83, U 84, U 85, U 86, U 87, U 88]) ∧ h ++ nw ++ [⟨true, q5, .cells [.int .i64 b.bend, .int .i64 b.twist, .int .i64 b.turns, .slice pm nm cm, .slice pr nr cr, .slice (some ⟨zb, zo, none⟩) (boatsOf b).length z3].toArray 123 (0, 0)⟩, ⟨true, qm, mapO es⟩] = h') _ ⟨0, [], rfl, by omega, MI.zero _ _, exU rfl, rfl⟩ ?_; rintro nn l h' ⟨k, es, rfl, hk, hmi, ⟨U, rfl⟩, rfl⟩ hnext1; refine rs1 (by kernel_rfl) ?_; refine k_lssS rfl zq (fun hc => ?_) (fun hc => ?_)
    · refine k_nil ?_; refine run_seq ?_; refine run_yes ?_; refine run_skip ?_; refine run_seq ?_; refine run_block ?_; refine rs4 (by kernel_rfl) ?_; refine k_ixs rfl zq (by first | rfl | assumption) (by omega) (by omega) ?_; refine k_ldN (vs := hts ((boatsOf b).getD k default)) rfl zq (hts_length _) (rdB.eat k (by omega) (by omega)) ?_; have hbm : (boatsOf b).getD k default ∈ boatsOf b := mem_getDR.2 ⟨k, by omega, rfl⟩
      have hbln := boats_len hbm
      have hbs := boats_small hv hbm
      generalize hrow : (boatsOf b).getD k default = ln at hbm hbln hbs ⊢
      refine k_new rfl zq (fun q8 => k_hp (k_put ?_)); refine k_stA rfl zq (by first | rfl | exact hts_length _) ?_; refine k_nil ?_; refine rs4 (by kernel_rfl) ?_; first | refine k_fa0 rfl zq ?_ | refine k_fa rfl zq ?_
      refine k_ldA rfl zq ?_; refine k_calP (Post := fun v => v = _) rfl zq (by kernel_rfl) (fun H' hH => f118_c m H' _ _ _ _ _ _ _ _ _) ?_; rintro v rfl; refine k_put ?_; refine mq rfl ?_; refine k_nil ?_; refine run_block ?_; refine run_loop (fun nn l h' => ∃ (j : Nat) (es : List (Int × Int × Int)), nn = nm - j ∧ (j ≤ nm) ∧ (MI (boatsOf b) nm k j es) ∧ (∃ U : Nat → Value, l = [bkV b pm nm cm pr nr cr, U 1, U 2, U 3, U 4, .pointer (some ⟨q5, 0, none⟩), .map (some qm), U 7, .pointer (some ⟨q8, 0, none⟩), U 9, U 10, U 11, U 12, U 13, U 14, U 15, U 16, U 17, U 18, U 19, U 20, U 21, U 22, U 23, U 24, .slice (some ⟨zb, zo, none⟩) (boatsOf b).length z3, .int .i64 ((boatsOf b).length : Int), .int .i64 (k : Int), U 28, U 29, U 30, U 31, U 32, .int .i64 (nm : Int), .int .i64 (j : Int), U 35, U 36, U 37, U 38, U 39, U 40, U 41, U 42, U 43, U 44, U 45, U 46, U 47, U 48, U 49, U 50, U 51, U 52, U 53, U 54, U 55, U 56, U 57, U 58, U 59, U 60, U 61, U 62, U 63, U 64, U 65, U 66, U 67, U 68, U 69, U 70, U 71, U 72, U 73, U 74, U 75, U 76, U 77, U 78, U 79, U 80, U 81, U 82, U 83, U 84, U 85, U 86, U 87, U 88]) ∧ h ++ nw ++ [⟨true, q5, .cells [.int .i64 b.bend, .int .i64 b.twist, .int .i64 b.turns, .slice pm nm cm, .slice pr nr cr, .slice (some ⟨zb, zo, none⟩) (boatsOf b).length z3].toArray 123 (0, 0)⟩, ⟨true, qm, mapO es⟩, ⟨true, q8, .cells (hts ln).toArray 112 (0, 0)⟩] = h') _ ⟨0, _, rfl, by omega, hmi, exU rfl, rfl⟩ ?_; rintro nn l h' ⟨j, es, rfl, hj, hmi2, ⟨U, rfl⟩, rfl⟩ hnext2; refine rs1 (by kernel_rfl) ?_; refine k_lssS rfl zq (fun hc => ?_) (fun hc => ?_)
      · refine k_nil ?_; refine run_seq ?_; refine run_yes ?_; refine run_skip ?_; refine run_seq ?_; refine run_block ?_; refine rs2 (by kernel_rfl) ?_; have hcn := hmi2.cnt j (ln.getD j 0)
        have hcl := cS_le (boatsOf b) nm k j j (ln.getD j 0)
        have hcg := cS_nonneg (boatsOf b) nm k j j (ln.getD j 0)
        refine mq rfl ?_; refine aq rfl ?_; refine run_drawT [0, 1, 2, 3, 4, 5, 6, 7, 8, 9, 10] (by kernel_rfl) (by kernel_rfl) (List.Sublist.refl _) ?_; refine DrawT.split 6 8 (by decide) ?_ ?_
        · refine DrawT.leaf [(0, .pure), (1, .pure), (2, .pure), (3, .pure), (4, .read), (5, .pure), (6, .read), (7, .pure), (8, .free), (9, .pure), (10, .free)] (by kernel_rfl) ?_
          refine mq rfl ?_; refine mq rfl ?_; refine mq rfl ?_; refine k_ixa rfl zq (by omega) (by omega) ?_; refine k_ld rfl zq (rd_hts (q := q8) j (by omega) (by omega)) ?_; refine k_bld rfl zq ?_; refine k_lookup (k := 147) (e := 3) (by kernel_rfl) rfl zq ?_; refine k_add rfl zq (by unfold In64; omega) ?_; refine k_mapEntry (k := 147) (e := 3) (by kernel_rfl) rfl zq (k_put ?_); refine k_ext1 rfl zq ?_; refine k_entryStore (p := posE es j (ln.getD j 0)) rfl zq (have_get es j (ln.getD j 0)) ?_; rw [bump_eq]; refine k_nil ?_; refine run_inBlock ?_; refine rr2 (by kernel_rfl) ?_; refine k_add rfl zq (by unfold In64; omega) ?_; refine mq rfl ?_; refine k_nil ?_; exact m.weak weakSub (hnext2 _ _ _ (by omega) ⟨j + 1, bumpE es j (ln.getD j 0) (cntE es j (ln.getD j 0) + 1), rfl, by omega, by exact hmi2.step (by omega) (by omega) (by rw [show (boatsOf b).getD k [] = ln from hrow]), exU rfl, rfl⟩)
        · refine DrawT.leaf [(0, .pure), (1, .pure), (2, .pure), (3, .pure), (4, .read), (5, .pure), (8, .free), (9, .pure), (6, .free), (7, .pure), (10, .free)] (by kernel_rfl) ?_
          refine mq rfl ?_; refine mq rfl ?_; refine mq rfl ?_; refine k_ixa rfl zq (by omega) (by omega) ?_; refine k_ld rfl zq (rd_hts (q := q8) j (by omega) (by omega)) ?_; refine k_bld rfl zq ?_; refine k_mapEntry (k := 147) (e := 3) (by kernel_rfl) rfl zq (k_put ?_); refine k_ext1 rfl zq ?_; refine k_lookup (k := 147) (e := 3) (by kernel_rfl) rfl zq ?_; rw [cntE_have]; refine k_add rfl zq (by unfold In64; omega) ?_; refine k_entryStore (p := posE es j (ln.getD j 0)) rfl zq (have_get es j (ln.getD j 0)) ?_; rw [bump_eq]; refine k_nil ?_; refine run_inBlock ?_; refine rr2 (by kernel_rfl) ?_; refine k_add rfl zq (by unfold In64; omega) ?_; refine mq rfl ?_; refine k_nil ?_; exact m.weak weakSub (hnext2 _ _ _ (by omega) ⟨j + 1, bumpE es j (ln.getD j 0) (cntE es j (ln.getD j 0) + 1), rfl, by omega, by exact hmi2.step (by omega) (by omega) (by rw [show (boatsOf b).getD k [] = ln from hrow]), exU rfl, rfl⟩)
      · refine k_nil ?_; refine run_seq ?_; refine run_no ?_; refine run_exit rfl ?_; refine run_inBlock ?_; refine rr2 (by kernel_rfl) ?_; obtain rfl : j = nm := by omega
        refine k_add rfl zq (by unfold In64; omega) ?_; refine mq rfl ?_; refine k_nil ?_; exact m.weak weakSub (hnext1 _ _ _ (by omega) ⟨k + 1, _, rfl, by omega, hmi2.roll, exU rfl, rfl⟩)
    · refine k_nil ?_; refine run_seq ?_; refine run_no ?_; refine run_exit rfl ?_; refine rs5 (by kernel_rfl) ?_; obtain rfl : k = (boatsOf b).length := by omega
      first | refine k_fa0 rfl zq ?_ | refine k_fa rfl zq ?_
      refine k_ldA rfl zq ?_; refine k_calP (Post := fun v => v = _) rfl zq (by kernel_rfl) (fun H' hH => f118_c m H' _ _ _ _ _ _ _ _ _) ?_; rintro v rfl; refine k_put ?_; refine k_mks rfl zq (by omega) (by omega) (by decide) (fun q10 => k_hp (k_put ?_)); refine aq rfl ?_; refine run_seq ?_; refine rs2 (by kernel_rfl) ?_; refine mq rfl ?_; refine k_range (k := 147) (e := 3) (by kernel_rfl) rfl zq (fun q54 => k_hp (k_put ?_)); refine k_nil ?_; refine run_block ?_; refine run_loop (fun nn l h' => ∃ (sn : List Nat) (ws : List Int), nn = es.length - sn.length ∧ (sn.Nodup) ∧ (∀ p ∈ sn, p < es.length) ∧ (ws.length = nm) ∧ (∀ s, s < nm → WI es sn s (ws.getD s 0)) ∧ (∃ U : Nat → Value, l = [bkV b pm nm cm pr nr cr, U 1, U 2, U 3, U 4, .pointer (some ⟨q5, 0, none⟩), U 6, U 7, U 8, U 9, .slice (some ⟨q10, 0, none⟩) nm nm, U 11, U 12, U 13, U 14, U 15, U 16, U 17, U 18, U 19, U 20, U 21, U 22, U 23, U 24, U 25, U 26, U 27, U 28, U 29, U 30, U 31, U 32, U 33, U 34, U 35, U 36, U 37, U 38, U 39, U 40, U 41, U 42, U 43, U 44, U 45, U 46, U 47, U 48, U 49, U 50, U 51, U 52, U 53, .pointer (some ⟨q54, 0, none⟩), U 55, U 56, U 57, U 58, U 59, U 60, U 61, U 62, U 63, U 64, U 65, U 66, U 67, U 68, U 69, U 70, U 71, U 72, U 73, U 74, U 75, U 76, U 77, U 78, U 79, U 80, U 81, U 82, U 83, U 84, U 85, U 86, U 87, U 88]) ∧ h ++ nw ++ [⟨true, q5, .cells [.int .i64 b.bend, .int .i64 b.twist, .int .i64 b.turns, .slice pm nm cm, .slice pr nr cr, .slice (some ⟨zb, zo, none⟩) (boatsOf b).length z3].toArray 123 (0, 0)⟩, ⟨true, qm, mapO es⟩, blkC q10 ws [], ⟨true, q54, iterO qm es.length sn⟩] = h') _ ⟨[], List.replicate nm 0, rfl, List.nodup_nil, by simp, by simp, fun s hs => by rw [List.getD_eq_getElem?_getD, List.getElem?_replicate, if_pos hs]; exact WI.nil es s, exU rfl, (by simp [blkC])⟩ ?_; rintro nn l h' ⟨sn, ws, rfl, hnd, hlt, hwl, hw, ⟨U, rfl⟩, rfl⟩ hnext3; refine rs2 (by kernel_rfl) ?_; refine k_next rfl zq (fun hall => k_put ?_) (fun p hp hps => k_put ?_)
      · refine k_ext0 rfl zq ?_; refine k_nil ?_; refine run_seq ?_; refine run_no ?_; refine run_exit rfl ?_; refine run_seq ?_; refine run_draw [(0, .pure), (3, .pure), (1, .read), (2, .pure), (4, .pure)] (by kernel_rfl) (by kernel_rfl) (List.Sublist.refl _) ?_; have hlf : ∀ s, s < nm → ws.getD s 0 = leftOf (boatsOf b) s := fun s hs => (hw s hs).left hmi hall hs
        first | refine k_fa0 rfl zq ?_ | refine k_fa rfl zq ?_
        refine k_as rfl zq ?_; refine k_ldh rfl zq ?_; refine k_len rfl zq ?_; refine aq rfl ?_; refine run_seq ?_; refine rs3 (by kernel_rfl) ?_; refine mq rfl ?_; refine k_len rfl zq ?_; refine mq rfl ?_; refine k_nil ?_; refine run_block ?_; refine m.weak (h' := h ++ [blkC q10 ws []]) weakSub ?_
        refine run_loop (fun nn l h' => ∃ (j : Nat) (a c : Int), nn = nm - j ∧ (j ≤ nm) ∧ ((a, c) = askP (boatsOf b) j) ∧ (∃ U : Nat → Value, l = [bkV b pm nm cm pr nr cr, U 1, .int .i64 a, .int .i64 c, U 4, U 5, U 6, U 7, U 8, U 9, U 10, U 11, U 12, U 13, U 14, U 15, U 16, U 17, U 18, U 19, U 20, U 21, U 22, U 23, U 24, U 25, U 26, U 27, U 28, U 29, U 30, U 31, U 32, U 33, U 34, U 35, U 36, U 37, U 38, U 39, U 40, U 41, U 42, U 43, U 44, U 45, U 46, U 47, U 48, U 49, U 50, U 51, U 52, U 53, U 54, U 55, U 56, U 57, U 58, U 59, U 60, U 61, U 62, U 63, U 64, U 65, U 66, U 67, U 68, U 69, U 70, U 71, U 72, U 73, .slice (some ⟨q10, 0, none⟩) nm nm, .int .i64 (nm : Int), .int .i64 (j : Int), U 77, U 78, U 79, U 80, U 81, U 82, U 83, U 84, U 85, U 86, U 87, U 88]) ∧ h ++ [blkC q10 ws []] = h') _ ⟨0, _, _, rfl, by omega, rfl, exU rfl, rfl⟩ ?_; rintro nn l h' ⟨j, a, c, rfl, hj, hac, ⟨U, rfl⟩, rfl⟩ hnext4; refine rs1 (by kernel_rfl) ?_; refine k_lssS rfl zq (fun hc => ?_) (fun hc => ?_)
        · refine k_nil ?_; refine run_seq ?_; refine run_yes ?_; refine run_skip ?_; refine run_seq ?_; refine run_block ?_; refine rs5 (by kernel_rfl) ?_; refine mq rfl ?_; refine k_ixs rfl zq (by first | rfl | assumption) (by omega) (by omega) ?_; refine k_ld rfl zq (rd_blkI j (by omega) (by omega)) ?_; refine k_as rfl zq ?_; refine aq rfl ?_; refine rs3 (by kernel_rfl) ?_; refine mq rfl ?_; refine mq rfl ?_; refine k_lssS rfl zq (fun hc => ?_) (fun hc => ?_)
          · refine k_nil ?_; refine run_yes ?_; refine rr4 (by kernel_rfl) ?_; refine mq rfl ?_; refine mq rfl ?_; refine k_as rfl zq ?_; refine aq rfl ?_; refine run_inBlock ?_; refine rr2 (by kernel_rfl) ?_; refine k_add rfl zq (by unfold In64; omega) ?_; refine mq rfl ?_; refine k_nil ?_; exact m.weak weakSub (hnext4 _ _ _ (by omega) ⟨j + 1, _, _, rfl, by omega, by rw [askP, ← hac, hlf j (by omega)]; rw [hlf j (by omega)] at hc; rw [if_pos hc], exU rfl, rfl⟩)
          · refine k_nil ?_; refine run_no ?_; refine run_skip ?_; refine run_inBlock ?_; refine rr2 (by kernel_rfl) ?_; refine k_add rfl zq (by unfold In64; omega) ?_; refine mq rfl ?_; refine k_nil ?_; exact m.weak weakSub (hnext4 _ _ _ (by omega) ⟨j + 1, _, _, rfl, by omega, by rw [askP, ← hac]; rw [hlf j (by omega)] at hc; rw [if_neg (by show ¬ leftOf (boatsOf b) j < c; omega)], exU rfl, rfl⟩)
        · refine k_nil ?_; refine run_seq ?_; refine run_no ?_; refine run_exit rfl ?_; refine rs5 (by kernel_rfl) ?_; refine mq rfl ?_; refine mq rfl ?_; refine k_as rfl zq ?_; refine k_as rfl zq ?_; refine aq rfl ?_; refine run_ret rfl ?_; refine run_res (h) rfl Tryz.func71 rfl weakSub ?_; refine hK _ _ ?_
          obtain rfl : j = nm := by omega
          refine ⟨rfl, ?_⟩
          rw [askAt, askLeft, if_neg (fun e => e hz0), if_neg (fun e => e hz0), hml, ← hac, hz0]
      · have hnd2 : (sn ++ [p]).Nodup := List.nodup_append.2 ⟨hnd, by simp, fun a ha c hc => by rw [List.mem_singleton] at hc; subst hc; exact fun e => hps (e ▸ ha)⟩
        have hlt2 : ∀ q ∈ sn ++ [p], q < es.length := fun q hq => by
          rcases List.mem_append.1 hq with hq | hq
          · exact hlt q hq
          · rw [List.mem_singleton] at hq; subst hq; exact hp
        have hok := hmi.ok _ (mem_getDR.2 ⟨p, hp, rfl⟩)
        obtain ⟨s, hs⟩ := Int.eq_ofNat_of_zero_le hok.1
        refine k_ext0 rfl zq ?_; refine k_nil ?_; refine run_seq ?_; refine run_yes ?_; refine run_skip ?_; refine run_block ?_; refine rs6 (by kernel_rfl) ?_; refine k_entry (sn := sn) (p := p) hp rfl zq ?_; refine k_ext0 rfl zq ?_; refine k_ext1 rfl zq ?_; refine k_new rfl zq (fun q11 => k_hp (k_put ?_)); refine k_stA rfl zq rfl ?_; refine aq rfl ?_; refine run_draw [(0, .pure), (1, .pure), (3, .pure), (4, .pure), (8, .pure), (2, .read), (5, .read), (6, .pure), (7, .read), (9, .pure), (10, .pure), (11, .free)] (by kernel_rfl) (by kernel_rfl) (List.Sublist.refl _) ?_; have hw2 : ∀ t, t < nm → WI es (sn ++ [p]) t ((ws.set s (max (ws.getD s 0) (es.getD p default).2.2)).getD t 0) := fun t ht => by
          rw [getD_set (by omega)]; by_cases e : t = s
          · subst e; rw [if_pos rfl]; exact (hw t ht).this hp hs
          · rw [if_neg e]; exact (hw t ht).other (fun x => e (by omega))
        refine mq rfl ?_; first | refine k_fa0 rfl zq ?_ | refine k_fa rfl zq ?_
        refine mq rfl ?_; first | refine k_fa0 rfl zq ?_ | refine k_fa rfl zq ?_
        refine mq rfl ?_; refine k_ldh rfl zq ?_; refine k_ldh rfl zq ?_; refine k_ixs rfl zq (by first | rfl | assumption) (by omega) (by omega) ?_; refine k_ld rfl zq (rd_blkI s (by omega) (by omega)) ?_; refine k_max rfl zq ?_; refine k_ixs rfl zq (by first | rfl | assumption) (by omega) (by omega) ?_; haveI hs1 := setSeg_ints (xs := ws) (junk := []) (v := max (ws.getD s 0) (es.getD p default).2.2) (i := (es.getD p default).1) (k := s) hs (by omega)
        refine k_st1 rfl zq ?_; refine k_nil ?_; refine run_inBlock ?_; exact m.weak weakSub (hnext3 _ _ _ (by have := nodup_le hnd2 hlt2; rw [List.length_append] at this ⊢; simp at this ⊢; omega) ⟨sn ++ [p], _, rfl, hnd2, hlt2, by simpa using hwl, hw2, exU rfl, rfl⟩)
section
variable {P : Program} {B : Array Obj} {m : Md P B} {ops : Array Oper} {l l' : List Value} {S h h' H : Hp} {C : List Value → Hp → Prop} {i : Nat} {kd : Kd} {r : List (Nat × Kd)}
  {d : Option Tmp} {ty : TypeId} {pos : String} {af : Array Edge} {g : Option (Nat × Bool)}
theorem k_and {t u : TypeId} {x y : Operand} {a b : Int} (v : Int) (ho : ops[i]? = some ⟨d, .binOp .and t x y u, ty, pos, af, g⟩) (hw : Wt ops l g) [KHeap kd S h H] [ex : OpV l x (.int .i64 a)] [ey : OpV l y (.int .i64 b)] (hv : IntKind.wrap .i64 ((BitVec.ofInt 64 a &&& BitVec.ofInt 64 b).toNat : Int) = v) [PutV l d (.int .i64 v) l'] (q : RegK m S ops r l' h C) : RegK m S ops ((i, kd) :: r) l h C :=
  RegK.rd (v := .int .i64 v) ho hw (reads_int ex.eq ey.eq (by simp) (by rw [← hv]; rfl)) q
end
def bitN (mm k : Nat) : Nat := (mm / 2 ^ k) % 2
def keptI (mm k : Nat) : List Int := (firsts k).filter fun i => decide (bitN mm i.toNat = 1)
def keptR (rules : List Ru) (mm k : Nat) : List Ru := ((List.range k).filter fun i => decide (bitN mm i = 1)).map fun i => rules.getD i default
theorem keptI_yes {mm k : Nat} (h : bitN mm k = 1) : keptI mm (k + 1) = keptI mm k ++ [(k : Int)] := by
  rw [keptI, firsts_succ, List.filter_append, ← keptI, List.filter_cons, Int.toNat_natCast, if_pos (decide_eq_true h)]; rfl
theorem keptI_no {mm k : Nat} (h : bitN mm k ≠ 1) : keptI mm (k + 1) = keptI mm k := by
  rw [keptI, firsts_succ, List.filter_append, ← keptI, List.filter_cons, Int.toNat_natCast, if_neg (by rw [decide_eq_true_iff]; exact h)]; simp
theorem keptR_yes {rules : List Ru} {mm k : Nat} (h : bitN mm k = 1) : keptR rules mm (k + 1) = keptR rules mm k ++ [rules.getD k default] := by
  rw [keptR, List.range_succ, List.filter_append, List.map_append, ← keptR, List.filter_cons, if_pos (decide_eq_true h)]; rfl
theorem keptR_no {rules : List Ru} {mm k : Nat} (h : bitN mm k ≠ 1) : keptR rules mm (k + 1) = keptR rules mm k := by
  rw [keptR, List.range_succ, List.filter_append, List.map_append, ← keptR, List.filter_cons, if_neg (by rw [decide_eq_true_iff]; exact h)]; simp
theorem keptI_le (mm k : Nat) : (keptI mm k).length ≤ k := by
  have := List.length_filter_le (fun i : Int => decide (bitN mm i.toNat = 1)) (firsts k)
  rw [firsts_length] at this; exact this
theorem keptR_le (rules : List Ru) (mm k : Nat) : (keptR rules mm k).length ≤ k := by
  have := List.length_filter_le (fun i => decide (bitN mm i = 1)) (List.range k)
  rw [List.length_range] at this
  simpa [keptR] using this
theorem shr_small : ∀ mm : Nat, mm < 16 → ∀ k : Nat, k < 4 → ((mm : Int).fdiv (2 ^ (min (k : Int).toNat IntKind.i64.bits))) = ((mm / 2 ^ k : Nat) : Int) := by decide
theorem and_small : ∀ a : Nat, a < 16 → IntKind.wrap .i64 ((BitVec.ofInt 64 (a : Int) &&& BitVec.ofInt 64 1).toNat : Int) = ((a % 2 : Nat) : Int) := by decide
theorem f130_c (m : Md Tryz.prog B) (h : Hp) {b : Bk} {pm : Option Addr} {nm cm : Nat} {pr : Option Addr} {nr cr : Nat} (rdr : RdS B h 4 (.slice pr nr cr) nr (encs b.rules)) (hr4 : nr ≤ 4) {mm : Nat} (hmm : mm < 16) : FnC m 130 #[bkV b pm nm cm pr nr cr, .int .i64 (mm : Int)] h fun v h' => ∃ nI nR, h' = h ++ nI ++ nR ∧ ∃ p c w, v = .tuple [bookV b.bend b.twist b.turns (.slice pm nm cm) (.slice p (keptR b.rules mm nr).length c), w].toArray ∧ RdS B nR 4 (.slice p (keptR b.rules mm nr).length c) (keptR b.rules mm nr).length (encs (keptR b.rules mm nr)) ∧ OwnS 3 1 w (keptI mm nr).length (ints (keptI mm nr)) nI := by
  have hrl := rdr.elen (by decide)
  refine fn_enter Tryz.func130 rfl rfl (l := (bkV b pm nm cm pr nr cr) :: (.int .i64 (mm : Int)) :: uu40) rfl ?_
  intro cf cs K hK
  refine rs3 (by kernel_rfl) ?_; refine k_box rfl zq (fun q2 => k_hp (k_put ?_)); refine k_new rfl zq (fun q4 => k_hp (k_put ?_)); refine aq rfl ?_; refine rs1 (by kernel_rfl) ?_; refine aq rfl ?_; refine rs3 (by kernel_rfl) ?_; refine k_ldA rfl zq ?_; refine k_new rfl zq (fun q7 => k_hp (k_put ?_)); refine k_stA rfl zq rfl ?_; refine k_nil ?_; refine rs3 (by kernel_rfl) ?_; first | refine k_fa0 rfl zq ?_ | refine k_fa rfl zq ?_
  first | refine k_fa0 rfl zq ?_ | refine k_fa rfl zq ?_
  refine k_st1 rfl zq ?_; refine k_nil ?_; refine run_seq ?_; refine rs5 (by kernel_rfl) ?_; first | refine k_fa0 rfl zq ?_ | refine k_fa rfl zq ?_
  first | refine k_fa0 rfl zq ?_ | refine k_fa rfl zq ?_
  refine k_ldh rfl zq ?_; refine k_len rfl zq ?_; refine mq rfl ?_; refine k_nil ?_; refine run_block ?_; refine m.weak (h' := h ++ [⟨true, q4, .cells ([.int .i64 0, .int .i64 0, .int .i64 0, .slice none 0 0, .slice none 0 0] : List Value).toArray 109 (0, 0)⟩, ⟨true, q7, .cells [.int .i64 b.bend, .int .i64 b.twist, .int .i64 b.turns, .slice pm nm cm, .slice none 0 0].toArray 109 (0, 0)⟩]) weakSub ?_
  refine run_loop (fun nn l h' => ∃ (k : Nat) (ip : Option Addr) (ic : Nat) (nI : Hp) (rp : Option Addr) (rc : Nat) (nR : Hp), nn = nr - k ∧ (k ≤ nr) ∧ (OwnS 3 1 (.slice ip (keptI mm k).length ic) (keptI mm k).length (ints (keptI mm k)) nI) ∧ (OwnS 94 4 (.slice rp (keptR b.rules mm k).length rc) (keptR b.rules mm k).length (encs (keptR b.rules mm k)) nR) ∧ (∃ U : Nat → Value, l = [U 0, .int .i64 (mm : Int), U 2, U 3, .pointer (some ⟨q4, 0, none⟩), U 5, .slice ip (keptI mm k).length ic, .pointer (some ⟨q7, 0, none⟩), U 8, U 9, U 10, U 11, U 12, U 13, U 14, .slice pr nr cr, .int .i64 (nr : Int), .int .i64 (k : Int), U 18, U 19, U 20, U 21, U 22, U 23, U 24, U 25, U 26, U 27, U 28, U 29, U 30, U 31, U 32, U 33, U 34, U 35, U 36, U 37, U 38, U 39, U 40, U 41]) ∧ h ++ [⟨true, q4, .cells ([.int .i64 0, .int .i64 0, .int .i64 0, .slice none 0 0, .slice none 0 0] : List Value).toArray 109 (0, 0)⟩, ⟨true, q7, .cells [.int .i64 b.bend, .int .i64 b.twist, .int .i64 b.turns, .slice pm nm cm, .slice rp (keptR b.rules mm k).length rc].toArray 109 (0, 0)⟩] ++ nI ++ nR = h') _ ⟨0, none, 0, [], none, 0, [], rfl, by omega, OwnS.nil, OwnS.nil, exU rfl, (by simp [keptR])⟩ ?_; rintro nn l h' ⟨k, ip, ic, nI, rp, rc, nR, rfl, hk, ho, hor, ⟨U, rfl⟩, rfl⟩ hnext1; have hil := keptI_le mm k
  have hrl' := keptR_le b.rules mm k
  refine rs1 (by kernel_rfl) ?_; refine k_lssS rfl zq (fun hc => ?_) (fun hc => ?_)
  · refine k_nil ?_; refine run_seq ?_; refine run_yes ?_; refine run_skip ?_; refine run_seq ?_; refine run_block ?_; refine rs6 (by kernel_rfl) ?_; refine mq rfl ?_; obtain ⟨rb, ro, rfl⟩ := rdr.ptr (by omega)
    refine k_ixs rfl zq (by first | rfl | assumption) (by omega) (by omega) ?_; refine k_ldN (vs := ruL (b.rules.getD k default)) rfl zq rfl (rdr.eat k (by omega) (by omega)) ?_; refine k_new rfl zq (fun q9 => k_hp (k_put ?_)); refine k_as rfl zq ?_; refine k_stA rfl zq rfl ?_; refine k_nil ?_; refine rs5 (by kernel_rfl) ?_; refine mq rfl ?_; refine mq rfl ?_; refine k_shr ((mm / 2 ^ k : Nat) : Int) rfl zq (by omega) (shr_small mm hmm k (by omega)) ?_; refine k_and ((mm / 2 ^ k % 2 : Nat) : Int) rfl zq (and_small _ (Nat.lt_of_le_of_lt (Nat.div_le_self _ _) hmm)) ?_; refine k_eqlS rfl zq (fun hc => ?_) (fun hc => ?_)
    · have hbit : bitN mm k = 1 := by unfold bitN; omega
      refine k_nil ?_; refine run_yes ?_; refine m.weak (h' := h ++ [⟨true, q4, .cells ([.int .i64 0, .int .i64 0, .int .i64 0, .slice none 0 0, .slice none 0 0] : List Value).toArray 109 (0, 0)⟩, ⟨true, q7, .cells [.int .i64 b.bend, .int .i64 b.twist, .int .i64 b.turns, .slice pm nm cm, .slice rp (keptR b.rules mm k).length rc].toArray 109 (0, 0)⟩] ++ nR ++ [⟨true, q9, .cells (ruL (b.rules.getD k default)).toArray 94 (0, 0)⟩] ++ nI) (by have := Weak.mid (B := B) (h ++ [⟨true, q4, .cells ([.int .i64 0, .int .i64 0, .int .i64 0, .slice none 0 0, .slice none 0 0] : List Value).toArray 109 (0, 0)⟩, ⟨true, q7, .cells [.int .i64 b.bend, .int .i64 b.twist, .int .i64 b.turns, .slice pm nm cm, .slice rp (keptR b.rules mm k).length rc].toArray 109 (0, 0)⟩]) nI (nR ++ [⟨true, q9, .cells (ruL (b.rules.getD k default)).toArray 94 (0, 0)⟩]); simpa only [List.append_assoc] using this) ?_
      refine run_drawT (S := h ++ [⟨true, q4, .cells ([.int .i64 0, .int .i64 0, .int .i64 0, .slice none 0 0, .slice none 0 0] : List Value).toArray 109 (0, 0)⟩, ⟨true, q7, .cells [.int .i64 b.bend, .int .i64 b.twist, .int .i64 b.turns, .slice pm nm cm, .slice rp (keptR b.rules mm k).length rc].toArray 109 (0, 0)⟩] ++ [⟨true, q9, .cells (ruL (b.rules.getD k default)).toArray 94 (0, 0)⟩]) [0, 1, 2, 3, 4, 5, 6, 7, 8, 9, 10, 11, 12, 13] (by kernel_rfl) (by kernel_rfl) SubH.sub ?_; refine DrawT.split 3 8 (by decide) ?_ ?_
      · refine DrawT.leaf [(0, .pure), (1, .pure), (4, .pure), (5, .pure), (6, .read), (7, .read), (2, .keep), (3, .keep), (8, .keep), (9, .free), (10, .pure), (11, .pure), (12, .pure), (13, .free)] (by kernel_rfl) ?_
        refine mq rfl ?_; refine mq rfl ?_; first | refine k_fa0 rfl zq ?_ | refine k_fa rfl zq ?_
        first | refine k_fa0 rfl zq ?_ | refine k_fa rfl zq ?_
        refine k_ldh rfl zq ?_; refine k_ldN (vs := ruL (b.rules.getD k default)) rfl zq rfl (rdN_has (q := q9)) ?_; refine k_bs kdq rfl zq (by decide) (by decide) rfl (fun q29 => k_hp (k_put ?_)); refine k_app1 (F := h ++ [⟨true, q4, .cells ([.int .i64 0, .int .i64 0, .int .i64 0, .slice none 0 0, .slice none 0 0] : List Value).toArray 109 (0, 0)⟩, ⟨true, q7, .cells [.int .i64 b.bend, .int .i64 b.twist, .int .i64 b.turns, .slice pm nm cm, .slice rp (keptR b.rules mm k).length rc].toArray 109 (0, 0)⟩] ++ nR ++ [⟨true, q9, .cells (ruL (b.rules.getD k default)).toArray 94 (0, 0)⟩]) rfl zq rfl ho kdq (by omega) (by omega) (fun w3 n3 o3 => k_put ?_); replace o3 : OwnS 3 1 w3 (keptI mm (k + 1)).length (ints (keptI mm (k + 1))) n3 := by
          rw [keptI_yes hbit, ints_append, List.length_append]; exact o3
        obtain ⟨p3, c3, rfl, hc3, r3⟩ := own_rdA (B := B) o3
        refine k_bs kdq rfl zq (by decide) (by decide) rfl (fun q35 => k_hp (k_put ?_)); refine k_appW (F := h ++ [⟨true, q4, .cells ([.int .i64 0, .int .i64 0, .int .i64 0, .slice none 0 0, .slice none 0 0] : List Value).toArray 109 (0, 0)⟩, ⟨true, q7, .cells [.int .i64 b.bend, .int .i64 b.twist, .int .i64 b.turns, .slice pm nm cm, .slice rp (keptR b.rules mm k).length rc].toArray 109 (0, 0)⟩] ++ n3) rfl zq rfl hor (Weak.trans weakSub (Weak.mid (h ++ [⟨true, q4, .cells ([.int .i64 0, .int .i64 0, .int .i64 0, .slice none 0 0, .slice none 0 0] : List Value).toArray 109 (0, 0)⟩, ⟨true, q7, .cells [.int .i64 b.bend, .int .i64 b.twist, .int .i64 b.turns, .slice pm nm cm, .slice rp (keptR b.rules mm k).length rc].toArray 109 (0, 0)⟩]) nR n3)) kdq (by omega) (by omega) (fun w9 n9 o9 => k_put ?_); replace o9 : OwnS 94 4 w9 (keptR b.rules mm (k + 1)).length (encs (keptR b.rules mm (k + 1))) n9 := by
          rw [keptR_yes hbit, encs_append, encs_ruL, List.length_append]; exact o9
        obtain ⟨p9, c9, rfl, hc9, r9⟩ := own_rdA (B := B) o9
        refine k_as rfl zq ?_; first | refine k_fa0 rfl zq ?_ | refine k_fa rfl zq ?_
        first | refine k_fa0 rfl zq ?_ | refine k_fa rfl zq ?_
        refine k_st1 rfl zq ?_; refine k_nil ?_; refine run_inBlock ?_; refine rr2 (by kernel_rfl) ?_; refine k_add rfl zq (by unfold In64; omega) ?_; refine mq rfl ?_; refine k_nil ?_; exact m.weak weakSub (hnext1 _ _ _ (by omega) ⟨k + 1, _, _, n3, _, _, n9, rfl, by omega, o3, o9, exU rfl, rfl⟩)
      · refine DrawT.split 2 8 (by decide) ?_ ?_
        · refine DrawT.leaf [(0, .pure), (1, .pure), (4, .pure), (5, .pure), (6, .read), (7, .read), (2, .keep), (8, .keep), (3, .keep), (9, .free), (10, .pure), (11, .pure), (12, .pure), (13, .free)] (by kernel_rfl) ?_
          refine mq rfl ?_; refine mq rfl ?_; first | refine k_fa0 rfl zq ?_ | refine k_fa rfl zq ?_
          first | refine k_fa0 rfl zq ?_ | refine k_fa rfl zq ?_
          refine k_ldh rfl zq ?_; refine k_ldN (vs := ruL (b.rules.getD k default)) rfl zq rfl (rdN_has (q := q9)) ?_; refine k_bs kdq rfl zq (by decide) (by decide) rfl (fun q29 => k_hp (k_put ?_)); refine k_bs kdq rfl zq (by decide) (by decide) rfl (fun q35 => k_hp (k_put ?_)); refine k_appW (F := h ++ [⟨true, q4, .cells ([.int .i64 0, .int .i64 0, .int .i64 0, .slice none 0 0, .slice none 0 0] : List Value).toArray 109 (0, 0)⟩, ⟨true, q7, .cells [.int .i64 b.bend, .int .i64 b.twist, .int .i64 b.turns, .slice pm nm cm, .slice rp (keptR b.rules mm k).length rc].toArray 109 (0, 0)⟩] ++ nR ++ [⟨true, q9, .cells (ruL (b.rules.getD k default)).toArray 94 (0, 0)⟩] ++ [⟨true, q35, .cells (ruL (b.rules.getD k default)).toArray 94 (0, 0)⟩]) rfl zq rfl ho (Weak.trans weakSub (Weak.mid (h ++ [⟨true, q4, .cells ([.int .i64 0, .int .i64 0, .int .i64 0, .slice none 0 0, .slice none 0 0] : List Value).toArray 109 (0, 0)⟩, ⟨true, q7, .cells [.int .i64 b.bend, .int .i64 b.twist, .int .i64 b.turns, .slice pm nm cm, .slice rp (keptR b.rules mm k).length rc].toArray 109 (0, 0)⟩] ++ nR ++ [⟨true, q9, .cells (ruL (b.rules.getD k default)).toArray 94 (0, 0)⟩]) nI [⟨true, q35, .cells (ruL (b.rules.getD k default)).toArray 94 (0, 0)⟩])) kdq (by omega) (by omega) (fun w3 n3 o3 => k_put ?_); replace o3 : OwnS 3 1 w3 (keptI mm (k + 1)).length (ints (keptI mm (k + 1))) n3 := by
            rw [keptI_yes hbit, ints_append, List.length_append]; exact o3
          obtain ⟨p3, c3, rfl, hc3, r3⟩ := own_rdA (B := B) o3
          refine k_appW (F := h ++ [⟨true, q4, .cells ([.int .i64 0, .int .i64 0, .int .i64 0, .slice none 0 0, .slice none 0 0] : List Value).toArray 109 (0, 0)⟩, ⟨true, q7, .cells [.int .i64 b.bend, .int .i64 b.twist, .int .i64 b.turns, .slice pm nm cm, .slice rp (keptR b.rules mm k).length rc].toArray 109 (0, 0)⟩] ++ n3) rfl zq rfl hor (Weak.trans weakSub (Weak.mid (h ++ [⟨true, q4, .cells ([.int .i64 0, .int .i64 0, .int .i64 0, .slice none 0 0, .slice none 0 0] : List Value).toArray 109 (0, 0)⟩, ⟨true, q7, .cells [.int .i64 b.bend, .int .i64 b.twist, .int .i64 b.turns, .slice pm nm cm, .slice rp (keptR b.rules mm k).length rc].toArray 109 (0, 0)⟩]) nR n3)) kdq (by omega) (by omega) (fun w9 n9 o9 => k_put ?_); replace o9 : OwnS 94 4 w9 (keptR b.rules mm (k + 1)).length (encs (keptR b.rules mm (k + 1))) n9 := by
            rw [keptR_yes hbit, encs_append, encs_ruL, List.length_append]; exact o9
          obtain ⟨p9, c9, rfl, hc9, r9⟩ := own_rdA (B := B) o9
          refine k_as rfl zq ?_; first | refine k_fa0 rfl zq ?_ | refine k_fa rfl zq ?_
          first | refine k_fa0 rfl zq ?_ | refine k_fa rfl zq ?_
          refine k_st1 rfl zq ?_; refine k_nil ?_; refine run_inBlock ?_; refine rr2 (by kernel_rfl) ?_; refine k_add rfl zq (by unfold In64; omega) ?_; refine mq rfl ?_; refine k_nil ?_; exact m.weak weakSub (hnext1 _ _ _ (by omega) ⟨k + 1, _, _, n3, _, _, n9, rfl, by omega, o3, o9, exU rfl, rfl⟩)
        · refine DrawT.leaf [(0, .pure), (1, .pure), (4, .pure), (5, .pure), (6, .read), (7, .read), (8, .keep), (2, .keep), (3, .keep), (9, .free), (10, .pure), (11, .pure), (12, .pure), (13, .free)] (by kernel_rfl) ?_
          refine mq rfl ?_; refine mq rfl ?_; first | refine k_fa0 rfl zq ?_ | refine k_fa rfl zq ?_
          first | refine k_fa0 rfl zq ?_ | refine k_fa rfl zq ?_
          refine k_ldh rfl zq ?_; refine k_ldN (vs := ruL (b.rules.getD k default)) rfl zq rfl (rdN_has (q := q9)) ?_; refine k_bs kdq rfl zq (by decide) (by decide) rfl (fun q35 => k_hp (k_put ?_)); refine k_bs kdq rfl zq (by decide) (by decide) rfl (fun q29 => k_hp (k_put ?_)); refine k_appW (F := h ++ [⟨true, q4, .cells ([.int .i64 0, .int .i64 0, .int .i64 0, .slice none 0 0, .slice none 0 0] : List Value).toArray 109 (0, 0)⟩, ⟨true, q7, .cells [.int .i64 b.bend, .int .i64 b.twist, .int .i64 b.turns, .slice pm nm cm, .slice rp (keptR b.rules mm k).length rc].toArray 109 (0, 0)⟩] ++ nR ++ [⟨true, q9, .cells (ruL (b.rules.getD k default)).toArray 94 (0, 0)⟩] ++ [⟨true, q35, .cells (ruL (b.rules.getD k default)).toArray 94 (0, 0)⟩]) rfl zq rfl ho (Weak.trans weakSub (Weak.mid (h ++ [⟨true, q4, .cells ([.int .i64 0, .int .i64 0, .int .i64 0, .slice none 0 0, .slice none 0 0] : List Value).toArray 109 (0, 0)⟩, ⟨true, q7, .cells [.int .i64 b.bend, .int .i64 b.twist, .int .i64 b.turns, .slice pm nm cm, .slice rp (keptR b.rules mm k).length rc].toArray 109 (0, 0)⟩] ++ nR ++ [⟨true, q9, .cells (ruL (b.rules.getD k default)).toArray 94 (0, 0)⟩]) nI [⟨true, q35, .cells (ruL (b.rules.getD k default)).toArray 94 (0, 0)⟩])) kdq (by omega) (by omega) (fun w3 n3 o3 => k_put ?_); replace o3 : OwnS 3 1 w3 (keptI mm (k + 1)).length (ints (keptI mm (k + 1))) n3 := by
            rw [keptI_yes hbit, ints_append, List.length_append]; exact o3
          obtain ⟨p3, c3, rfl, hc3, r3⟩ := own_rdA (B := B) o3
          refine k_appW (F := h ++ [⟨true, q4, .cells ([.int .i64 0, .int .i64 0, .int .i64 0, .slice none 0 0, .slice none 0 0] : List Value).toArray 109 (0, 0)⟩, ⟨true, q7, .cells [.int .i64 b.bend, .int .i64 b.twist, .int .i64 b.turns, .slice pm nm cm, .slice rp (keptR b.rules mm k).length rc].toArray 109 (0, 0)⟩] ++ n3) rfl zq rfl hor (Weak.trans weakSub (Weak.mid (h ++ [⟨true, q4, .cells ([.int .i64 0, .int .i64 0, .int .i64 0, .slice none 0 0, .slice none 0 0] : List Value).toArray 109 (0, 0)⟩, ⟨true, q7, .cells [.int .i64 b.bend, .int .i64 b.twist, .int .i64 b.turns, .slice pm nm cm, .slice rp (keptR b.rules mm k).length rc].toArray 109 (0, 0)⟩]) nR n3)) kdq (by omega) (by omega) (fun w9 n9 o9 => k_put ?_); replace o9 : OwnS 94 4 w9 (keptR b.rules mm (k + 1)).length (encs (keptR b.rules mm (k + 1))) n9 := by
            rw [keptR_yes hbit, encs_append, encs_ruL, List.length_append]; exact o9
          obtain ⟨p9, c9, rfl, hc9, r9⟩ := own_rdA (B := B) o9
          refine k_as rfl zq ?_; first | refine k_fa0 rfl zq ?_ | refine k_fa rfl zq ?_
          first | refine k_fa0 rfl zq ?_ | refine k_fa rfl zq ?_
          refine k_st1 rfl zq ?_; refine k_nil ?_; refine run_inBlock ?_; refine rr2 (by kernel_rfl) ?_; refine k_add rfl zq (by unfold In64; omega) ?_; refine mq rfl ?_; refine k_nil ?_; exact m.weak weakSub (hnext1 _ _ _ (by omega) ⟨k + 1, _, _, n3, _, _, n9, rfl, by omega, o3, o9, exU rfl, rfl⟩)
    · have hbit : bitN mm k ≠ 1 := by unfold bitN; omega
      refine k_nil ?_; refine run_no ?_; refine run_skip ?_; refine run_inBlock ?_; refine rr2 (by kernel_rfl) ?_; refine k_add rfl zq (by unfold In64; omega) ?_; refine mq rfl ?_; refine k_nil ?_; rw [← keptI_no hbit, ← keptR_no (rules := b.rules) hbit]; rw [← keptI_no hbit] at ho
      rw [← keptR_no (rules := b.rules) hbit] at hor
      exact m.weak weakSub (hnext1 _ _ _ (by omega) ⟨k + 1, _, _, nI, _, _, nR, rfl, by omega, ho, hor, exU rfl, rfl⟩)
  · refine k_nil ?_; refine run_seq ?_; refine run_no ?_; refine run_exit rfl ?_; refine rs4 (by kernel_rfl) ?_; obtain rfl : k = nr := by omega
    refine k_ldA rfl zq ?_; refine mq rfl ?_; refine k_stA rfl zq rfl ?_; refine aq rfl ?_; refine run_ret rfl ?_; refine run_res (h ++ nI ++ nR) rfl Tryz.func130 rfl weakSub ?_; refine hK _ _ ?_
    exact ⟨nI, nR, rfl, _, _, _, rfl, hor.rd (List.Sublist.refl _), ho⟩
end Go.Proofs
namespace Go.Lo
open Go.Conc
def blk : Loc → Option Nat
  | .cell a => some a.block
  | .obj r => some r
  | _ => none
theorem EvOk.touch {B : Array Obj} {h : Hp} {n n' : Nat} {e : Event} (o : EvOk B h n n' e) {a : Touch} (ha : (MemAct.ofEvent e).touch? = some a) : ∃ b, blk a.loc = some b ∧ Allowed B h n n' a.write b := by
  rcases o with rfl | ⟨hs, o⟩
  · cases ha
  obtain ⟨l, wr, sy⟩ := e
  simp only at hs
  subst hs
  cases l with
  | cell x =>
    have : a = ⟨.cell x, wr, .plain⟩ := by simpa [MemAct.ofEvent, MemAct.touch?] using ha.symm
    subst this
    exact ⟨_, rfl, o⟩
  | obj x =>
    have : a = ⟨.obj x, wr, .plain⟩ := by simpa [MemAct.ofEvent, MemAct.touch?] using ha.symm
    subst this
    exact ⟨_, rfl, o⟩
  | output => exact o.elim
  | goroutines => exact o.elim
  | mark m => exact o.elim
theorem EvOk.word {B : Array Obj} {h : Hp} {n n' : Nat} {e : Event} (o : EvOk B h n n' e) : ∀ m, MemAct.ofEvent e = .mark m → Neutral m := by
  rcases o with rfl | ⟨hs, o⟩
  · intro m hm; cases hm; rfl
  obtain ⟨l, wr, sy⟩ := e
  simp only at hs
  subst hs
  intro m hm
  cases l with
  | mark x => exact o.elim
  | _ => simp [MemAct.ofEvent] at hm
def updH (f : Nat → Hp) (i : Nat) (h : Hp) : Nat → Hp := fun j => if j = i then h else f j
@[simp] theorem updH_same (f : Nat → Hp) (i : Nat) (h : Hp) : updH f i h i = h := by simp [updH]
theorem updH_ne (f : Nat → Hp) {i j : Nat} (h : Hp) (e : j ≠ i) : updH f i h j = f j := by simp [updH, e]
def ApH (h k : Hp) : Prop := ∀ c ∈ h, ∀ d ∈ k, (c.rw = true ∨ d.rw = true) → c.b ≠ d.b
theorem ApH.symm {h k : Hp} (a : ApH h k) : ApH k h := fun c hc d hd x e => a d hd c hc x.symm e.symm
structure TI (n lim : Nat) (Hl : Nat → Hp) (Left : Nat → Prop) (t : Trace) : Prop where
  clean : ∀ said, ¬ Race said t
  word : Wordless t
  low : ∀ i a b, touchAt t i = some a → blk a.loc = some b → b < lim
  base : ∀ i a b, touchAt t i = some a → blk a.loc = some b → b < n → a.write = false
  known : ∀ g, ∀ c ∈ Hl g, ∀ i a, touchAt t i = some a → blk a.loc = some c.b → (c.rw = true ∨ a.write = true) → Knows t g i
  left : ∀ (i : Nat) (x : MemOp), t[i]? = some x → Left x.g → x.act.touch? ≠ none → Knows t 0 i
theorem mem_evs {g : Nat} {fn : FuncId} {pos : String} {es : Array Event} {op : MemOp} (h : op ∈ MemOp.ofEvents g fn pos es) : ∃ e ∈ es, op = { g, fn, pos, act := .ofEvent e } := by
  unfold MemOp.ofEvents at h
  split at h
  · simp at h
  · obtain ⟨e, he, rfl⟩ := Array.mem_map.1 h
    exact ⟨e, he, rfl⟩
theorem touch_cases {t u : Trace} {i : Nat} {a : Touch} (h : touchAt (t ++ u) i = some a) : touchAt t i = some a ∨ ∃ op ∈ u, (t ++ u)[i]? = some op ∧ op.act.touch? = some a := by
  obtain ⟨op, ho, hoa⟩ := touch_of h
  rcases getElem?_append_cases ho with ⟨hi, ho'⟩ | ⟨_, hou⟩
  · exact .inl (by rw [touchAt_of ho']; exact hoa)
  · exact .inr ⟨op, hou, ho, hoa⟩
section
variable {n lim lim' : Nat} {Hl Hl' : Nat → Hp} {Left Left' : Nat → Prop} {t u : Trace}
theorem TI.mute (T : TI n lim Hl Left t) (hlim : lim ≤ lim') (hn : ∀ op ∈ u, op.act.touch? = none) (hw : Wordless u)
    (hk : ∀ g, ∀ c ∈ Hl' g, ∀ i a, touchAt t i = some a → blk a.loc = some c.b → (c.rw = true ∨ a.write = true) → Knows (t ++ u) g i)
    (hl : ∀ (i : Nat) (x : MemOp), t[i]? = some x → Left' x.g → x.act.touch? ≠ none → Left x.g ∨ Knows (t ++ u) 0 i) : TI n lim' Hl' Left' (t ++ u) where
  clean := fun said => noRace_appendMute (T.clean said) hn
  word := T.word.append hw
  low := fun i a b ha hb => by
    rcases touch_cases ha with ha | ⟨op, ho, _, hoa⟩
    · exact Nat.lt_of_lt_of_le (T.low i a b ha hb) hlim
    · rw [hn op ho] at hoa; cases hoa
  base := fun i a b ha hb => by
    rcases touch_cases ha with ha | ⟨op, ho, _, hoa⟩
    · exact T.base i a b ha hb
    · rw [hn op ho] at hoa; cases hoa
  known := fun g c hc i a ha hb => by
    rcases touch_cases ha with ha | ⟨op, ho, _, hoa⟩
    · exact hk g c hc i a ha hb
    · rw [hn op ho] at hoa; cases hoa
  left := fun i x hx hg ht => by
    rcases getElem?_append_cases hx with ⟨hi, hx'⟩ | ⟨_, hxu⟩
    · rcases hl i x hx' hg ht with h | h
      · exact (T.left i x hx' h ht).app u
      · exact h
    · exact absurd (hn x hxu) ht
theorem TI.weak (T : TI n lim Hl Left t) (hlim : lim ≤ lim') (key : ∀ g, ∀ c' ∈ Hl' g, ∃ c ∈ Hl g, c.b = c'.b ∧ (c'.rw = true → c.rw = true)) : TI n lim' Hl' Left t := by
  have := T.mute (u := #[]) (Hl' := Hl') (Left' := Left) hlim (by simp) (fun op hop => by simp at hop) (fun g c' hc' i a ha hb hor => by
    obtain ⟨c, hc, e, hr⟩ := key g c' hc'
    rw [Array.append_empty]; exact T.known g c hc i a ha (e ▸ hb) (hor.imp hr id)) (fun _ _ _ h _ => .inl h)
  rwa [Array.append_empty] at this
theorem TI.own (T : TI n lim Hl Left t) {B : Array Obj} (hn : B.size = n) {g : Nat} {h' : Hp} {w w' : World} {es : Array Event} (hlim : w.heap.size = lim) (hlim' : w'.heap.size = lim') (st : Stp B (Hl g) h' w w' es)
    (hs : ∀ j, Sat B (Hl j) w) (ap : ∀ j, j ≠ g → ApH (Hl j) (Hl g)) (hL : ¬ Left g) (fn : FuncId) (pos : String) : TI n lim' (updH Hl g h') Left (t ++ MemOp.ofEvents g fn pos es) := by
  subst hlim; subst hlim'; subst hn
  have hev : ∀ op ∈ MemOp.ofEvents g fn pos es, op.g = g ∧ (∀ m, op.act = .mark m → Neutral m) ∧ ∀ a, op.act.touch? = some a → ∃ b, blk a.loc = some b ∧ Allowed B (Hl g) w.heap.size w'.heap.size a.write b := by
    intro op hop
    obtain ⟨e, he, rfl⟩ := mem_evs hop
    exact ⟨rfl, (st.evs e he).word, fun a ha => (st.evs e he).touch ha⟩
  refine ⟨fun said => noRace_append (T.clean said) (fun op hop => (hev op hop).1) fun i a ha op hop b hb hc => ?_, T.word.append fun op hop m hm => (hev op hop).2.1 m hm, fun i a b ha hb => ?_, fun i a b ha hb hlt => ?_, fun j c hc i a ha0 hb hor => ?_, fun i x hx hg ht => ?_⟩
  · obtain ⟨bb, hbb, hal⟩ := (hev op hop).2.2 b hb
    have e : blk a.loc = some bb := by rw [hc.1]; exact hbb
    rcases hal with hal | ⟨d, hd, e', hr⟩ | ⟨h1, h2⟩
    · have := T.low i a bb ha e; omega
    · exact T.known g d hd i a ha (by rw [e']; exact e) (hc.2.2.1.symm.imp hr id)
    · have := T.base i a bb ha e h2
      rcases hc.2.2.1 with h3 | h3
      · rw [this] at h3; cases h3
      · rw [h1] at h3; cases h3
  · rcases touch_cases ha with ha | ⟨op, ho, _, hoa⟩
    · exact Nat.lt_of_lt_of_le (T.low i a b ha hb) st.size
    · obtain ⟨b', hb', hal⟩ := (hev op ho).2.2 a hoa
      rw [hb] at hb'
      obtain rfl := Option.some.inj hb'
      rcases hal with hal | ⟨d, hd, e', _⟩ | ⟨_, h2⟩
      · exact hal.2
      · have := (hs g).lt hd; have := st.size; omega
      · have := (hs g).size; have := st.size; omega
  · rcases touch_cases ha with ha | ⟨op, ho, _, hoa⟩
    · exact T.base i a b ha hb hlt
    · obtain ⟨b', hb', hal⟩ := (hev op ho).2.2 a hoa
      rw [hb] at hb'
      obtain rfl := Option.some.inj hb'
      rcases hal with hal | ⟨d, hd, e', hr⟩ | ⟨h1, h2⟩
      · have := (hs g).size; omega
      · have := ((hs g).mem d hd).1; omega
      · exact h1
  · rcases touch_cases ha0 with ha | ⟨op, ho, hx, hoa⟩
    · by_cases e : j = g
      · subst e
        rw [updH_same] at hc
        rcases st.key c hc with k | ⟨d, hd, e', hr⟩
        · have := T.low i a c.b ha hb; omega
        · exact (T.known j d hd i a ha (by rw [e']; exact hb) (hor.imp hr id)).app _
      · rw [updH_ne _ _ e] at hc
        exact (T.known j c hc i a ha hb hor).app _
    · by_cases e : j = g
      · subst e
        have := knows_own hx
        rwa [(hev op ho).1] at this
      · rw [updH_ne _ _ e] at hc
        exfalso
        obtain ⟨b', hb', hal⟩ := (hev op ho).2.2 a hoa
        rw [hb] at hb'
        obtain rfl := Option.some.inj hb'
        rcases hal with hal | ⟨d, hd, e', hr⟩ | ⟨h1, h2⟩
        · have := (hs j).lt hc; omega
        · exact ap j e c hc d hd (hor.imp id hr) e'.symm
        · have := ((hs j).mem c hc).1; omega
  · rcases getElem?_append_cases hx with ⟨hi, hx'⟩ | ⟨_, hxu⟩
    · exact (T.left i x hx' hg ht).app _
    · exact absurd ((hev x hxu).1 ▸ hg) hL
theorem TI.spawn (T : TI n lim Hl Left t) {g c : Nat} (hlim : lim ≤ lim') {hg hc : Hp} (hne : c ≠ g) (k1 : ∀ x' ∈ hg, ∃ x ∈ Hl g, x.b = x'.b ∧ (x'.rw = true → x.rw = true)) (k2 : ∀ x' ∈ hc, ∃ x ∈ Hl g, x.b = x'.b ∧ (x'.rw = true → x.rw = true))
    (fh : FuncId) (ph : String) (fc : FuncId) :
    TI n lim' (updH (updH Hl g hg) c hc) Left (t ++ #[{ g := g, fn := fh, pos := ph, act := .go c }, { g := c, fn := fc, pos := ph, act := .start }]) := by
  generalize hu : (#[{ g := g, fn := fh, pos := ph, act := .go c }, { g := c, fn := fc, pos := ph, act := .start }] : Trace) = u
  have hn : ∀ op ∈ u, op.act.touch? = none := by
    intro op hop
    subst hu
    simp only [List.mem_toArray, List.mem_cons, List.not_mem_nil, or_false] at hop
    rcases hop with rfl | rfl <;> rfl
  have hw : Wordless u := by
    intro op hop m hm
    subst hu
    simp only [List.mem_toArray, List.mem_cons, List.not_mem_nil, or_false] at hop
    rcases hop with rfl | rfl <;> cases hm
  have hW := T.word.append hw
  have e0 : (t ++ u)[t.size]? = some { g := g, fn := fh, pos := ph, act := .go c } := by subst hu; simp
  have e1 : (t ++ u)[t.size + 1]? = some { g := c, fn := fc, pos := ph, act := .start } := by subst hu; simp
  have edge : HappensBefore (t ++ u) t.size (t.size + 1) := Relation.TransGen.single (.inr ⟨.spawn (act?_of e0) (act?_of e1) (g?_of e1), hW.heard e0, hW.heard e1⟩)
  refine T.mute hlim hn hw (fun j x hx i a ha hb hor => ?_) fun _ _ _ h _ => .inl h
  by_cases ec : j = c
  · subst ec
    rw [updH_same] at hx
    obtain ⟨y, hy, e, hr⟩ := k2 x hx
    have := T.known g y hy i a ha (by rw [e]; exact hb) (hor.imp hr id)
    exact ⟨t.size + 1, _, e1, rfl, .inr ((this.hb_new (Nat.le_refl _) e0 rfl).trans edge)⟩
  · rw [updH_ne _ _ ec] at hx
    by_cases eg : j = g
    · subst eg
      rw [updH_same] at hx
      obtain ⟨y, hy, e, hr⟩ := k1 x hx
      exact (T.known j y hy i a ha (by rw [e]; exact hb) (hor.imp hr id)).app u
    · rw [updH_ne _ _ eg] at hx
      exact (T.known j x hx i a ha hb hor).app u
theorem TI.meet (T : TI n lim Hl Left t) {g j : Nat} (hlim : lim ≤ lim') {hr hp : Hp} (hne : g ≠ j) (k1 : ∀ x' ∈ hr, ∃ x ∈ Hl g, x.b = x'.b ∧ (x'.rw = true → x.rw = true)) (k2 : ∀ x' ∈ hp, ∃ x ∈ Hl g, x.b = x'.b ∧ (x'.rw = true → x.rw = true))
    (hL : ∀ i, Left' i → Left i ∨ (i = g ∧ j = 0)) (fh : FuncId) (ph : String) (fj : FuncId) (pj : String) (c k cap : Nat) :
    TI n lim' (updH (updH Hl g hr) j (Hl j ++ hp)) Left' (t ++ met g j fh ph fj pj c k cap) := by
  have hn := met_mute g j fh ph fj pj c k cap
  have hw : Wordless (met g j fh ph fj pj c k cap) := by
    intro op hop m hm
    simp only [met, List.mem_toArray, List.mem_cons, List.not_mem_nil, or_false] at hop
    rcases hop with rfl | rfl | rfl | rfl <;> cases hm
  have hW := T.word.append hw
  have e0 : (t ++ met g j fh ph fj pj c k cap)[t.size]? = some { g := g, fn := fh, pos := ph, act := .send c k } := by simp [met]
  have e3 : (t ++ met g j fh ph fj pj c k cap)[t.size + 3]? = some { g := j, fn := fj, pos := pj, act := .recvDone c k } := by simp [met]
  have edge : HappensBefore (t ++ met g j fh ph fj pj c k cap) t.size (t.size + 3) :=
    Relation.TransGen.single (.inr ⟨.handOver (act?_of e0) (act?_of e3), hW.heard e0, hW.heard e3⟩)
  have pass : ∀ i, Knows t g i → Knows (t ++ met g j fh ph fj pj c k cap) j i := fun i h => ⟨t.size + 3, _, e3, rfl, .inr ((h.hb_new (Nat.le_refl _) e0 rfl).trans edge)⟩
  refine T.mute hlim hn hw (fun q x hx i a ha hb hor => ?_) fun i x hx hl ht => ?_
  · by_cases ej : q = j
    · subst ej
      rw [updH_same] at hx
      rcases List.mem_append.1 hx with hx | hx
      · exact (T.known q x hx i a ha hb hor).app _
      · obtain ⟨y, hy, e, hr⟩ := k2 x hx
        exact pass i (T.known g y hy i a ha (by rw [e]; exact hb) (hor.imp hr id))
    · rw [updH_ne _ _ ej] at hx
      by_cases eg : q = g
      · subst eg
        rw [updH_same] at hx
        obtain ⟨y, hy, e, hr⟩ := k1 x hx
        exact (T.known q y hy i a ha (by rw [e]; exact hb) (hor.imp hr id)).app _
      · rw [updH_ne _ _ eg] at hx
        exact (T.known q x hx i a ha hb hor).app _
  · rcases hL _ hl with h | ⟨h, rfl⟩
    · exact .inl h
    · exact .inr (pass i (h ▸ knows_own hx))
theorem TI.handed (T : TI n lim Hl Left t) (hL : ∀ (i : Nat) (x : MemOp), t[i]? = some x → x.g ≠ 0 → Left x.g) : t.HandedOver := by
  intro i g hg hne hc
  obtain ⟨a, ha, _⟩ := hc
  obtain ⟨x, hx, hxa⟩ := touch_of ha
  have e : x.g = g := by have := g?_of hx; rw [hg] at this; exact (Option.some.inj this).symm
  obtain ⟨q, z, h1, h2, h3⟩ := T.left i x hx (hL i x hx (e ▸ hne)) (by rw [hxa]; simp)
  rcases h3 with rfl | h3
  · rw [hx] at h1
    obtain rfl := Option.some.inj h1
    exact absurd h2 (e ▸ hne)
  · exact ⟨q, by rw [g?_of h1, h2], h3⟩
end
end Go.Lo
namespace Go.Lo
open Go.Conc
structure Pro where
  chans : List Nat
  done : Nat
  Msg : Nat → Value → Hp → Nat → Nat → Prop
inductive Quiet (C : List Nat) : Goroutine → Prop
  | runs {g : Goroutine} (h : g.status = .running) : Quiet C g
  | ended {g : Goroutine} (h : g.status = .finished) : Quiet C g
  | sends {g : Goroutine} {c : Nat} {v z : Value} (h : c ∈ C) : Quiet C (parked g #[scase c v z] .send)
  | recvs {g : Goroutine} {cases : Array CommCase} {shape : CommShape} (h : ∀ cc ∈ cases, ∃ c z, cc = rcase c z ∧ c ∈ C) : Quiet C (parked g cases shape)
theorem Quiet.awake {C : List Nat} {g : Goroutine} (q : Quiet C g) : awake g := by
  cases q with
  | runs h => exact awake_of (.inl h)
  | ended h => exact awake_of (.inr (.inr h))
  | sends h => exact awake_of (.inr (.inl rfl))
  | recvs h => exact awake_of (.inr (.inl rfl))
def Opens (C : List Nat) (w : World) : Prop := ∀ c ∈ C, ∃ k tm, w.heap[c]? = some (.chan 0 #[] false k k tm)
theorem Quiet.woken {P : Program} {C : List Nat} {g a a' : Goroutine} {w : World} (q : Quiet C g) (o : Opens C w) : woken P a a' w g = g := by
  cases q with
  | runs h => exact woken_running h
  | ended h =>
    unfold Conc.woken
    split
    · exact again_running _ (.inr h)
    · rfl
  | sends h =>
    obtain ⟨k, tm, e⟩ := o _ h
    exact woken_send_open _ _ e
  | recvs h =>
    unfold Conc.woken
    split
    · refine again_all_open fun cc hcc => ?_
      obtain ⟨c, z, e, hc⟩ := h cc hcc
      obtain ⟨k, tm, e'⟩ := o c hc
      exact ⟨c, z, 0, #[], k, k, tm, e, e'⟩
    · rfl
structure Core (B : Array Obj) (W : World) (C : List Nat) (Left : Nat → Prop) (gs : Array Goroutine) (w : World) (t : Trace) (Hl : Nat → Hp) : Prop where
  sat : ∀ i, Sat B (Hl i) w
  apart : ∀ i j, i ≠ j → ApH (Hl i) (Hl j)
  chan : Opens C w
  chanB : ∀ c ∈ C, B.size ≤ c ∧ ∀ i, ∀ d ∈ Hl i, d.b ≠ c
  ti : TI B.size w.heap.size Hl Left t
  far : w.os = W.os ∧ w.output = W.output ∧ w.tape = W.tape
  gsz : ∀ op ∈ t, op.g < gs.size
  out : ∀ i, gs.size ≤ i → Hl i = []
  quiet : ∀ (i : Nat) g, gs[i]? = some g → Quiet C g
section
variable {P : Program} {B : Array Obj} {W : World} {C : List Nat} {Left : Nat → Prop} {gs : Array Goroutine} {w w' : World} {t : Trace} {Hl : Nat → Hp} {sl : Option (Nat × Nat)}
theorem Core.at (c : Core B W C Left gs w t Hl) (d : Nat) : Core B W C Left gs (w.at d) t Hl :=
  ⟨fun i => ⟨(c.sat i).base, (c.sat i).mem, (c.sat i).apart⟩, c.apart, c.chan, c.chanB, c.ti, c.far, c.gsz, c.out, c.quiet⟩
theorem map_woken (c : ∀ (i : Nat) g, gs[i]? = some g → Quiet C g) (o : Opens C w') (a a' : Goroutine) : gs.map (woken P a a' w') = gs := by
  apply Array.ext_getElem?
  intro i
  rw [Array.getElem?_map]; cases e : gs[i]? with
  | none => rfl
  | some g => rw [Option.map_some, (c i g e).woken o]
theorem quiet_set {i : Nat} {g' : Goroutine} (c : ∀ (i : Nat) g, gs[i]? = some g → Quiet C g) (q : Quiet C g') : ∀ (j : Nat) g, (gs.setIfInBounds i g')[j]? = some g → Quiet C g := by
  intro j g hj
  by_cases e : i = j
  · subst e
    by_cases hlt : i < gs.size
    · rw [Array.getElem?_setIfInBounds_self_of_lt hlt] at hj
      exact (Option.some.inj hj) ▸ q
    · rw [Array.getElem?_eq_none (by simpa using hlt)] at hj; cases hj
  · rw [Array.getElem?_setIfInBounds_ne e] at hj
    exact c j g hj
theorem Core.own (c : Core B W C Left gs w t Hl) {i : Nat} {g g' : Goroutine} {h' : Hp} {es : Array Event} (hi : gs[i]? = some g) (hst : stepG P (i == 0) g w = .go g' w' es) (st : Stp B (Hl i) h' w w' es)
    (hL : ¬ Left i) (q : Quiet C g') :
    runT P (crowd gs w sl) i = (.next (crowd (gs.setIfInBounds i g') w' sl), MemOp.ofEvents i g.frame.fn g.frame.place es) ∧
      Core B W C Left (gs.setIfInBounds i g') w' (t ++ MemOp.ofEvents i g.frame.fn g.frame.place es) (updH Hl i h') := by
  have hlt : i < gs.size := (Array.getElem?_eq_some_iff.1 hi).1
  have keep : ∀ j, j ≠ i → ∀ d ∈ Hl j, w'.heap[d.b]? = w.heap[d.b]? := fun j hj d hd =>
    st.old d.b ((c.sat j).lt hd) fun x hx hr => fun e => c.apart j i hj d hd x hx (.inr hr) e.symm
  have ho : Opens C w' := fun r hr => by
    obtain ⟨k, tm, e⟩ := c.chan r hr
    have hlt' := (Array.getElem?_eq_some_iff.1 e).1
    exact ⟨k, tm, by rw [st.old r hlt' fun x hx _ => (c.chanB r hr).2 i x hx]; exact e⟩
  refine ⟨?_, ?_⟩
  · rw [runT_crowd_go hi hst, map_woken c.quiet ho]
  · refine ⟨fun j => ?_, fun j k hjk => ?_, ho, fun r hr => ⟨(c.chanB r hr).1, fun j d hd => ?_⟩, ?_, ⟨st.os.trans c.far.1, st.out.trans c.far.2.1, st.tape.trans c.far.2.2⟩, fun op hop => ?_, fun j hj => ?_, quiet_set c.quiet q⟩
    · by_cases e : j = i
      · subst e; rw [updH_same]; exact st.sat
      · rw [updH_ne _ _ e]; exact ⟨st.sat.base, fun d hd => ⟨((c.sat j).mem d hd).1, by rw [keep j e d hd]; exact ((c.sat j).mem d hd).2⟩, (c.sat j).apart⟩
    · have one : ∀ j, j ≠ i → ApH (Hl j) h' := fun j hj d hd x hx hor => by
        rcases st.key x hx with k | ⟨y, hy, e, hr⟩
        · have := (c.sat j).lt hd; omega
        · rw [← e]; exact c.apart j i hj d hd y hy (hor.imp id hr)
      by_cases e1 : j = i
      · subst e1
        rw [updH_same, updH_ne _ _ (fun e => hjk e.symm)]; exact (one k fun e => hjk e.symm).symm
      · rw [updH_ne _ _ e1]; by_cases e2 : k = i
        · subst e2; rw [updH_same]; exact one j e1
        · rw [updH_ne _ _ e2]; exact c.apart j k hjk
    · by_cases e : j = i
      · subst e
        rw [updH_same] at hd
        rcases st.key d hd with k | ⟨y, hy, e, _⟩
        · obtain ⟨k', tm, e'⟩ := c.chan r hr
          have := (Array.getElem?_eq_some_iff.1 e').1; omega
        · rw [← e]; exact (c.chanB r hr).2 j y hy
      · rw [updH_ne _ _ e] at hd; exact (c.chanB r hr).2 j d hd
    · exact c.ti.own rfl rfl rfl st c.sat (fun j hj => c.apart j i hj) hL _ _
    · rw [Array.size_setIfInBounds]; rcases Array.mem_append.1 hop with h | h
      · exact c.gsz op h
      · obtain ⟨e, _, rfl⟩ := mem_evs h; exact hlt
    · rw [Array.size_setIfInBounds] at hj
      rw [updH_ne _ _ (by omega)]; exact c.out j hj
theorem Core.slip (c : Core B W C Left gs w t Hl) {i : Nat} {g g' : Goroutine} (hi : gs[i]? = some g) (hst : stepG P (i == 0) g w = .go g' w) (q : Quiet C g') :
    runT P (crowd gs w sl) i = (.next (crowd (gs.setIfInBounds i g') w sl), #[]) ∧ Core B W C Left (gs.setIfInBounds i g') w t Hl := by
  refine ⟨?_, c.sat, c.apart, c.chan, c.chanB, c.ti, c.far, fun op hop => ?_, fun j hj => c.out j (by simpa using hj), quiet_set c.quiet q⟩
  · rw [runT_crowd_go hi hst, map_woken c.quiet c.chan]; rfl
  · rw [Array.size_setIfInBounds]; exact c.gsz op hop
theorem Core.weak (c : Core B W C Left gs w t Hl) {i : Nat} {h' : Hp} (k : Weak B (Hl i) h') : Core B W C Left gs w t (updH Hl i h') := by
  have key : ∀ j, ∀ d ∈ updH Hl i h' j, ∃ x ∈ Hl j, x.b = d.b ∧ (d.rw = true → x.rw = true) := fun j d hd => by
    by_cases e : j = i
    · subst e; rw [updH_same] at hd; exact k.key d hd
    · rw [updH_ne _ _ e] at hd; exact ⟨d, hd, rfl, id⟩
  refine ⟨fun j => ?_, fun j l hjl d hd x hx hor => ?_, c.chan, fun r hr => ⟨(c.chanB r hr).1, fun j d hd => ?_⟩, c.ti.weak (Nat.le_refl _) key, c.far, c.gsz, fun j hj => ?_, c.quiet⟩
  · by_cases e : j = i
    · subst e; rw [updH_same]; exact k.sat _ (c.sat j)
    · rw [updH_ne _ _ e]; exact c.sat j
  · obtain ⟨d', hd', e1, r1⟩ := key j d hd
    obtain ⟨x', hx', e2, r2⟩ := key l x hx
    rw [← e1, ← e2]; exact c.apart j l hjl d' hd' x' hx' (hor.imp r1 r2)
  · obtain ⟨x, hx, e, _⟩ := key j d hd
    rw [← e]; exact (c.chanB r hr).2 j x hx
  · apply List.eq_nil_iff_forall_not_mem.2
    intro d hd
    obtain ⟨x, hx, _⟩ := key j d hd
    rw [c.out j hj] at hx; simp at hx
theorem Core.stay (c : Core B W C Left gs w t Hl) {Left' : Nat → Prop} (hl : ∀ i, Left' i → Left i) : Core B W C Left' gs w t Hl :=
  ⟨c.sat, c.apart, c.chan, c.chanB, ⟨c.ti.clean, c.ti.word, c.ti.low, c.ti.base, c.ti.known, fun i x hx hg => c.ti.left i x hx (hl _ hg)⟩, c.far, c.gsz, c.out, c.quiet⟩
theorem Core.share (c : Core B W C Left gs w t Hl) {C' : List Nat} (hq : ∀ (i : Nat) g, gs[i]? = some g → Quiet C' g) {i : Nat} {h' : Hp} (e : Hl i = h' ++ C'.map fun r => ⟨true, r, .chan 0 #[] false 0 0 false⟩) :
    Core B W C' Left gs w t (updH Hl i h') := by
  have wk : Weak B (Hl i) h' := by rw [e]; exact Weak.sub (List.sublist_append_left _ _)
  have c' := c.weak wk
  have mem : ∀ r ∈ C', (⟨true, r, .chan 0 #[] false 0 0 false⟩ : Chunk) ∈ Hl i := fun r hr => by rw [e]; exact List.mem_append_right _ (List.mem_map.2 ⟨r, hr, rfl⟩)
  refine ⟨c'.sat, c'.apart, fun r hr => ⟨0, false, ((c.sat i).mem _ (mem r hr)).2⟩, fun r hr => ⟨((c.sat i).mem _ (mem r hr)).1, fun j d hd => ?_⟩, c'.ti, c.far, c.gsz, c'.out, hq⟩
  by_cases ej : j = i
  · subst ej
    rw [updH_same] at hd
    have ap := (c.sat j).apart
    rw [e, List.pairwise_append] at ap
    exact ap.2.2 d hd ⟨true, r, .chan 0 #[] false 0 0 false⟩ (List.mem_map.2 ⟨r, hr, rfl⟩) (.inr rfl)
  · rw [updH_ne _ _ ej] at hd
    exact c.apart j i ej d hd _ (mem r hr) (.inr rfl)
theorem Core.spawn (c : Core B W C Left gs w t Hl) {i : Nat} {g g' child : Goroutine} {hg hc : Hp} (hi : gs[i]? = some g) (hst : stepG P (i == 0) g w = .spawn g' child w) (k1 : Weak B (Hl i) hg) (k2 : Weak B (Hl i) hc) (ap : ApH hg hc)
    (q : Quiet C g') (qc : Quiet C child) :
    runT P (crowd gs w sl) i = (.next (crowd ((gs.setIfInBounds i g').push child) w sl), #[{ g := i, fn := g.frame.fn, pos := g.frame.place, act := .go gs.size }, { g := gs.size, fn := child.frame.fn, pos := g.frame.place, act := .start }]) ∧
      Core B W C Left ((gs.setIfInBounds i g').push child) w (t ++ #[{ g := i, fn := g.frame.fn, pos := g.frame.place, act := .go gs.size }, { g := gs.size, fn := child.frame.fn, pos := g.frame.place, act := .start }]) (updH (updH Hl i hg) gs.size hc) := by
  have hlt : i < gs.size := (Array.getElem?_eq_some_iff.1 hi).1
  have hne : gs.size ≠ i := by omega
  have key : ∀ j, ∀ d ∈ updH (updH Hl i hg) gs.size hc j, (j = gs.size ∧ d ∈ hc) ∨ (j = i ∧ d ∈ hg) ∨ (j ≠ i ∧ j ≠ gs.size ∧ d ∈ Hl j) := fun j d hd => by
    by_cases e : j = gs.size
    · subst e; rw [updH_same] at hd; exact .inl ⟨rfl, hd⟩
    · rw [updH_ne _ _ e] at hd
      by_cases e2 : j = i
      · subst e2; rw [updH_same] at hd; exact .inr (.inl ⟨rfl, hd⟩)
      · rw [updH_ne _ _ e2] at hd; exact .inr (.inr ⟨e2, e, hd⟩)
  refine ⟨?_, fun j => ?_, fun j l hjl d hd x hx hor => ?_, c.chan, fun r hr => ⟨(c.chanB r hr).1, fun j d hd => ?_⟩, c.ti.spawn (Nat.le_refl _) hne k1.key k2.key _ _ _, c.far, fun op hop => ?_, fun j hj => ?_, fun j x hj => ?_⟩
  · rw [runT_crowd_spawn hi hst]; rfl
  · by_cases e : j = gs.size
    · subst e; rw [updH_same]; exact k2.sat _ (c.sat i)
    · rw [updH_ne _ _ e]; by_cases e2 : j = i
      · subst e2; rw [updH_same]; exact k1.sat _ (c.sat j)
      · rw [updH_ne _ _ e2]; exact c.sat j
  · have old : ∀ (l : Nat), l ≠ i → ∀ (y z : Chunk), y ∈ Hl l → (z ∈ hc ∨ z ∈ hg) → (y.rw = true ∨ z.rw = true) → y.b ≠ z.b := fun l hl y z hy hz ho => by
      rcases hz with hz | hz
      · obtain ⟨z', hz', e, r⟩ := k2.key z hz
        rw [← e]; exact c.apart l i hl y hy z' hz' (ho.imp id r)
      · obtain ⟨z', hz', e, r⟩ := k1.key z hz
        rw [← e]; exact c.apart l i hl y hy z' hz' (ho.imp id r)
    rcases key j d hd with ⟨e1, m1⟩ | ⟨e1, m1⟩ | ⟨e1, e1', m1⟩ <;> rcases key l x hx with ⟨e2, m2⟩ | ⟨e2, m2⟩ | ⟨e2, e2', m2⟩
    · exact absurd (e1.trans e2.symm) hjl
    · exact ap.symm d m1 x m2 hor
    · exact fun e => old l e2 x d m2 (.inl m1) hor.symm e.symm
    · exact ap d m1 x m2 hor
    · exact absurd (e1.trans e2.symm) hjl
    · exact fun e => old l e2 x d m2 (.inr m1) hor.symm e.symm
    · exact old j e1 d x m1 (.inl m2) hor
    · exact old j e1 d x m1 (.inr m2) hor
    · exact c.apart j l hjl d m1 x m2 hor
  · rcases key j d hd with ⟨_, m⟩ | ⟨_, m⟩ | ⟨_, _, m⟩
    · obtain ⟨x, hx, e, _⟩ := k2.key d m; rw [← e]; exact (c.chanB r hr).2 i x hx
    · obtain ⟨x, hx, e, _⟩ := k1.key d m; rw [← e]; exact (c.chanB r hr).2 i x hx
    · exact (c.chanB r hr).2 j d m
  · simp only [Array.size_push, Array.size_setIfInBounds]
    rcases Array.mem_append.1 hop with h | h
    · have := c.gsz op h; omega
    · simp only [List.mem_toArray, List.mem_cons, List.not_mem_nil, or_false] at h
      rcases h with rfl | rfl
      · simp only; omega
      · simp only; omega
  · simp only [Array.size_push, Array.size_setIfInBounds] at hj
    rw [updH_ne _ _ (by omega), updH_ne _ _ (by omega)]; exact c.out j (by omega)
  · rw [Array.getElem?_push] at hj
    split at hj
    · exact (Option.some.inj hj) ▸ qc
    · exact quiet_set c.quiet q j x hj
theorem Core.meet (c : Core B W C Left gs w t Hl) {i j : Nat} {x y : Goroutine} {hr hp : Hp} {Left' : Nat → Prop} {r k d : Nat} {tm : Bool} (hij : i ≠ j) (hi : i < gs.size) (hj : j < gs.size) (hr' : r ∈ C) (hc : w.heap[r]? = some (.chan 0 #[] false k k tm))
    (e : Hl i = hr ++ hp) (qx : Quiet C x) (qy : Quiet C y) (hL : ∀ l, Left' l → Left l ∨ (l = i ∧ j = 0)) (fh : FuncId) (ph : String) (fj : FuncId) (pj : String) (gs' : Array Goroutine) (hgs : gs'.size = gs.size)
    (hq : ∀ (l : Nat) (z : Goroutine), gs'[l]? = some z → Quiet C z) :
    Core B W C Left' gs' ((w.at d).setChan r 0 #[] false (k + 1) (k + 1) tm) (t ++ met i j fh ph fj pj r k 0) (updH (updH Hl i hr) j (Hl j ++ hp)) := by
  have hlt : r < w.heap.size := (Array.getElem?_eq_some_iff.1 hc).1
  have hsz : ((w.at d).setChan r 0 #[] false (k + 1) (k + 1) tm).heap.size = w.heap.size := by simp [World.setChan, World.at]
  have hget : ∀ b, b ≠ r → ((w.at d).setChan r 0 #[] false (k + 1) (k + 1) tm).heap[b]? = w.heap[b]? := fun b hb => by
    simp only [World.setChan, World.at]
    rw [Array.getElem?_setIfInBounds_ne (fun e => hb e.symm)]
  have keyp : ∀ x' ∈ hp, ∃ z ∈ Hl i, z.b = x'.b ∧ (x'.rw = true → z.rw = true) := fun x' hx' => ⟨x', by rw [e]; exact List.mem_append_right _ hx', rfl, id⟩
  have keyr : ∀ x' ∈ hr, ∃ z ∈ Hl i, z.b = x'.b ∧ (x'.rw = true → z.rw = true) := fun x' hx' => ⟨x', by rw [e]; exact List.mem_append_left _ hx', rfl, id⟩
  have key : ∀ l, ∀ z ∈ updH (updH Hl i hr) j (Hl j ++ hp) l, (l = j ∧ z ∈ Hl j) ∨ (l = j ∧ z ∈ hp) ∨ (l = i ∧ z ∈ hr) ∨ (l ≠ i ∧ l ≠ j ∧ z ∈ Hl l) := fun l z hz => by
    by_cases e1 : l = j
    · subst e1
      rw [updH_same] at hz
      rcases List.mem_append.1 hz with h | h
      · exact .inl ⟨rfl, h⟩
      · exact .inr (.inl ⟨rfl, h⟩)
    · rw [updH_ne _ _ e1] at hz
      by_cases e2 : l = i
      · subst e2; rw [updH_same] at hz; exact .inr (.inr (.inl ⟨rfl, hz⟩))
      · rw [updH_ne _ _ e2] at hz; exact .inr (.inr (.inr ⟨e2, e1, hz⟩))
  have mi : ∀ z, z ∈ hp ∨ z ∈ hr → z ∈ Hl i := fun z hz => by rw [e]; exact List.mem_append.2 hz.symm
  have apri : hr.Pairwise (fun c d => (c.rw = true ∨ d.rw = true) → c.b ≠ d.b) ∧ hp.Pairwise (fun c d => (c.rw = true ∨ d.rw = true) → c.b ≠ d.b) ∧ ApH hr hp := by
    have := (c.sat i).apart
    rw [e, List.pairwise_append] at this
    exact ⟨this.1, this.2.1, this.2.2⟩
  have oldc : ∀ l, ∀ z ∈ Hl l, ((w.at d).setChan r 0 #[] false (k + 1) (k + 1) tm).heap[z.b]? = some z.o := fun l z hz => by
    rw [hget _ ((c.chanB r hr').2 l z hz)]; exact ((c.sat l).mem z hz).2
  refine ⟨fun l => ⟨fun b o hb => ?_, fun z hz => ?_, ?_⟩, fun l l' hl z hz z' hz' hor => ?_, fun r' hr2 => ?_, fun r' hr2 => ⟨(c.chanB r' hr2).1, fun l z hz => ?_⟩, ?_, c.far, fun op hop => ?_, fun l hl => ?_, hq⟩
  · have := (c.sat l).base b o hb
    have hbB := (Array.getElem?_eq_some_iff.1 hb).1
    have := (c.chanB r hr').1
    rw [hget b (by omega)]; exact (c.sat l).base b o hb
  · rcases key l z hz with ⟨_, m⟩ | ⟨_, m⟩ | ⟨_, m⟩ | ⟨_, _, m⟩
    · exact ⟨((c.sat j).mem z m).1, oldc j z m⟩
    · exact ⟨((c.sat i).mem z (mi z (.inl m))).1, oldc i z (mi z (.inl m))⟩
    · exact ⟨((c.sat i).mem z (mi z (.inr m))).1, oldc i z (mi z (.inr m))⟩
    · exact ⟨((c.sat l).mem z m).1, oldc l z m⟩
  · by_cases e1 : l = j
    · subst e1
      rw [updH_same, List.pairwise_append]; exact ⟨(c.sat l).apart, apri.2.1, fun z hz z' hz' => c.apart l i (fun e => hij e.symm) z hz z' (mi z' (.inl hz'))⟩
    · rw [updH_ne _ _ e1]; by_cases e2 : l = i
      · subst e2; rw [updH_same]; exact apri.1
      · rw [updH_ne _ _ e2]; exact (c.sat l).apart
  · -- who held it before
    have who : ∀ l, ∀ z ∈ updH (updH Hl i hr) j (Hl j ++ hp) l, (z ∈ Hl l ∧ ¬ (l = i ∧ z ∈ hp ∧ z ∉ hr)) ∨ (l = j ∧ z ∈ hp) := fun l z hz => by
      rcases key l z hz with ⟨rfl, m⟩ | h | ⟨rfl, m⟩ | ⟨h1, h2, m⟩
      · exact .inl ⟨m, fun h => hij h.1.symm⟩
      · exact .inr h
      · exact .inl ⟨mi z (.inr m), fun h => h.2.2 m⟩
      · exact .inl ⟨m, fun h => h1 h.1⟩
    rcases key l z hz with ⟨e1, m1⟩ | ⟨e1, m1⟩ | ⟨e1, m1⟩ | ⟨e1, e1', m1⟩ <;> rcases key l' z' hz' with ⟨e2, m2⟩ | ⟨e2, m2⟩ | ⟨e2, m2⟩ | ⟨e2, e2', m2⟩
    · exact absurd (e1.trans e2.symm) hl
    · exact absurd (e1.trans e2.symm) hl
    · exact c.apart j i (fun e => hij e.symm) z m1 z' (mi z' (.inr m2)) hor
    · exact c.apart j l' (fun e => e2' e.symm) z m1 z' m2 hor
    · exact absurd (e1.trans e2.symm) hl
    · exact absurd (e1.trans e2.symm) hl
    · exact apri.2.2.symm z m1 z' m2 hor
    · exact c.apart i l' (fun e => e2 e.symm) z (mi z (.inl m1)) z' m2 hor
    · exact c.apart i j hij z (mi z (.inr m1)) z' m2 hor
    · exact apri.2.2 z m1 z' m2 hor
    · exact absurd (e1.trans e2.symm) hl
    · exact c.apart i l' (fun e => e2 e.symm) z (mi z (.inr m1)) z' m2 hor
    · exact c.apart l j e1' z m1 z' m2 hor
    · exact c.apart l i e1 z m1 z' (mi z' (.inl m2)) hor
    · exact c.apart l i e1 z m1 z' (mi z' (.inr m2)) hor
    · exact c.apart l l' hl z m1 z' m2 hor
  · by_cases e1 : r' = r
    · subst e1
      exact ⟨k + 1, tm, by simp only [World.setChan, World.at]; exact Array.getElem?_setIfInBounds_self_of_lt hlt⟩
    · obtain ⟨k', tm', e'⟩ := c.chan r' hr2
      exact ⟨k', tm', by rw [hget r' e1]; exact e'⟩
  · rcases key l z hz with ⟨_, m⟩ | ⟨_, m⟩ | ⟨_, m⟩ | ⟨_, _, m⟩
    · exact (c.chanB r' hr2).2 j z m
    · exact (c.chanB r' hr2).2 i z (mi z (.inl m))
    · exact (c.chanB r' hr2).2 i z (mi z (.inr m))
    · exact (c.chanB r' hr2).2 l z m
  · exact c.ti.meet (by rw [hsz]; exact Nat.le_refl _) hij keyr keyp hL _ _ _ _ _ _ _
  · rw [hgs]; rcases Array.mem_append.1 hop with h | h
    · exact c.gsz op h
    · simp only [met, List.mem_toArray, List.mem_cons, List.not_mem_nil, or_false] at h
      rcases h with rfl | rfl | rfl | rfl <;> assumption
  · rw [hgs] at hl
    rw [updH_ne _ _ (by omega), updH_ne _ _ (by omega)]; exact c.out l hl
end
end Go.Lo
