/- A part of the proof of a law: my own separation logic over the machine, and walks of the program. Condition of each theorem: as its statement says. -/
import Derived.Test.YtlbkicemccikgaaGreatDoorWLSpliced6
import Derived.Conc.TokenTrace
import Derived.Conc.CrowdSel
import Derived.Conc.QuitsD
import Derived.Conc.Pipeline3
set_option linter.all false
namespace Go.Proofs
open Go.Lo
open Go.Conc (G)
set_option maxRecDepth 100000
set_option synthInstance.maxSize 100000
set_option synthInstance.maxHeartbeats 1000000
set_option maxHeartbeats 4000000
variable {B : Array Obj}
variable [Laid B]
instance : KeyT Tryz.prog 147 := ⟨by kernel_rfl⟩
def askP (ll : List (List Int)) : Nat → Int × Int
  | 0 => (-1, ll.length)
  | s + 1 => if leftOf ll s < (askP ll s).2 then (s, leftOf ll s) else askP ll s
def cS (ll : List (List Int)) (nm k j : Nat) (s x : Int) : Int := if 0 ≤ s ∧ s < nm then (if s < j then (countAt (ll.take (k + 1)) s.toNat x : Int) else (countAt (ll.take k) s.toNat x : Int)) else 0
theorem cS_nonneg (ll : List (List Int)) (nm k j : Nat) (s x : Int) : 0 ≤ cS ll nm k j s x := by unfold cS; split; split <;> omega; omega
theorem countAt_le (ll : List (List Int)) (s : Nat) (x : Int) : countAt ll s x ≤ ll.length := List.length_filter_le _ _
theorem cS_le (ll : List (List Int)) (nm k j : Nat) (s x : Int) : cS ll nm k j s x ≤ ll.length := by
  have h1 := countAt_le (ll.take (k + 1)) s.toNat x
  have h2 := countAt_le (ll.take k) s.toNat x
  have h3 := List.length_take_le (k + 1) ll
  have h4 := List.length_take_le' (k + 1) ll
  have h5 := List.length_take_le' k ll
  unfold cS; split; split <;> omega; omega
structure MI (ll : List (List Int)) (nm k j : Nat) (es : List (Int × Int × Int)) : Prop where
  keys : Keys es
  cnt : ∀ s x, cntE es s x = cS ll nm k j s x
  ok : ∀ e ∈ es, 0 ≤ e.1 ∧ e.1 < nm ∧ 1 ≤ e.2.2
theorem MI.zero (ll : List (List Int)) (nm : Nat) : MI ll nm 0 0 [] := ⟨List.Pairwise.nil, fun s x => by
  show (0 : Int) = _
  unfold cS; split
  · rw [if_neg (by omega)]; rfl
  · rfl, by simp⟩
theorem MI.step {ll : List (List Int)} {nm k j : Nat} {es : List (Int × Int × Int)} (m : MI ll nm k j es) (hj : j < nm) (hk : k < ll.length) {x : Int} (hx : (ll.getD k []).getD j 0 = x) : MI ll nm k (j + 1) (bumpE es j x (cntE es j x + 1)) := by
  refine ⟨m.keys.bump _ _ _, fun s y => ?_, fun e he => ?_⟩
  · rw [cntE_bump, m.cnt, m.cnt]; by_cases e : s = j ∧ y = x
    · obtain ⟨rfl, rfl⟩ := e
      have a1 : cS ll nm k j j y = countAt (ll.take k) j y := by rw [cS, if_pos (by omega), if_neg (by omega), Int.toNat_natCast]
      have a2 : cS ll nm k (j + 1) j y = countAt (ll.take (k + 1)) j y := by rw [cS, if_pos (by omega), if_pos (by omega), Int.toNat_natCast]
      rw [if_pos ⟨rfl, rfl⟩, a1, a2, countAt_yes ll j y k hk hx]; rfl
    · rw [if_neg e]; unfold cS
      by_cases h1 : 0 ≤ s ∧ s < nm
      · rw [if_pos h1, if_pos h1]; by_cases h2 : s = j
        · subst h2
          rw [if_neg (by omega), if_pos (by omega), Int.toNat_natCast, countAt_no ll j y k hk (fun h => e ⟨rfl, h.symm.trans hx⟩)]
        · by_cases h3 : s < j
          · rw [if_pos h3, if_pos (by omega)]
          · rw [if_neg h3, if_neg (by omega)]
      · rw [if_neg h1, if_neg h1]
  · rcases bump_mem he with he | rfl
    · exact m.ok e he
    · refine ⟨by simp, by simp; omega, ?_⟩
      have := cS_nonneg ll nm k j j x
      rw [← m.cnt] at this
      show 1 ≤ cntE es j x + 1
      omega
theorem MI.roll {ll : List (List Int)} {nm k : Nat} {es : List (Int × Int × Int)} (m : MI ll nm k nm es) : MI ll nm (k + 1) 0 es := ⟨m.keys, fun s x => by
  rw [m.cnt]; unfold cS
  by_cases h1 : 0 ≤ s ∧ s < nm
  · rw [if_pos h1, if_pos h1, if_pos (by omega), if_neg (by omega)]
  · rw [if_neg h1, if_neg h1], m.ok⟩
def WI (es : List (Int × Int × Int)) (sn : List Nat) (s : Nat) (v : Int) : Prop :=
  0 ≤ v ∧ (∀ p ∈ sn, (es.getD p default).1 = s → (es.getD p default).2.2 ≤ v) ∧ (v = 0 ∨ ∃ p ∈ sn, p < es.length ∧ (es.getD p default).1 = s ∧ (es.getD p default).2.2 = v)
theorem WI.nil (es : List (Int × Int × Int)) (s : Nat) : WI es [] s 0 := ⟨by omega, by simp, .inl rfl⟩
theorem WI.other {es : List (Int × Int × Int)} {sn : List Nat} {s : Nat} {v : Int} {p : Nat} (w : WI es sn s v) (h : (es.getD p default).1 ≠ s) : WI es (sn ++ [p]) s v := ⟨w.1, fun q hq e => by
  rcases List.mem_append.1 hq with hq | hq
  · exact w.2.1 q hq e
  · rw [List.mem_singleton] at hq; subst hq; exact absurd e h, w.2.2.imp id fun ⟨q, hq, x⟩ => ⟨q, List.mem_append_left _ hq, x⟩⟩
theorem WI.this {es : List (Int × Int × Int)} {sn : List Nat} {s : Nat} {v : Int} {p : Nat} (w : WI es sn s v) (hp : p < es.length) (h : (es.getD p default).1 = s) : WI es (sn ++ [p]) s (max v (es.getD p default).2.2) := ⟨by have := w.1; omega, fun q hq e => by
  rcases List.mem_append.1 hq with hq | hq
  · have := w.2.1 q hq e; omega
  · rw [List.mem_singleton] at hq; subst hq; omega, by
  by_cases e : v ≤ (es.getD p default).2.2
  · exact .inr ⟨p, by simp, hp, h, by omega⟩
  · rcases w.2.2 with h0 | ⟨q, hq, h1, h2, h3⟩
    · exact .inl (by omega)
    · exact .inr ⟨q, List.mem_append_left _ hq, h1, h2, by omega⟩⟩
theorem mostL_spec (l : List Int) : (∀ x ∈ l, x ≤ mostL l) ∧ (mostL l = 0 ∨ mostL l ∈ l) := by
  have gen : ∀ (r : List Int) (a : Int), (a ≤ r.foldl max a) ∧ (∀ x ∈ r, x ≤ r.foldl max a) ∧ (r.foldl max a = a ∨ r.foldl max a ∈ r) := by
    intro r
    induction r with
    | nil => exact fun a => ⟨Int.le_refl _, by simp, .inl rfl⟩
    | cons y r ih =>
      intro a
      obtain ⟨h1, h2, h3⟩ := ih (max a y)
      rw [List.foldl_cons]; refine ⟨by omega, fun x hx => ?_, ?_⟩
      · rcases List.mem_cons.1 hx with rfl | hx
        · omega
        · exact h2 x hx
      · rcases h3 with h3 | h3
        · rcases (by omega : max a y = a ∨ max a y = y) with e | e
          · exact .inl (h3.trans e)
          · exact .inr (by rw [h3, e]; exact List.mem_cons_self)
        · exact .inr (List.mem_cons_of_mem _ h3)
  exact ⟨(gen l 0).2.1, (gen l 0).2.2⟩
theorem WI.left {ll : List (List Int)} {nm : Nat} {es : List (Int × Int × Int)} (m : MI ll nm ll.length 0 es) {sn : List Nat} (hall : ∀ p, p < es.length → p ∈ sn) {s : Nat} (hs : s < nm) {v : Int} (w : WI es sn s v) : v = leftOf ll s := by
  have hcnt : ∀ x, cntE es s x = countAt ll s x := fun x => by
    rw [m.cnt, cS, if_pos (by omega), if_neg (by omega), Int.toNat_natCast, List.take_length]
  obtain ⟨g1, g2⟩ := mostL_spec (lefts ll s)
  have g0 := mostL_nonneg (lefts ll s)
  apply Int.le_antisymm
  · rcases w.2.2 with h0 | ⟨p, _, hp, h1, h2⟩
    · rw [h0]; exact g0
    · have hmem : es.getD p default ∈ es := mem_getDR.2 ⟨p, hp, rfl⟩
      have hc := cntE_mem m.keys hmem
      rw [h1, h2, hcnt] at hc
      have hpos := (m.ok _ hmem).2.2
      rw [h2] at hpos
      have : 0 < countAt ll s (es.getD p default).2.1 := by omega
      obtain ⟨l, hl⟩ := List.exists_mem_of_length_pos this
      obtain ⟨hl1, hl2⟩ := List.mem_filter.1 hl
      have hl2 := of_decide_eq_true hl2
      rw [← hc, ← hl2]; exact g1 _ (List.mem_map.2 ⟨l, hl1, rfl⟩)
  · rcases g2 with h0 | h0
    · show mostL (lefts ll s) ≤ v
      rw [h0]; exact w.1
    · show mostL (lefts ll s) ≤ v
      obtain ⟨l, hl, e⟩ := List.mem_map.1 h0
      have hpos : 0 < countAt ll s (l.getD s 0) := List.length_pos_of_mem (List.mem_filter.2 ⟨hl, decide_eq_true rfl⟩)
      have hne : cntE es s (l.getD s 0) ≠ 0 := by rw [hcnt]; omega
      obtain ⟨p, hp, hg⟩ := cntE_pos hne
      have := w.2.1 p (hall p hp) (by rw [hg])
      rw [hg] at this
      rw [← e, ← hcnt]; exact this
theorem nodup_le {sn : List Nat} {n : Nat} (h : sn.Nodup) (hl : ∀ p ∈ sn, p < n) : sn.length ≤ n := by
  have := List.Nodup.length_le_of_subset h (l₂ := List.range n) fun x hx => List.mem_range.2 (hl x hx)
  simpa using this
def askAt (b : Bk) : Int := if openS b 0 ≠ 0 then 0 else (askP (boatsOf b) b.marks.length).1
def askLeft (b : Bk) : Int := if openS b 0 ≠ 0 then 0 else (askP (boatsOf b) b.marks.length).2
theorem f71_c (m : Md Tryz.prog B) (h : Hp) {b : Bk} {pm : Option Addr} {nm cm : Nat} {pr : Option Addr} {nr cr : Nat} (rdm : RdS B h 2 (.slice pm nm cm) nm (encs b.marks)) (hm : nm ≤ 1000) (rdr : RdS B h 4 (.slice pr nr cr) nr (encs b.rules)) (hr : nr ≤ 1000) : FnC m 71 #[bkV b pm nm cm pr nr cr] h fun v h' => h' = h ∧ v = .tuple [.int .i64 (askAt b), .int .i64 (askLeft b), .int .i64 (openS b 0)].toArray := by
  refine fn_enter Tryz.func71 rfl rfl (l := (bkV b pm nm cm pr nr cr) :: uu88) rfl ?_
  intro cf cs K hK
  refine rs4 (by kernel_rfl) ?_; refine k_box rfl zq (fun q1 => k_hp (k_put ?_)); refine k_as rfl zq ?_; refine k_as rfl zq ?_; refine aq rfl ?_; refine rs8 (by kernel_rfl) ?_; refine k_ldA rfl zq ?_; refine k_calC rfl zq (by kernel_rfl) (Post := fun v nw => Opened b (bkV b pm nm cm pr nr cr) (openS b (0)) nw v) (fun H' hH => f107_c m H' (rdm.keeps (sq hH)) hm (rdr.keeps (sq hH)) hr callB120 (fun hbz K hK => by simpa using f120_c m K)) ?_; rintro v nw ⟨x1, x2, x3, y1, y2, y3, y4, y5, y6, z1, z2, z3, rfl, hz⟩; refine k_hpA (k_put ?_); refine mq rfl ?_; refine k_ext0 rfl zq ?_; refine k_ext1 rfl zq ?_; refine k_new rfl zq (fun q5 => k_hp (k_put ?_)); refine k_stA rfl zq rfl ?_; refine aq rfl ?_; refine run_seq ?_; refine rs2 (by kernel_rfl) ?_; refine mq rfl ?_; refine k_neqS rfl zq (fun hc => ?_) (fun hc => ?_)
  · refine k_nil ?_; refine run_yes ?_; refine rs4 (by kernel_rfl) ?_; refine mq rfl ?_; refine k_as rfl zq ?_; refine k_as rfl zq ?_; refine aq rfl ?_; refine run_ret rfl ?_; refine run_res (h) rfl Tryz.func71 rfl weakSub ?_; refine hK _ _ ?_
    exact ⟨rfl, by rw [askAt, askLeft, if_pos (by assumption), if_pos (by assumption)]⟩
  · have hz0 : openS b 0 = 0 := by first | assumption | omega
    obtain ⟨hz1, rfl, hzc, rdB⟩ := hz hz0
    obtain ⟨rfl, rfl, rfl, rfl, rfl, rfl, rfl, rfl, rfl⟩ := bookV_inj hz1
    obtain ⟨hbz, hoz, hbne⟩ := openS_zero hz0
    have hv := valid_of hbz
    have h7 := hv.many
    have hml := rdm.elen (by decide)
    have hbl := boats_le hv
    have hpos : 0 < (boatsOf b).length := List.length_pos_iff.2 hbne
    obtain ⟨zb, zo, rfl⟩ := RdS.ptr (B := B) rdB hpos
    refine k_nil ?_; refine run_no ?_; refine run_skip ?_; refine rs2 (by kernel_rfl) ?_; refine k_mkmap rfl zq (fun qm => k_hp (k_put ?_)); refine aq rfl ?_; refine run_seq ?_; refine rs4 (by kernel_rfl) ?_; first | refine k_fa0 rfl zq ?_ | refine k_fa rfl zq ?_
    refine k_ldh rfl zq ?_; refine k_len rfl zq ?_; refine mq rfl ?_; refine k_nil ?_; refine run_block ?_; refine m.weak (h' := h ++ nw ++ [⟨true, q5, .cells [.int .i64 b.bend, .int .i64 b.twist, .int .i64 b.turns, .slice pm nm cm, .slice pr nr cr, .slice (some ⟨zb, zo, none⟩) (boatsOf b).length z3].toArray 123 (0, 0)⟩, ⟨true, qm, mapO []⟩]) weakSub ?_
    refine run_loop (fun nn l h' => ∃ (k : Nat) (es : List (Int × Int × Int)), nn = (boatsOf b).length - k ∧ (k ≤ (boatsOf b).length) ∧ (MI (boatsOf b) nm k 0 es) ∧ (∃ U : Nat → Value, l = [bkV b pm nm cm pr nr cr, U 1, U 2, U 3, U 4, .pointer (some ⟨q5, 0, none⟩), .map (some qm), U 7, U 8, U 9, U 10, U 11, U 12, U 13, U 14, U 15, U 16, U 17, U 18, U 19, U 20, U 21, U 22, U 23, U 24, .slice (some ⟨zb, zo, none⟩) (boatsOf b).length z3, .int .i64 ((boatsOf b).length : Int), .int .i64 (k : Int), U 28, U 29, U 30, U 31, U 32, U 33, U 34, U 35, U 36, U 37, U 38, U 39, U 40, U 41, U 42, U 43, U 44, U 45, U 46, U 47, U 48, U 49, U 50, U 51, U 52, U 53, U 54, U 55, U 56, U 57, U 58, U 59, U 60, U 61, U 62, U 63, U 64, U 65, U 66, U 67, U 68, U 69, U 70, U 71, U 72, U 73, U 74, U 75, U 76, U 77, U 78, U 79, U 80, U 81, U 82, U 83, U 84, U 85, U 86, U 87, U 88]) ∧ h ++ nw ++ [⟨true, q5, .cells [.int .i64 b.bend, .int .i64 b.twist, .int .i64 b.turns, .slice pm nm cm, .slice pr nr cr, .slice (some ⟨zb, zo, none⟩) (boatsOf b).length z3].toArray 123 (0, 0)⟩, ⟨true, qm, mapO es⟩] = h') _ ⟨0, [], rfl, by omega, MI.zero _ _, exU rfl, rfl⟩ ?_; rintro nn l h' ⟨k, es, rfl, hk, hmi, ⟨U, rfl⟩, rfl⟩ hnext1; refine rs1 (by kernel_rfl) ?_; refine k_lssS rfl zq (fun hc => ?_) (fun hc => ?_)
    · refine k_nil ?_; refine run_seq ?_; refine run_yes ?_; refine run_skip ?_; refine run_seq ?_; refine run_block ?_; refine rs4 (by kernel_rfl) ?_; refine k_ixs rfl zq (by first | rfl | assumption) (by omega) (by omega) ?_; refine k_ldN (vs := hts ((boatsOf b).getD k default)) rfl zq (hts_length _) (rdB.eat k (by omega) (by omega)) ?_; have hbm : (boatsOf b).getD k default ∈ boatsOf b := mem_getDR.2 ⟨k, by omega, rfl⟩
      have hbln := boats_len hbm
      have hbs := boats_small hv hbm
      generalize hrow : (boatsOf b).getD k default = ln at hbm hbln hbs ⊢
      refine k_new rfl zq (fun q8 => k_hp (k_put ?_)); refine k_stA rfl zq (by first | rfl | exact hts_length _) ?_; refine k_nil ?_; refine rs4 (by kernel_rfl) ?_; first | refine k_fa0 rfl zq ?_ | refine k_fa rfl zq ?_
      refine k_ldA rfl zq ?_; refine k_calP (Post := fun v => v = _) rfl zq (by kernel_rfl) (fun H' hH => f118_c m H' _ _ _ _ _ _ _ _ _) ?_; rintro v rfl; refine k_put ?_; refine mq rfl ?_; refine k_nil ?_; refine run_block ?_; refine run_loop (fun nn l h' => ∃ (j : Nat) (es : List (Int × Int × Int)), nn = nm - j ∧ (j ≤ nm) ∧ (MI (boatsOf b) nm k j es) ∧ (∃ U : Nat → Value, l = [bkV b pm nm cm pr nr cr, U 1, U 2, U 3, U 4, .pointer (some ⟨q5, 0, none⟩), .map (some qm), U 7, .pointer (some ⟨q8, 0, none⟩), U 9, U 10, U 11, U 12, U 13, U 14, U 15, U 16, U 17, U 18, U 19, U 20, U 21, U 22, U 23, U 24, .slice (some ⟨zb, zo, none⟩) (boatsOf b).length z3, .int .i64 ((boatsOf b).length : Int), .int .i64 (k : Int), U 28, U 29, U 30, U 31, U 32, .int .i64 (nm : Int), .int .i64 (j : Int), U 35, U 36, U 37, U 38, U 39, U 40, U 41, U 42, U 43, U 44, U 45, U 46, U 47, U 48, U 49, U 50, U 51, U 52, U 53, U 54, U 55, U 56, U 57, U 58, U 59, U 60, U 61, U 62, U 63, U 64, U 65, U 66, U 67, U 68, U 69, U 70, U 71, U 72, U 73, U 74, U 75, U 76, U 77, U 78, U 79, U 80, U 81, U 82, U 83, U 84, U 85, U 86, U 87, U 88]) ∧ h ++ nw ++ [⟨true, q5, .cells [.int .i64 b.bend, .int .i64 b.twist, .int .i64 b.turns, .slice pm nm cm, .slice pr nr cr, .slice (some ⟨zb, zo, none⟩) (boatsOf b).length z3].toArray 123 (0, 0)⟩, ⟨true, qm, mapO es⟩, ⟨true, q8, .cells (hts ln).toArray 112 (0, 0)⟩] = h') _ ⟨0, _, rfl, by omega, hmi, exU rfl, rfl⟩ ?_; rintro nn l h' ⟨j, es, rfl, hj, hmi2, ⟨U, rfl⟩, rfl⟩ hnext2; refine rs1 (by kernel_rfl) ?_; refine k_lssS rfl zq (fun hc => ?_) (fun hc => ?_)
      · refine k_nil ?_; refine run_seq ?_; refine run_yes ?_; refine run_skip ?_; refine run_seq ?_; refine run_block ?_; refine rs2 (by kernel_rfl) ?_; have hcn := hmi2.cnt j (ln.getD j 0)
        have hcl := cS_le (boatsOf b) nm k j j (ln.getD j 0)
        have hcg := cS_nonneg (boatsOf b) nm k j j (ln.getD j 0)
        refine mq rfl ?_; refine aq rfl ?_; refine run_drawT [0, 1, 2, 3, 4, 5, 6, 7, 8, 9, 10] (by kernel_rfl) (by kernel_rfl) (List.Sublist.refl _) ?_; refine DrawT.split 6 8 (by decide) ?_ ?_
        · refine DrawT.leaf [(0, .pure), (1, .pure), (2, .pure), (3, .pure), (4, .read), (5, .pure), (6, .read), (7, .pure), (8, .free), (9, .pure), (10, .free)] (by kernel_rfl) ?_
          refine mq rfl ?_; refine mq rfl ?_; refine mq rfl ?_; refine k_ixa rfl zq (by omega) (by omega) ?_; refine k_ld rfl zq (rd_hts (q := q8) j (by omega) (by omega)) ?_; refine k_bld rfl zq ?_; refine k_lookup (k := 147) (e := 3) (by kernel_rfl) rfl zq ?_; refine k_add rfl zq (by unfold In64; omega) ?_; refine k_mapEntry (k := 147) (e := 3) (by kernel_rfl) rfl zq (k_put ?_); refine k_ext1 rfl zq ?_; refine k_entryStore (p := posE es j (ln.getD j 0)) rfl zq (have_get es j (ln.getD j 0)) ?_; rw [bump_eq]; refine k_nil ?_; refine run_inBlock ?_; refine rr2 (by kernel_rfl) ?_; refine k_add rfl zq (by unfold In64; omega) ?_; refine mq rfl ?_; refine k_nil ?_; exact m.weak weakSub (hnext2 _ _ _ (by omega) ⟨j + 1, bumpE es j (ln.getD j 0) (cntE es j (ln.getD j 0) + 1), rfl, by omega, by exact hmi2.step (by omega) (by omega) (by rw [show (boatsOf b).getD k [] = ln from hrow]), exU rfl, rfl⟩)
        · refine DrawT.leaf [(0, .pure), (1, .pure), (2, .pure), (3, .pure), (4, .read), (5, .pure), (8, .free), (9, .pure), (6, .free), (7, .pure), (10, .free)] (by kernel_rfl) ?_
          refine mq rfl ?_; refine mq rfl ?_; refine mq rfl ?_; refine k_ixa rfl zq (by omega) (by omega) ?_; refine k_ld rfl zq (rd_hts (q := q8) j (by omega) (by omega)) ?_; refine k_bld rfl zq ?_; refine k_mapEntry (k := 147) (e := 3) (by kernel_rfl) rfl zq (k_put ?_); refine k_ext1 rfl zq ?_; refine k_lookup (k := 147) (e := 3) (by kernel_rfl) rfl zq ?_; rw [cntE_have]; refine k_add rfl zq (by unfold In64; omega) ?_; refine k_entryStore (p := posE es j (ln.getD j 0)) rfl zq (have_get es j (ln.getD j 0)) ?_; rw [bump_eq]; refine k_nil ?_; refine run_inBlock ?_; refine rr2 (by kernel_rfl) ?_; refine k_add rfl zq (by unfold In64; omega) ?_; refine mq rfl ?_; refine k_nil ?_; exact m.weak weakSub (hnext2 _ _ _ (by omega) ⟨j + 1, bumpE es j (ln.getD j 0) (cntE es j (ln.getD j 0) + 1), rfl, by omega, by exact hmi2.step (by omega) (by omega) (by rw [show (boatsOf b).getD k [] = ln from hrow]), exU rfl, rfl⟩)
      · refine k_nil ?_; refine run_seq ?_; refine run_no ?_; refine run_exit rfl ?_; refine run_inBlock ?_; refine rr2 (by kernel_rfl) ?_; obtain rfl : j = nm := by omega
        refine k_add rfl zq (by unfold In64; omega) ?_; refine mq rfl ?_; refine k_nil ?_; exact m.weak weakSub (hnext1 _ _ _ (by omega) ⟨k + 1, _, rfl, by omega, hmi2.roll, exU rfl, rfl⟩)
    · refine k_nil ?_; refine run_seq ?_; refine run_no ?_; refine run_exit rfl ?_; refine rs5 (by kernel_rfl) ?_; obtain rfl : k = (boatsOf b).length := by omega
      first | refine k_fa0 rfl zq ?_ | refine k_fa rfl zq ?_
      refine k_ldA rfl zq ?_; refine k_calP (Post := fun v => v = _) rfl zq (by kernel_rfl) (fun H' hH => f118_c m H' _ _ _ _ _ _ _ _ _) ?_; rintro v rfl; refine k_put ?_; refine k_mks rfl zq (by omega) (by omega) (by decide) (fun q10 => k_hp (k_put ?_)); refine aq rfl ?_; refine run_seq ?_; refine rs2 (by kernel_rfl) ?_; refine mq rfl ?_; refine k_range (k := 147) (e := 3) (by kernel_rfl) rfl zq (fun q54 => k_hp (k_put ?_)); refine k_nil ?_; refine run_block ?_; refine run_loop (fun nn l h' => ∃ (sn : List Nat) (ws : List Int), nn = es.length - sn.length ∧ (sn.Nodup) ∧ (∀ p ∈ sn, p < es.length) ∧ (ws.length = nm) ∧ (∀ s, s < nm → WI es sn s (ws.getD s 0)) ∧ (∃ U : Nat → Value, l = [bkV b pm nm cm pr nr cr, U 1, U 2, U 3, U 4, .pointer (some ⟨q5, 0, none⟩), U 6, U 7, U 8, U 9, .slice (some ⟨q10, 0, none⟩) nm nm, U 11, U 12, U 13, U 14, U 15, U 16, U 17, U 18, U 19, U 20, U 21, U 22, U 23, U 24, U 25, U 26, U 27, U 28, U 29, U 30, U 31, U 32, U 33, U 34, U 35, U 36, U 37, U 38, U 39, U 40, U 41, U 42, U 43, U 44, U 45, U 46, U 47, U 48, U 49, U 50, U 51, U 52, U 53, .pointer (some ⟨q54, 0, none⟩), U 55, U 56, U 57, U 58, U 59, U 60, U 61, U 62, U 63, U 64, U 65, U 66, U 67, U 68, U 69, U 70, U 71, U 72, U 73, U 74, U 75, U 76, U 77, U 78, U 79, U 80, U 81, U 82, U 83, U 84, U 85, U 86, U 87, U 88]) ∧ h ++ nw ++ [⟨true, q5, .cells [.int .i64 b.bend, .int .i64 b.twist, .int .i64 b.turns, .slice pm nm cm, .slice pr nr cr, .slice (some ⟨zb, zo, none⟩) (boatsOf b).length z3].toArray 123 (0, 0)⟩, ⟨true, qm, mapO es⟩, blkC q10 ws [], ⟨true, q54, iterO qm es.length sn⟩] = h') _ ⟨[], List.replicate nm 0, rfl, List.nodup_nil, by simp, by simp, fun s hs => by rw [List.getD_eq_getElem?_getD, List.getElem?_replicate, if_pos hs]; exact WI.nil es s, exU rfl, (by simp [blkC])⟩ ?_; rintro nn l h' ⟨sn, ws, rfl, hnd, hlt, hwl, hw, ⟨U, rfl⟩, rfl⟩ hnext3; refine rs2 (by kernel_rfl) ?_; refine k_next rfl zq (fun hall => k_put ?_) (fun p hp hps => k_put ?_)
      · refine k_ext0 rfl zq ?_; refine k_nil ?_; refine run_seq ?_; refine run_no ?_; refine run_exit rfl ?_; refine run_seq ?_; refine run_draw [(0, .pure), (3, .pure), (1, .read), (2, .pure), (4, .pure)] (by kernel_rfl) (by kernel_rfl) (List.Sublist.refl _) ?_; have hlf : ∀ s, s < nm → ws.getD s 0 = leftOf (boatsOf b) s := fun s hs => (hw s hs).left hmi hall hs
        first | refine k_fa0 rfl zq ?_ | refine k_fa rfl zq ?_
        refine k_as rfl zq ?_; refine k_ldh rfl zq ?_; refine k_len rfl zq ?_; refine aq rfl ?_; refine run_seq ?_; refine rs3 (by kernel_rfl) ?_; refine mq rfl ?_; refine k_len rfl zq ?_; refine mq rfl ?_; refine k_nil ?_; refine run_block ?_; refine m.weak (h' := h ++ [blkC q10 ws []]) weakSub ?_
        refine run_loop (fun nn l h' => ∃ (j : Nat) (a c : Int), nn = nm - j ∧ (j ≤ nm) ∧ ((a, c) = askP (boatsOf b) j) ∧ (∃ U : Nat → Value, l = [bkV b pm nm cm pr nr cr, U 1, .int .i64 a, .int .i64 c, U 4, U 5, U 6, U 7, U 8, U 9, U 10, U 11, U 12, U 13, U 14, U 15, U 16, U 17, U 18, U 19, U 20, U 21, U 22, U 23, U 24, U 25, U 26, U 27, U 28, U 29, U 30, U 31, U 32, U 33, U 34, U 35, U 36, U 37, U 38, U 39, U 40, U 41, U 42, U 43, U 44, U 45, U 46, U 47, U 48, U 49, U 50, U 51, U 52, U 53, U 54, U 55, U 56, U 57, U 58, U 59, U 60, U 61, U 62, U 63, U 64, U 65, U 66, U 67, U 68, U 69, U 70, U 71, U 72, U 73, .slice (some ⟨q10, 0, none⟩) nm nm, .int .i64 (nm : Int), .int .i64 (j : Int), U 77, U 78, U 79, U 80, U 81, U 82, U 83, U 84, U 85, U 86, U 87, U 88]) ∧ h ++ [blkC q10 ws []] = h') _ ⟨0, _, _, rfl, by omega, rfl, exU rfl, rfl⟩ ?_; rintro nn l h' ⟨j, a, c, rfl, hj, hac, ⟨U, rfl⟩, rfl⟩ hnext4; refine rs1 (by kernel_rfl) ?_; refine k_lssS rfl zq (fun hc => ?_) (fun hc => ?_)
        · refine k_nil ?_; refine run_seq ?_; refine run_yes ?_; refine run_skip ?_; refine run_seq ?_; refine run_block ?_; refine rs5 (by kernel_rfl) ?_; refine mq rfl ?_; refine k_ixs rfl zq (by first | rfl | assumption) (by omega) (by omega) ?_; refine k_ld rfl zq (rd_blkI j (by omega) (by omega)) ?_; refine k_as rfl zq ?_; refine aq rfl ?_; refine rs3 (by kernel_rfl) ?_; refine mq rfl ?_; refine mq rfl ?_; refine k_lssS rfl zq (fun hc => ?_) (fun hc => ?_)
          · refine k_nil ?_; refine run_yes ?_; refine rr4 (by kernel_rfl) ?_; refine mq rfl ?_; refine mq rfl ?_; refine k_as rfl zq ?_; refine aq rfl ?_; refine run_inBlock ?_; refine rr2 (by kernel_rfl) ?_; refine k_add rfl zq (by unfold In64; omega) ?_; refine mq rfl ?_; refine k_nil ?_; exact m.weak weakSub (hnext4 _ _ _ (by omega) ⟨j + 1, _, _, rfl, by omega, by rw [askP, ← hac, hlf j (by omega)]; rw [hlf j (by omega)] at hc; rw [if_pos hc], exU rfl, rfl⟩)
          · refine k_nil ?_; refine run_no ?_; refine run_skip ?_; refine run_inBlock ?_; refine rr2 (by kernel_rfl) ?_; refine k_add rfl zq (by unfold In64; omega) ?_; refine mq rfl ?_; refine k_nil ?_; exact m.weak weakSub (hnext4 _ _ _ (by omega) ⟨j + 1, _, _, rfl, by omega, by rw [askP, ← hac]; rw [hlf j (by omega)] at hc; rw [if_neg (by show ¬ leftOf (boatsOf b) j < c; omega)], exU rfl, rfl⟩)
        · refine k_nil ?_; refine run_seq ?_; refine run_no ?_; refine run_exit rfl ?_; refine rs5 (by kernel_rfl) ?_; refine mq rfl ?_; refine mq rfl ?_; refine k_as rfl zq ?_; refine k_as rfl zq ?_; refine aq rfl ?_; refine run_ret rfl ?_; refine run_res (h) rfl Tryz.func71 rfl weakSub ?_; refine hK _ _ ?_
          obtain rfl : j = nm := by omega
          refine ⟨rfl, ?_⟩
          rw [askAt, askLeft, if_neg (fun e => e hz0), if_neg (fun e => e hz0), hml, ← hac, hz0]
      · have hnd2 : (sn ++ [p]).Nodup := List.nodup_append.2 ⟨hnd, by simp, fun a ha c hc => by rw [List.mem_singleton] at hc; subst hc; exact fun e => hps (e ▸ ha)⟩
        have hlt2 : ∀ q ∈ sn ++ [p], q < es.length := fun q hq => by
          rcases List.mem_append.1 hq with hq | hq
          · exact hlt q hq
          · rw [List.mem_singleton] at hq; subst hq; exact hp
        have hok := hmi.ok _ (mem_getDR.2 ⟨p, hp, rfl⟩)
        obtain ⟨s, hs⟩ := Int.eq_ofNat_of_zero_le hok.1
        refine k_ext0 rfl zq ?_; refine k_nil ?_; refine run_seq ?_; refine run_yes ?_; refine run_skip ?_; refine run_block ?_; refine rs6 (by kernel_rfl) ?_; refine k_entry (sn := sn) (p := p) hp rfl zq ?_; refine k_ext0 rfl zq ?_; refine k_ext1 rfl zq ?_; refine k_new rfl zq (fun q11 => k_hp (k_put ?_)); refine k_stA rfl zq rfl ?_; refine aq rfl ?_; refine run_draw [(0, .pure), (1, .pure), (3, .pure), (4, .pure), (8, .pure), (2, .read), (5, .read), (6, .pure), (7, .read), (9, .pure), (10, .pure), (11, .free)] (by kernel_rfl) (by kernel_rfl) (List.Sublist.refl _) ?_; have hw2 : ∀ t, t < nm → WI es (sn ++ [p]) t ((ws.set s (max (ws.getD s 0) (es.getD p default).2.2)).getD t 0) := fun t ht => by
          rw [getD_set (by omega)]; by_cases e : t = s
          · subst e; rw [if_pos rfl]; exact (hw t ht).this hp hs
          · rw [if_neg e]; exact (hw t ht).other (fun x => e (by omega))
        refine mq rfl ?_; first | refine k_fa0 rfl zq ?_ | refine k_fa rfl zq ?_
        refine mq rfl ?_; first | refine k_fa0 rfl zq ?_ | refine k_fa rfl zq ?_
        refine mq rfl ?_; refine k_ldh rfl zq ?_; refine k_ldh rfl zq ?_; refine k_ixs rfl zq (by first | rfl | assumption) (by omega) (by omega) ?_; refine k_ld rfl zq (rd_blkI s (by omega) (by omega)) ?_; refine k_max rfl zq ?_; refine k_ixs rfl zq (by first | rfl | assumption) (by omega) (by omega) ?_; haveI hs1 := setSeg_ints (xs := ws) (junk := []) (v := max (ws.getD s 0) (es.getD p default).2.2) (i := (es.getD p default).1) (k := s) hs (by omega)
        refine k_st1 rfl zq ?_; refine k_nil ?_; refine run_inBlock ?_; exact m.weak weakSub (hnext3 _ _ _ (by have := nodup_le hnd2 hlt2; rw [List.length_append] at this ⊢; simp at this ⊢; omega) ⟨sn ++ [p], _, rfl, hnd2, hlt2, by simpa using hwl, hw2, exU rfl, rfl⟩)
section
variable {P : Program} {B : Array Obj} {m : Md P B} {ops : Array Oper} {l l' : List Value} {S h h' H : Hp} {C : List Value → Hp → Prop} {i : Nat} {kd : Kd} {r : List (Nat × Kd)}
  {d : Option Tmp} {ty : TypeId} {pos : String} {af : Array Edge} {g : Option (Nat × Bool)}
theorem k_and {t u : TypeId} {x y : Operand} {a b : Int} (v : Int) (ho : ops[i]? = some ⟨d, .binOp .and t x y u, ty, pos, af, g⟩) (hw : Wt ops l g) [KHeap kd S h H] [ex : OpV l x (.int .i64 a)] [ey : OpV l y (.int .i64 b)] (hv : IntKind.wrap .i64 ((BitVec.ofInt 64 a &&& BitVec.ofInt 64 b).toNat : Int) = v) [PutV l d (.int .i64 v) l'] (q : RegK m S ops r l' h C) : RegK m S ops ((i, kd) :: r) l h C :=
  RegK.rd (v := .int .i64 v) ho hw (reads_int ex.eq ey.eq (by simp) (by rw [← hv]; rfl)) q
end
def bitN (mm k : Nat) : Nat := (mm / 2 ^ k) % 2
def keptI (mm k : Nat) : List Int := (firsts k).filter fun i => decide (bitN mm i.toNat = 1)
def keptR (rules : List Ru) (mm k : Nat) : List Ru := ((List.range k).filter fun i => decide (bitN mm i = 1)).map fun i => rules.getD i default
theorem keptI_yes {mm k : Nat} (h : bitN mm k = 1) : keptI mm (k + 1) = keptI mm k ++ [(k : Int)] := by
  rw [keptI, firsts_succ, List.filter_append, ← keptI, List.filter_cons, Int.toNat_natCast, if_pos (decide_eq_true h)]; rfl
theorem keptI_no {mm k : Nat} (h : bitN mm k ≠ 1) : keptI mm (k + 1) = keptI mm k := by
  rw [keptI, firsts_succ, List.filter_append, ← keptI, List.filter_cons, Int.toNat_natCast, if_neg (by rw [decide_eq_true_iff]; exact h)]; simp
theorem keptR_yes {rules : List Ru} {mm k : Nat} (h : bitN mm k = 1) : keptR rules mm (k + 1) = keptR rules mm k ++ [rules.getD k default] := by
  rw [keptR, List.range_succ, List.filter_append, List.map_append, ← keptR, List.filter_cons, if_pos (decide_eq_true h)]; rfl
theorem keptR_no {rules : List Ru} {mm k : Nat} (h : bitN mm k ≠ 1) : keptR rules mm (k + 1) = keptR rules mm k := by
  rw [keptR, List.range_succ, List.filter_append, List.map_append, ← keptR, List.filter_cons, if_neg (by rw [decide_eq_true_iff]; exact h)]; simp
theorem keptI_le (mm k : Nat) : (keptI mm k).length ≤ k := by
  have := List.length_filter_le (fun i : Int => decide (bitN mm i.toNat = 1)) (firsts k)
  rw [firsts_length] at this; exact this
theorem keptR_le (rules : List Ru) (mm k : Nat) : (keptR rules mm k).length ≤ k := by
  have := List.length_filter_le (fun i => decide (bitN mm i = 1)) (List.range k)
  rw [List.length_range] at this
  simpa [keptR] using this
theorem shr_small : ∀ mm : Nat, mm < 16 → ∀ k : Nat, k < 4 → ((mm : Int).fdiv (2 ^ (min (k : Int).toNat IntKind.i64.bits))) = ((mm / 2 ^ k : Nat) : Int) := by decide
theorem and_small : ∀ a : Nat, a < 16 → IntKind.wrap .i64 ((BitVec.ofInt 64 (a : Int) &&& BitVec.ofInt 64 1).toNat : Int) = ((a % 2 : Nat) : Int) := by decide
theorem f130_c (m : Md Tryz.prog B) (h : Hp) {b : Bk} {pm : Option Addr} {nm cm : Nat} {pr : Option Addr} {nr cr : Nat} (rdr : RdS B h 4 (.slice pr nr cr) nr (encs b.rules)) (hr4 : nr ≤ 4) {mm : Nat} (hmm : mm < 16) : FnC m 130 #[bkV b pm nm cm pr nr cr, .int .i64 (mm : Int)] h fun v h' => ∃ nI nR, h' = h ++ nI ++ nR ∧ ∃ p c w, v = .tuple [bookV b.bend b.twist b.turns (.slice pm nm cm) (.slice p (keptR b.rules mm nr).length c), w].toArray ∧ RdS B nR 4 (.slice p (keptR b.rules mm nr).length c) (keptR b.rules mm nr).length (encs (keptR b.rules mm nr)) ∧ OwnS 3 1 w (keptI mm nr).length (ints (keptI mm nr)) nI := by
  have hrl := rdr.elen (by decide)
  refine fn_enter Tryz.func130 rfl rfl (l := (bkV b pm nm cm pr nr cr) :: (.int .i64 (mm : Int)) :: uu40) rfl ?_
  intro cf cs K hK
  refine rs3 (by kernel_rfl) ?_; refine k_box rfl zq (fun q2 => k_hp (k_put ?_)); refine k_new rfl zq (fun q4 => k_hp (k_put ?_)); refine aq rfl ?_; refine rs1 (by kernel_rfl) ?_; refine aq rfl ?_; refine rs3 (by kernel_rfl) ?_; refine k_ldA rfl zq ?_; refine k_new rfl zq (fun q7 => k_hp (k_put ?_)); refine k_stA rfl zq rfl ?_; refine k_nil ?_; refine rs3 (by kernel_rfl) ?_; first | refine k_fa0 rfl zq ?_ | refine k_fa rfl zq ?_
  first | refine k_fa0 rfl zq ?_ | refine k_fa rfl zq ?_
  refine k_st1 rfl zq ?_; refine k_nil ?_; refine run_seq ?_; refine rs5 (by kernel_rfl) ?_; first | refine k_fa0 rfl zq ?_ | refine k_fa rfl zq ?_
  first | refine k_fa0 rfl zq ?_ | refine k_fa rfl zq ?_
  refine k_ldh rfl zq ?_; refine k_len rfl zq ?_; refine mq rfl ?_; refine k_nil ?_; refine run_block ?_; refine m.weak (h' := h ++ [⟨true, q4, .cells ([.int .i64 0, .int .i64 0, .int .i64 0, .slice none 0 0, .slice none 0 0] : List Value).toArray 109 (0, 0)⟩, ⟨true, q7, .cells [.int .i64 b.bend, .int .i64 b.twist, .int .i64 b.turns, .slice pm nm cm, .slice none 0 0].toArray 109 (0, 0)⟩]) weakSub ?_
  refine run_loop (fun nn l h' => ∃ (k : Nat) (ip : Option Addr) (ic : Nat) (nI : Hp) (rp : Option Addr) (rc : Nat) (nR : Hp), nn = nr - k ∧ (k ≤ nr) ∧ (OwnS 3 1 (.slice ip (keptI mm k).length ic) (keptI mm k).length (ints (keptI mm k)) nI) ∧ (OwnS 94 4 (.slice rp (keptR b.rules mm k).length rc) (keptR b.rules mm k).length (encs (keptR b.rules mm k)) nR) ∧ (∃ U : Nat → Value, l = [U 0, .int .i64 (mm : Int), U 2, U 3, .pointer (some ⟨q4, 0, none⟩), U 5, .slice ip (keptI mm k).length ic, .pointer (some ⟨q7, 0, none⟩), U 8, U 9, U 10, U 11, U 12, U 13, U 14, .slice pr nr cr, .int .i64 (nr : Int), .int .i64 (k : Int), U 18, U 19, U 20, U 21, U 22, U 23, U 24, U 25, U 26, U 27, U 28, U 29, U 30, U 31, U 32, U 33, U 34, U 35, U 36, U 37, U 38, U 39, U 40, U 41]) ∧ h ++ [⟨true, q4, .cells ([.int .i64 0, .int .i64 0, .int .i64 0, .slice none 0 0, .slice none 0 0] : List Value).toArray 109 (0, 0)⟩, ⟨true, q7, .cells [.int .i64 b.bend, .int .i64 b.twist, .int .i64 b.turns, .slice pm nm cm, .slice rp (keptR b.rules mm k).length rc].toArray 109 (0, 0)⟩] ++ nI ++ nR = h') _ ⟨0, none, 0, [], none, 0, [], rfl, by omega, OwnS.nil, OwnS.nil, exU rfl, (by simp [keptR])⟩ ?_; rintro nn l h' ⟨k, ip, ic, nI, rp, rc, nR, rfl, hk, ho, hor, ⟨U, rfl⟩, rfl⟩ hnext1; have hil := keptI_le mm k
  have hrl' := keptR_le b.rules mm k
  refine rs1 (by kernel_rfl) ?_; refine k_lssS rfl zq (fun hc => ?_) (fun hc => ?_)
  · refine k_nil ?_; refine run_seq ?_; refine run_yes ?_; refine run_skip ?_; refine run_seq ?_; refine run_block ?_; refine rs6 (by kernel_rfl) ?_; refine mq rfl ?_; obtain ⟨rb, ro, rfl⟩ := rdr.ptr (by omega)
    refine k_ixs rfl zq (by first | rfl | assumption) (by omega) (by omega) ?_; refine k_ldN (vs := ruL (b.rules.getD k default)) rfl zq rfl (rdr.eat k (by omega) (by omega)) ?_; refine k_new rfl zq (fun q9 => k_hp (k_put ?_)); refine k_as rfl zq ?_; refine k_stA rfl zq rfl ?_; refine k_nil ?_; refine rs5 (by kernel_rfl) ?_; refine mq rfl ?_; refine mq rfl ?_; refine k_shr ((mm / 2 ^ k : Nat) : Int) rfl zq (by omega) (shr_small mm hmm k (by omega)) ?_; refine k_and ((mm / 2 ^ k % 2 : Nat) : Int) rfl zq (and_small _ (Nat.lt_of_le_of_lt (Nat.div_le_self _ _) hmm)) ?_; refine k_eqlS rfl zq (fun hc => ?_) (fun hc => ?_)
    · have hbit : bitN mm k = 1 := by unfold bitN; omega
      refine k_nil ?_; refine run_yes ?_; refine m.weak (h' := h ++ [⟨true, q4, .cells ([.int .i64 0, .int .i64 0, .int .i64 0, .slice none 0 0, .slice none 0 0] : List Value).toArray 109 (0, 0)⟩, ⟨true, q7, .cells [.int .i64 b.bend, .int .i64 b.twist, .int .i64 b.turns, .slice pm nm cm, .slice rp (keptR b.rules mm k).length rc].toArray 109 (0, 0)⟩] ++ nR ++ [⟨true, q9, .cells (ruL (b.rules.getD k default)).toArray 94 (0, 0)⟩] ++ nI) (by have := Weak.mid (B := B) (h ++ [⟨true, q4, .cells ([.int .i64 0, .int .i64 0, .int .i64 0, .slice none 0 0, .slice none 0 0] : List Value).toArray 109 (0, 0)⟩, ⟨true, q7, .cells [.int .i64 b.bend, .int .i64 b.twist, .int .i64 b.turns, .slice pm nm cm, .slice rp (keptR b.rules mm k).length rc].toArray 109 (0, 0)⟩]) nI (nR ++ [⟨true, q9, .cells (ruL (b.rules.getD k default)).toArray 94 (0, 0)⟩]); simpa only [List.append_assoc] using this) ?_
      refine run_drawT (S := h ++ [⟨true, q4, .cells ([.int .i64 0, .int .i64 0, .int .i64 0, .slice none 0 0, .slice none 0 0] : List Value).toArray 109 (0, 0)⟩, ⟨true, q7, .cells [.int .i64 b.bend, .int .i64 b.twist, .int .i64 b.turns, .slice pm nm cm, .slice rp (keptR b.rules mm k).length rc].toArray 109 (0, 0)⟩] ++ [⟨true, q9, .cells (ruL (b.rules.getD k default)).toArray 94 (0, 0)⟩]) [0, 1, 2, 3, 4, 5, 6, 7, 8, 9, 10, 11, 12, 13] (by kernel_rfl) (by kernel_rfl) SubH.sub ?_; refine DrawT.split 3 8 (by decide) ?_ ?_
      · refine DrawT.leaf [(0, .pure), (1, .pure), (4, .pure), (5, .pure), (6, .read), (7, .read), (2, .keep), (3, .keep), (8, .keep), (9, .free), (10, .pure), (11, .pure), (12, .pure), (13, .free)] (by kernel_rfl) ?_
        refine mq rfl ?_; refine mq rfl ?_; first | refine k_fa0 rfl zq ?_ | refine k_fa rfl zq ?_
        first | refine k_fa0 rfl zq ?_ | refine k_fa rfl zq ?_
        refine k_ldh rfl zq ?_; refine k_ldN (vs := ruL (b.rules.getD k default)) rfl zq rfl (rdN_has (q := q9)) ?_; refine k_bs kdq rfl zq (by decide) (by decide) rfl (fun q29 => k_hp (k_put ?_)); refine k_app1 (F := h ++ [⟨true, q4, .cells ([.int .i64 0, .int .i64 0, .int .i64 0, .slice none 0 0, .slice none 0 0] : List Value).toArray 109 (0, 0)⟩, ⟨true, q7, .cells [.int .i64 b.bend, .int .i64 b.twist, .int .i64 b.turns, .slice pm nm cm, .slice rp (keptR b.rules mm k).length rc].toArray 109 (0, 0)⟩] ++ nR ++ [⟨true, q9, .cells (ruL (b.rules.getD k default)).toArray 94 (0, 0)⟩]) rfl zq rfl ho kdq (by omega) (by omega) (fun w3 n3 o3 => k_put ?_); replace o3 : OwnS 3 1 w3 (keptI mm (k + 1)).length (ints (keptI mm (k + 1))) n3 := by
          rw [keptI_yes hbit, ints_append, List.length_append]; exact o3
        obtain ⟨p3, c3, rfl, hc3, r3⟩ := own_rdA (B := B) o3
        refine k_bs kdq rfl zq (by decide) (by decide) rfl (fun q35 => k_hp (k_put ?_)); refine k_appW (F := h ++ [⟨true, q4, .cells ([.int .i64 0, .int .i64 0, .int .i64 0, .slice none 0 0, .slice none 0 0] : List Value).toArray 109 (0, 0)⟩, ⟨true, q7, .cells [.int .i64 b.bend, .int .i64 b.twist, .int .i64 b.turns, .slice pm nm cm, .slice rp (keptR b.rules mm k).length rc].toArray 109 (0, 0)⟩] ++ n3) rfl zq rfl hor (Weak.trans weakSub (Weak.mid (h ++ [⟨true, q4, .cells ([.int .i64 0, .int .i64 0, .int .i64 0, .slice none 0 0, .slice none 0 0] : List Value).toArray 109 (0, 0)⟩, ⟨true, q7, .cells [.int .i64 b.bend, .int .i64 b.twist, .int .i64 b.turns, .slice pm nm cm, .slice rp (keptR b.rules mm k).length rc].toArray 109 (0, 0)⟩]) nR n3)) kdq (by omega) (by omega) (fun w9 n9 o9 => k_put ?_); replace o9 : OwnS 94 4 w9 (keptR b.rules mm (k + 1)).length (encs (keptR b.rules mm (k + 1))) n9 := by
          rw [keptR_yes hbit, encs_append, encs_ruL, List.length_append]; exact o9
        obtain ⟨p9, c9, rfl, hc9, r9⟩ := own_rdA (B := B) o9
        refine k_as rfl zq ?_; first | refine k_fa0 rfl zq ?_ | refine k_fa rfl zq ?_
        first | refine k_fa0 rfl zq ?_ | refine k_fa rfl zq ?_
        refine k_st1 rfl zq ?_; refine k_nil ?_; refine run_inBlock ?_; refine rr2 (by kernel_rfl) ?_; refine k_add rfl zq (by unfold In64; omega) ?_; refine mq rfl ?_; refine k_nil ?_; exact m.weak weakSub (hnext1 _ _ _ (by omega) ⟨k + 1, _, _, n3, _, _, n9, rfl, by omega, o3, o9, exU rfl, rfl⟩)
      · refine DrawT.split 2 8 (by decide) ?_ ?_
        · refine DrawT.leaf [(0, .pure), (1, .pure), (4, .pure), (5, .pure), (6, .read), (7, .read), (2, .keep), (8, .keep), (3, .keep), (9, .free), (10, .pure), (11, .pure), (12, .pure), (13, .free)] (by kernel_rfl) ?_
          refine mq rfl ?_; refine mq rfl ?_; first | refine k_fa0 rfl zq ?_ | refine k_fa rfl zq ?_
          first | refine k_fa0 rfl zq ?_ | refine k_fa rfl zq ?_
          refine k_ldh rfl zq ?_; refine k_ldN (vs := ruL (b.rules.getD k default)) rfl zq rfl (rdN_has (q := q9)) ?_; refine k_bs kdq rfl zq (by decide) (by decide) rfl (fun q29 => k_hp (k_put ?_)); refine k_bs kdq rfl zq (by decide) (by decide) rfl (fun q35 => k_hp (k_put ?_)); refine k_appW (F := h ++ [⟨true, q4, .cells ([.int .i64 0, .int .i64 0, .int .i64 0, .slice none 0 0, .slice none 0 0] : List Value).toArray 109 (0, 0)⟩, ⟨true, q7, .cells [.int .i64 b.bend, .int .i64 b.twist, .int .i64 b.turns, .slice pm nm cm, .slice rp (keptR b.rules mm k).length rc].toArray 109 (0, 0)⟩] ++ nR ++ [⟨true, q9, .cells (ruL (b.rules.getD k default)).toArray 94 (0, 0)⟩] ++ [⟨true, q35, .cells (ruL (b.rules.getD k default)).toArray 94 (0, 0)⟩]) rfl zq rfl ho (Weak.trans weakSub (Weak.mid (h ++ [⟨true, q4, .cells ([.int .i64 0, .int .i64 0, .int .i64 0, .slice none 0 0, .slice none 0 0] : List Value).toArray 109 (0, 0)⟩, ⟨true, q7, .cells [.int .i64 b.bend, .int .i64 b.twist, .int .i64 b.turns, .slice pm nm cm, .slice rp (keptR b.rules mm k).length rc].toArray 109 (0, 0)⟩] ++ nR ++ [⟨true, q9, .cells (ruL (b.rules.getD k default)).toArray 94 (0, 0)⟩]) nI [⟨true, q35, .cells (ruL (b.rules.getD k default)).toArray 94 (0, 0)⟩])) kdq (by omega) (by omega) (fun w3 n3 o3 => k_put ?_); replace o3 : OwnS 3 1 w3 (keptI mm (k + 1)).length (ints (keptI mm (k + 1))) n3 := by
            rw [keptI_yes hbit, ints_append, List.length_append]; exact o3
          obtain ⟨p3, c3, rfl, hc3, r3⟩ := own_rdA (B := B) o3
          refine k_appW (F := h ++ [⟨true, q4, .cells ([.int .i64 0, .int .i64 0, .int .i64 0, .slice none 0 0, .slice none 0 0] : List Value).toArray 109 (0, 0)⟩, ⟨true, q7, .cells [.int .i64 b.bend, .int .i64 b.twist, .int .i64 b.turns, .slice pm nm cm, .slice rp (keptR b.rules mm k).length rc].toArray 109 (0, 0)⟩] ++ n3) rfl zq rfl hor (Weak.trans weakSub (Weak.mid (h ++ [⟨true, q4, .cells ([.int .i64 0, .int .i64 0, .int .i64 0, .slice none 0 0, .slice none 0 0] : List Value).toArray 109 (0, 0)⟩, ⟨true, q7, .cells [.int .i64 b.bend, .int .i64 b.twist, .int .i64 b.turns, .slice pm nm cm, .slice rp (keptR b.rules mm k).length rc].toArray 109 (0, 0)⟩]) nR n3)) kdq (by omega) (by omega) (fun w9 n9 o9 => k_put ?_); replace o9 : OwnS 94 4 w9 (keptR b.rules mm (k + 1)).length (encs (keptR b.rules mm (k + 1))) n9 := by
            rw [keptR_yes hbit, encs_append, encs_ruL, List.length_append]; exact o9
          obtain ⟨p9, c9, rfl, hc9, r9⟩ := own_rdA (B := B) o9
          refine k_as rfl zq ?_; first | refine k_fa0 rfl zq ?_ | refine k_fa rfl zq ?_
          first | refine k_fa0 rfl zq ?_ | refine k_fa rfl zq ?_
          refine k_st1 rfl zq ?_; refine k_nil ?_; refine run_inBlock ?_; refine rr2 (by kernel_rfl) ?_; refine k_add rfl zq (by unfold In64; omega) ?_; refine mq rfl ?_; refine k_nil ?_; exact m.weak weakSub (hnext1 _ _ _ (by omega) ⟨k + 1, _, _, n3, _, _, n9, rfl, by omega, o3, o9, exU rfl, rfl⟩)
        · refine DrawT.leaf [(0, .pure), (1, .pure), (4, .pure), (5, .pure), (6, .read), (7, .read), (8, .keep), (2, .keep), (3, .keep), (9, .free), (10, .pure), (11, .pure), (12, .pure), (13, .free)] (by kernel_rfl) ?_
          refine mq rfl ?_; refine mq rfl ?_; first | refine k_fa0 rfl zq ?_ | refine k_fa rfl zq ?_
          first | refine k_fa0 rfl zq ?_ | refine k_fa rfl zq ?_
          refine k_ldh rfl zq ?_; refine k_ldN (vs := ruL (b.rules.getD k default)) rfl zq rfl (rdN_has (q := q9)) ?_; refine k_bs kdq rfl zq (by decide) (by decide) rfl (fun q35 => k_hp (k_put ?_)); refine k_bs kdq rfl zq (by decide) (by decide) rfl (fun q29 => k_hp (k_put ?_)); refine k_appW (F := h ++ [⟨true, q4, .cells ([.int .i64 0, .int .i64 0, .int .i64 0, .slice none 0 0, .slice none 0 0] : List Value).toArray 109 (0, 0)⟩, ⟨true, q7, .cells [.int .i64 b.bend, .int .i64 b.twist, .int .i64 b.turns, .slice pm nm cm, .slice rp (keptR b.rules mm k).length rc].toArray 109 (0, 0)⟩] ++ nR ++ [⟨true, q9, .cells (ruL (b.rules.getD k default)).toArray 94 (0, 0)⟩] ++ [⟨true, q35, .cells (ruL (b.rules.getD k default)).toArray 94 (0, 0)⟩]) rfl zq rfl ho (Weak.trans weakSub (Weak.mid (h ++ [⟨true, q4, .cells ([.int .i64 0, .int .i64 0, .int .i64 0, .slice none 0 0, .slice none 0 0] : List Value).toArray 109 (0, 0)⟩, ⟨true, q7, .cells [.int .i64 b.bend, .int .i64 b.twist, .int .i64 b.turns, .slice pm nm cm, .slice rp (keptR b.rules mm k).length rc].toArray 109 (0, 0)⟩] ++ nR ++ [⟨true, q9, .cells (ruL (b.rules.getD k default)).toArray 94 (0, 0)⟩]) nI [⟨true, q35, .cells (ruL (b.rules.getD k default)).toArray 94 (0, 0)⟩])) kdq (by omega) (by omega) (fun w3 n3 o3 => k_put ?_); replace o3 : OwnS 3 1 w3 (keptI mm (k + 1)).length (ints (keptI mm (k + 1))) n3 := by
            rw [keptI_yes hbit, ints_append, List.length_append]; exact o3
          obtain ⟨p3, c3, rfl, hc3, r3⟩ := own_rdA (B := B) o3
          refine k_appW (F := h ++ [⟨true, q4, .cells ([.int .i64 0, .int .i64 0, .int .i64 0, .slice none 0 0, .slice none 0 0] : List Value).toArray 109 (0, 0)⟩, ⟨true, q7, .cells [.int .i64 b.bend, .int .i64 b.twist, .int .i64 b.turns, .slice pm nm cm, .slice rp (keptR b.rules mm k).length rc].toArray 109 (0, 0)⟩] ++ n3) rfl zq rfl hor (Weak.trans weakSub (Weak.mid (h ++ [⟨true, q4, .cells ([.int .i64 0, .int .i64 0, .int .i64 0, .slice none 0 0, .slice none 0 0] : List Value).toArray 109 (0, 0)⟩, ⟨true, q7, .cells [.int .i64 b.bend, .int .i64 b.twist, .int .i64 b.turns, .slice pm nm cm, .slice rp (keptR b.rules mm k).length rc].toArray 109 (0, 0)⟩]) nR n3)) kdq (by omega) (by omega) (fun w9 n9 o9 => k_put ?_); replace o9 : OwnS 94 4 w9 (keptR b.rules mm (k + 1)).length (encs (keptR b.rules mm (k + 1))) n9 := by
            rw [keptR_yes hbit, encs_append, encs_ruL, List.length_append]; exact o9
          obtain ⟨p9, c9, rfl, hc9, r9⟩ := own_rdA (B := B) o9
          refine k_as rfl zq ?_; first | refine k_fa0 rfl zq ?_ | refine k_fa rfl zq ?_
          first | refine k_fa0 rfl zq ?_ | refine k_fa rfl zq ?_
          refine k_st1 rfl zq ?_; refine k_nil ?_; refine run_inBlock ?_; refine rr2 (by kernel_rfl) ?_; refine k_add rfl zq (by unfold In64; omega) ?_; refine mq rfl ?_; refine k_nil ?_; exact m.weak weakSub (hnext1 _ _ _ (by omega) ⟨k + 1, _, _, n3, _, _, n9, rfl, by omega, o3, o9, exU rfl, rfl⟩)
    · have hbit : bitN mm k ≠ 1 := by unfold bitN; omega
      refine k_nil ?_; refine run_no ?_; refine run_skip ?_; refine run_inBlock ?_; refine rr2 (by kernel_rfl) ?_; refine k_add rfl zq (by unfold In64; omega) ?_; refine mq rfl ?_; refine k_nil ?_; rw [← keptI_no hbit, ← keptR_no (rules := b.rules) hbit]; rw [← keptI_no hbit] at ho
      rw [← keptR_no (rules := b.rules) hbit] at hor
      exact m.weak weakSub (hnext1 _ _ _ (by omega) ⟨k + 1, _, _, nI, _, _, nR, rfl, by omega, ho, hor, exU rfl, rfl⟩)
  · refine k_nil ?_; refine run_seq ?_; refine run_no ?_; refine run_exit rfl ?_; refine rs4 (by kernel_rfl) ?_; obtain rfl : k = nr := by omega
    refine k_ldA rfl zq ?_; refine mq rfl ?_; refine k_stA rfl zq rfl ?_; refine aq rfl ?_; refine run_ret rfl ?_; refine run_res (h ++ nI ++ nR) rfl Tryz.func130 rfl weakSub ?_; refine hK _ _ ?_
    exact ⟨nI, nR, rfl, _, _, _, rfl, hor.rd (List.Sublist.refl _), ho⟩
end Go.Proofs
namespace Go.Lo
open Go.Conc
def blk : Loc → Option Nat
  | .cell a => some a.block
  | .obj r => some r
  | _ => none
theorem EvOk.touch {B : Array Obj} {h : Hp} {n n' : Nat} {e : Event} (o : EvOk B h n n' e) {a : Touch} (ha : (MemAct.ofEvent e).touch? = some a) : ∃ b, blk a.loc = some b ∧ Allowed B h n n' a.write b := by
  rcases o with rfl | ⟨hs, o⟩
  · cases ha
  obtain ⟨l, wr, sy⟩ := e
  simp only at hs
  subst hs
  cases l with
  | cell x =>
    have : a = ⟨.cell x, wr, .plain⟩ := by simpa [MemAct.ofEvent, MemAct.touch?] using ha.symm
    subst this
    exact ⟨_, rfl, o⟩
  | obj x =>
    have : a = ⟨.obj x, wr, .plain⟩ := by simpa [MemAct.ofEvent, MemAct.touch?] using ha.symm
    subst this
    exact ⟨_, rfl, o⟩
  | output => exact o.elim
  | goroutines => exact o.elim
  | mark m => exact o.elim
theorem EvOk.word {B : Array Obj} {h : Hp} {n n' : Nat} {e : Event} (o : EvOk B h n n' e) : ∀ m, MemAct.ofEvent e = .mark m → Neutral m := by
  rcases o with rfl | ⟨hs, o⟩
  · intro m hm; cases hm; rfl
  obtain ⟨l, wr, sy⟩ := e
  simp only at hs
  subst hs
  intro m hm
  cases l with
  | mark x => exact o.elim
  | _ => simp [MemAct.ofEvent] at hm
def updH (f : Nat → Hp) (i : Nat) (h : Hp) : Nat → Hp := fun j => if j = i then h else f j
@[simp] theorem updH_same (f : Nat → Hp) (i : Nat) (h : Hp) : updH f i h i = h := by simp [updH]
theorem updH_ne (f : Nat → Hp) {i j : Nat} (h : Hp) (e : j ≠ i) : updH f i h j = f j := by simp [updH, e]
def ApH (h k : Hp) : Prop := ∀ c ∈ h, ∀ d ∈ k, (c.rw = true ∨ d.rw = true) → c.b ≠ d.b
theorem ApH.symm {h k : Hp} (a : ApH h k) : ApH k h := fun c hc d hd x e => a d hd c hc x.symm e.symm
structure TI (n lim : Nat) (Hl : Nat → Hp) (Left : Nat → Prop) (t : Trace) : Prop where
  clean : ∀ said, ¬ Race said t
  word : Wordless t
  low : ∀ i a b, touchAt t i = some a → blk a.loc = some b → b < lim
  base : ∀ i a b, touchAt t i = some a → blk a.loc = some b → b < n → a.write = false
  known : ∀ g, ∀ c ∈ Hl g, ∀ i a, touchAt t i = some a → blk a.loc = some c.b → (c.rw = true ∨ a.write = true) → Knows t g i
  left : ∀ (i : Nat) (x : MemOp), t[i]? = some x → Left x.g → x.act.touch? ≠ none → Knows t 0 i
theorem mem_evs {g : Nat} {fn : FuncId} {pos : String} {es : Array Event} {op : MemOp} (h : op ∈ MemOp.ofEvents g fn pos es) : ∃ e ∈ es, op = { g, fn, pos, act := .ofEvent e } := by
  unfold MemOp.ofEvents at h
  split at h
  · simp at h
  · obtain ⟨e, he, rfl⟩ := Array.mem_map.1 h
    exact ⟨e, he, rfl⟩
theorem touch_cases {t u : Trace} {i : Nat} {a : Touch} (h : touchAt (t ++ u) i = some a) : touchAt t i = some a ∨ ∃ op ∈ u, (t ++ u)[i]? = some op ∧ op.act.touch? = some a := by
  obtain ⟨op, ho, hoa⟩ := touch_of h
  rcases getElem?_append_cases ho with ⟨hi, ho'⟩ | ⟨_, hou⟩
  · exact .inl (by rw [touchAt_of ho']; exact hoa)
  · exact .inr ⟨op, hou, ho, hoa⟩
section
variable {n lim lim' : Nat} {Hl Hl' : Nat → Hp} {Left Left' : Nat → Prop} {t u : Trace}
theorem TI.mute (T : TI n lim Hl Left t) (hlim : lim ≤ lim') (hn : ∀ op ∈ u, op.act.touch? = none) (hw : Wordless u)
    (hk : ∀ g, ∀ c ∈ Hl' g, ∀ i a, touchAt t i = some a → blk a.loc = some c.b → (c.rw = true ∨ a.write = true) → Knows (t ++ u) g i)
    (hl : ∀ (i : Nat) (x : MemOp), t[i]? = some x → Left' x.g → x.act.touch? ≠ none → Left x.g ∨ Knows (t ++ u) 0 i) : TI n lim' Hl' Left' (t ++ u) where
  clean := fun said => noRace_appendMute (T.clean said) hn
  word := T.word.append hw
  low := fun i a b ha hb => by
    rcases touch_cases ha with ha | ⟨op, ho, _, hoa⟩
    · exact Nat.lt_of_lt_of_le (T.low i a b ha hb) hlim
    · rw [hn op ho] at hoa; cases hoa
  base := fun i a b ha hb => by
    rcases touch_cases ha with ha | ⟨op, ho, _, hoa⟩
    · exact T.base i a b ha hb
    · rw [hn op ho] at hoa; cases hoa
  known := fun g c hc i a ha hb => by
    rcases touch_cases ha with ha | ⟨op, ho, _, hoa⟩
    · exact hk g c hc i a ha hb
    · rw [hn op ho] at hoa; cases hoa
  left := fun i x hx hg ht => by
    rcases getElem?_append_cases hx with ⟨hi, hx'⟩ | ⟨_, hxu⟩
    · rcases hl i x hx' hg ht with h | h
      · exact (T.left i x hx' h ht).app u
      · exact h
    · exact absurd (hn x hxu) ht
theorem TI.weak (T : TI n lim Hl Left t) (hlim : lim ≤ lim') (key : ∀ g, ∀ c' ∈ Hl' g, ∃ c ∈ Hl g, c.b = c'.b ∧ (c'.rw = true → c.rw = true)) : TI n lim' Hl' Left t := by
  have := T.mute (u := #[]) (Hl' := Hl') (Left' := Left) hlim (by simp) (fun op hop => by simp at hop) (fun g c' hc' i a ha hb hor => by
    obtain ⟨c, hc, e, hr⟩ := key g c' hc'
    rw [Array.append_empty]; exact T.known g c hc i a ha (e ▸ hb) (hor.imp hr id)) (fun _ _ _ h _ => .inl h)
  rwa [Array.append_empty] at this
theorem TI.own (T : TI n lim Hl Left t) {B : Array Obj} (hn : B.size = n) {g : Nat} {h' : Hp} {w w' : World} {es : Array Event} (hlim : w.heap.size = lim) (hlim' : w'.heap.size = lim') (st : Stp B (Hl g) h' w w' es)
    (hs : ∀ j, Sat B (Hl j) w) (ap : ∀ j, j ≠ g → ApH (Hl j) (Hl g)) (hL : ¬ Left g) (fn : FuncId) (pos : String) : TI n lim' (updH Hl g h') Left (t ++ MemOp.ofEvents g fn pos es) := by
  subst hlim; subst hlim'; subst hn
  have hev : ∀ op ∈ MemOp.ofEvents g fn pos es, op.g = g ∧ (∀ m, op.act = .mark m → Neutral m) ∧ ∀ a, op.act.touch? = some a → ∃ b, blk a.loc = some b ∧ Allowed B (Hl g) w.heap.size w'.heap.size a.write b := by
    intro op hop
    obtain ⟨e, he, rfl⟩ := mem_evs hop
    exact ⟨rfl, (st.evs e he).word, fun a ha => (st.evs e he).touch ha⟩
  refine ⟨fun said => noRace_append (T.clean said) (fun op hop => (hev op hop).1) fun i a ha op hop b hb hc => ?_, T.word.append fun op hop m hm => (hev op hop).2.1 m hm, fun i a b ha hb => ?_, fun i a b ha hb hlt => ?_, fun j c hc i a ha0 hb hor => ?_, fun i x hx hg ht => ?_⟩
  · obtain ⟨bb, hbb, hal⟩ := (hev op hop).2.2 b hb
    have e : blk a.loc = some bb := by rw [hc.1]; exact hbb
    rcases hal with hal | ⟨d, hd, e', hr⟩ | ⟨h1, h2⟩
    · have := T.low i a bb ha e; omega
    · exact T.known g d hd i a ha (by rw [e']; exact e) (hc.2.2.1.symm.imp hr id)
    · have := T.base i a bb ha e h2
      rcases hc.2.2.1 with h3 | h3
      · rw [this] at h3; cases h3
      · rw [h1] at h3; cases h3
  · rcases touch_cases ha with ha | ⟨op, ho, _, hoa⟩
    · exact Nat.lt_of_lt_of_le (T.low i a b ha hb) st.size
    · obtain ⟨b', hb', hal⟩ := (hev op ho).2.2 a hoa
      rw [hb] at hb'
      obtain rfl := Option.some.inj hb'
      rcases hal with hal | ⟨d, hd, e', _⟩ | ⟨_, h2⟩
      · exact hal.2
      · have := (hs g).lt hd; have := st.size; omega
      · have := (hs g).size; have := st.size; omega
  · rcases touch_cases ha with ha | ⟨op, ho, _, hoa⟩
    · exact T.base i a b ha hb hlt
    · obtain ⟨b', hb', hal⟩ := (hev op ho).2.2 a hoa
      rw [hb] at hb'
      obtain rfl := Option.some.inj hb'
      rcases hal with hal | ⟨d, hd, e', hr⟩ | ⟨h1, h2⟩
      · have := (hs g).size; omega
      · have := ((hs g).mem d hd).1; omega
      · exact h1
  · rcases touch_cases ha0 with ha | ⟨op, ho, hx, hoa⟩
    · by_cases e : j = g
      · subst e
        rw [updH_same] at hc
        rcases st.key c hc with k | ⟨d, hd, e', hr⟩
        · have := T.low i a c.b ha hb; omega
        · exact (T.known j d hd i a ha (by rw [e']; exact hb) (hor.imp hr id)).app _
      · rw [updH_ne _ _ e] at hc
        exact (T.known j c hc i a ha hb hor).app _
    · by_cases e : j = g
      · subst e
        have := knows_own hx
        rwa [(hev op ho).1] at this
      · rw [updH_ne _ _ e] at hc
        exfalso
        obtain ⟨b', hb', hal⟩ := (hev op ho).2.2 a hoa
        rw [hb] at hb'
        obtain rfl := Option.some.inj hb'
        rcases hal with hal | ⟨d, hd, e', hr⟩ | ⟨h1, h2⟩
        · have := (hs j).lt hc; omega
        · exact ap j e c hc d hd (hor.imp id hr) e'.symm
        · have := ((hs j).mem c hc).1; omega
  · rcases getElem?_append_cases hx with ⟨hi, hx'⟩ | ⟨_, hxu⟩
    · exact (T.left i x hx' hg ht).app _
    · exact absurd ((hev x hxu).1 ▸ hg) hL
theorem TI.spawn (T : TI n lim Hl Left t) {g c : Nat} (hlim : lim ≤ lim') {hg hc : Hp} (hne : c ≠ g) (k1 : ∀ x' ∈ hg, ∃ x ∈ Hl g, x.b = x'.b ∧ (x'.rw = true → x.rw = true)) (k2 : ∀ x' ∈ hc, ∃ x ∈ Hl g, x.b = x'.b ∧ (x'.rw = true → x.rw = true))
    (fh : FuncId) (ph : String) (fc : FuncId) :
    TI n lim' (updH (updH Hl g hg) c hc) Left (t ++ #[{ g := g, fn := fh, pos := ph, act := .go c }, { g := c, fn := fc, pos := ph, act := .start }]) := by
  generalize hu : (#[{ g := g, fn := fh, pos := ph, act := .go c }, { g := c, fn := fc, pos := ph, act := .start }] : Trace) = u
  have hn : ∀ op ∈ u, op.act.touch? = none := by
    intro op hop
    subst hu
    simp only [List.mem_toArray, List.mem_cons, List.not_mem_nil, or_false] at hop
    rcases hop with rfl | rfl <;> rfl
  have hw : Wordless u := by
    intro op hop m hm
    subst hu
    simp only [List.mem_toArray, List.mem_cons, List.not_mem_nil, or_false] at hop
    rcases hop with rfl | rfl <;> cases hm
  have hW := T.word.append hw
  have e0 : (t ++ u)[t.size]? = some { g := g, fn := fh, pos := ph, act := .go c } := by subst hu; simp
  have e1 : (t ++ u)[t.size + 1]? = some { g := c, fn := fc, pos := ph, act := .start } := by subst hu; simp
  have edge : HappensBefore (t ++ u) t.size (t.size + 1) := Relation.TransGen.single (.inr ⟨.spawn (act?_of e0) (act?_of e1) (g?_of e1), hW.heard e0, hW.heard e1⟩)
  refine T.mute hlim hn hw (fun j x hx i a ha hb hor => ?_) fun _ _ _ h _ => .inl h
  by_cases ec : j = c
  · subst ec
    rw [updH_same] at hx
    obtain ⟨y, hy, e, hr⟩ := k2 x hx
    have := T.known g y hy i a ha (by rw [e]; exact hb) (hor.imp hr id)
    exact ⟨t.size + 1, _, e1, rfl, .inr ((this.hb_new (Nat.le_refl _) e0 rfl).trans edge)⟩
  · rw [updH_ne _ _ ec] at hx
    by_cases eg : j = g
    · subst eg
      rw [updH_same] at hx
      obtain ⟨y, hy, e, hr⟩ := k1 x hx
      exact (T.known j y hy i a ha (by rw [e]; exact hb) (hor.imp hr id)).app u
    · rw [updH_ne _ _ eg] at hx
      exact (T.known j x hx i a ha hb hor).app u
theorem TI.meet (T : TI n lim Hl Left t) {g j : Nat} (hlim : lim ≤ lim') {hr hp : Hp} (hne : g ≠ j) (k1 : ∀ x' ∈ hr, ∃ x ∈ Hl g, x.b = x'.b ∧ (x'.rw = true → x.rw = true)) (k2 : ∀ x' ∈ hp, ∃ x ∈ Hl g, x.b = x'.b ∧ (x'.rw = true → x.rw = true))
    (hL : ∀ i, Left' i → Left i ∨ (i = g ∧ j = 0)) (fh : FuncId) (ph : String) (fj : FuncId) (pj : String) (c k cap : Nat) :
    TI n lim' (updH (updH Hl g hr) j (Hl j ++ hp)) Left' (t ++ met g j fh ph fj pj c k cap) := by
  have hn := met_mute g j fh ph fj pj c k cap
  have hw : Wordless (met g j fh ph fj pj c k cap) := by
    intro op hop m hm
    simp only [met, List.mem_toArray, List.mem_cons, List.not_mem_nil, or_false] at hop
    rcases hop with rfl | rfl | rfl | rfl <;> cases hm
  have hW := T.word.append hw
  have e0 : (t ++ met g j fh ph fj pj c k cap)[t.size]? = some { g := g, fn := fh, pos := ph, act := .send c k } := by simp [met]
  have e3 : (t ++ met g j fh ph fj pj c k cap)[t.size + 3]? = some { g := j, fn := fj, pos := pj, act := .recvDone c k } := by simp [met]
  have edge : HappensBefore (t ++ met g j fh ph fj pj c k cap) t.size (t.size + 3) :=
    Relation.TransGen.single (.inr ⟨.handOver (act?_of e0) (act?_of e3), hW.heard e0, hW.heard e3⟩)
  have pass : ∀ i, Knows t g i → Knows (t ++ met g j fh ph fj pj c k cap) j i := fun i h => ⟨t.size + 3, _, e3, rfl, .inr ((h.hb_new (Nat.le_refl _) e0 rfl).trans edge)⟩
  refine T.mute hlim hn hw (fun q x hx i a ha hb hor => ?_) fun i x hx hl ht => ?_
  · by_cases ej : q = j
    · subst ej
      rw [updH_same] at hx
      rcases List.mem_append.1 hx with hx | hx
      · exact (T.known q x hx i a ha hb hor).app _
      · obtain ⟨y, hy, e, hr⟩ := k2 x hx
        exact pass i (T.known g y hy i a ha (by rw [e]; exact hb) (hor.imp hr id))
    · rw [updH_ne _ _ ej] at hx
      by_cases eg : q = g
      · subst eg
        rw [updH_same] at hx
        obtain ⟨y, hy, e, hr⟩ := k1 x hx
        exact (T.known q y hy i a ha (by rw [e]; exact hb) (hor.imp hr id)).app _
      · rw [updH_ne _ _ eg] at hx
        exact (T.known q x hx i a ha hb hor).app _
  · rcases hL _ hl with h | ⟨h, rfl⟩
    · exact .inl h
    · exact .inr (pass i (h ▸ knows_own hx))
theorem TI.handed (T : TI n lim Hl Left t) (hL : ∀ (i : Nat) (x : MemOp), t[i]? = some x → x.g ≠ 0 → Left x.g) : t.HandedOver := by
  intro i g hg hne hc
  obtain ⟨a, ha, _⟩ := hc
  obtain ⟨x, hx, hxa⟩ := touch_of ha
  have e : x.g = g := by have := g?_of hx; rw [hg] at this; exact (Option.some.inj this).symm
  obtain ⟨q, z, h1, h2, h3⟩ := T.left i x hx (hL i x hx (e ▸ hne)) (by rw [hxa]; simp)
  rcases h3 with rfl | h3
  · rw [hx] at h1
    obtain rfl := Option.some.inj h1
    exact absurd h2 (e ▸ hne)
  · exact ⟨q, by rw [g?_of h1, h2], h3⟩
end
end Go.Lo
namespace Go.Lo
open Go.Conc
structure Pro where
  chans : List Nat
  done : Nat
  Msg : Nat → Value → Hp → Nat → Nat → Prop
inductive Quiet (C : List Nat) : Goroutine → Prop
  | runs {g : Goroutine} (h : g.status = .running) : Quiet C g
  | ended {g : Goroutine} (h : g.status = .finished) : Quiet C g
  | sends {g : Goroutine} {c : Nat} {v z : Value} (h : c ∈ C) : Quiet C (parked g #[scase c v z] .send)
  | recvs {g : Goroutine} {cases : Array CommCase} {shape : CommShape} (h : ∀ cc ∈ cases, ∃ c z, cc = rcase c z ∧ c ∈ C) : Quiet C (parked g cases shape)
theorem Quiet.awake {C : List Nat} {g : Goroutine} (q : Quiet C g) : awake g := by
  cases q with
  | runs h => exact awake_of (.inl h)
  | ended h => exact awake_of (.inr (.inr h))
  | sends h => exact awake_of (.inr (.inl rfl))
  | recvs h => exact awake_of (.inr (.inl rfl))
def Opens (C : List Nat) (w : World) : Prop := ∀ c ∈ C, ∃ k tm, w.heap[c]? = some (.chan 0 #[] false k k tm)
theorem Quiet.woken {P : Program} {C : List Nat} {g a a' : Goroutine} {w : World} (q : Quiet C g) (o : Opens C w) : woken P a a' w g = g := by
  cases q with
  | runs h => exact woken_running h
  | ended h =>
    unfold Conc.woken
    split
    · exact again_running _ (.inr h)
    · rfl
  | sends h =>
    obtain ⟨k, tm, e⟩ := o _ h
    exact woken_send_open _ _ e
  | recvs h =>
    unfold Conc.woken
    split
    · refine again_all_open fun cc hcc => ?_
      obtain ⟨c, z, e, hc⟩ := h cc hcc
      obtain ⟨k, tm, e'⟩ := o c hc
      exact ⟨c, z, 0, #[], k, k, tm, e, e'⟩
    · rfl
structure Core (B : Array Obj) (W : World) (C : List Nat) (Left : Nat → Prop) (gs : Array Goroutine) (w : World) (t : Trace) (Hl : Nat → Hp) : Prop where
  sat : ∀ i, Sat B (Hl i) w
  apart : ∀ i j, i ≠ j → ApH (Hl i) (Hl j)
  chan : Opens C w
  chanB : ∀ c ∈ C, B.size ≤ c ∧ ∀ i, ∀ d ∈ Hl i, d.b ≠ c
  ti : TI B.size w.heap.size Hl Left t
  far : w.os = W.os ∧ w.output = W.output ∧ w.tape = W.tape
  gsz : ∀ op ∈ t, op.g < gs.size
  out : ∀ i, gs.size ≤ i → Hl i = []
  quiet : ∀ (i : Nat) g, gs[i]? = some g → Quiet C g
section
variable {P : Program} {B : Array Obj} {W : World} {C : List Nat} {Left : Nat → Prop} {gs : Array Goroutine} {w w' : World} {t : Trace} {Hl : Nat → Hp} {sl : Option (Nat × Nat)}
theorem Core.at (c : Core B W C Left gs w t Hl) (d : Nat) : Core B W C Left gs (w.at d) t Hl :=
  ⟨fun i => ⟨(c.sat i).base, (c.sat i).mem, (c.sat i).apart⟩, c.apart, c.chan, c.chanB, c.ti, c.far, c.gsz, c.out, c.quiet⟩
theorem map_woken (c : ∀ (i : Nat) g, gs[i]? = some g → Quiet C g) (o : Opens C w') (a a' : Goroutine) : gs.map (woken P a a' w') = gs := by
  apply Array.ext_getElem?
  intro i
  rw [Array.getElem?_map]; cases e : gs[i]? with
  | none => rfl
  | some g => rw [Option.map_some, (c i g e).woken o]
theorem quiet_set {i : Nat} {g' : Goroutine} (c : ∀ (i : Nat) g, gs[i]? = some g → Quiet C g) (q : Quiet C g') : ∀ (j : Nat) g, (gs.setIfInBounds i g')[j]? = some g → Quiet C g := by
  intro j g hj
  by_cases e : i = j
  · subst e
    by_cases hlt : i < gs.size
    · rw [Array.getElem?_setIfInBounds_self_of_lt hlt] at hj
      exact (Option.some.inj hj) ▸ q
    · rw [Array.getElem?_eq_none (by simpa using hlt)] at hj; cases hj
  · rw [Array.getElem?_setIfInBounds_ne e] at hj
    exact c j g hj
theorem Core.own (c : Core B W C Left gs w t Hl) {i : Nat} {g g' : Goroutine} {h' : Hp} {es : Array Event} (hi : gs[i]? = some g) (hst : stepG P (i == 0) g w = .go g' w' es) (st : Stp B (Hl i) h' w w' es)
    (hL : ¬ Left i) (q : Quiet C g') :
    runT P (crowd gs w sl) i = (.next (crowd (gs.setIfInBounds i g') w' sl), MemOp.ofEvents i g.frame.fn g.frame.place es) ∧
      Core B W C Left (gs.setIfInBounds i g') w' (t ++ MemOp.ofEvents i g.frame.fn g.frame.place es) (updH Hl i h') := by
  have hlt : i < gs.size := (Array.getElem?_eq_some_iff.1 hi).1
  have keep : ∀ j, j ≠ i → ∀ d ∈ Hl j, w'.heap[d.b]? = w.heap[d.b]? := fun j hj d hd =>
    st.old d.b ((c.sat j).lt hd) fun x hx hr => fun e => c.apart j i hj d hd x hx (.inr hr) e.symm
  have ho : Opens C w' := fun r hr => by
    obtain ⟨k, tm, e⟩ := c.chan r hr
    have hlt' := (Array.getElem?_eq_some_iff.1 e).1
    exact ⟨k, tm, by rw [st.old r hlt' fun x hx _ => (c.chanB r hr).2 i x hx]; exact e⟩
  refine ⟨?_, ?_⟩
  · rw [runT_crowd_go hi hst, map_woken c.quiet ho]
  · refine ⟨fun j => ?_, fun j k hjk => ?_, ho, fun r hr => ⟨(c.chanB r hr).1, fun j d hd => ?_⟩, ?_, ⟨st.os.trans c.far.1, st.out.trans c.far.2.1, st.tape.trans c.far.2.2⟩, fun op hop => ?_, fun j hj => ?_, quiet_set c.quiet q⟩
    · by_cases e : j = i
      · subst e; rw [updH_same]; exact st.sat
      · rw [updH_ne _ _ e]; exact ⟨st.sat.base, fun d hd => ⟨((c.sat j).mem d hd).1, by rw [keep j e d hd]; exact ((c.sat j).mem d hd).2⟩, (c.sat j).apart⟩
    · have one : ∀ j, j ≠ i → ApH (Hl j) h' := fun j hj d hd x hx hor => by
        rcases st.key x hx with k | ⟨y, hy, e, hr⟩
        · have := (c.sat j).lt hd; omega
        · rw [← e]; exact c.apart j i hj d hd y hy (hor.imp id hr)
      by_cases e1 : j = i
      · subst e1
        rw [updH_same, updH_ne _ _ (fun e => hjk e.symm)]; exact (one k fun e => hjk e.symm).symm
      · rw [updH_ne _ _ e1]; by_cases e2 : k = i
        · subst e2; rw [updH_same]; exact one j e1
        · rw [updH_ne _ _ e2]; exact c.apart j k hjk
    · by_cases e : j = i
      · subst e
        rw [updH_same] at hd
        rcases st.key d hd with k | ⟨y, hy, e, _⟩
        · obtain ⟨k', tm, e'⟩ := c.chan r hr
          have := (Array.getElem?_eq_some_iff.1 e').1; omega
        · rw [← e]; exact (c.chanB r hr).2 j y hy
      · rw [updH_ne _ _ e] at hd; exact (c.chanB r hr).2 j d hd
    · exact c.ti.own rfl rfl rfl st c.sat (fun j hj => c.apart j i hj) hL _ _
    · rw [Array.size_setIfInBounds]; rcases Array.mem_append.1 hop with h | h
      · exact c.gsz op h
      · obtain ⟨e, _, rfl⟩ := mem_evs h; exact hlt
    · rw [Array.size_setIfInBounds] at hj
      rw [updH_ne _ _ (by omega)]; exact c.out j hj
theorem Core.slip (c : Core B W C Left gs w t Hl) {i : Nat} {g g' : Goroutine} (hi : gs[i]? = some g) (hst : stepG P (i == 0) g w = .go g' w) (q : Quiet C g') :
    runT P (crowd gs w sl) i = (.next (crowd (gs.setIfInBounds i g') w sl), #[]) ∧ Core B W C Left (gs.setIfInBounds i g') w t Hl := by
  refine ⟨?_, c.sat, c.apart, c.chan, c.chanB, c.ti, c.far, fun op hop => ?_, fun j hj => c.out j (by simpa using hj), quiet_set c.quiet q⟩
  · rw [runT_crowd_go hi hst, map_woken c.quiet c.chan]; rfl
  · rw [Array.size_setIfInBounds]; exact c.gsz op hop
theorem Core.weak (c : Core B W C Left gs w t Hl) {i : Nat} {h' : Hp} (k : Weak B (Hl i) h') : Core B W C Left gs w t (updH Hl i h') := by
  have key : ∀ j, ∀ d ∈ updH Hl i h' j, ∃ x ∈ Hl j, x.b = d.b ∧ (d.rw = true → x.rw = true) := fun j d hd => by
    by_cases e : j = i
    · subst e; rw [updH_same] at hd; exact k.key d hd
    · rw [updH_ne _ _ e] at hd; exact ⟨d, hd, rfl, id⟩
  refine ⟨fun j => ?_, fun j l hjl d hd x hx hor => ?_, c.chan, fun r hr => ⟨(c.chanB r hr).1, fun j d hd => ?_⟩, c.ti.weak (Nat.le_refl _) key, c.far, c.gsz, fun j hj => ?_, c.quiet⟩
  · by_cases e : j = i
    · subst e; rw [updH_same]; exact k.sat _ (c.sat j)
    · rw [updH_ne _ _ e]; exact c.sat j
  · obtain ⟨d', hd', e1, r1⟩ := key j d hd
    obtain ⟨x', hx', e2, r2⟩ := key l x hx
    rw [← e1, ← e2]; exact c.apart j l hjl d' hd' x' hx' (hor.imp r1 r2)
  · obtain ⟨x, hx, e, _⟩ := key j d hd
    rw [← e]; exact (c.chanB r hr).2 j x hx
  · apply List.eq_nil_iff_forall_not_mem.2
    intro d hd
    obtain ⟨x, hx, _⟩ := key j d hd
    rw [c.out j hj] at hx; simp at hx
theorem Core.stay (c : Core B W C Left gs w t Hl) {Left' : Nat → Prop} (hl : ∀ i, Left' i → Left i) : Core B W C Left' gs w t Hl :=
  ⟨c.sat, c.apart, c.chan, c.chanB, ⟨c.ti.clean, c.ti.word, c.ti.low, c.ti.base, c.ti.known, fun i x hx hg => c.ti.left i x hx (hl _ hg)⟩, c.far, c.gsz, c.out, c.quiet⟩
theorem Core.share (c : Core B W C Left gs w t Hl) {C' : List Nat} (hq : ∀ (i : Nat) g, gs[i]? = some g → Quiet C' g) {i : Nat} {h' : Hp} (e : Hl i = h' ++ C'.map fun r => ⟨true, r, .chan 0 #[] false 0 0 false⟩) :
    Core B W C' Left gs w t (updH Hl i h') := by
  have wk : Weak B (Hl i) h' := by rw [e]; exact Weak.sub (List.sublist_append_left _ _)
  have c' := c.weak wk
  have mem : ∀ r ∈ C', (⟨true, r, .chan 0 #[] false 0 0 false⟩ : Chunk) ∈ Hl i := fun r hr => by rw [e]; exact List.mem_append_right _ (List.mem_map.2 ⟨r, hr, rfl⟩)
  refine ⟨c'.sat, c'.apart, fun r hr => ⟨0, false, ((c.sat i).mem _ (mem r hr)).2⟩, fun r hr => ⟨((c.sat i).mem _ (mem r hr)).1, fun j d hd => ?_⟩, c'.ti, c.far, c.gsz, c'.out, hq⟩
  by_cases ej : j = i
  · subst ej
    rw [updH_same] at hd
    have ap := (c.sat j).apart
    rw [e, List.pairwise_append] at ap
    exact ap.2.2 d hd ⟨true, r, .chan 0 #[] false 0 0 false⟩ (List.mem_map.2 ⟨r, hr, rfl⟩) (.inr rfl)
  · rw [updH_ne _ _ ej] at hd
    exact c.apart j i ej d hd _ (mem r hr) (.inr rfl)
theorem Core.spawn (c : Core B W C Left gs w t Hl) {i : Nat} {g g' child : Goroutine} {hg hc : Hp} (hi : gs[i]? = some g) (hst : stepG P (i == 0) g w = .spawn g' child w) (k1 : Weak B (Hl i) hg) (k2 : Weak B (Hl i) hc) (ap : ApH hg hc)
    (q : Quiet C g') (qc : Quiet C child) :
    runT P (crowd gs w sl) i = (.next (crowd ((gs.setIfInBounds i g').push child) w sl), #[{ g := i, fn := g.frame.fn, pos := g.frame.place, act := .go gs.size }, { g := gs.size, fn := child.frame.fn, pos := g.frame.place, act := .start }]) ∧
      Core B W C Left ((gs.setIfInBounds i g').push child) w (t ++ #[{ g := i, fn := g.frame.fn, pos := g.frame.place, act := .go gs.size }, { g := gs.size, fn := child.frame.fn, pos := g.frame.place, act := .start }]) (updH (updH Hl i hg) gs.size hc) := by
  have hlt : i < gs.size := (Array.getElem?_eq_some_iff.1 hi).1
  have hne : gs.size ≠ i := by omega
  have key : ∀ j, ∀ d ∈ updH (updH Hl i hg) gs.size hc j, (j = gs.size ∧ d ∈ hc) ∨ (j = i ∧ d ∈ hg) ∨ (j ≠ i ∧ j ≠ gs.size ∧ d ∈ Hl j) := fun j d hd => by
    by_cases e : j = gs.size
    · subst e; rw [updH_same] at hd; exact .inl ⟨rfl, hd⟩
    · rw [updH_ne _ _ e] at hd
      by_cases e2 : j = i
      · subst e2; rw [updH_same] at hd; exact .inr (.inl ⟨rfl, hd⟩)
      · rw [updH_ne _ _ e2] at hd; exact .inr (.inr ⟨e2, e, hd⟩)
  refine ⟨?_, fun j => ?_, fun j l hjl d hd x hx hor => ?_, c.chan, fun r hr => ⟨(c.chanB r hr).1, fun j d hd => ?_⟩, c.ti.spawn (Nat.le_refl _) hne k1.key k2.key _ _ _, c.far, fun op hop => ?_, fun j hj => ?_, fun j x hj => ?_⟩
  · rw [runT_crowd_spawn hi hst]; rfl
  · by_cases e : j = gs.size
    · subst e; rw [updH_same]; exact k2.sat _ (c.sat i)
    · rw [updH_ne _ _ e]; by_cases e2 : j = i
      · subst e2; rw [updH_same]; exact k1.sat _ (c.sat j)
      · rw [updH_ne _ _ e2]; exact c.sat j
  · have old : ∀ (l : Nat), l ≠ i → ∀ (y z : Chunk), y ∈ Hl l → (z ∈ hc ∨ z ∈ hg) → (y.rw = true ∨ z.rw = true) → y.b ≠ z.b := fun l hl y z hy hz ho => by
      rcases hz with hz | hz
      · obtain ⟨z', hz', e, r⟩ := k2.key z hz
        rw [← e]; exact c.apart l i hl y hy z' hz' (ho.imp id r)
      · obtain ⟨z', hz', e, r⟩ := k1.key z hz
        rw [← e]; exact c.apart l i hl y hy z' hz' (ho.imp id r)
    rcases key j d hd with ⟨e1, m1⟩ | ⟨e1, m1⟩ | ⟨e1, e1', m1⟩ <;> rcases key l x hx with ⟨e2, m2⟩ | ⟨e2, m2⟩ | ⟨e2, e2', m2⟩
    · exact absurd (e1.trans e2.symm) hjl
    · exact ap.symm d m1 x m2 hor
    · exact fun e => old l e2 x d m2 (.inl m1) hor.symm e.symm
    · exact ap d m1 x m2 hor
    · exact absurd (e1.trans e2.symm) hjl
    · exact fun e => old l e2 x d m2 (.inr m1) hor.symm e.symm
    · exact old j e1 d x m1 (.inl m2) hor
    · exact old j e1 d x m1 (.inr m2) hor
    · exact c.apart j l hjl d m1 x m2 hor
  · rcases key j d hd with ⟨_, m⟩ | ⟨_, m⟩ | ⟨_, _, m⟩
    · obtain ⟨x, hx, e, _⟩ := k2.key d m; rw [← e]; exact (c.chanB r hr).2 i x hx
    · obtain ⟨x, hx, e, _⟩ := k1.key d m; rw [← e]; exact (c.chanB r hr).2 i x hx
    · exact (c.chanB r hr).2 j d m
  · simp only [Array.size_push, Array.size_setIfInBounds]
    rcases Array.mem_append.1 hop with h | h
    · have := c.gsz op h; omega
    · simp only [List.mem_toArray, List.mem_cons, List.not_mem_nil, or_false] at h
      rcases h with rfl | rfl
      · simp only; omega
      · simp only; omega
  · simp only [Array.size_push, Array.size_setIfInBounds] at hj
    rw [updH_ne _ _ (by omega), updH_ne _ _ (by omega)]; exact c.out j (by omega)
  · rw [Array.getElem?_push] at hj
    split at hj
    · exact (Option.some.inj hj) ▸ qc
    · exact quiet_set c.quiet q j x hj
theorem Core.meet (c : Core B W C Left gs w t Hl) {i j : Nat} {x y : Goroutine} {hr hp : Hp} {Left' : Nat → Prop} {r k d : Nat} {tm : Bool} (hij : i ≠ j) (hi : i < gs.size) (hj : j < gs.size) (hr' : r ∈ C) (hc : w.heap[r]? = some (.chan 0 #[] false k k tm))
    (e : Hl i = hr ++ hp) (qx : Quiet C x) (qy : Quiet C y) (hL : ∀ l, Left' l → Left l ∨ (l = i ∧ j = 0)) (fh : FuncId) (ph : String) (fj : FuncId) (pj : String) (gs' : Array Goroutine) (hgs : gs'.size = gs.size)
    (hq : ∀ (l : Nat) (z : Goroutine), gs'[l]? = some z → Quiet C z) :
    Core B W C Left' gs' ((w.at d).setChan r 0 #[] false (k + 1) (k + 1) tm) (t ++ met i j fh ph fj pj r k 0) (updH (updH Hl i hr) j (Hl j ++ hp)) := by
  have hlt : r < w.heap.size := (Array.getElem?_eq_some_iff.1 hc).1
  have hsz : ((w.at d).setChan r 0 #[] false (k + 1) (k + 1) tm).heap.size = w.heap.size := by simp [World.setChan, World.at]
  have hget : ∀ b, b ≠ r → ((w.at d).setChan r 0 #[] false (k + 1) (k + 1) tm).heap[b]? = w.heap[b]? := fun b hb => by
    simp only [World.setChan, World.at]
    rw [Array.getElem?_setIfInBounds_ne (fun e => hb e.symm)]
  have keyp : ∀ x' ∈ hp, ∃ z ∈ Hl i, z.b = x'.b ∧ (x'.rw = true → z.rw = true) := fun x' hx' => ⟨x', by rw [e]; exact List.mem_append_right _ hx', rfl, id⟩
  have keyr : ∀ x' ∈ hr, ∃ z ∈ Hl i, z.b = x'.b ∧ (x'.rw = true → z.rw = true) := fun x' hx' => ⟨x', by rw [e]; exact List.mem_append_left _ hx', rfl, id⟩
  have key : ∀ l, ∀ z ∈ updH (updH Hl i hr) j (Hl j ++ hp) l, (l = j ∧ z ∈ Hl j) ∨ (l = j ∧ z ∈ hp) ∨ (l = i ∧ z ∈ hr) ∨ (l ≠ i ∧ l ≠ j ∧ z ∈ Hl l) := fun l z hz => by
    by_cases e1 : l = j
    · subst e1
      rw [updH_same] at hz
      rcases List.mem_append.1 hz with h | h
      · exact .inl ⟨rfl, h⟩
      · exact .inr (.inl ⟨rfl, h⟩)
    · rw [updH_ne _ _ e1] at hz
      by_cases e2 : l = i
      · subst e2; rw [updH_same] at hz; exact .inr (.inr (.inl ⟨rfl, hz⟩))
      · rw [updH_ne _ _ e2] at hz; exact .inr (.inr (.inr ⟨e2, e1, hz⟩))
  have mi : ∀ z, z ∈ hp ∨ z ∈ hr → z ∈ Hl i := fun z hz => by rw [e]; exact List.mem_append.2 hz.symm
  have apri : hr.Pairwise (fun c d => (c.rw = true ∨ d.rw = true) → c.b ≠ d.b) ∧ hp.Pairwise (fun c d => (c.rw = true ∨ d.rw = true) → c.b ≠ d.b) ∧ ApH hr hp := by
    have := (c.sat i).apart
    rw [e, List.pairwise_append] at this
    exact ⟨this.1, this.2.1, this.2.2⟩
  have oldc : ∀ l, ∀ z ∈ Hl l, ((w.at d).setChan r 0 #[] false (k + 1) (k + 1) tm).heap[z.b]? = some z.o := fun l z hz => by
    rw [hget _ ((c.chanB r hr').2 l z hz)]; exact ((c.sat l).mem z hz).2
  refine ⟨fun l => ⟨fun b o hb => ?_, fun z hz => ?_, ?_⟩, fun l l' hl z hz z' hz' hor => ?_, fun r' hr2 => ?_, fun r' hr2 => ⟨(c.chanB r' hr2).1, fun l z hz => ?_⟩, ?_, c.far, fun op hop => ?_, fun l hl => ?_, hq⟩
  · have := (c.sat l).base b o hb
    have hbB := (Array.getElem?_eq_some_iff.1 hb).1
    have := (c.chanB r hr').1
    rw [hget b (by omega)]; exact (c.sat l).base b o hb
  · rcases key l z hz with ⟨_, m⟩ | ⟨_, m⟩ | ⟨_, m⟩ | ⟨_, _, m⟩
    · exact ⟨((c.sat j).mem z m).1, oldc j z m⟩
    · exact ⟨((c.sat i).mem z (mi z (.inl m))).1, oldc i z (mi z (.inl m))⟩
    · exact ⟨((c.sat i).mem z (mi z (.inr m))).1, oldc i z (mi z (.inr m))⟩
    · exact ⟨((c.sat l).mem z m).1, oldc l z m⟩
  · by_cases e1 : l = j
    · subst e1
      rw [updH_same, List.pairwise_append]; exact ⟨(c.sat l).apart, apri.2.1, fun z hz z' hz' => c.apart l i (fun e => hij e.symm) z hz z' (mi z' (.inl hz'))⟩
    · rw [updH_ne _ _ e1]; by_cases e2 : l = i
      · subst e2; rw [updH_same]; exact apri.1
      · rw [updH_ne _ _ e2]; exact (c.sat l).apart
  · -- who held it before
    have who : ∀ l, ∀ z ∈ updH (updH Hl i hr) j (Hl j ++ hp) l, (z ∈ Hl l ∧ ¬ (l = i ∧ z ∈ hp ∧ z ∉ hr)) ∨ (l = j ∧ z ∈ hp) := fun l z hz => by
      rcases key l z hz with ⟨rfl, m⟩ | h | ⟨rfl, m⟩ | ⟨h1, h2, m⟩
      · exact .inl ⟨m, fun h => hij h.1.symm⟩
      · exact .inr h
      · exact .inl ⟨mi z (.inr m), fun h => h.2.2 m⟩
      · exact .inl ⟨m, fun h => h1 h.1⟩
    rcases key l z hz with ⟨e1, m1⟩ | ⟨e1, m1⟩ | ⟨e1, m1⟩ | ⟨e1, e1', m1⟩ <;> rcases key l' z' hz' with ⟨e2, m2⟩ | ⟨e2, m2⟩ | ⟨e2, m2⟩ | ⟨e2, e2', m2⟩
    · exact absurd (e1.trans e2.symm) hl
    · exact absurd (e1.trans e2.symm) hl
    · exact c.apart j i (fun e => hij e.symm) z m1 z' (mi z' (.inr m2)) hor
    · exact c.apart j l' (fun e => e2' e.symm) z m1 z' m2 hor
    · exact absurd (e1.trans e2.symm) hl
    · exact absurd (e1.trans e2.symm) hl
    · exact apri.2.2.symm z m1 z' m2 hor
    · exact c.apart i l' (fun e => e2 e.symm) z (mi z (.inl m1)) z' m2 hor
    · exact c.apart i j hij z (mi z (.inr m1)) z' m2 hor
    · exact apri.2.2 z m1 z' m2 hor
    · exact absurd (e1.trans e2.symm) hl
    · exact c.apart i l' (fun e => e2 e.symm) z (mi z (.inr m1)) z' m2 hor
    · exact c.apart l j e1' z m1 z' m2 hor
    · exact c.apart l i e1 z m1 z' (mi z' (.inl m2)) hor
    · exact c.apart l i e1 z m1 z' (mi z' (.inr m2)) hor
    · exact c.apart l l' hl z m1 z' m2 hor
  · by_cases e1 : r' = r
    · subst e1
      exact ⟨k + 1, tm, by simp only [World.setChan, World.at]; exact Array.getElem?_setIfInBounds_self_of_lt hlt⟩
    · obtain ⟨k', tm', e'⟩ := c.chan r' hr2
      exact ⟨k', tm', by rw [hget r' e1]; exact e'⟩
  · rcases key l z hz with ⟨_, m⟩ | ⟨_, m⟩ | ⟨_, m⟩ | ⟨_, _, m⟩
    · exact (c.chanB r' hr2).2 j z m
    · exact (c.chanB r' hr2).2 i z (mi z (.inl m))
    · exact (c.chanB r' hr2).2 i z (mi z (.inr m))
    · exact (c.chanB r' hr2).2 l z m
  · exact c.ti.meet (by rw [hsz]; exact Nat.le_refl _) hij keyr keyp hL _ _ _ _ _ _ _
  · rw [hgs]; rcases Array.mem_append.1 hop with h | h
    · exact c.gsz op h
    · simp only [met, List.mem_toArray, List.mem_cons, List.not_mem_nil, or_false] at h
      rcases h with rfl | rfl | rfl | rfl <;> assumption
  · rw [hgs] at hl
    rw [updH_ne _ _ (by omega), updH_ne _ _ (by omega)]; exact c.out l hl
end
end Go.Lo
namespace Go.Lo
open Go.Conc
inductive Tr where
  | leaf
  | node (f : Goroutine → Hp → Tr)
instance : Inhabited Tr := ⟨.leaf⟩
def Tr.Lt (a b : Tr) : Prop := ∃ f g h, b = .node f ∧ a = f g h
theorem Tr.lt (f : Goroutine → Hp → Tr) (g : Goroutine) (h : Hp) : Tr.Lt (f g h) (.node f) := ⟨f, g, h, rfl, rfl⟩
theorem Tr.acc (t : Tr) : Acc Tr.Lt t := by
  induction t with
  | leaf => exact ⟨_, fun y ⟨f, g, h, e, _⟩ => by cases e⟩
  | node f ih => exact ⟨_, fun y ⟨f', g, h, e, e'⟩ => by cases e; subst e'; exact ih g h⟩
def Tr.ofNat : Nat → Tr
  | 0 => .leaf
  | n + 1 => .node fun _ _ => .ofNat n
def TLt (n : Nat) (a b : Nat → Tr) : Prop := ∃ i, i < n ∧ Tr.Lt (a i) (b i) ∧ ∀ j, j ≠ i → a j = b j
theorem TLt.acc : ∀ (n : Nat) (f : Nat → Tr), Acc (TLt n) f
  | 0, f => ⟨_, fun g ⟨i, h, _⟩ => by omega⟩
  | n + 1, f => by
    have key : ∀ T : Tr, ∀ f : Nat → Tr, f n = T → Acc (TLt (n + 1)) f := by
      intro T
      induction T.acc with
      | intro T _ ihT =>
        intro f hf
        induction TLt.acc n f with
        | intro f _ ihf =>
          refine ⟨_, fun g hg => ?_⟩
          obtain ⟨i, hi, hlt, he⟩ := hg
          by_cases e : i = n
          · subst e
            exact ihT (g i) (by rw [← hf]; exact hlt) g rfl
          · exact ihf g ⟨i, by omega, hlt, he⟩ (by rw [he n (fun x => e x.symm)]; exact hf)
    exact key (f n) f rfl
def updT (f : Nat → Tr) (i : Nat) (t : Tr) : Nat → Tr := fun j => if j = i then t else f j
@[simp] theorem updT_same (f : Nat → Tr) (i : Nat) (t : Tr) : updT f i t i = t := by simp [updT]
theorem updT_ne (f : Nat → Tr) {i j : Nat} (t : Tr) (e : j ≠ i) : updT f i t j = f j := by simp [updT, e]
theorem updT_lt {n : Nat} {f : Nat → Tr} {i : Nat} {t : Tr} (hi : i < n) (h : Tr.Lt t (f i)) : TLt n (updT f i t) f := ⟨i, hi, by rw [updT_same]; exact h, fun j hj => updT_ne _ _ hj⟩
inductive CRunT (P : Program) (B : Array Obj) (Q : Pro) : Tr → Nat → Goroutine → Hp → Prop
  | step {f : Goroutine → Hp → Tr} {s : Nat} {g : Goroutine} {h : Hp} (K' : Goroutine → Hp → Prop) (st : LStep P B false g h K') (n : ∀ g' h', K' g' h' → CRunT P B Q (f g' h') s g' h') : CRunT P B Q (.node f) s g h
  | weak {T : Tr} {s : Nat} {g : Goroutine} {h h' : Hp} (k : Weak B h h') (n : CRunT P B Q T s g h') : CRunT P B Q T s g h
  | send {T : Tr} {s s' : Nat} {g : Goroutine} {hr hp : Hp} {c : Nat} {v z : Value} (hs : g.status = .running) (e : ∀ w, Sat B (hr ++ hp) w → stepG P false g w = .comm g #[scase c v z] true .send w #[]) (hc : c ∈ Q.chans) (hd : c ≠ Q.done) (m : Q.Msg c v hp s s')
      (n : CRunT P B Q T s' (Conc.served g undef) hr) : CRunT P B Q (.node fun _ _ => .node fun _ _ => T) s g (hr ++ hp)
  | done {k : Nat} {s s' : Nat} {g : Goroutine} {hr hp : Hp} {v z : Value} (hs : g.status = .running) (e : ∀ w, Sat B (hr ++ hp) w → stepG P false g w = .comm g #[scase Q.done v z] true .send w #[]) (hc : Q.done ∈ Q.chans) (m : Q.Msg Q.done v hp s s')
      (q : QuitsIn P k (Conc.served g undef)) : CRunT P B Q (.node fun _ _ => .node fun _ _ => .ofNat k) s g (hr ++ hp)
inductive CRun (P : Program) (B : Array Obj) (Q : Pro) : Nat → Goroutine → Hp → Prop
  | step {s : Nat} {g : Goroutine} {h : Hp} (K' : Goroutine → Hp → Prop) (st : LStep P B false g h K') (n : ∀ g' h', K' g' h' → CRun P B Q s g' h') : CRun P B Q s g h
  | weak {s : Nat} {g : Goroutine} {h h' : Hp} (k : Weak B h h') (n : CRun P B Q s g h') : CRun P B Q s g h
  | send {s s' : Nat} {g : Goroutine} {hr hp : Hp} {c : Nat} {v z : Value} (hs : g.status = .running) (e : ∀ w, Sat B (hr ++ hp) w → stepG P false g w = .comm g #[scase c v z] true .send w #[]) (hc : c ∈ Q.chans) (hd : c ≠ Q.done) (m : Q.Msg c v hp s s')
      (n : CRun P B Q s' (Conc.served g undef) hr) : CRun P B Q s g (hr ++ hp)
  | done {k : Nat} {s s' : Nat} {g : Goroutine} {hr hp : Hp} {v z : Value} (hs : g.status = .running) (e : ∀ w, Sat B (hr ++ hp) w → stepG P false g w = .comm g #[scase Q.done v z] true .send w #[]) (hc : Q.done ∈ Q.chans) (m : Q.Msg Q.done v hp s s')
      (q : QuitsIn P k (Conc.served g undef)) : CRun P B Q s g (hr ++ hp)
def Md.child (P : Program) (B : Array Obj) (Q : Pro) (s : Nat) : Md P B where
  main := false
  R := fun K g h => (∀ g' h', K g' h' → CRun P B Q s g' h') → CRun P B Q s g h
  stop := fun k c => c _ _ k
  step := fun st n c => .step _ st fun g' h' x => n g' h' x c
  bind := fun r n c => r fun g' h' k => n g' h' k c
  weak := fun k n c => .weak k (n c)
theorem CRun.tree {P : Program} {B : Array Obj} {Q : Pro} {s : Nat} {g : Goroutine} {h : Hp} (r : CRun P B Q s g h) : ∃ T, CRunT P B Q T s g h := by
  induction r with
  | done hs e hc m q => exact ⟨_, .done hs e hc m q⟩
  | @step s g h K' st _ ih =>
    have : ∃ f : Goroutine → Hp → Tr, ∀ g' h', K' g' h' → CRunT P B Q (f g' h') s g' h' := by
      classical
      refine ⟨fun g' h' => if x : K' g' h' then Classical.choose (ih g' h' x) else .leaf, fun g' h' x => ?_⟩
      simp only [x, dif_pos]
      exact Classical.choose_spec (ih g' h' x)
    obtain ⟨f, hf⟩ := this
    exact ⟨.node f, .step K' st hf⟩
  | weak k _ ih => obtain ⟨T, hT⟩ := ih; exact ⟨T, .weak k hT⟩
  | send hs e hc hd m _ ih => obtain ⟨T, hT⟩ := ih; exact ⟨_, .send hs e hc hd m hT⟩
inductive Kid (P : Program) (B : Array Obj) (Q : Pro) : Tr → Option Nat → Goroutine → Hp → Prop
  | run {T : Tr} {s : Nat} {g : Goroutine} {h : Hp} (c : CRunT P B Q T s g h) (hs : g.status = .running) : Kid P B Q T (some s) g h
  | wait {T : Tr} {s s' : Nat} {g : Goroutine} {hr hp : Hp} {c : Nat} {v z : Value} (hc : c ∈ Q.chans) (hd : c ≠ Q.done) (m : Q.Msg c v hp s s') (n : CRunT P B Q T s' (Conc.served g undef) hr) : Kid P B Q (.node fun _ _ => T) (some s) (parked g #[scase c v z] .send) (hr ++ hp)
  | waitD {k : Nat} {s s' : Nat} {g : Goroutine} {hr hp : Hp} {v z : Value} (hc : Q.done ∈ Q.chans) (m : Q.Msg Q.done v hp s s') (q : QuitsIn P k (Conc.served g undef)) : Kid P B Q (.node fun _ _ => .ofNat k) (some s) (parked g #[scase Q.done v z] .send) (hr ++ hp)
  | left {k : Nat} {g : Goroutine} (q : QuitsIn P k g) : Kid P B Q (.ofNat k) none g []
theorem CRunT.running {P : Program} {B : Array Obj} {Q : Pro} {T : Tr} {s : Nat} {g : Goroutine} {h : Hp} (c : CRunT P B Q T s g h) : g.status = .running := by
  induction c with
  | step K' s _ _ => exact s.1
  | weak k _ ih => exact ih
  | send hs => exact hs
  | done hs => exact hs
theorem _root_.Go.Conc.QuitsIn.status' {P : Program} {k : Nat} {g : Goroutine} (q : QuitsIn P k g) : g.status = .running ∨ g.status = .finished := (QuitsD.of_quitsIn q).status
theorem Kid.quiet {P : Program} {B : Array Obj} {Q : Pro} {T : Tr} {o : Option Nat} {g : Goroutine} {h : Hp} (k : Kid P B Q T o g h) : Quiet Q.chans g := by
  cases k with
  | run c hs => exact .runs hs
  | wait hc hd m n => exact .sends hc
  | waitD hc m q => exact .sends hc
  | left q => exact q.status'.elim .runs .ended
def updO (f : Nat → Option Nat) (i : Nat) (b : Option Nat) : Nat → Option Nat := fun j => if j = i then b else f j
@[simp] theorem updO_same (f : Nat → Option Nat) (i : Nat) (b : Option Nat) : updO f i b i = b := by simp [updO]
theorem updO_ne (f : Nat → Option Nat) {i j : Nat} (b : Option Nat) (e : j ≠ i) : updO f i b j = f j := by simp [updO, e]
inductive MRun (P : Program) (B : Array Obj) (K : Goroutine → Hp → Prop) : Pro → (Nat → Option Nat) → Goroutine → Hp → Prop
  | stop {Q : Pro} {F : Nat → Option Nat} {g : Goroutine} {h : Hp} (hF : ∀ i, F i = none) (k : K g h) : MRun P B K Q F g h
  | step {Q : Pro} {F : Nat → Option Nat} {g : Goroutine} {h : Hp} (K' : Goroutine → Hp → Prop) (s : LStep P B true g h K') (c : ∀ g' h', K' g' h' → MRun P B K Q F g' h') : MRun P B K Q F g h
  | weak {Q : Pro} {F : Nat → Option Nat} {g : Goroutine} {h h' : Hp} (k : Weak B h h') (c : MRun P B K Q F g h') : MRun P B K Q F g h
  | share {Q : Pro} {F : Nat → Option Nat} (Q' : Pro) {g : Goroutine} {h : Hp} (hF : ∀ i, F i = none) (c : MRun P B K Q' F g h) : MRun P B K Q F g (h ++ Q'.chans.map fun r => ⟨true, r, .chan 0 #[] false 0 0 false⟩)
  | spawn {Q : Pro} {F : Nat → Option Nat} {g g' child : Goroutine} {h h' hc : Hp} (s : Nat) (hs : g.status = .running) (hs' : g'.status = .running) (e : ∀ w, Sat B h w → stepG P true g w = .spawn g' child w #[]) (k1 : Weak B h h') (k2 : Weak B h hc) (ap : ∀ w, Sat B h w → ApH h' hc)
      (kid : CRun P B Q s child hc) (c : ∀ j, j ≠ 0 → F j = none → MRun P B K Q (updO F j (some s)) g' h') : MRun P B K Q F g h
  | recv {Q : Pro} {F : Nat → Option Nat} {g : Goroutine} {h : Hp} {cases : Array CommCase} {shape : CommShape} (hs : g.status = .running) (e : ∀ w, Sat B h w → stepG P true g w = .comm g cases true shape w #[]) (hn : ∃ i s, F i = some s)
      (cov : ∀ c ∈ Q.chans, ∃ (k : Nat) (z : Value), cases[k]? = some (rcase c z)) (only : ∀ cc ∈ cases, ∃ c z, cc = rcase c z ∧ c ∈ Q.chans) (one : ∀ (k k' : Nat) c z z', cases[k]? = some (rcase c z) → cases[k']? = some (rcase c z') → k = k')
      (c : ∀ (k : Nat) r z v hp i s s', cases[k]? = some (rcase r z) → F i = some s → Q.Msg r v hp s s' → MRun P B K Q (updO F i (if r = Q.done then none else some s')) (Conc.served g (commResult cases shape k v true)) (h ++ hp)) : MRun P B K Q F g h
theorem MRun.bind {P : Program} {B : Array Obj} {K K' : Goroutine → Hp → Prop} {Q : Pro} {F : Nat → Option Nat} {g : Goroutine} {h : Hp} (r : MRun P B K' Q F g h)
    (c : ∀ Q F g' h', (∀ i, F i = none) → K' g' h' → MRun P B K Q F g' h') : MRun P B K Q F g h := by
  induction r with
  | stop hF k => exact c _ _ _ _ hF k
  | step K'' s _ ih => exact .step K'' s ih
  | weak k _ ih => exact .weak k ih
  | share Q' hF _ ih => exact .share Q' hF ih
  | spawn s hs hs' e k1 k2 ap kid _ ih => exact .spawn s hs hs' e k1 k2 ap kid ih
  | recv hs e hn cov only one _ ih => exact .recv hs e hn cov only one ih
def Md.star (P : Program) (B : Array Obj) : Md P B where
  main := true
  R := fun K g h => ∀ (Q : Pro) (F : Nat → Option Nat), (∀ i, F i = none) → MRun P B K Q F g h
  stop := fun k _ _ hF => .stop hF k
  step := fun s n Q F hF => .step _ s fun g' h' x => n g' h' x Q F hF
  bind := fun r n Q F hF => (r Q F hF).bind fun Q F g' h' hF x => n g' h' x Q F hF
  weak := fun k n Q F hF => .weak k (n Q F hF)
def Md.at (P : Program) (B : Array Obj) (Q : Pro) (F : Nat → Option Nat) : Md P B where
  main := true
  R := fun K g h => ∀ K0, (∀ g' h', K g' h' → MRun P B K0 Q F g' h') → MRun P B K0 Q F g h
  stop := fun k _ c => c _ _ k
  step := fun s n K0 c => .step _ s fun g' h' x => n g' h' x K0 c
  bind := fun r n K0 c => r K0 fun g' h' k => n g' h' k K0 c
  weak := fun k n K0 c => .weak k (n K0 c)
theorem Md.at.to {P : Program} {B : Array Obj} {Q : Pro} {F : Nat → Option Nat} {K : Goroutine → Hp → Prop} {g : Goroutine} {h : Hp} (r : (Md.at P B Q F).R (fun g' h' => MRun P B K Q F g' h') g h) : MRun P B K Q F g h := r K fun _ _ x => x
theorem Md.at.of {P : Program} {B : Array Obj} {Q : Pro} {F : Nat → Option Nat} {K : Goroutine → Hp → Prop} {g : Goroutine} {h : Hp} (r : MRun P B K Q F g h) : (Md.at P B Q F).R (fun g' h' => MRun P B K Q F g' h') g h := (Md.at P B Q F).stop r
end Go.Lo
namespace Go.Lo
open Go.Conc
section
variable {P : Program} {B : Array Obj}
theorem RegK_runS {m : Md P B} {S : Hp} {ops : Array Oper} (hn : ∀ (x : Nat) (o : Oper), ops[x]? = some o → ∀ c : Call, o.op ≠ .defer c) {b : Frame} {ds : List Deferred} {k : List Item} {cs : List Frame} {K : Goroutine → Hp → Prop} (s : List Nat) : ∀ (r : List (Nat × Kd)) (l : List Value) (h : Hp), (∀ x ∈ r, x.2 = .free) →
    RegK m S ops r l h (fun l' h' => m.R K (Gr b l' ds (.inRegion ops s :: k) cs) h') → m.R K (Gr b l ds (.inRegion ops (r.map (·.1) ++ s) :: k) cs) h
  | [], l, h, _, t => t
  | (i, kd) :: r, l, h, hr, ⟨o, ho, t⟩ => by
    have hk : kd = .free := hr _ List.mem_cons_self
    subst hk
    refine opK_run ho (hn _ _ ho) (fun e => by rcases e with e | e <;> cases e) (opK_mono (fun l' h' t' _ => RegK_runS hn s r l' h' (fun x hx => hr x (List.mem_cons_of_mem _ hx)) t') t)
theorem stepG_oper {ops : Array Oper} {i : Nat} {rest : List Nat} {o : Oper} {b : Frame} {l : List Value} {ds : List Deferred} {k : List Item} {cs : List Frame} (ho : ops[i]? = some o) (hw : Region.wanted o (yielded ops l.toArray) = true)
    (hd : ∀ c, o.op ≠ .defer c) (main : Bool) (w : World) : stepG P main (Gr b l ds (.inRegion ops (i :: rest) :: k) cs) w = stepG.apply P true (Fr b l ds (.inRegion ops (i :: rest) :: k)) cs none (execOp (ev l) o) w := by
  have he := Fr.eval b l ds (.inRegion ops (i :: rest) :: k)
  simp only [Fr] at he
  cases hr : b.roundOf with
  | none =>
    rw [hr] at he
    simp [Gr, G, stepG, stepG.exec, stepG.oper, Frame.oper?, Fr, ho, hw, hr, he]
  | some x =>
    rw [hr] at he
    simp [Gr, G, stepG, stepG.exec, stepG.oper, Frame.oper?, Fr, ho, hw, hr]
    split
    · rename_i c _ hop
      exact absurd hop (hd c)
    · rw [he]
def Mute (P : Program) {α : Type} (s : Sem α) (a : α) : Prop := ∀ w, s.run P w = .ok a w ∧ s.events P w #[] = #[]
theorem Mute.pure {α : Type} (a : α) : Mute P (Pure.pure a : Sem α) a := fun w => ⟨rfl, by simp⟩
theorem stepG_comm {ops : Array Oper} {i : Nat} {rest : List Nat} {o : Oper} {b : Frame} {l : List Value} {ds : List Deferred} {k : List Item} {cs : List Frame} (ho : ops[i]? = some o) (hw : Region.wanted o (yielded ops l.toArray) = true)
    (hd : ∀ c, o.op ≠ .defer c) {cases : Array CommCase} {bl : Bool} {shape : CommShape} (hx : Mute P (execOp (ev l) o) (.comm cases bl shape)) (main : Bool) (w : World) :
    stepG P main (Gr b l ds (.inRegion ops (i :: rest) :: k) cs) w = .comm (Gr b l ds (.inRegion ops (i :: rest) :: k) cs) cases bl shape w #[] := by
  rw [stepG_oper ho hw hd]; obtain ⟨e2, e3⟩ := hx w
  simp [stepG.apply, e2, e3, GStep.after, Gr, G, seen]
theorem served_Gr {ops : Array Oper} {i : Nat} {rest : List Nat} {o : Oper} {b : Frame} {l : List Value} {ds : List Deferred} {k : List Item} {cs : List Frame} (ho : ops[i]? = some o) (v : Value) :
    Conc.served (Gr b l ds (.inRegion ops (i :: rest) :: k) cs) v = Gr b (put l o.dst v) ds (.inRegion ops rest :: k) cs := by
  have := Fr.finish b l ds ops i rest k v ho
  unfold Gr G Conc.served
  simp only
  rw [this]
section
variable {Q : Pro} {s s' : Nat} {ops : Array Oper} {i r : Nat} {rest : List Nat} {b : Frame} {l : List Value} {ds : List Deferred} {k : List Item} {cs : List Frame} {c x : Operand} {v : Value} {hr hp : Hp} {ty : TypeId} {pos : String} {af : Array Edge}
theorem child_send (ho : ops[i]? = some ⟨none, .send c x, ty, pos, af, none⟩) [ec : OpV l c (.chan (some r))] [ex : OpV l x v] (hc : r ∈ Q.chans) (hd : r ≠ Q.done) (m : Q.Msg r v hp s s')
    (n : CRun P B Q s' (Gr b l ds (.inRegion ops rest :: k) cs) hr) : CRun P B Q s (Gr b l ds (.inRegion ops (i :: rest) :: k) cs) (hr ++ hp) := by
  refine .send (v := v) (z := .tuple #[]) rfl (fun w _ => ?_) hc hd m (by rw [served_Gr ho]; exact n)
  exact stepG_comm ho rfl (fun c => by simp) (by simp only [execOp, ec.eq, ex.eq]; exact Mute.pure _) false w
theorem child_done {q : Nat} (ho : ops[i]? = some ⟨none, .send c x, ty, pos, af, none⟩) [ec : OpV l c (.chan (some Q.done))] [ex : OpV l x v] (hc : Q.done ∈ Q.chans) (m : Q.Msg Q.done v hp s s')
    (n : QuitsIn P q (Gr b l ds (.inRegion ops rest :: k) cs)) : CRun P B Q s (Gr b l ds (.inRegion ops (i :: rest) :: k) cs) (hr ++ hp) := by
  refine .done (v := v) (z := .tuple #[]) (k := q) rfl (fun w _ => ?_) hc m (by rw [served_Gr ho]; exact n)
  exact stepG_comm ho rfl (fun c => by simp) (by simp only [execOp, ec.eq, ex.eq]; exact Mute.pure _) false w
end
def kidF (P : Program) : Frame := { (default : Frame) with fn := P.funcs.size, defers := [], mode := .panicking [goexitEntry] }
def kid0 (P : Program) (d : Deferred) : Goroutine := { frame := { (default : Frame) with fn := P.funcs.size, defers := [d], mode := .panicking [goexitEntry] }, callers := [], status := .running, dying := none }
theorem quits_child {b : Frame} {l : List Value} {ops : Array Oper} {fn : Func} (hk : b.kind = .deferred) (hr : b.roundOf = none) (hf : P.funcs[b.fn]? = some fn) (hres : fn.results = #[]) (hcat : (kidF P).catches P = false) : QuitsIn P 4 (Gr b l [] [.inRegion ops []] [kidF P]) := by
  refine .inr ⟨rfl, Gr b l [] [] [kidF P], fun w => by simp [Gr, Fr, G, stepG, stepG.exec], ?_⟩
  refine .inr ⟨rfl, Gret b l [] [] [kidF P], fun w => by simp [Gr, Gret, Fr, G, stepG, stepG.exec, hr], ?_⟩
  refine .inr ⟨rfl, G (kidF P) [], fun w => ?_, ?_⟩
  · have h1 := results_none hres l.toArray P w
    have h2 : (results fn l.toArray).events P w #[] = #[] := by simp [results, hres]
    simp [Gret, Fr, G, stepG, unwind, doReturn, hf, h1, h2, hk, GStep.after, seen, kidF, goexitEntry]
  · refine .inr ⟨rfl, { G (kidF P) [] with status := .finished }, fun w => ?_, rfl⟩
    simp [G, stepG, unwind, kidF, goexitEntry] at hcat ⊢
    simp [hcat]
theorem kid_enter {Q : Pro} {s : Nat} {f : FuncId} {cap args : Array Value} {fn : Func} {body : Code} {n : Nat} {al l : List Value} {h : Hp} (hcall : callB P f = true) (hf : P.funcs[f]? = some fn) (hb : fn.body = some body) (hn : fn.ntmps = n) (ha : args ++ cap = al.toArray) (hl : al ++ List.replicate (n - al.length) undef = l)
    (t : CRun P B Q s (Gr { bF f with kind := .deferred } l [] [.code body] [kidF P]) h) : CRun P B Q s (kid0 P { target := .fn (.func f) cap, args := args }) h := by
  refine .step (fun g' h' => g' = Gr { bF f with kind := .deferred } l [] [.code body] [kidF P] ∧ h' = h) ⟨rfl, fun w sw => ?_⟩ (fun g' h' ⟨e1, e2⟩ => by subst e1; subst e2; exact t)
  have hrd := reads_callF (P := P) (B := B) (h := h) hcall (args ++ cap)
  obtain ⟨h1, h2⟩ := hrd w sw
  have e : Frame.enter P f (args ++ cap) .deferred = Fr { bF f with kind := .deferred } l [] [.code body] := by
    subst hl
    rw [ha]; simp [Frame.enter, hf, hb, hn, Fr, bF]
  refine ⟨_, w, seen P P.funcs.size ((callFunc f (args ++ cap)).events P w #[]), h, ?_, { Stp.refl sw with evs := fun e he => h2 e (seen_sub _ _ _ e he) }, rfl, rfl⟩
  unfold Gr
  rw [← e]; simp [kid0, G, stepG, unwind, callDeferred, invoke, h1, GStep.after, kidF]
theorem stepG_spawn {ops : Array Oper} {i : Nat} {rest : List Nat} {b : Frame} {l : List Value} {ds : List Deferred} {k : List Item} {cs : List Frame} {d : Option Tmp} {x : Operand} {ats : Array TypeId} {ty : TypeId} {pos : String} {af : Array Edge} {f : FuncId} {first cap : Array Value}
    (ho : ops[i]? = some ⟨d, .go ⟨.value x, #[], ats⟩, ty, pos, af, none⟩) [ex : OpV l x (.func (.func f) first cap)] (w : World) :
    stepG P true (Gr b l ds (.inRegion ops (i :: rest) :: k) cs) w = .spawn (Gr b (put l d undef) ds (.inRegion ops rest :: k) cs) (kid0 P { target := .fn (.func f) cap, args := first ++ #[] }) w #[] := by
  rw [stepG_oper ho rfl (fun c => by simp)]; have hm : execOp (ev l) ⟨d, .go ⟨.value x, #[], ats⟩, ty, pos, af, none⟩ = (do pure (.spawn (← Deferred.ofValue (.func (.func f) first cap) #[])) : Sem Next) := by
    simp [execOp, resolve, ex.eq]
  have hfin := Fr.finish b l ds ops i rest k undef ho
  rw [hm]; simp only [Deferred.ofValue, pure_bind]
  unfold Gr
  rw [← hfin]; simp [stepG.apply, GStep.after, seen, kid0, G, Fr]
end
theorem stepG_spawn0 {P : Program} {ops : Array Oper} {i : Nat} {rest : List Nat} {b : Frame} {l : List Value} {ds : List Deferred} {k : List Item} {cs : List Frame} {x : Operand} {ats : Array TypeId} {ty : TypeId} {pos : String} {af : Array Edge} {f : FuncId} {first cap : Array Value}
    (ho : ops[i]? = some ⟨none, .go ⟨.value x, #[], ats⟩, ty, pos, af, none⟩) [ex : OpV l x (.func (.func f) first cap)] (w : World) :
    stepG P true (Gr b l ds (.inRegion ops (i :: rest) :: k) cs) w = .spawn (Gr b l ds (.inRegion ops rest :: k) cs) (kid0 P { target := .fn (.func f) cap, args := first ++ #[] }) w #[] := stepG_spawn ho w
section
variable {P : Program} {B : Array Obj} {m : Md P B} {ops : Array Oper} {b : Frame} {l : List Value} {ds : List Deferred} {k : List Item} {cs : List Frame} {h : Hp} {K : Goroutine → Hp → Prop}
def nodef (ops : Array Oper) : Bool := ops.all fun o => match o.op with | .defer _ => false | _ => true
theorem nodef_spec (h : nodef ops = true) : ∀ (x : Nat) (o : Oper), ops[x]? = some o → ∀ c : Call, o.op ≠ .defer c := fun x o ho c e => by
  unfold nodef at h
  rw [Array.all_eq_true_iff_forall_mem] at h
  have := h o (Array.mem_of_getElem? ho)
  rw [e] at this
  cases this
theorem run_regionS {id : Nat} (r : List (Nat × Kd)) (s : List Nat) (hn : (nodef ops && r.all fun x => x.2 == .free) = true) (hr : r.map (·.1) ++ s = List.range ops.size)
    (t : RegK m [] ops r l h fun l' h' => m.R K (Gr b l' ds (.inRegion ops s :: k) cs) h') : m.R K (Gr b l ds (.code (.region id ops false) :: k) cs) h := by
  simp only [Bool.and_eq_true, List.all_eq_true, beq_iff_eq] at hn
  exact run_region_text (hr ▸ RegK_runS (nodef_spec hn.1) s r l h hn.2 t)
theorem run_restS (r : List (Nat × Kd)) (hn : (nodef ops && r.all fun x => x.2 == .free) = true) {q : List Nat} (hr : r.map (·.1) = q)
    (t : RegK m [] ops r l h fun l' h' => m.R K (Gr b l' ds k cs) h') : m.R K (Gr b l ds (.inRegion ops q :: k) cs) h := by
  simp only [Bool.and_eq_true, List.all_eq_true, beq_iff_eq] at hn
  have := RegK_runS (m := m) (b := b) (ds := ds) (k := k) (cs := cs) (K := K) (nodef_spec hn.1) [] r l h hn.2 (RegK.mono (fun l' h' x => run_region_end x) t)
  rw [List.append_nil, hr] at this
  exact this
end
def ro (h : Hp) : Hp := h.map fun c => { c with rw := false }
theorem ro_mem {h : Hp} {c : Chunk} (hc : c ∈ ro h) : c.rw = false ∧ ∃ d ∈ h, d.b = c.b ∧ d.o = c.o := by
  obtain ⟨d, hd, rfl⟩ := List.mem_map.1 hc
  exact ⟨rfl, d, hd, rfl, rfl⟩
theorem weak_ro {B : Array Obj} (h X : Hp) : Weak B (h ++ X) (ro h ++ X) := by
  refine ⟨fun w s => ⟨s.base, fun c hc => ?_, ?_⟩, fun c hc => ?_⟩
  · rcases List.mem_append.1 hc with hc | hc
    · obtain ⟨_, d, hd, e1, e2⟩ := ro_mem hc
      have := s.mem d (List.mem_append_left _ hd)
      rw [e1, e2] at this; exact this
    · exact s.mem c (List.mem_append_right _ hc)
  · have hp := List.pairwise_append.1 s.apart
    refine List.pairwise_append.2 ⟨?_, hp.2.1, fun c hc d hd hr => ?_⟩
    · unfold ro
      rw [List.pairwise_map]; exact hp.1.imp fun _ x => by simp at x
    · obtain ⟨h1, c', hc', e1, _⟩ := ro_mem hc
      rw [← e1]; exact hp.2.2 c' hc' d hd (.inr (hr.resolve_left (by rw [h1]; simp)))
  · rcases List.mem_append.1 hc with hc | hc
    · obtain ⟨h1, d, hd, e1, _⟩ := ro_mem hc
      exact ⟨d, List.mem_append_left _ hd, e1, fun x => by rw [h1] at x; cases x⟩
    · exact ⟨c, List.mem_append_right _ hc, rfl, id⟩
theorem Rd.ro {B : Array Obj} {h : Hp} {a : Addr} {v : Value} (r : Rd B h a v) : Rd B (Lo.ro h) a v := by
  obtain ⟨s, r | ⟨x, hx, c, t, f, e, e', hv⟩⟩ := r
  · exact ⟨s, .inl r⟩
  · exact ⟨s, .inr ⟨{ x with rw := false }, List.mem_map.2 ⟨x, hx, rfl⟩, c, t, f, e, e', hv⟩⟩
theorem RdS.ro {B : Array Obj} {h : Hp} {k : Nat} {v : Value} {n : Nat} {ys : List Value} (r : RdS B h k v n ys) : RdS B (Lo.ro h) k v n ys := by
  obtain ⟨p, c, e, hl, r | ⟨b, o, e', rd⟩⟩ := r
  · exact ⟨p, c, e, hl, .inl r⟩
  · exact ⟨p, c, e, hl, .inr ⟨b, o, e', fun j hj => (rd j hj).ro⟩⟩
section
variable {P : Program} {B : Array Obj} {m : Md P B} {ops : Array Oper} {l l' : List Value} {S h h' H : Hp} {C : List Value → Hp → Prop} {i : Nat} {kd : Kd} {r : List (Nat × Kd)}
  {d : Option Tmp} {ty : TypeId} {pos : String} {af : Array Edge} {g : Option (Nat × Bool)}
def chanB (P : Program) (t : TypeId) : Bool := match P.underlying t with | some (.chan _ e) => (P.info? e).isSome | _ => false
theorem k_mkchan {t : TypeId} {x : Operand} (hk : kd = .free ∨ (kd = .keep ∧ S.Sublist h)) (ho : ops[i]? = some ⟨d, .makeChan t x, ty, pos, af, g⟩) (hw : Wt ops l g) (hcb : chanB P t = true) [ex : OpV l x (.int .i64 0)]
    (n : ∀ q, RegK m S ops r (put l d (.chan (some q))) (h ++ [⟨true, q, .chan 0 #[] false 0 0 false⟩]) C) : RegK m S ops ((i, kd) :: r) l h C := by
  obtain ⟨dir, e, inf, ht, hi⟩ : ∃ dir e inf, P.underlying t = some (.chan dir e) ∧ P.info? e = some inf := by
    unfold chanB at hcb
    split at hcb
    · rename_i dir e he
      obtain ⟨inf, hi⟩ := Option.isSome_iff_exists.1 hcb
      exact ⟨dir, e, inf, he, hi⟩
    · cases hcb
  refine RegK.ke (hk.symm.imp (·.1) id) ho hw ?_
  simp only [execOp, ex.eq]
  refine Tri.bind ?_
  unfold Instr.makeChan
  refine Tri.bind (Tri.pure (a := (0 : Int)) ?_)
  refine Tri.bind ((still_und ht).reads.tri ?_)
  dsimp only
  refine Tri.bind (Reads.tri (a := inf) (Reads.bind Reads.program' (by simp only [hi]; exact Reads.pure _)) ?_)
  rw [if_neg (by simp [IntKind.max, IntKind.bits, IntKind.signed])]; exact Tri.bind (tri_new fun q _ _ => Tri.pure (Tri.pure ⟨hk.imp (fun e => e) fun x => x.2.trans (List.sublist_append_left _ _), n q⟩))
theorem mrun_loop {K : Goroutine → Hp → Prop} {Q : Pro} {b : Frame} {ds : List Deferred} {k : List Item} {cs : List Frame} {c : Code} (I : Nat → (Nat → Option Nat) → List Value → Hp → Prop) (n : Nat) (F : Nat → Option Nat) (h0 : I n F l h)
    (round : ∀ n F l h, I n F l h → (∀ n' F' l' h', n' < n → I n' F' l' h' → MRun P B K Q F' (Gr b l' ds (.inLoop c :: k) cs) h') → MRun P B K Q F (Gr b l ds (.code c :: .inLoop c :: k) cs) h) :
    MRun P B K Q F (Gr b l ds (.code (.loop c) :: k) cs) h := by
  have key : ∀ n F l h, I n F l h → MRun P B K Q F (Gr b l ds (.inLoop c :: k) cs) h := by
    intro n
    induction n using Nat.strongRecOn with
    | _ n ih => exact fun F l h hi => Md.at.to (run_inLoop (Md.at.of (round n F l h hi fun n' F' l' h' hn hi' => ih n' hn F' l' h' hi')))
  exact Md.at.to (run_loop' (Md.at.of (round n F l h h0 fun n' F' l' h' _ hi => key n' F' l' h' hi)))
theorem Mute.bind {α β : Type} {s : Sem α} {f : α → Sem β} {a : α} {b : β} (h1 : Mute P s a) (h2 : Mute P (f a) b) : Mute P (s >>= f) b := fun w => by
  obtain ⟨r, e⟩ := h1 w
  obtain ⟨r', e'⟩ := h2 w
  refine ⟨by rw [Sem.run_bind, r]; exact r', ?_⟩
  rw [Sem.events_bind, r]; simp only [Result.evThen_ok, e]
  exact e'
theorem Mute.program : Mute P Go.program P := fun w => ⟨by simp [Go.program, Sem.run], by simp⟩
theorem Mute.zero {t : TypeId} {v : Value} [z : ZeroT P t v] : Mute P (zeroValue t) v := by
  have := z.eq
  cases e : P.info? t with
  | none => rw [e] at this; cases this
  | some i =>
    rw [e] at this
    simp only [Option.bind_some] at this
    unfold zeroValue typeInfo
    refine Mute.bind (a := i) (Mute.bind Mute.program ?_) ?_
    · simp only [e]; exact Mute.pure _
    · simp only [this]; exact Mute.pure _
theorem mute_select2 {o : Oper} {c1 c2 : Operand} {t1 t2 : TypeId} {z1 z2 : Value} {r1 r2 : Nat} (ho : o.op = .select #[⟨c1, none, t1⟩, ⟨c2, none, t2⟩] true) [x1 : OpV l c1 (.chan (some r1))] [x2 : OpV l c2 (.chan (some r2))] [ZeroT P t1 z1] [ZeroT P t2 z2] :
    Mute P (execOp (ev l) o) (.comm #[rcase r1 z1, rcase r2 z2] true .select) := by
  obtain ⟨d, op, ty, pos, af, g⟩ := o
  simp only at ho
  subst ho
  simp only [execOp]
  refine Mute.bind (a := #[rcase r1 z1, rcase r2 z2]) ?_ (Mute.pure _)
  simp only [Array.mapM_eq_mapM_toList, List.mapM_cons, List.mapM_nil, bind_assoc, pure_bind, map_bind, map_pure]
  refine Mute.bind Mute.zero (Mute.bind Mute.zero ?_)
  simp only [x1.eq, x2.eq, rcase, Option.map_none]
  exact Mute.pure _
end
theorem served_Gr' {ops : Array Oper} {i : Nat} {rest : List Nat} {d : Option Tmp} {op : Op} {ty : TypeId} {pos : String} {af : Array Edge} {g : Option (Nat × Bool)} {b : Frame} {l : List Value} {ds : List Deferred} {k : List Item} {cs : List Frame} (ho : ops[i]? = some ⟨d, op, ty, pos, af, g⟩) (v : Value) :
    Conc.served (Gr b l ds (.inRegion ops (i :: rest) :: k) cs) v = Gr b (put l d v) ds (.inRegion ops rest :: k) cs := served_Gr ho v
theorem comm_sel0 {r d : Nat} {z1 z2 v : Value} : commResult #[rcase r z1, rcase d z2] .select ((0 : Nat) : Int) v true = .tuple [.int .i64 0, .bool true, v, z2].toArray := by
  simp [commResult, rcase, Array.zipIdx, goInt]
theorem comm_sel1 {r d : Nat} {z1 z2 v : Value} : commResult #[rcase r z1, rcase d z2] .select ((1 : Nat) : Int) v true = .tuple [.int .i64 1, .bool true, z1, v].toArray := by
  simp [commResult, rcase, Array.zipIdx, goInt]
theorem Md.child.to {P : Program} {B : Array Obj} {Q : Pro} {s : Nat} {g : Goroutine} {h : Hp} (r : (Md.child P B Q s).R (CRun P B Q s) g h) : CRun P B Q s g h := r fun _ _ x => x
theorem Md.child.of {P : Program} {B : Array Obj} {Q : Pro} {s : Nat} {g : Goroutine} {h : Hp} (r : CRun P B Q s g h) : (Md.child P B Q s).R (CRun P B Q s) g h := (Md.child P B Q s).stop r
end Go.Lo
namespace Go.Proofs
open Go.Lo
open Go.Conc (G)
set_option maxRecDepth 100000
set_option synthInstance.maxSize 100000
set_option synthInstance.maxHeartbeats 1000000
set_option maxHeartbeats 4000000
variable {B : Array Obj}
variable [Laid B]
def onlyB (b : Bk) (mm : Nat) : Bk := { b with rules := keptR b.rules mm b.rules.length }
theorem keptR_mem {rules : List Ru} {mm k : Nat} (hk : k ≤ rules.length) {r : Ru} (h : r ∈ keptR rules mm k) : r ∈ rules := by
  obtain ⟨i, hi, rfl⟩ := List.mem_map.1 h
  have := List.mem_range.1 (List.mem_filter.1 hi).1
  exact mem_getDR.2 ⟨i, by omega, rfl⟩
theorem onlyB_valid {b : Bk} (hv : Valid b) (mm : Nat) : Valid (onlyB b mm) := ⟨hv.bend, hv.twist, hv.turns, hv.many, hv.marks, Nat.le_trans (keptR_le _ _ _) hv.few, fun r hr => hv.rules r (keptR_mem (Nat.le_refl _) hr)⟩
def foulM (b : Bk) (mm : Nat) : Prop := boatsOf (onlyB b mm) = []
instance (b : Bk) (mm : Nat) : Decidable (foulM b mm) := by unfold foulM; infer_instance
def clashQ (b : Bk) (cf cd : Nat) : Pro := ⟨[cf, cd], cd, fun c v hp s s' => (c = cf ∧ ∃ mm, s = 2 * mm ∧ s' = 2 * mm + 1 ∧ foulM b mm ∧ OwnS 3 1 v (keptI mm b.rules.length).length (ints (keptI mm b.rules.length)) hp) ∨
  (c = cd ∧ v = .bool true ∧ hp = [] ∧ ((∃ mm, s = 2 * mm ∧ ¬ foulM b mm) ∨ ∃ mm, s = 2 * mm + 1))⟩
theorem callB131 : callB Tryz.prog 131 = true := by kernel_rfl
theorem kidF_catches : (kidF Tryz.prog).catches Tryz.prog = false := by kernel_rfl
theorem kid131 {hb : Hp} {b : Bk} {pm : Option Addr} {nm cm : Nat} {pr : Option Addr} {nr cr : Nat} (rdm : RdS B hb 2 (.slice pm nm cm) nm (encs b.marks)) (rdr : RdS B hb 4 (.slice pr nr cr) nr (encs b.rules)) (hv : Valid b) {cf cd q5 q8 q9 q10 mm : Nat} (hne : cf ≠ cd) (hmm : mm < 16) : CRun Tryz.prog B (clashQ b cf cd) (2 * mm) (kid0 Tryz.prog { target := .fn (.func 131) [.pointer (some ⟨q5, 0, none⟩), .pointer (some ⟨q10, 0, none⟩), .pointer (some ⟨q8, 0, none⟩), .pointer (some ⟨q9, 0, none⟩)].toArray, args := #[] ++ #[] }) (hb ++ [⟨false, q5, .cells (bkL b pm nm cm pr nr cr).toArray 109 (0, 0)⟩, ⟨false, q8, .cells [.chan (some cf)].toArray 142 (0, 0)⟩, ⟨false, q9, .cells [.chan (some cd)].toArray 143 (0, 0)⟩, ⟨true, q10, .cells [.int .i64 (mm : Int)].toArray 3 (0, 0)⟩]) := by
  have hml := rdm.elen (by decide)
  have hrl := rdr.elen (by decide)
  have hvm := hv.many
  have hr4 : nr ≤ 4 := by have := hv.few; omega
  refine kid_enter (al := [.pointer (some ⟨q5, 0, none⟩), .pointer (some ⟨q10, 0, none⟩), .pointer (some ⟨q8, 0, none⟩), .pointer (some ⟨q9, 0, none⟩)]) (l := (.pointer (some ⟨q5, 0, none⟩)) :: (.pointer (some ⟨q10, 0, none⟩)) :: (.pointer (some ⟨q8, 0, none⟩)) :: (.pointer (some ⟨q9, 0, none⟩)) :: uu15) callB131 Tryz.func131 rfl rfl rfl rfl ?_
  refine Md.child.to ?_
  refine run_seq ?_; refine rs9 (by kernel_rfl) ?_; refine k_ldA rfl zq ?_; refine k_ldh rfl zq ?_; refine k_cal rfl zq (by kernel_rfl) (f130_c _ _ rdr.up hr4 hmm) ?_; rintro v h' ⟨nI, nR, rfl, p, c, w, rfl, hrr, hoI⟩; refine k_put ?_; obtain ⟨ip, ic, rfl, hic, rI⟩ := own_rdA (B := B) hoI
  refine mq rfl ?_; refine k_ext0 rfl zq ?_; refine k_ext1 rfl zq ?_; refine k_new rfl zq (fun q4 => k_hp (k_put ?_)); refine k_stA rfl zq rfl ?_; refine aq rfl ?_; refine rs4 (by kernel_rfl) ?_; have hvo := onlyB_valid hv mm
  have hkl := keptR_le b.rules mm nr
  have hrr' : RdS B nR 4 (.slice p (keptR b.rules mm nr).length c) (keptR b.rules mm nr).length (encs (onlyB b mm).rules) := by rw [onlyB, hrl]; exact hrr
  refine k_ldA rfl zq ?_; refine k_calC rfl zq (by kernel_rfl) (Post := fun v nw => OwnS 112 7 v (boatsOf (onlyB b mm)).length (encs (boatsOf (onlyB b mm))) nw) (fun H' hH => f104_c _ H' (b := onlyB b mm) (rdm.keeps (sq hH)) (by omega) (hrr'.keeps (sq hH)) (by omega) hvo) ?_; rintro v nw o; obtain ⟨bp, bc, rfl, _⟩ := o.len
  refine k_hpA (k_put ?_); refine k_len rfl zq ?_; refine k_eqlS rfl zq (fun hc => ?_) (fun hc => ?_)
  · have hfoul : foulM b mm := List.length_eq_zero_iff.1 (by omega)
    refine k_nil ?_; refine run_yes ?_; refine run_regionS [(0, .free), (1, .free)] [2] (by kernel_rfl) (by kernel_rfl) ?_; refine k_ldh rfl zq ?_; refine mq rfl ?_; refine k_nil ?_; refine Md.child.of ?_
    refine CRun.weak (h' := (hb ++ [⟨false, q5, .cells (bkL b pm nm cm pr nr cr).toArray 109 (0, 0)⟩, ⟨false, q8, .cells [.chan (some cf)].toArray 142 (0, 0)⟩, ⟨false, q9, .cells [.chan (some cd)].toArray 143 (0, 0)⟩, ⟨true, q10, .cells [.int .i64 (mm : Int)].toArray 3 (0, 0)⟩]) ++ nI) weakSub ?_
    refine child_send (s' := 2 * mm + 1) rfl (by simp [clashQ]) hne (.inl ⟨rfl, mm, rfl, rfl, hfoul, by rw [hrl]; exact hoI⟩) ?_
    refine Md.child.to ?_
    refine run_region_end ?_; refine run_regionS [(0, .free)] [1] (by kernel_rfl) (by kernel_rfl) ?_; refine k_ldh rfl zq ?_; refine k_nil ?_; refine Md.child.of ?_
    refine CRun.weak (h' := [] ++ []) (Weak.sub (List.nil_sublist _)) ?_
    exact child_done (s' := 0) rfl (by simp [clashQ]) (.inr ⟨rfl, rfl, rfl, by first | exact .inl ⟨mm, rfl, hfoul⟩ | exact .inr ⟨mm, rfl⟩⟩) (quits_child rfl rfl Tryz.func131 rfl kidF_catches)
  · have hfoul : ¬ foulM b mm := fun e => hc (by rw [e]; rfl)
    refine k_nil ?_; refine run_no ?_; refine run_skip ?_; refine run_regionS [(0, .free)] [1] (by kernel_rfl) (by kernel_rfl) ?_; refine k_ldh rfl zq ?_; refine k_nil ?_; refine Md.child.of ?_
    refine CRun.weak (h' := [] ++ []) (Weak.sub (List.nil_sublist _)) ?_
    exact child_done (s' := 0) rfl (by simp [clashQ]) (.inr ⟨rfl, rfl, rfl, by first | exact .inl ⟨mm, rfl, hfoul⟩ | exact .inr ⟨mm, rfl⟩⟩) (quits_child rfl rfl Tryz.func131 rfl kidF_catches)
end Go.Proofs
