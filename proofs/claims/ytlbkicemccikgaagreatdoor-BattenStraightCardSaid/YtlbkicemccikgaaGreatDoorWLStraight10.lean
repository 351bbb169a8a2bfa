/- PROVED: the law BattenStraight (the straightest boat is a boat with as much strain as is told; no other boat has less, and none that has as much is a lesser list), on every schedule of its goroutines; its row and its tied card. Conditions: those of the row: the table of checks is as the program's text lays it. -/
import Derived.Test.YtlbkicemccikgaaGreatDoorWLStraight9
import Derived.SevenTiedAt
import Derived.LaidOnce
import Derived.Test.YtlbkicemccikgaaGreatDoorCards
import Derived.Test.YtlbkicemccikgaaGreatDoorTie
set_option linter.all false
namespace Go.Proofs
open Go.Lo
open Go.Conc (G)
set_option maxRecDepth 100000
set_option synthInstance.maxSize 100000
set_option synthInstance.maxHeartbeats 1000000
set_option maxHeartbeats 4000000
variable {B : Array Obj}
variable [Laid B]
section
variable {P : Program} {B : Array Obj} {m : Md P B} {ops : Array Oper} {l l' : List Value} {S h h' H : Hp} {C : List Value → Hp → Prop} {i : Nat} {kd : Kd} {r : List (Nat × Kd)}
  {d : Option Tmp} {ty : TypeId} {pos : String} {af : Array Edge} {g : Option (Nat × Bool)}
theorem k_neqT {t u : TypeId} {x y : Operand} {a b : Int} {k : IntKind} (ho : ops[i]? = some ⟨d, .binOp .neq t x y u, ty, pos, af, g⟩) (hw : Wt ops l g) [kh : KHeap kd S h H] [ex : OpV l x (.int k a)] [ey : OpV l y (.int k b)] (e : a ≠ b) [pt : PutV l d (.bool true) l'] (q : RegK m S ops r l' h C) : RegK m S ops ((i, kd) :: r) l h C := by
  have pq := pt; rw [← decide_eq_true e] at pq; exact k_neq (l' := l') ho hw q
theorem k_rem {t u : TypeId} {x y : Operand} {a b : Nat} (ho : ops[i]? = some ⟨d, .binOp .rem t x y u, ty, pos, af, g⟩) (hw : Wt ops l g) [KHeap kd S h H] [ex : OpV l x (.int .i64 (a : Int))] [ey : OpV l y (.int .i64 (b : Int))] (hb : 0 < b) [PutV l d (.int .i64 ((a % b : Nat) : Int)) l'] (q : RegK m S ops r l' h C) : RegK m S ops ((i, kd) :: r) l h C :=
  RegK.rd (v := .int .i64 ((a % b : Nat) : Int)) ho hw (reads_int ex.eq ey.eq (by simp) (by
    have : (b : Int) ≠ 0 := by omega
    simp only [binOp, Op.intDiv, if_neg this, Int.ofNat_tmod]
    rfl)) q
end
theorem isB_true {p : Prop} {v : Value} (h : IsB p v) (k : p) : v = .bool true := h.elim (fun x => x.2) fun x => absurd k x.1
def chosen (ll : List (List Int)) (k : Nat) : List Int := if ll = [] then [] else ll.getD (k % ll.length) []
theorem chosen_mem {ll : List (List Int)} (h : ll ≠ []) (k : Nat) : chosen ll k ∈ ll := by
  have hl := List.length_pos_iff.2 h
  have hk := Nat.mod_lt k hl
  rw [chosen, if_neg h, List.getD_eq_getElem?_getD, List.getElem?_eq_getElem hk]
  exact List.getElem_mem hk
def chosenV (ll : List (List Int)) (vs : List Value) (k : Nat) : Value := if ll = [] then .slice none 0 0 else vs.getD (k % ll.length) undef
theorem chosen_rd {B : Array Obj} {h : Hp} {ll : List (List Int)} {vs : List Value} (rde : RdE B h vs ll) (k : Nat) : RdI B h (chosenV ll vs k) (chosen ll k) := by
  unfold chosenV chosen
  split
  · exact RdI.nil
  · rename_i h0
    obtain ⟨ep, ec, ee, er⟩ := rde.2 (k % ll.length) (Nat.mod_lt _ (List.length_pos_iff.2 h0))
    exact ⟨ep, ec, ee, er⟩
theorem boat_handed {b : Bk} (h0 : bookS b = 0) {l : List Int} (h : l ∈ boatsOf b) : handedS b l = 0 ∧ boat b l ∧ l.length = b.marks.length ∧ Small 959 l := by
  have hb := (List.mem_filter.1 h)
  have hv := valid_of h0
  obtain ⟨h1, h2⟩ := line_of hb.1
  have hs := line_small hv hb.1
  refine ⟨?_, of_decide_eq_true hb.2, h1, hs⟩
  rw [handedS, if_neg (fun e => e h0), lineS, if_neg (fun e => e h1), if_pos fun x hx => ?_]
  obtain ⟨i, hi, rfl⟩ := List.getElem_of_mem hx
  have h3 := h2 i (by omega)
  have hm := marksS_zero (ms := b.marks) (by
    unfold bookS at h0
    split at h0
    · omega
    · split at h0
      · contradiction
      · rename_i h; exact Classical.not_not.1 h)
  have h4 := hm.2 (b.marks.getD i default) (by rw [List.getD_eq_getElem?_getD, List.getElem?_eq_getElem (show i < b.marks.length by omega)]; exact List.getElem_mem _)
  unfold okM at h4
  rw [List.getD_eq_getElem?_getD (l := l), List.getElem?_eq_getElem hi] at h3
  simp only [Option.getD_some] at h3
  omega
theorem f48_c (m : Md Tryz.prog B) (h : Hp) {b : Bk} {pm : Option Addr} {nm cm : Nat} {pr : Option Addr} {nr cr : Nat} (rdm : RdS B h 2 (.slice pm nm cm) nm (encs b.marks)) (rdr : RdS B h 4 (.slice pr nr cr) nr (encs b.rules)) : FnC m 48 #[bkV b pm nm cm pr nr cr] h fun v h' => h' = h ∧ IsB (nm ≤ 20 ∧ nr ≤ 20 ∧ bookS b = 0) v := by
  refine fn_enter Tryz.func48 rfl rfl (l := [bkV b pm nm cm pr nr cr, undef, undef, undef, undef, undef, undef, undef, undef, undef, undef]) rfl ?_
  intro cf cs K hK
  refine run_seq ?_
  refine rr2 (by kernel_rfl) (by kernel_rfl) ?_
  refine k_box rfl zt (fun q1 => k_hp (k_put ?_))
  refine k_as rfl zt ?_
  refine k_nil ?_
  refine run_seq ?_
  refine rr9 (by kernel_rfl) (by kernel_rfl) ?_
  refine k_ldA rfl zt ?_
  refine k_calP (Post := fun v => IsB _ v) rfl zt (by kernel_rfl) (fun H' hH => f19_c m H') ?_
  rintro v (⟨hc, rfl⟩ | ⟨hc, rfl⟩)
  · refine k_put ?_
    refine k_notT rfl zt ?_
    refine k_mv rfl zt ?_
    refine k_off rfl rfl ?_
    refine k_off rfl rfl ?_
    refine k_off rfl rfl ?_
    refine k_pickF rfl zt ?_
    refine k_as rfl zt ?_
    refine k_nil ?_
    refine run_ret rfl ?_
    refine run_res (h) rfl Tryz.func48 rfl weakSub ?_
    refine hK _ _ ?_
    first | exact ⟨rfl, IsB.yes ⟨by omega, by omega, by omega⟩⟩ | exact ⟨rfl, IsB.no (by omega)⟩
  · refine k_put ?_
    refine k_notF rfl zt ?_
    refine k_mv rfl zt ?_
    refine k_ldA rfl rfl ?_
    refine k_calP (Post := fun v => v = _) rfl rfl (by kernel_rfl) (fun H' hH => f22_c m H' (rdm.keeps (SubH.sub.trans hH)) (by omega) (rdr.keeps (SubH.sub.trans hH)) (by omega)) ?_
    rintro v rfl
    refine k_put ?_
    refine k_eqlS rfl rfl (fun hc => ?_) (fun hc => ?_)
    · refine k_pickT rfl zt ?_
      refine k_as rfl zt ?_
      refine k_nil ?_
      refine run_ret rfl ?_
      refine run_res (h) rfl Tryz.func48 rfl weakSub ?_
      refine hK _ _ ?_
      first | exact ⟨rfl, IsB.yes ⟨by omega, by omega, by omega⟩⟩ | exact ⟨rfl, IsB.no (by omega)⟩
    · refine k_pickT rfl zt ?_
      refine k_as rfl zt ?_
      refine k_nil ?_
      refine run_ret rfl ?_
      refine run_res (h) rfl Tryz.func48 rfl weakSub ?_
      refine hK _ _ ?_
      first | exact ⟨rfl, IsB.yes ⟨by omega, by omega, by omega⟩⟩ | exact ⟨rfl, IsB.no (by omega)⟩
theorem f56_c (m : Md Tryz.prog B) (h : Hp) {p : Option Addr} {c : Nat} {ll : List (List Int)} {vs : List Value} (rdv : RdS B h 1 (.slice p ll.length c) ll.length vs) (rde : RdE B h vs ll) (hle : ll.length ≤ 2187) (k : Nat) : FnC m 56 #[.slice p ll.length c, .int .i64 (k : Int)] h fun v h' => h' = h ∧ v = chosenV ll vs k := by
  refine fn_enter Tryz.func56 rfl rfl (l := [.slice p ll.length c, .int .i64 (k : Int), undef, undef, undef, undef, undef, undef, undef, undef, undef, undef, undef, undef, undef]) rfl ?_
  intro cf cs K hK
  refine run_seq ?_
  refine rr1 (by kernel_rfl) (by kernel_rfl) ?_
  refine k_as rfl zt ?_
  refine k_nil ?_
  refine run_seq ?_
  refine run_seq ?_
  refine rr3 (by kernel_rfl) (by kernel_rfl) ?_
  refine k_mv rfl zt ?_
  refine k_len rfl zt ?_
  refine k_eqlS rfl zt (fun hc => ?_) (fun hc => ?_)
  · refine k_nil ?_
    refine run_yes ?_
    refine run_seq ?_
    refine rr1 (by kernel_rfl) (by kernel_rfl) ?_
    refine k_as rfl zt ?_
    refine k_nil ?_
    refine run_ret rfl ?_
    refine run_res (h) rfl Tryz.func56 rfl weakSub ?_
    refine hK _ _ ?_
    exact ⟨rfl, by rw [chosenV, if_pos (List.length_eq_zero_iff.1 (by omega))]⟩
  · refine k_nil ?_
    refine run_no ?_
    refine run_skip ?_
    refine run_seq ?_
    refine rr8 (by kernel_rfl) (by kernel_rfl) ?_
    refine k_mv rfl zt ?_
    refine k_mv rfl zt ?_
    refine k_mv rfl zt ?_
    refine k_len rfl zt ?_
    refine k_rem (a := k) (b := ll.length) rfl zt (by omega) ?_
    have hlt : k % ll.length < ll.length := Nat.mod_lt _ (by omega)
    obtain ⟨pb, po, rfl⟩ := rdv.ptr (by omega)
    obtain ⟨ep, ec, ee, er⟩ := rde.2 (k % ll.length) hlt
    refine k_ixs rfl zt (by first | rfl | assumption) (by omega) (by omega) ?_
    refine k_ld rfl zt (ee ▸ rdv.vat (k % ll.length) (by omega) (by omega)) ?_
    refine k_as rfl zt ?_
    refine k_nil ?_
    refine run_ret rfl ?_
    refine run_res (h) rfl Tryz.func56 rfl weakSub ?_
    refine hK _ _ ?_
    exact ⟨rfl, by rw [chosenV, if_neg (fun e => by rw [e] at hlt; simp at hlt), ee]⟩
theorem f54_c (m : Md Tryz.prog B) (h : Hp) {b : Bk} {pm : Option Addr} {nm cm : Nat} {pr : Option Addr} {nr cr : Nat} (rdm : RdS B h 2 (.slice pm nm cm) nm (encs b.marks)) (hm : nm ≤ 1000) (rdr : RdS B h 4 (.slice pr nr cr) nr (encs b.rules)) (hr : nr ≤ 1000) {p : Option Addr} {n c : Nat} {xs : List Int} (rd : RdS B h 1 (.slice p n c) n (ints xs)) (hn : n ≤ 1000) : FnC m 54 #[bkV b pm nm cm pr nr cr, .slice p n c] h fun v h' => ∃ new, h' = h ++ new ∧ ∃ w i o, v = .tuple [w, i, o].toArray ∧ RdI B new w (if handedS b xs ≠ 0 then [] else bends xs) ∧ IsB (handedS b xs = 0 ∧ boat b xs) i ∧ IsB (handedS b xs = 0) o := by
  have hxl := rd.ilen
  have hml := rdm.elen (by decide)
  refine fn_enter Tryz.func54 rfl rfl (l := [bkV b pm nm cm pr nr cr, .slice p n c, undef, undef, undef, undef, undef, undef, undef, undef, undef, undef, undef, undef, undef, undef, undef, undef, undef, undef, undef, undef, undef, undef, undef, undef, undef, undef, undef, undef, undef, undef, undef, undef, undef, undef, undef, undef, undef]) rfl ?_
  intro cf cs K hK
  refine run_seq ?_
  refine rr4 (by kernel_rfl) (by kernel_rfl) ?_
  refine k_box rfl zt (fun q2 => k_hp (k_put ?_))
  refine k_as rfl zt ?_
  refine k_as rfl zt ?_
  refine k_as rfl zt ?_
  refine k_nil ?_
  refine run_seq ?_
  refine rr8 (by kernel_rfl) (by kernel_rfl) ?_
  refine k_ldA rfl zt ?_
  refine k_mv rfl zt ?_
  refine k_calC rfl zt (by kernel_rfl) (Post := fun v new => ∃ w, v = .tuple [w, .int .i64 (handedS b xs)].toArray ∧ RdI B new w (if handedS b xs ≠ 0 then [] else bends xs)) (fun H' hH => f23_c m H' (b := b) (xs := xs) (rdm.keeps (SubH.sub.trans hH)) hm (rdr.keeps (SubH.sub.trans hH)) hr (rd.keeps (SubH.sub.trans hH)) hn) ?_
  rintro v n23 ⟨w23, rfl, p23, c23, rfl, r23⟩
  refine k_hpA (k_put ?_)
  generalize hwl : (if handedS b xs ≠ 0 then [] else bends xs) = wl at r23 ⊢
  refine k_mv rfl zt ?_
  refine k_ext0 rfl zt ?_
  refine k_ext1 rfl zt ?_
  refine k_as rfl zt ?_
  refine k_as rfl zt ?_
  refine k_nil ?_
  refine run_seq ?_
  refine rr8 (by kernel_rfl) (by kernel_rfl) ?_
  refine k_ldA rfl zt ?_
  refine k_mv rfl zt ?_
  refine k_calP (Post := fun v => ∃ w, v = .tuple [w, .int .i64 (handedS b xs)].toArray ∧ IsB (handedS b xs = 0 ∧ boat b xs) w) rfl zt (by kernel_rfl) (fun H' hH => f32_c m H' (b := b) (xs := xs) (rdm.keeps (SubH.sub.trans hH)) hm (rdr.keeps (SubH.sub.trans hH)) hr (rd.keeps (SubH.sub.trans hH)) hn) ?_
  rintro v ⟨w32, rfl, hw32⟩
  obtain ⟨t32, rfl⟩ := isB_bool hw32
  refine k_put ?_
  refine k_mv rfl zt ?_
  refine k_ext0 rfl zt ?_
  refine k_ext1 rfl zt ?_
  refine k_as rfl zt ?_
  refine k_as rfl zt ?_
  refine k_nil ?_
  refine run_seq ?_
  refine rr19 (by kernel_rfl) (by kernel_rfl) ?_
  refine k_mv rfl zt ?_
  refine k_mv rfl zt ?_
  refine k_mv rfl zt ?_
  refine k_eqlS rfl zt (fun hc => ?_) (fun hc => ?_)
  · refine k_mv rfl zt ?_
    refine k_mv rfl rfl ?_
    refine k_eqlS rfl rfl (fun hc => ?_) (fun hc => ?_)
    · refine k_pickT rfl zt ?_
      refine k_mv rfl zt ?_
      refine k_mv rfl rfl ?_
      have hlz := lineS_zero (handedS_zero (by assumption : handedS b xs = 0)).2
      have hmn := (valid_of (handedS_zero (by assumption : handedS b xs = 0)).1).many
      have hbl := bends_length xs
      have hwb : wl = bends xs := by rw [← hwl, if_neg (fun e => e (by assumption))]
      refine k_len rfl rfl ?_
      refine k_mv rfl rfl ?_
      refine k_len rfl rfl ?_
      refine k_sub rfl rfl (by unfold In64; omega) ?_
      refine k_eqlT rfl rfl (by rw [hwb]; omega) ?_
      refine k_pickT rfl zt ?_
      refine k_as rfl zt ?_
      refine k_as rfl zt ?_
      refine k_as rfl zt ?_
      refine k_nil ?_
      refine run_ret rfl ?_
      refine run_res (h ++ n23) rfl Tryz.func54 rfl weakSub ?_
      refine hK _ _ ?_
      first | exact ⟨n23, rfl, _, _, _, rfl, (by rw [hwl]; exact ⟨p23, c23, rfl, r23⟩), hw32, IsB.yes (by assumption)⟩ | exact ⟨n23, rfl, _, _, _, rfl, (by rw [hwl]; exact ⟨p23, c23, rfl, r23⟩), hw32, IsB.no (by assumption)⟩
    · exact absurd (by assumption) hc
  · refine k_mv rfl zt ?_
    refine k_off rfl rfl ?_
    refine k_off rfl rfl ?_
    refine k_pickF rfl zt ?_
    refine k_mv rfl zt ?_
    refine k_off rfl rfl ?_
    refine k_off rfl rfl ?_
    refine k_off rfl rfl ?_
    refine k_off rfl rfl ?_
    refine k_off rfl rfl ?_
    refine k_off rfl rfl ?_
    refine k_pickF rfl zt ?_
    refine k_as rfl zt ?_
    refine k_as rfl zt ?_
    refine k_as rfl zt ?_
    refine k_nil ?_
    refine run_ret rfl ?_
    refine run_res (h ++ n23) rfl Tryz.func54 rfl weakSub ?_
    refine hK _ _ ?_
    first | exact ⟨n23, rfl, _, _, _, rfl, (by rw [hwl]; exact ⟨p23, c23, rfl, r23⟩), hw32, IsB.yes (by assumption)⟩ | exact ⟨n23, rfl, _, _, _, rfl, (by rw [hwl]; exact ⟨p23, c23, rfl, r23⟩), hw32, IsB.no (by assumption)⟩
end Go.Proofs
namespace Go.Proofs
open Go.Lo
open Go.Conc (G)
set_option maxRecDepth 100000
set_option synthInstance.maxSize 100000
set_option synthInstance.maxHeartbeats 1000000
set_option maxHeartbeats 4000000
variable {B : Array Obj}
variable [Laid B]
theorem straight_facts {b : Bk} (h0 : bookS b = 0) (hb : boatsOf b ≠ []) : openS b 0 = 0 ∧ straightL b = bestBy ltStrain (boatsOf b) ∧ straightN b = strain (straightL b) ∧ straightL b ∈ boatsOf b ∧
    ∀ x ∈ boatsOf b, straightN b ≤ strain x ∧ (strain x = straightN b → before x (straightL b) = false) := by
  have ho : openS b 0 = 0 := by rw [openS, if_neg (fun e => e h0), if_neg (by omega), if_neg hb]
  have e1 : straightL b = bestBy ltStrain (boatsOf b) := by rw [straightL, if_neg (fun e => e ho)]
  have e2 : straightN b = strain (straightL b) := by rw [straightN, if_neg (fun e => e ho), e1]
  obtain ⟨a1, a2⟩ := straight_of hb
  exact ⟨ho, e1, e2, e1 ▸ a1, fun x hx => by rw [e2, e1]; exact a2 x hx⟩
theorem no_boats {b : Bk} (h0 : bookS b = 0) (hb : boatsOf b = []) : openS b 0 = 9 ∧ straightL b = [] ∧ straightN b = 0 := by
  have ho : openS b 0 = 9 := by rw [openS, if_neg (fun e => e h0), if_neg (by omega), if_pos hb]
  exact ⟨ho, by rw [straightL, if_pos (by rw [ho]; decide)], by rw [straightN, if_pos (by rw [ho]; decide)]⟩
theorem bends_bound {l : List Int} (h : Small 959 l) (k : Nat) : -3836 ≤ (bends l).getD k 0 ∧ (bends l).getD k 0 ≤ 3836 := by
  by_cases hk : k + 2 < l.length
  · rw [bends_getD _ _ hk]
    have := h k; have := h (k + 1); have := h (k + 2)
    omega
  · rw [getD_out _ _ (by rw [bends_length]; omega)]; omega
theorem f6_t (h : Hp) {b : Bk} {pm : Option Addr} {nm cm : Nat} {pr : Option Addr} {nr cr : Nat} (rdm : RdS B h 2 (.slice pm nm cm) nm (encs b.marks)) (rdr : RdS B h 4 (.slice pr nr cr) nr (encs b.rules)) {z : Nat} (hz : z ≤ 65535) : (Md.star Tryz.prog B).R (AtEnd Tryz.prog B fun v _ => v = .bool true) (G (Frame.enter Tryz.prog 6 #[bkV b pm nm cm pr nr cr, .int .u16 (z : Int)] .normal) []) h := by
  refine top_enter Tryz.func6 rfl rfl (l := [bkV b pm nm cm pr nr cr, .int .u16 (z : Int), undef, undef, undef, undef, undef, undef, undef, undef, undef, undef, undef, undef, undef, undef, undef, undef, undef, undef, undef, undef, undef, undef, undef, undef, undef, undef, undef, undef, undef, undef, undef, undef, undef, undef, undef, undef, undef, undef, undef, undef, undef, undef, undef, undef, undef, undef, undef, undef, undef, undef, undef, undef, undef, undef, undef, undef, undef, undef, undef, undef, undef, undef, undef, undef, undef, undef, undef, undef, undef, undef, undef, undef, undef, undef, undef, undef, undef, undef, undef, undef, undef, undef, undef, undef, undef, undef, undef, undef, undef, undef, undef, undef, undef, undef, undef, undef, undef, undef, undef, undef, undef, undef, undef, undef, undef, undef, undef, undef, undef, undef, undef, undef, undef, undef, undef, undef, undef, undef, undef]) rfl ?_
  refine run_seq ?_
  refine rr2 (by kernel_rfl) (by kernel_rfl) ?_
  refine k_box rfl zt (fun q2 => k_hp (k_put ?_))
  refine k_as rfl zt ?_
  refine k_nil ?_
  refine run_seq ?_
  refine run_seq ?_
  refine rr3 (by kernel_rfl) (by kernel_rfl) ?_
  refine k_ldA rfl zt ?_
  refine k_calP (Post := fun v => IsB _ v) rfl zt (by kernel_rfl) (fun H' hH => f48_c _ H' (rdm.keeps (SubH.sub.trans hH)) (rdr.keeps (SubH.sub.trans hH))) ?_
  rintro v (⟨hc, rfl⟩ | ⟨hc, rfl⟩)
  · refine k_put ?_
    refine k_notT rfl zt ?_
    refine k_nil ?_
    refine run_no ?_
    refine run_skip ?_
    refine run_seq ?_
    obtain ⟨hm20, hr20, hb0⟩ : nm ≤ 20 ∧ nr ≤ 20 ∧ bookS b = 0 := by assumption
    have hm : nm ≤ 1000 := by omega
    have hr : nr ≤ 1000 := by omega
    have hml := rdm.elen (by decide)
    have hv := valid_of hb0
    have hbl := boats_le hv
    refine rr9 (by kernel_rfl) (by kernel_rfl) ?_
    refine k_ldA rfl zt ?_
    refine k_calC rfl zt (by kernel_rfl) (Post := fun v new => ∃ w, v = .tuple [w, .int .i64 (straightN b), .int .i64 (openS b 0)].toArray ∧ RdI B new w (straightL b)) (fun H' hH => f40_c _ H' (b := b) (rdm.keeps (SubH.sub.trans hH)) hm (rdr.keeps (SubH.sub.trans hH)) hr) ?_
    rintro v n40 ⟨w40, rfl, p40, c40, rfl, r40⟩
    refine k_hpA (k_put ?_)
    refine k_mv rfl zt ?_
    refine k_ext0 rfl zt ?_
    refine k_ext1 rfl zt ?_
    refine k_ext2 rfl zt ?_
    refine k_as rfl zt ?_
    refine k_as rfl zt ?_
    refine k_as rfl zt ?_
    refine k_nil ?_
    refine run_seq ?_
    refine rr7 (by kernel_rfl) (by kernel_rfl) ?_
    refine k_ldA rfl zt ?_
    refine k_calP (Post := fun v => v = .tuple [.int .i64 ((boatsOf b).length : Int), .int .i64 0].toArray) rfl zt (by kernel_rfl) (fun H' hH => by have := f34_c (Md.star Tryz.prog B) H' (b := b) (rdm.keeps (SubH.sub.trans hH)) hm (rdr.keeps (SubH.sub.trans hH)) hr; rw [if_neg (fun e => e hb0), hb0] at this; exact this) ?_
    rintro v rfl
    refine k_put ?_
    refine k_mv rfl zt ?_
    refine k_ext0 rfl zt ?_
    refine k_ext1 rfl zt ?_
    refine k_as rfl zt ?_
    refine k_as rfl zt ?_
    refine k_nil ?_
    refine run_seq ?_
    refine run_seq ?_
    rcases Classical.em (boatsOf b = []) with hbe | hbe
    · obtain ⟨eo, el, en⟩ := no_boats hb0 hbe
      rw [eo, hbe, el, en]
      refine rr9 (by kernel_rfl) (by kernel_rfl) ?_
      refine k_mv rfl zt ?_
      refine k_neqF rfl zt rfl ?_
      refine k_mv rfl zt ?_
      refine k_mv rfl rfl ?_
      refine k_eqlT rfl rfl rfl ?_
      refine k_mv rfl rfl ?_
      refine k_eqlT rfl rfl rfl ?_
      refine k_neqBF rfl rfl (by kernel_rfl) rfl ?_
      refine k_pickF rfl zt ?_
      refine k_nil ?_
      refine run_no ?_
      refine run_skip ?_
      refine run_seq ?_
      refine run_seq ?_
      refine rr2 (by kernel_rfl) (by kernel_rfl) ?_
      refine k_mv rfl zt ?_
      refine k_neqT rfl zt (by decide) ?_
      refine k_nil ?_
      refine run_yes ?_
      refine run_seq ?_
      refine rr15 (by kernel_rfl) (by kernel_rfl) ?_
      refine k_mv rfl zt ?_
      refine k_eqlT rfl zt rfl ?_
      refine k_mv rfl zt ?_
      refine k_mv rfl rfl ?_
      refine k_len rfl rfl ?_
      refine k_eqlT rfl rfl rfl ?_
      refine k_pickT rfl zt ?_
      refine k_mv rfl zt ?_
      refine k_mv rfl rfl ?_
      refine k_eqlT rfl rfl rfl ?_
      refine k_pickT rfl zt ?_
      refine k_mv rfl zt ?_
      refine k_cal rfl rfl (by kernel_rfl) (f20_c _) ?_
      rintro v h' ⟨nF, rfl, rfl⟩
      refine k_put ?_
      refine k_pickT rfl zt ?_
      refine k_as rfl zt ?_
      refine k_nil ?_
      refine run_ret rfl ?_
      refine run_top rfl Tryz.func6 (by kernel_rfl) rfl ?_
      rfl
    · obtain ⟨eo, el, en, hgm, hbest⟩ := straight_facts hb0 hbe
      have hpos := List.length_pos_iff.2 hbe
      rw [eo]
      obtain ⟨hgh, hgb, hgl, hgs⟩ := boat_handed hb0 hgm
      generalize hgl0 : straightL b = gg at r40 hgm hgh hgb hgl hgs hbest en ⊢
      generalize hsn : straightN b = sn at hbest en ⊢
      have hmany := hv.many
      have hbl2 := bends_length gg
      have hbb := bends_bound hgs
      refine rr9 (by kernel_rfl) (by kernel_rfl) ?_
      refine k_mv rfl zt ?_
      refine k_neqF rfl zt rfl ?_
      refine k_mv rfl zt ?_
      refine k_mv rfl rfl ?_
      refine k_eqlF rfl rfl (by omega) ?_
      refine k_mv rfl rfl ?_
      refine k_eqlF rfl rfl (by decide) ?_
      refine k_neqBF rfl rfl (by kernel_rfl) rfl ?_
      refine k_pickF rfl zt ?_
      refine k_nil ?_
      refine run_no ?_
      refine run_skip ?_
      refine run_seq ?_
      refine run_seq ?_
      refine rr2 (by kernel_rfl) (by kernel_rfl) ?_
      refine k_mv rfl zt ?_
      refine k_neqF rfl zt rfl ?_
      refine k_nil ?_
      refine run_no ?_
      refine run_skip ?_
      refine run_seq ?_
      refine rr10 (by kernel_rfl) (by kernel_rfl) ?_
      refine k_ldA rfl zt ?_
      refine k_mv rfl zt ?_
      refine k_calC rfl zt (by kernel_rfl) (Post := fun v new => ∃ w i o, v = .tuple [w, i, o].toArray ∧ RdI B new w (if handedS b gg ≠ 0 then [] else bends gg) ∧ IsB (handedS b gg = 0 ∧ boat b gg) i ∧ IsB (handedS b gg = 0) o) (fun H' hH => f54_c _ H' (b := b) (xs := gg) (rdm.keeps (SubH.sub.trans hH)) hm (rdr.keeps (SubH.sub.trans hH)) hr (r40.keeps (SubH.sub.trans hH)) (by omega)) ?_
      rintro v n54 ⟨w54, i54, o54, rfl, hw54, hi54, ho54⟩
      obtain rfl := isB_true hi54 ⟨hgh, hgb⟩
      obtain rfl := isB_true ho54 hgh
      rw [if_neg (fun e => e hgh)] at hw54
      obtain ⟨p54, c54, rfl, r54⟩ := hw54
      refine k_hpA (k_put ?_)
      refine k_mv rfl zt ?_
      refine k_ext0 rfl zt ?_
      refine k_ext1 rfl zt ?_
      refine k_ext2 rfl zt ?_
      refine k_as rfl zt ?_
      refine k_as rfl zt ?_
      refine k_as rfl zt ?_
      refine k_nil ?_
      refine run_seq ?_
      refine run_seq ?_
      refine rr6 (by kernel_rfl) (by kernel_rfl) ?_
      refine k_mv rfl zt ?_
      refine k_notT rfl zt ?_
      refine k_mv rfl zt ?_
      refine k_mv rfl rfl ?_
      refine k_notT rfl rfl ?_
      refine k_pickF rfl zt ?_
      refine k_nil ?_
      refine run_no ?_
      refine run_skip ?_
      refine run_seq ?_
      refine rr1 (by kernel_rfl) (by kernel_rfl) ?_
      refine k_as rfl zt ?_
      refine k_nil ?_
      refine run_seq ?_
      refine run_seq ?_
      refine rr1 (by kernel_rfl) (by kernel_rfl) ?_
      refine k_as rfl zt ?_
      refine k_nil ?_
      refine run_block ?_
      refine run_loop (fun nn l h' => ∃ (k : Nat) (s : Int), nn = gg.length - k ∧ (k ≤ gg.length - 2) ∧ (s = sqs ((bends gg).take k)) ∧ (0 ≤ s) ∧ (s ≤ 160000000000 * k) ∧ (∃ U : Nat → Value, l = [bkV b pm nm cm pr nr cr, .int .u16 (z : Int), .pointer (some ⟨q2, 0, none⟩), U 3, U 4, .slice p40 gg.length c40, .int .i64 sn, U 7, U 8, U 9, .slice p54 (bends gg).length c54, U 11, U 12, .int .i64 s, .int .i64 (k : Int), U 15, U 16, U 17, U 18, U 19, U 20, U 21, U 22, U 23, U 24, U 25, U 26, U 27, U 28, U 29, U 30, U 31, U 32, U 33, U 34, U 35, U 36, U 37, U 38, U 39, U 40, U 41, U 42, U 43, U 44, U 45, U 46, U 47, U 48, U 49, U 50, U 51, U 52, U 53, U 54, U 55, U 56, U 57, U 58, U 59, U 60, U 61, U 62, U 63, U 64, U 65, U 66, U 67, U 68, U 69, U 70, U 71, U 72, U 73, U 74, U 75, U 76, U 77, U 78, U 79, U 80, U 81, U 82, U 83, U 84, U 85, U 86, U 87, U 88, U 89, U 90, U 91, U 92, U 93, U 94, U 95, U 96, U 97, U 98, U 99, U 100, U 101, U 102, U 103, U 104, U 105, U 106, U 107, U 108, U 109, U 110, U 111, U 112, U 113, U 114, U 115, U 116, U 117, U 118, U 119, U 120]) ∧ h ++ [⟨true, q2, .cells (bkL b pm nm cm pr nr cr).toArray 25 (0, 0)⟩] ++ n40 ++ n54 = h') _ ⟨0, 0, rfl, by omega, rfl, by omega, by omega, exU rfl, rfl⟩ ?_
      rintro nn l h' ⟨k, s, rfl, hk, hs, hs0, hs1, ⟨U, rfl⟩, rfl⟩ hnext
      have hsq := sq_bound (hbb k)
      have hbl3 := hbl2
      refine run_seq ?_
      refine run_seq ?_
      refine rr4 (by kernel_rfl) (by kernel_rfl) ?_
      refine k_mv rfl zt ?_
      refine k_mv rfl zt ?_
      refine k_len rfl zt ?_
      refine k_lssS rfl zt (fun hc => ?_) (fun hc => ?_)
      · refine k_nil ?_
        refine run_yes ?_
        refine run_skip ?_
        refine run_seq ?_
        refine run_block ?_
        refine run_draw [(0, .pure), (1, .pure), (2, .pure), (3, .pure), (5, .pure), (6, .pure), (7, .pure), (4, .read), (8, .read), (9, .pure), (10, .pure), (11, .pure)] (by kernel_rfl) (by kernel_rfl) (List.Sublist.refl _) ?_
        refine k_mv rfl zt ?_
        refine k_mv rfl zt ?_
        refine k_mv rfl zt ?_
        obtain ⟨r54_b, r54_o, rfl⟩ := r54.ptr (by omega)
        refine k_ixs rfl zt (by first | rfl | assumption) (by omega) (by omega) ?_
        refine k_mv rfl zt ?_
        refine k_mv rfl zt ?_
        refine k_ixs rfl zt (by first | rfl | assumption) (by omega) (by omega) ?_
        refine k_ld rfl zt (r54.iat k (by omega) (by omega)) ?_
        refine k_ld rfl zt (r54.iat k (by omega) (by omega)) ?_
        refine k_mul rfl zt (by unfold In64; omega) ?_
        refine k_add rfl zt (by unfold In64; omega) ?_
        refine k_as rfl zt ?_
        refine k_nil ?_
        refine run_inBlock ?_
        refine rr3 (by kernel_rfl) (by kernel_rfl) ?_
        refine k_mv rfl zt ?_
        refine k_add rfl zt (by unfold In64; omega) ?_
        refine k_as rfl zt ?_
        refine k_nil ?_
        exact hnext _ _ _ (by omega) ⟨k + 1, _, rfl, by omega, by rw [sqs_take _ _ (by omega), ← hs], by omega, by omega, exU rfl, rfl⟩
      · refine k_nil ?_
        refine run_no ?_
        refine run_exit rfl ?_
        refine run_seq ?_
        refine rr3 (by kernel_rfl) (by kernel_rfl) ?_
        refine k_ldA rfl zt ?_
        have hkk : k = gg.length - 2 := by omega
        have hss : s = sn := by rw [hs, List.take_of_length_le (by omega), en]; rfl
        refine k_calC rfl zt (by kernel_rfl) (Post := fun v new => ∃ vs, RdS B new 1 v (boatsOf b).length vs ∧ RdE B new vs (boatsOf b)) (fun H' hH => f55_c _ H' (b := b) (rdm.keeps (SubH.sub.trans hH)) hm (rdr.keeps (SubH.sub.trans hH)) hr hv) ?_
        rintro v n55 ⟨vs, ⟨pv, cv, rfl, hvl, hvr⟩, rde⟩
        have rdv : RdS B n55 1 (.slice pv (boatsOf b).length cv) (boatsOf b).length vs := ⟨pv, cv, rfl, hvl, hvr⟩
        refine k_hpA (k_put ?_)
        refine k_as rfl zt ?_
        refine k_nil ?_
        refine run_seq ?_
        refine rr5 (by kernel_rfl) (by kernel_rfl) ?_
        refine k_mv rfl zt ?_
        refine k_mv rfl zt ?_
        refine k_conv rfl zt (by kernel_rfl) (n' := (z : Int)) (by unfold IntKind.wrap; simp [IntKind.bits, IntKind.signed]; omega) ?_
        refine k_calP (Post := fun v => v = chosenV (boatsOf b) vs z) rfl zt (by kernel_rfl) (fun H' hH => f56_c _ _ (rdv.keeps (SubH.sub.trans hH)) (rde.keeps (SubH.sub.trans hH)) hbl z) ?_
        rintro v rfl
        have hco := chosen_rd rde z
        have hcm := chosen_mem hbe z
        obtain ⟨hch, _, hcl, hcs⟩ := boat_handed hb0 hcm
        obtain ⟨hst, hsb⟩ := hbest _ hcm
        generalize chosen (boatsOf b) z = oo at hco hcm hch hcl hcs hst hsb
        obtain ⟨po, co, eo2, ro⟩ := hco
        rw [eo2]
        refine k_put ?_
        refine k_as rfl zt ?_
        refine k_nil ?_
        refine run_seq ?_
        refine run_seq ?_
        refine rr8 (by kernel_rfl) (by kernel_rfl) ?_
        refine k_mv rfl zt ?_
        refine k_len rfl zt ?_
        refine k_eqlF rfl zt (by omega) ?_
        refine k_mv rfl zt ?_
        refine k_mv rfl rfl ?_
        refine k_mv rfl rfl ?_
        refine k_neqF rfl rfl (by omega) ?_
        refine k_pickF rfl zt ?_
        refine k_nil ?_
        refine run_no ?_
        refine run_skip ?_
        refine run_seq ?_
        refine rr3 (by kernel_rfl) (by kernel_rfl) ?_
        refine k_mv rfl zt ?_
        refine k_calP (Post := fun v => v = _) rfl zt (by kernel_rfl) (fun H' hH => f53_c _ H' (ro.keeps (SubH.sub.trans hH)) (by omega) (hcs.le (show 959 ≤ 100000 by omega))) ?_
        rintro v rfl
        refine k_put ?_
        refine k_as rfl zt ?_
        refine k_nil ?_
        refine run_seq ?_
        refine rr18 (by kernel_rfl) (by kernel_rfl) ?_
        refine k_mv rfl zt ?_
        refine k_mv rfl zt ?_
        refine k_gtrS rfl zt (fun hc => ?_) (fun hc => ?_)
        · refine k_mv rfl zt ?_
          refine k_off rfl rfl ?_
          refine k_off rfl rfl ?_
          refine k_off rfl rfl ?_
          refine k_off rfl rfl ?_
          refine k_off rfl rfl ?_
          refine k_off rfl rfl ?_
          refine k_off rfl rfl ?_
          refine k_off rfl rfl ?_
          refine k_off rfl rfl ?_
          refine k_pickT rfl zt ?_
          refine k_mv rfl zt ?_
          refine k_cal rfl rfl (by kernel_rfl) (f20_c _) ?_
          rintro v h' ⟨nF, rfl, rfl⟩
          refine k_put ?_
          refine k_pickT rfl zt ?_
          refine k_as rfl zt ?_
          refine k_nil ?_
          refine run_ret rfl ?_
          refine run_top rfl Tryz.func6 (by kernel_rfl) rfl ?_
          rfl
        · refine k_mv rfl zt ?_
          refine k_mv rfl rfl ?_
          refine k_mv rfl rfl ?_
          refine k_eqlT rfl rfl (by omega) ?_
          refine k_mv rfl rfl ?_
          refine k_mv rfl rfl ?_
          refine k_mv rfl rfl ?_
          refine k_calP (Post := fun v => IsB _ v) rfl rfl (by kernel_rfl) (fun H' hH => f57_c _ H' (ro.keeps (SubH.sub.trans hH)) (by omega) (r40.keeps (SubH.sub.trans hH))) ?_
          rintro v (⟨hc, rfl⟩ | ⟨hc, rfl⟩)
          · refine k_put ?_
            rw [hsb (by omega)] at hc; cases hc
          · refine k_put ?_
            refine k_notF rfl rfl ?_
            refine k_pickT rfl rfl ?_
            refine k_pickF rfl zt ?_
            refine k_mv rfl zt ?_
            refine k_cal rfl rfl (by kernel_rfl) (f20_c _) ?_
            rintro v h' ⟨nF, rfl, rfl⟩
            refine k_put ?_
            refine k_pickT rfl zt ?_
            refine k_as rfl zt ?_
            refine k_nil ?_
            refine run_ret rfl ?_
            refine run_top rfl Tryz.func6 (by kernel_rfl) rfl ?_
            rfl
  · refine k_put ?_
    refine k_notF rfl zt ?_
    refine k_nil ?_
    refine run_yes ?_
    refine run_seq ?_
    refine rr2 (by kernel_rfl) (by kernel_rfl) ?_
    refine k_cal rfl zt (by kernel_rfl) (f20_c _) ?_
    rintro v h' ⟨nF, rfl, rfl⟩
    refine k_put ?_
    refine k_as rfl zt ?_
    refine k_nil ?_
    refine run_ret rfl ?_
    refine run_top rfl Tryz.func6 (by kernel_rfl) rfl ?_
    rfl
end Go.Proofs
namespace Go.Lo
set_option maxRecDepth 100000
section
variable {H : Type} {enc : TypeId × Value → H} {P : Program} {w : World} {base : Nat} {sp : Nat → Bool} {held : Bool}
theorem slice_open {kd : IntKind} {t e : TypeId} {k fuel : Nat} {cs : List Value} {x : DataW H × List MemPlace} (hu : P.underlying t = some (.slice e)) (hB : intsB P kd 3 e k = true) (h : DataW.trod enc P w base sp held fuel t cs = some x) (hs : ∀ a n c, cs = [.slice (some a) n c] → a.spot = none) :
    ∃ (p : Option Addr) (n c : Nat) (zs : List Int), cs = [.slice p n c] ∧ n ≤ c ∧ zs.length = n * k ∧ RdS w.heap [] k (.slice p n c) n (zs.map (Value.int kd)) ∧ ∀ z ∈ zs, (Lit.int kd z).wf = true := by
  rcases Deep.open_slice hu h with ⟨rfl, _⟩ | ⟨a, len, cap, m, n, D, Pl, rfl, hb, hl, hm, hmm, _, hx⟩
  · exact ⟨none, 0, 0, [], rfl, Nat.le_refl _, by simp, ⟨none, 0, rfl, by simp, .inl ⟨rfl, rfl⟩⟩, fun z hz => by simp at hz⟩
  · have hlm : len ≤ m := by rw [hmm]; split <;> omega
    have hc : P.cellsOf e = k := intsB_size hB
    obtain ⟨ab, ao, sx⟩ := a
    obtain rfl : sx = none := hs _ _ _ rfl
    obtain ⟨V, hV⟩ := Deep.choose_lt (α := Int) (n := len * k) (p := fun q z => w.cell? ⟨ab, ao + q, none⟩ = some (.int kd z) ∧ (Lit.int kd z).wf = true) (fun q hq => by
      have hk : 0 < k := by rcases Nat.eq_zero_or_pos k with e0 | e0; subst e0; simp at hq; exact e0
      have hi : q / k < len := Nat.div_lt_of_lt_mul (by rw [Nat.mul_comm]; exact hq)
      obtain ⟨cs', h1, h2⟩ := hx (q / k) (by omega)
      obtain ⟨_, hlen, hcell⟩ := World.cells?_some h1
      obtain ⟨_, hall⟩ := trod_cells 3 hB h2
      obtain ⟨z, hz, hw⟩ := hall (q % k) (Nat.mod_lt _ hk)
      refine ⟨z, ?_, hw⟩
      have := hcell (q % k) (by rw [hc]; exact Nat.mod_lt _ hk)
      rw [hz, Addr.add_none, Addr.add_none, hc] at this
      rw [← this]
      have e := Nat.div_add_mod q k
      have e2 : q / k * k = k * (q / k) := Nat.mul_comm _ _
      congr 2; omega)
    refine ⟨some ⟨ab, ao, none⟩, len, cap, (List.range (len * k)).map V, rfl, hl, by simp, ⟨_, cap, rfl, by simp, .inr ⟨ab, ao, rfl, fun j hj => ?_⟩⟩, fun z hz => ?_⟩
    · have hj' : j < len * k := by simpa using hj
      have : (((List.range (len * k)).map V).map (Value.int kd)).getD j undef = .int kd (V j) := by
        rw [List.getD_eq_getElem?_getD, List.getElem?_map, List.getElem?_map, List.getElem?_range hj']; rfl
      rw [this]
      exact rd_of_cell (hV j hj').1
    · obtain ⟨q, hq, rfl⟩ := List.mem_map.1 hz
      exact (hV q (List.mem_range.1 hq)).2
theorem spot_of {r : Reach} {b0 : Nat} {t e : TypeId} {v : Value} (hu : P.underlying t = some (.slice e)) (h : Cell.okWide P w r b0 t v) : ∀ a n c, [v] = [.slice (some a) n c] → a.spot = none := fun a n c e1 => by
  obtain rfl := List.head_eq_of_cons_eq e1
  unfold Cell.okWide at h
  rw [hu] at h
  simp only [Cell.ok, hu] at h
  exact h.2.2.2.1
end
def spsOf : List Int → List Sp
  | a :: b :: r => ⟨a, b⟩ :: spsOf r
  | _ => []
theorem spsOf_enc : ∀ (n : Nat) (zs : List Int), zs.length = n * 2 → encs (spsOf zs) = ints zs
  | 0, zs, h => by
    obtain rfl := List.length_eq_zero_iff.1 (by simpa using h)
    rfl
  | n + 1, a :: b :: r, h => by
    have := spsOf_enc n r (by simp only [List.length_cons] at h; omega)
    simp only [spsOf, encs, this]
    rfl
  | n + 1, [], h => by simp at h
  | n + 1, [a], h => by simp at h; omega
def rusOf : List Int → List Ru
  | a :: b :: c :: d :: r => ⟨a, b, c, d⟩ :: rusOf r
  | _ => []
theorem rusOf_enc : ∀ (n : Nat) (zs : List Int), zs.length = n * 4 → encs (rusOf zs) = ints zs
  | 0, zs, h => by
    obtain rfl := List.length_eq_zero_iff.1 (by simpa using h)
    rfl
  | n + 1, a :: b :: c :: d :: r, h => by
    have := rusOf_enc n r (by simp only [List.length_cons] at h; omega)
    simp only [rusOf, encs, this]
    rfl
  | n + 1, [], h => by simp at h
  | n + 1, [a], h => by simp at h; omega
  | n + 1, [a, b], h => by simp at h; omega
  | n + 1, [a, b, c], h => by simp at h; omega
end Go.Lo
namespace Go.Proofs
open Go.Lo
set_option maxRecDepth 100000
section
variable {H : Type} {enc : TypeId × Value → H} {w : World} {sp : Nat → Bool} {held : Bool}
theorem int_arg {r : Reach} {b0 : Nat} {t : TypeId} {kd : IntKind} {v : Value} {d : DataW H} {ps : List MemPlace} (ht : Tryz.prog.underlying t = some (.int kd)) (hv : Value.okWide Tryz.prog w r b0 t v) (h : DataW.Trod enc Tryz.prog w 0 sp held t v d ps) :
    ∃ n, v = .int kd n ∧ (Lit.int kd n).wf = true := by
  obtain ⟨n, e, _, _, hw⟩ := ChangeShapes.open_int ht hv h
  exact ⟨n, e, hw⟩
theorem nat_arg {n M : Int} {kd : IntKind} {v : Value} (e : v = .int kd n ∧ (Lit.int kd n).wf = true) (h : (Lit.int kd n).wf = true → 0 ≤ n ∧ n ≤ M) : ∃ z : Nat, v = .int kd (z : Int) ∧ (z : Int) ≤ M := by
  obtain ⟨h0, h1⟩ := h e.2
  exact ⟨n.toNat, by rw [e.1, Int.toNat_of_nonneg h0], by rw [Int.toNat_of_nonneg h0]; exact h1⟩
theorem u16_arg {r : Reach} {b0 : Nat} {v : Value} {d : DataW H} {ps : List MemPlace} (hv : Value.okWide Tryz.prog w r b0 55 v) (h : DataW.Trod enc Tryz.prog w 0 sp held 55 v d ps) : ∃ z : Nat, v = .int .u16 (z : Int) ∧ z ≤ 65535 := by
  obtain ⟨n, e⟩ := int_arg (kd := .u16) (by kernel_rfl) hv h
  obtain ⟨z, e, hz⟩ := nat_arg (M := 65535) e (fun hw => by simp [Lit.wf, IntKind.min, IntKind.max, IntKind.signed, IntKind.bits] at hw; omega)
  exact ⟨z, e, by omega⟩
theorem book_arg {r : Reach} {b0 : Nat} {v : Value} {d : DataW H} {ps : List MemPlace} (hv : Value.okWide Tryz.prog w r b0 25 v) (h : DataW.Trod enc Tryz.prog w 0 sp held 25 v d ps) :
    ∃ b pm nm cm pr nr cr, v = bkV b pm nm cm pr nr cr ∧ nm ≤ cm ∧ nr ≤ cr ∧ RdS w.heap [] 2 (.slice pm nm cm) nm (encs b.marks) ∧ RdS w.heap [] 4 (.slice pr nr cr) nr (encs b.rules) ∧ (Lit.int .i64 b.bend).wf = true ∧ (Lit.int .i64 b.twist).wf = true ∧ (Lit.int .i64 b.turns).wf = true := by
  obtain ⟨fs, hu, hfs⟩ : ∃ fs, Tryz.prog.underlying 25 = some (.struct fs) ∧ fs.toList.map (fun f => (f.offset, f.type)) = [(0, 3), (1, 3), (2, 3), (3, 22), (4, 23)] := ⟨_, Tryz.underlying25, by kernel_rfl⟩
  have hct : Tryz.prog.cellTypes Tryz.prog.depth 25 = some [3, 3, 3, 22, 23] := by kernel_rfl
  have h3 : Tryz.prog.underlying 3 = some (.int .i64) := by kernel_rfl
  have h22 : Tryz.prog.underlying 22 = some (.slice 92) := by kernel_rfl
  have h23 : Tryz.prog.underlying 23 = some (.slice 94) := by kernel_rfl
  unfold Value.okWide at hv
  rw [hu] at hv
  obtain ⟨cs, rfl, hsz, ts, hts, _, hall⟩ := hv
  rw [hct] at hts
  obtain rfl := Option.some.inj hts
  obtain ⟨fuel, h⟩ := h
  obtain ⟨xs, m, _, _, hl, hxl, hx⟩ := DataW.trod_struct hu h
  have hl5 : cs.size = 5 := hsz.trans (by kernel_rfl)
  obtain ⟨cl⟩ := cs
  have hl5' : cl.length = 5 := hl5
  obtain ⟨c0, c1, c2, c3, c4, rfl⟩ : ∃ c0 c1 c2 c3 c4, cl = [c0, c1, c2, c3, c4] := by
    match cl, hl5' with
    | [c0, c1, c2, c3, c4], _ => exact ⟨_, _, _, _, _, rfl⟩
  obtain ⟨f0, f1, f2, f3, f4, rfl⟩ : ∃ f0 f1 f2 f3 f4, fs = #[f0, f1, f2, f3, f4] := by
    obtain ⟨fl⟩ := fs
    have hlen : fl.length = 5 := by simpa using congrArg List.length hfs
    match fl, hlen with
    | [f0, f1, f2, f3, f4], _ => exact ⟨_, _, _, _, _, rfl⟩
  simp only [List.map_cons, List.map_nil, List.cons.injEq, Prod.mk.injEq, and_true] at hfs
  obtain ⟨⟨o0, t0⟩, ⟨o1, t1⟩, ⟨o2, t2⟩, ⟨o3, t3⟩, o4, t4⟩ := hfs
  have s3 : Tryz.prog.cellsOf 3 = 1 := by kernel_rfl
  have s22 : Tryz.prog.cellsOf 22 = 1 := by kernel_rfl
  have s23 : Tryz.prog.cellsOf 23 = 1 := by kernel_rfl
  have go : ∀ i, i < 5 → ∃ y, xs[i]? = some y := fun i hi => ⟨_, List.getElem?_eq_getElem (by rw [hxl]; exact hi)⟩
  obtain ⟨y0, e0⟩ := go 0 (by omega); obtain ⟨y1, e1⟩ := go 1 (by omega); obtain ⟨y2, e2⟩ := go 2 (by omega); obtain ⟨y3, e3⟩ := go 3 (by omega); obtain ⟨y4, e4⟩ := go 4 (by omega)
  have g0 := (hx 0 f0 rfl).trans e0
  have g1 := (hx 1 f1 rfl).trans e1
  have g2 := (hx 2 f2 rfl).trans e2
  have g3 := (hx 3 f3 rfl).trans e3
  have g4 := (hx 4 f4 rfl).trans e4
  rw [t0, o0, s3] at g0
  rw [t1, o1, s3] at g1
  rw [t2, o2, s3] at g2
  rw [t3, o3, s22] at g3
  rw [t4, o4, s23] at g4
  obtain ⟨n0, q0, _, w0⟩ := DataW.trod_int h3 g0
  obtain ⟨n1, q1, _, w1⟩ := DataW.trod_int h3 g1
  obtain ⟨n2, q2, _, w2⟩ := DataW.trod_int h3 g2
  obtain rfl := List.head_eq_of_cons_eq (show [c0] = [Value.int .i64 n0] from q0)
  obtain rfl := List.head_eq_of_cons_eq (show [c1] = [Value.int .i64 n1] from q1)
  obtain rfl := List.head_eq_of_cons_eq (show [c2] = [Value.int .i64 n2] from q2)
  obtain ⟨u3, hu3, k3⟩ := hall 3 c3 rfl
  obtain ⟨u4, hu4, k4⟩ := hall 4 c4 rfl
  obtain rfl : 22 = u3 := Option.some.inj hu3
  obtain rfl : 23 = u4 := Option.some.inj hu4
  obtain ⟨pm, nm, cm, zm, em, hcm, hzm, rdm, _⟩ := slice_open (cs := [c3]) h22 (by kernel_rfl : intsB Tryz.prog .i64 3 92 2 = true) g3 (spot_of h22 k3)
  obtain ⟨pr, nr, cr, zr, er, hcr, hzr, rdr, _⟩ := slice_open (cs := [c4]) h23 (by kernel_rfl : intsB Tryz.prog .i64 3 94 4 = true) g4 (spot_of h23 k4)
  obtain rfl := List.head_eq_of_cons_eq em
  obtain rfl := List.head_eq_of_cons_eq er
  exact ⟨⟨n0, n1, n2, spsOf zm, rusOf zr⟩, pm, nm, cm, pr, nr, cr, rfl, hcm, hcr, by rw [spsOf_enc _ _ hzm]; exact rdm, by rw [rusOf_enc _ _ hzr]; exact rdr, w0, w1, w2⟩
end
end Go.Proofs
namespace Go.Proofs.YtlbkicemccikgaaGreatDoor
open Go Go.Lo Go.ChangeShapes Go.WideShapes Go.ChangeAt Go.RowKit Go.Conc
set_option maxRecDepth 100000
theorem tied_goes_at (Lk : Looks) {p : Pinned} {s : OpenSpec} {k : StoodClaim8} {ks : List StandKind} (kinds : List LaidKind) (tests : Bool) (h : Claim7.holdsNew p (.plain s) { stood := k, kinds := ks }) (hw : k.row.wfByText s = true) :
    Claim7.holdsNew p (.plain s) { stood := k, kinds := ks, goes := true, laidByText := true, laidKinds := kinds, laidTests := tests, laidLooks := Lk } := by
  obtain ⟨_, rest⟩ := h
  exact ⟨hw, rest⟩
theorem card_of (Lk : Looks) {p : Pinned} {s : OpenSpec} {c : OpenClaim} (kinds : List LaidKind) (tests : Bool) (har : Bool × String) (lk : Bool)
    (hc : c.holds p s) (hw : c.wfByText s = true) (htie : c.laidByTextAt Lk p kinds tests)
    (hst : c.start = .entering) (hnb : c.noBlocks = false ∧ c.again = false) (hm : p.checked.prog.mainIs = some (har.1, har.2.toList)) (hn : (!har.1 && har.2.isEmpty && !lk) = false)
    (hl : ∀ f fn, p.checked.prog.funcNamed c.func = some f → p.checked.prog.funcs[f]? = some fn → lk = p.checked.prog.looks [] ∧ ∀ (j : Nat) t, fn.params[j]? = some t → p.checked.prog.wantsStandIn t = false)
    (hg : true = c.goesBy p.checked.prog) :
    Claim7.holds p (.plain s) { stood := { row := c, standIns := [], harness := har, looks := lk }, kinds := [], alts := [], goes := true, laidByText := true, laidKinds := kinds, laidTests := tests, laidLooks := Lk } := by
  have h6 : ∀ r : OpenClaim, Claim7.isSixth { stood := { row := r, standIns := [], harness := har, looks := lk }, kinds := [] } = false := fun r => by simpa [Claim7.isSixth] using hn
  exact ⟨tied_goes_at Lk kinds tests (Claim7.new_of_sixth hc har lk hst hnb hm (h6 c) hl) hw, (fun D hD => by cases hD), htie, (fun h => by cases h), hg⟩
theorem own : ownKnob Tryz.prog.godebug = none := by kernel_rfl
theorem laidOut : laidOutB Tryz.prog = true := by kernel_rfl
theorem laidOutP : laidOutB Tryz.pinned.checked.prog = true := laidOut
def laidL : List (String × DataW Unit) := [("ribband/batten.checks", Rows.laid_ribband_batten_checks)]
theorem door_met (os : Os) (args : Array Value) : laidMetH Tryz.prog laidL ((World.doorLaid Tryz.prog 14 os).forCall (fun _ _ => 0) ⟨#[], args, []⟩).memory :=
  laidMetH_of_parts3 (fuel := 8) (laidMet_nil _ _) (by kernel_rfl) (by kernel_rfl)
theorem laid_of {W : World} (h : laidMetH Tryz.prog laidL W) : Laid W.heap := by
  obtain ⟨g, t, cs, fuel, p, hg, ht, hv, hd⟩ := h.funcs (n := "ribband/batten.checks") (List.mem_cons_self ..)
  obtain rfl := Option.some.inj ((show Tryz.prog.globalNamed "ribband/batten.checks" = some 0 by kernel_rfl).symm.trans hg)
  obtain rfl := Option.some.inj ((show (Tryz.prog.globals[0]?).map (·.type) = some 107 by kernel_rfl).symm.trans ht)
  have hu : Tryz.prog.underlying 107 = some (.array 3 106) := by kernel_rfl
  have hc1 : Tryz.prog.cellsOf 106 = 1 := by kernel_rfl
  obtain ⟨ps, rs, va, h106⟩ : ∃ ps rs va, Tryz.prog.underlying 106 = some (.func ps rs va) := ⟨_, _, _, Tryz.underlying106⟩
  obtain ⟨xs, m, _, ex, hl, hxl, hx⟩ := DataW.trod_array hu hd
  have hl3 : cs.toList.length = 3 := hl.trans (by kernel_rfl)
  obtain ⟨cl⟩ := cs
  obtain ⟨c0, c1, c2, rfl⟩ : ∃ c0 c1 c2, cl = [c0, c1, c2] := by
    match cl, hl3 with
    | [c0, c1, c2], _ => exact ⟨_, _, _, rfl⟩
  obtain ⟨y0, y1, y2, rfl⟩ : ∃ y0 y1 y2, xs = [y0, y1, y2] := by
    match xs, hxl with
    | [y0, y1, y2], _ => exact ⟨_, _, _, rfl⟩
  have e2 : ∃ a b c : List UInt8, (Rows.laid_ribband_batten_checks : DataW Unit) = .iface "func table" (.agg [.iface "func" (.lit (.string a)), .iface "func" (.lit (.string b)), .iface "func" (.lit (.string c))]) ∧
      ((List.range Tryz.prog.funcs.size).filter fun f => (Tryz.prog.funcs[f]?).any (·.name.toUTF8.data.toList == a)) = [199] ∧ ((List.range Tryz.prog.funcs.size).filter fun f => (Tryz.prog.funcs[f]?).any (·.name.toUTF8.data.toList == b)) = [200] ∧
      ((List.range Tryz.prog.funcs.size).filter fun f => (Tryz.prog.funcs[f]?).any (·.name.toUTF8.data.toList == c)) = [201] ∧ a ≠ [] ∧ b ≠ [] ∧ c ≠ [] ∧
      [y0.1, y1.1, y2.1] = [.held a, .held b, .held c] := by
    refine ⟨_, _, _, rfl, by kernel_rfl, by kernel_rfl, by kernel_rfl, by simp, by simp, by simp, ?_⟩
    have := congrArg Prod.fst ex
    simp only [DataW.funcsOut] at this
    injection this with this
    exact this.symm
  obtain ⟨a, b, c, _, fa, fb, fc, na, nb, nc, e3⟩ := e2
  simp only [List.cons.injEq, and_true] at e3
  obtain ⟨z0, z1, z2⟩ := e3
  have g0 := hx 0 (by omega)
  have g1 := hx 1 (by omega)
  have g2 := hx 2 (by omega)
  rw [hc1] at g0 g1 g2
  have key : ∀ (v : Value) (y : DataW (List UInt8) × List MemPlace) (l : List UInt8) (f0 : FuncId), DataW.trod (funcToken Tryz.prog) Tryz.prog W 0 (fun _ => true) true m 106 [v] = some y → y.1 = .held l → l ≠ [] → ((List.range Tryz.prog.funcs.size).filter fun f => (Tryz.prog.funcs[f]?).any (·.name.toUTF8.data.toList == l)) = [f0] → v = .func (.func f0) #[] #[] := by
    intro v y l f0 h1 h2 h3 h4
    obtain ⟨y1, y2⟩ := y
    obtain rfl : y1 = .held l := h2
    cases l with
    | nil => exact absurd rfl h3
    | cons b0 r0 => exact func_of_trod h106 h4 h1
  obtain rfl := key c0 y0 a 199 g0 z0 na fa
  obtain rfl := key c1 y1 b 200 g1 z1 nb fb
  obtain rfl := key c2 y2 c 201 g2 z2 nc fc
  unfold World.var? at hv
  rw [hg] at hv
  simp only [Option.bind_some] at hv
  split at hv
  · rename_i cs t f hb
    obtain rfl := Option.some.inj hv
    exact ⟨t, f, hb⟩
  · cases hv
end Go.Proofs.YtlbkicemccikgaaGreatDoor
namespace Go.Proofs.YtlbkicemccikgaaGreatDoor
open Go Go.Lo Go.ChangeShapes Go.WideShapes Go.ChangeAt Go.RowKit Go.Conc
set_option maxRecDepth 100000
theorem straight_lifted (os : Os) (started : os.Started) (H : Type) (enc : TypeId × Value → H) :
    ReturnsInLeavingWide {} Tryz.checked os 6 .any (fun w args => (Rows.battenStraightSpec.pre enc Tryz.prog Tryz.f6 [] false w args ∧ laidMetH Tryz.prog laidL w) ∧ sizedMet enc Tryz.prog Tryz.f6 (OpenSpec.ofChange Rows.battenStraightSpec) false w args)
      (Rows.battenStraightSpec.post enc Tryz.prog Tryz.f6 false true false false) := by
  refine returnsInLeavingWide_of_change_and (C := Tryz.checked) (X := fun w _ => laidMetH Tryz.prog laidL w) (fun _ _ _ hh h => h.of_heap hh) own started Tryz.func6
    (ChangeSpec.witness_shaped (enc := enc) (C := Tryz.checked) (os := os) (X := fun w _ => laidMetH Tryz.prog laidL w) false (World.doorLaid Tryz.prog 14 os) #[.agg #[.int .i64 0, .int .i64 0, .int .i64 0, .slice none 0 0, .slice none 0 0], .int .u16 0] 8 rfl (World.shaped_of_RefB (by kernel_rfl) (by kernel_rfl)) (by kernel_rfl) (by kernel_rfl) (by kernel_rfl) (door_met os _)) ?_
  intro W base args ds gs before hval0 hW hL
  have hval : ∀ (j : Nat) t v, Tryz.f6.params[j]? = some t → args[j]? = some v → Value.okWide Tryz.prog W .any base t v := hval0
  have hW' := hW
  obtain ⟨p, q, hA0, hV, rfl, hfz, hnd⟩ := hW
  have hA : DataW.TrodAll enc Tryz.prog W 0 (fun _ => true) true Tryz.f6.params.toList args.toList ds p := hA0
  rw [Tryz.params6] at hA hval
  obtain ⟨v0, v1, d0, d1, p0, p1, rfl, rfl, rfl, h0, h1⟩ := trodAll_two hA
  obtain ⟨rfl, rfl⟩ := trodVars_none hV
  have hval0 := hval 0 _ v0 rfl rfl
  have hval1 := hval 1 _ v1 rfl rfl
  simp only [List.append_nil] at hW'
  have hlt0 : ∀ x ∈ p0, x.block < W.heap.size := fun x hx => hW'.lt x (by simp [hx])
  have hlt1 : ∀ x ∈ p1, x.block < W.heap.size := fun x hx => hW'.lt x (by simp [hx])
  haveI := laid_of hL
  obtain ⟨b, pm, nm, cm, pr, nr, cr, ev0, hcm, hcr, rdm, rdr, _⟩ := book_arg hval0 h0
  obtain ⟨z, ev1, hz⟩ := u16_arg hval1 h1
  have run := law_good (W := W) (f := 6) (args := #[v0, v1]) (by rw [ev0, ev1]; exact f6_t [] rdm rdr hz)
  obtain ⟨M, last, o, w', t', r1, r2, r3, r4⟩ := run
  refine ⟨M, last, o, w', t', r1, r2, r3, r4.mono fun v hF => ?_⟩
  obtain ⟨rfl, hbelow⟩ : v = .bool true ∧ RowKit.Below W.heap.size W w' := hF
  exact ⟨_, _, _, [], _, [], hW', trodAll_mk1 (shut_bool Tryz.underlying4 _), trodAll_mk2 (Below.trod laidOut (by kernel_rfl) (of_decide_eq_true (by kernel_rfl)) h0 hbelow hlt0) (Below.trod laidOut (by kernel_rfl) (of_decide_eq_true (by kernel_rfl)) h1 hbelow hlt1), rfl, hbelow.frame _, fun h => by cases h⟩
theorem straight_j1 : Tryz.pinned.checked.prog.inPlace 6 = Rows.battenStraightRow.inPlace := by kernel_rfl
theorem straight_j2 : Tryz.pinned.checked.prog.unfollowed 6 = Rows.battenStraightRow.unfollowed := by kernel_rfl
theorem straight_j3 : Tryz.pinned.checked.prog.recurses 6 = Rows.battenStraightRow.recurses := by kernel_rfl
theorem straight_j4 : Tryz.pinned.checked.prog.varsNamed 6 = Rows.battenStraightRow.named := by kernel_rfl
theorem straight_j5 : namedTie Tryz.pinned.checked.prog Rows.battenStraightRow.named Rows.battenStraightSpec.vars = true := by kernel_rfl
theorem straight_joined : joinedFacts Tryz.pinned.checked.prog 6 Tryz.f6 Rows.battenStraightSpec Rows.battenStraightRow = true := by
  unfold joinedFacts
  rw [straight_j1, straight_j2, straight_j3, straight_j4, straight_j5, laidOutP]
  kernel_rfl
theorem straight_holds : Rows.BattenStraightSaid :=
  OpenClaim.holds_of_wide_leaving 6 Tryz.f6 rfl rfl rfl rfl rfl rfl rfl ⟨rfl, rfl, rfl, rfl, rfl⟩ rfl rfl rfl rfl rfl (by kernel_rfl) Tryz.func6 straight_joined
    (of_decide_eq_true (by kernel_rfl)) (by unfold Func.isWrapper; first | (rw [if_pos (by decide +kernel)]; kernel_rfl) | (rw [if_neg (by decide +kernel)]; exact ⟨rfl, rfl⟩))
    (fun os started H enc _ => straight_lifted os started H enc)
theorem straight_card : Rows.BattenStraightCardSaid :=
  card_of .later [.funcs] true (true, "03349bc71d9aa5b6362bd449fcfd3cb52e85abaaf90408fe44bc4d9eb17cb839") false
    straight_holds (by kernel_rfl) battenStraight_row_tie rfl ⟨rfl, rfl⟩ (by kernel_rfl) rfl
    (fun f fn hf hfn => by
      obtain rfl : f = 6 := Option.some.inj ((show Tryz.prog.funcNamed "ribband/ribbandlaw02.BattenStraight" = some 6 by kernel_rfl).symm.trans hf) |>.symm
      obtain rfl : fn = Tryz.f6 := (Option.some.inj (Tryz.func6.symm.trans hfn)).symm
      exact ⟨by kernel_rfl, fun j t ht => by
        rw [Tryz.params6] at ht
        have hm := Array.mem_of_getElem? ht
        have hall : (Tryz.f6.params.toList.all fun u => !Tryz.prog.wantsStandIn u) = true := by kernel_rfl
        rw [Tryz.params6] at hall
        exact (show Tryz.prog.wantsStandIn t = false by simpa using List.all_eq_true.1 hall t (by simpa using hm))⟩)
    (by kernel_rfl)
#print axioms straight_card
end Go.Proofs.YtlbkicemccikgaaGreatDoor
