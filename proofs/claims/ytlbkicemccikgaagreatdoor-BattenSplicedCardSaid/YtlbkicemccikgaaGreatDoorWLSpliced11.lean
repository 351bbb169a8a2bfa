/- PROVED: the law BattenSpliced (a boat of a spliced batten is, as far as either batten goes, one of that batten; lines of both that meet, and are fair together, are one of the spliced one), on every schedule of its goroutines; its row and its tied card. Conditions: those of the row: the table of checks is as the program's text lays it. -/
import Derived.Test.YtlbkicemccikgaaGreatDoorWLSpliced10
set_option linter.all false
namespace Go.Proofs.YtlbkicemccikgaaGreatDoor
open Go Go.Lo Go.ChangeShapes Go.WideShapes Go.ChangeAt Go.RowKit Go.Conc
set_option maxRecDepth 100000
theorem spliced_lifted (os : Os) (started : os.Started) (H : Type) (enc : TypeId × Value → H) :
    ReturnsInLeavingWide {} Tryz.checked os 14 .any (fun w args => (Rows.battenSplicedSpec.pre enc Tryz.prog Tryz.f14 [] false w args ∧ laidMetH Tryz.prog laidL w) ∧ sizedMet enc Tryz.prog Tryz.f14 (OpenSpec.ofChange Rows.battenSplicedSpec) false w args)
      (Rows.battenSplicedSpec.post enc Tryz.prog Tryz.f14 false true false false) := by
  refine returnsInLeavingWide_of_change_and (C := Tryz.checked) (X := fun w _ => laidMetH Tryz.prog laidL w) (fun _ _ _ hh h => h.of_heap hh) own started Tryz.func14
    (ChangeSpec.witness_shaped (enc := enc) (C := Tryz.checked) (os := os) (X := fun w _ => laidMetH Tryz.prog laidL w) false (World.doorLaid Tryz.prog 14 os) #[.agg #[.int .i64 0, .int .i64 0, .int .i64 0, .slice none 0 0, .slice none 0 0], .agg #[.int .i64 0, .int .i64 0, .int .i64 0, .slice none 0 0, .slice none 0 0], .int .u8 0, .int .u8 0, .int .u8 0] 8 rfl (World.shaped_of_RefB (by kernel_rfl) (by kernel_rfl)) (by kernel_rfl) (by kernel_rfl) (by kernel_rfl) (door_met os _)) ?_
  intro W base args ds gs before hval0 hW hL
  have hval : ∀ (j : Nat) t v, Tryz.f14.params[j]? = some t → args[j]? = some v → Value.okWide Tryz.prog W .any base t v := hval0
  have hW' := hW
  obtain ⟨p, q, hA0, hV, rfl, hfz, hnd⟩ := hW
  have hA : DataW.TrodAll enc Tryz.prog W 0 (fun _ => true) true Tryz.f14.params.toList args.toList ds p := hA0
  rw [Tryz.params14] at hA hval
  obtain ⟨v0, vr0, d0, dr0, p0, q0, ea0, ed0, ep0, h0, hA0⟩ := trodAll_cons hA
  obtain ⟨v1, vr1, d1, dr1, p1, q1, ea1, ed1, ep1, h1, hA1⟩ := trodAll_cons hA0
  obtain ⟨v2, vr2, d2, dr2, p2, q2, ea2, ed2, ep2, h2, hA2⟩ := trodAll_cons hA1
  obtain ⟨v3, vr3, d3, dr3, p3, q3, ea3, ed3, ep3, h3, hA3⟩ := trodAll_cons hA2
  obtain ⟨v4, vr4, d4, dr4, p4, q4, ea4, ed4, ep4, h4, hA4⟩ := trodAll_cons hA3
  obtain ⟨ez1, ez2, ez3⟩ := trodAll_end hA4
  subst ez1 ez2 ez3
  subst ea4 ed4 ep4
  subst ea3 ed3 ep3
  subst ea2 ed2 ep2
  subst ea1 ed1 ep1
  subst ed0 ep0
  obtain rfl := Array.ext' (show args.toList = #[v0, v1, v2, v3, v4].toList from ea0)
  obtain ⟨rfl, rfl⟩ := trodVars_none hV
  have hval0 := hval 0 _ v0 rfl rfl
  have hval1 := hval 1 _ v1 rfl rfl
  have hval2 := hval 2 _ v2 rfl rfl
  have hval3 := hval 3 _ v3 rfl rfl
  have hval4 := hval 4 _ v4 rfl rfl
  have hlt0 : ∀ x ∈ p0, x.block < W.heap.size := fun x hx => hW'.lt x (by simp [hx])
  have hlt1 : ∀ x ∈ p1, x.block < W.heap.size := fun x hx => hW'.lt x (by simp [hx])
  have hlt2 : ∀ x ∈ p2, x.block < W.heap.size := fun x hx => hW'.lt x (by simp [hx])
  have hlt3 : ∀ x ∈ p3, x.block < W.heap.size := fun x hx => hW'.lt x (by simp [hx])
  have hlt4 : ∀ x ∈ p4, x.block < W.heap.size := fun x hx => hW'.lt x (by simp [hx])
  haveI := laid_of hL
  obtain ⟨b, pm, nm, cm, pr, nr, cr, ev0, hcm, hcr, rdm, rdr, _⟩ := book_arg hval0 h0
  obtain ⟨b2, pm2, nm2, cm2, pr2, nr2, cr2, ev1, hcm2, hcr2, rdm2, rdr2, _⟩ := book_arg hval1 h1
  obtain ⟨x, ev2, hx⟩ := u8_arg hval2 h2
  obtain ⟨y, ev3, hy⟩ := u8_arg hval3 h3
  obtain ⟨z, ev4, hz⟩ := u8_arg hval4 h4
  have run := law_good (W := W) (f := 14) (args := #[v0, v1, v2, v3, v4]) (by rw [ev0, ev1, ev2, ev3, ev4]; exact f14_t [] rdm hcm rdr rdm2 hcm2 rdr2 hx hy hz)
  obtain ⟨M, last, o, w', t', r1, r2, r3, r4⟩ := run
  refine ⟨M, last, o, w', t', r1, r2, r3, r4.mono fun v hF => ?_⟩
  obtain ⟨rfl, hbelow⟩ : v = .bool true ∧ RowKit.Below W.heap.size W w' := hF
  have hq : DataW.TrodAll enc Tryz.prog w' 0 (fun b => decide (b < W.heap.size)) true Tryz.f14.params.toList #[v0, v1, v2, v3, v4].toList [d0, d1, d2, d3, d4] (p0 ++ (p1 ++ (p2 ++ (p3 ++ (p4 ++ []))))) := by rw [Tryz.params14]; exact (trodAll_more (Below.trod laidOut (by kernel_rfl) (of_decide_eq_true (by kernel_rfl)) h0 hbelow hlt0) (trodAll_more (Below.trod laidOut (by kernel_rfl) (of_decide_eq_true (by kernel_rfl)) h1 hbelow hlt1) (trodAll_more (Below.trod laidOut (by kernel_rfl) (of_decide_eq_true (by kernel_rfl)) h2 hbelow hlt2) (trodAll_more (Below.trod laidOut (by kernel_rfl) (of_decide_eq_true (by kernel_rfl)) h3 hbelow hlt3) (trodAll_more (Below.trod laidOut (by kernel_rfl) (of_decide_eq_true (by kernel_rfl)) h4 hbelow hlt4) rfl)))))
  exact ⟨_, _, _, [], _, [], hW', trodAll_mk1 (shut_bool Tryz.underlying4 _), hq, rfl, hbelow.frame _, fun h => by cases h⟩
theorem spliced_j1 : Tryz.pinned.checked.prog.inPlace 14 = Rows.battenSplicedRow.inPlace := by kernel_rfl
theorem spliced_j2 : Tryz.pinned.checked.prog.unfollowed 14 = Rows.battenSplicedRow.unfollowed := by kernel_rfl
theorem spliced_j3 : Tryz.pinned.checked.prog.recurses 14 = Rows.battenSplicedRow.recurses := by kernel_rfl
theorem spliced_j4 : Tryz.pinned.checked.prog.varsNamed 14 = Rows.battenSplicedRow.named := by kernel_rfl
theorem spliced_j5 : namedTie Tryz.pinned.checked.prog Rows.battenSplicedRow.named Rows.battenSplicedSpec.vars = true := by kernel_rfl
theorem spliced_joined : joinedFacts Tryz.pinned.checked.prog 14 Tryz.f14 Rows.battenSplicedSpec Rows.battenSplicedRow = true := by
  unfold joinedFacts
  rw [spliced_j1, spliced_j2, spliced_j3, spliced_j4, spliced_j5, laidOutP]; kernel_rfl
theorem spliced_holds : Rows.BattenSplicedSaid :=
  OpenClaim.holds_of_wide_leaving 14 Tryz.f14 rfl rfl rfl rfl rfl rfl rfl ⟨rfl, rfl, rfl, rfl, rfl⟩ rfl rfl rfl rfl rfl (by kernel_rfl) Tryz.func14 spliced_joined
    (of_decide_eq_true (by kernel_rfl)) (by unfold Func.isWrapper; first | (rw [if_pos (by decide +kernel)]; kernel_rfl) | (rw [if_neg (by decide +kernel)]; exact ⟨rfl, rfl⟩))
    (fun os started H enc _ => spliced_lifted os started H enc)
theorem spliced_card : Rows.BattenSplicedCardSaid :=
  card_of .later [.funcs] true (true, "03349bc71d9aa5b6362bd449fcfd3cb52e85abaaf90408fe44bc4d9eb17cb839") false
    spliced_holds (by kernel_rfl) battenSpliced_row_tie rfl ⟨rfl, rfl⟩ (by kernel_rfl) rfl
    (fun f fn hf hfn => by
      obtain rfl : f = 14 := Option.some.inj ((show Tryz.prog.funcNamed "ribband/ribbandlaw02.BattenSpliced" = some 14 by kernel_rfl).symm.trans hf) |>.symm
      obtain rfl : fn = Tryz.f14 := (Option.some.inj (Tryz.func14.symm.trans hfn)).symm
      exact ⟨by kernel_rfl, fun j t ht => by
        rw [Tryz.params14] at ht
        have hm := Array.mem_of_getElem? ht
        have hall : (Tryz.f14.params.toList.all fun u => !Tryz.prog.wantsStandIn u) = true := by kernel_rfl
        rw [Tryz.params14] at hall
        exact (show Tryz.prog.wantsStandIn t = false by simpa using List.all_eq_true.1 hall t (by simpa using hm))⟩)
    (by kernel_rfl)
#print axioms spliced_card
end Go.Proofs.YtlbkicemccikgaaGreatDoor
