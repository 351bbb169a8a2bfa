/- PROVED: the law BattenTurned (a line that is read from its last station to the first one has the same bends, backwards, the opposite twists, backwards, and turns as often; a book that is read so has as many boats, the same heights, hollows, and least strain; as much must be moved), on every schedule of its goroutines; its row and its tied card. Conditions: those of the row: the table of checks is as the program's text lays it. -/
import Derived.Test.YtlbkicemccikgaaGreatDoorWLTurned10
set_option linter.all false
namespace Go.Proofs.YtlbkicemccikgaaGreatDoor
open Go Go.Lo Go.ChangeShapes Go.WideShapes Go.ChangeAt Go.RowKit Go.Conc
set_option maxRecDepth 100000
theorem turned_lifted (os : Os) (started : os.Started) (H : Type) (enc : TypeId × Value → H) :
    ReturnsInLeavingWide {} Tryz.checked os 9 .any (fun w args => (Rows.battenTurnedSpec.pre enc Tryz.prog Tryz.f9 [] false w args ∧ laidMetH Tryz.prog laidL w) ∧ sizedMet enc Tryz.prog Tryz.f9 (OpenSpec.ofChange Rows.battenTurnedSpec) false w args)
      (Rows.battenTurnedSpec.post enc Tryz.prog Tryz.f9 false true false false) := by
  refine returnsInLeavingWide_of_change_and (C := Tryz.checked) (X := fun w _ => laidMetH Tryz.prog laidL w) (fun _ _ _ hh h => h.of_heap hh) own started Tryz.func9
    (ChangeSpec.witness_shaped (enc := enc) (C := Tryz.checked) (os := os) (X := fun w _ => laidMetH Tryz.prog laidL w) false (World.doorLaid Tryz.prog 14 os) #[.agg #[.int .i64 0, .int .i64 0, .int .i64 0, .slice none 0 0, .slice none 0 0], .slice none 0 0, .int .u8 0] 8 rfl (World.shaped_of_RefB (by kernel_rfl) (by kernel_rfl)) (by kernel_rfl) (by kernel_rfl) (by kernel_rfl) (door_met os _)) ?_
  intro W base args ds gs before hval0 hW hL
  have hval : ∀ (j : Nat) t v, Tryz.f9.params[j]? = some t → args[j]? = some v → Value.okWide Tryz.prog W .any base t v := hval0
  have hW' := hW
  obtain ⟨p, q, hA0, hV, rfl, hfz, hnd⟩ := hW
  have hA : DataW.TrodAll enc Tryz.prog W 0 (fun _ => true) true Tryz.f9.params.toList args.toList ds p := hA0
  rw [Tryz.params9] at hA hval
  obtain ⟨v0, vr0, d0, dr0, p0, q0, ea0, ed0, ep0, h0, hA0⟩ := trodAll_cons hA
  obtain ⟨v1, vr1, d1, dr1, p1, q1, ea1, ed1, ep1, h1, hA1⟩ := trodAll_cons hA0
  obtain ⟨v2, vr2, d2, dr2, p2, q2, ea2, ed2, ep2, h2, hA2⟩ := trodAll_cons hA1
  obtain ⟨ez1, ez2, ez3⟩ := trodAll_end hA2
  subst ez1 ez2 ez3
  subst ea2 ed2 ep2
  subst ea1 ed1 ep1
  subst ed0 ep0
  obtain rfl := Array.ext' (show args.toList = #[v0, v1, v2].toList from ea0)
  obtain ⟨rfl, rfl⟩ := trodVars_none hV
  have hval0 := hval 0 _ v0 rfl rfl
  have hval1 := hval 1 _ v1 rfl rfl
  have hval2 := hval 2 _ v2 rfl rfl
  have hlt0 : ∀ x ∈ p0, x.block < W.heap.size := fun x hx => hW'.lt x (by simp [hx])
  have hlt1 : ∀ x ∈ p1, x.block < W.heap.size := fun x hx => hW'.lt x (by simp [hx])
  have hlt2 : ∀ x ∈ p2, x.block < W.heap.size := fun x hx => hW'.lt x (by simp [hx])
  haveI := laid_of hL
  obtain ⟨b, pm, nm, cm, pr, nr, cr, ev0, hcm, hcr, rdm, rdr, _⟩ := book_arg hval0 h0
  obtain ⟨pl, n, c, zs, ev1, rd, hz⟩ := picks_arg hval1 h1
  obtain ⟨x, ev2, hx⟩ := u8_arg hval2 h2
  have run := law_good (W := W) (f := 9) (args := #[v0, v1, v2]) (by rw [ev0, ev1, ev2]; exact f9_t [] rdm rdr rd hz hx)
  obtain ⟨M, last, o, w', t', r1, r2, r3, r4⟩ := run
  refine ⟨M, last, o, w', t', r1, r2, r3, r4.mono fun v hF => ?_⟩
  obtain ⟨rfl, hbelow⟩ : v = .bool true ∧ RowKit.Below W.heap.size W w' := hF
  have hq : DataW.TrodAll enc Tryz.prog w' 0 (fun b => decide (b < W.heap.size)) true Tryz.f9.params.toList #[v0, v1, v2].toList [d0, d1, d2] (p0 ++ (p1 ++ (p2 ++ []))) := by rw [Tryz.params9]; exact (trodAll_more (Below.trod laidOut (by kernel_rfl) (of_decide_eq_true (by kernel_rfl)) h0 hbelow hlt0) (trodAll_more (Below.trod laidOut (by kernel_rfl) (of_decide_eq_true (by kernel_rfl)) h1 hbelow hlt1) (trodAll_more (Below.trod laidOut (by kernel_rfl) (of_decide_eq_true (by kernel_rfl)) h2 hbelow hlt2) rfl)))
  exact ⟨_, _, _, [], _, [], hW', trodAll_mk1 (shut_bool Tryz.underlying4 _), hq, rfl, hbelow.frame _, fun h => by cases h⟩
theorem turned_j1 : Tryz.pinned.checked.prog.inPlace 9 = Rows.battenTurnedRow.inPlace := by kernel_rfl
theorem turned_j2 : Tryz.pinned.checked.prog.unfollowed 9 = Rows.battenTurnedRow.unfollowed := by kernel_rfl
theorem turned_j3 : Tryz.pinned.checked.prog.recurses 9 = Rows.battenTurnedRow.recurses := by kernel_rfl
theorem turned_j4 : Tryz.pinned.checked.prog.varsNamed 9 = Rows.battenTurnedRow.named := by kernel_rfl
theorem turned_j5 : namedTie Tryz.pinned.checked.prog Rows.battenTurnedRow.named Rows.battenTurnedSpec.vars = true := by kernel_rfl
theorem turned_joined : joinedFacts Tryz.pinned.checked.prog 9 Tryz.f9 Rows.battenTurnedSpec Rows.battenTurnedRow = true := by
  unfold joinedFacts
  rw [turned_j1, turned_j2, turned_j3, turned_j4, turned_j5, laidOutP]; kernel_rfl
theorem turned_holds : Rows.BattenTurnedSaid :=
  OpenClaim.holds_of_wide_leaving 9 Tryz.f9 rfl rfl rfl rfl rfl rfl rfl ⟨rfl, rfl, rfl, rfl, rfl⟩ rfl rfl rfl rfl rfl (by kernel_rfl) Tryz.func9 turned_joined
    (of_decide_eq_true (by kernel_rfl)) (by unfold Func.isWrapper; first | (rw [if_pos (by decide +kernel)]; kernel_rfl) | (rw [if_neg (by decide +kernel)]; exact ⟨rfl, rfl⟩))
    (fun os started H enc _ => turned_lifted os started H enc)
theorem turned_card : Rows.BattenTurnedCardSaid :=
  card_of .later [.funcs] true (true, "03349bc71d9aa5b6362bd449fcfd3cb52e85abaaf90408fe44bc4d9eb17cb839") false
    turned_holds (by kernel_rfl) battenTurned_row_tie rfl ⟨rfl, rfl⟩ (by kernel_rfl) rfl
    (fun f fn hf hfn => by
      obtain rfl : f = 9 := Option.some.inj ((show Tryz.prog.funcNamed "ribband/ribbandlaw02.BattenTurned" = some 9 by kernel_rfl).symm.trans hf) |>.symm
      obtain rfl : fn = Tryz.f9 := (Option.some.inj (Tryz.func9.symm.trans hfn)).symm
      exact ⟨by kernel_rfl, fun j t ht => by
        rw [Tryz.params9] at ht
        have hm := Array.mem_of_getElem? ht
        have hall : (Tryz.f9.params.toList.all fun u => !Tryz.prog.wantsStandIn u) = true := by kernel_rfl
        rw [Tryz.params9] at hall
        exact (show Tryz.prog.wantsStandIn t = false by simpa using List.all_eq_true.1 hall t (by simpa using hm))⟩)
    (by kernel_rfl)
#print axioms turned_card
end Go.Proofs.YtlbkicemccikgaaGreatDoor
