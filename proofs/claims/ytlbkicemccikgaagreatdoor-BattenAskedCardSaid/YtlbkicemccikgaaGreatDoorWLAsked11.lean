/- PROVED: the law BattenAsked (once the height at the station of Ask is known no more boats are left than it says, whatever the line is, and for some height just as many; no other station leaves fewer, none before it as few; none is asked for just if no station tells boats apart), on every schedule of its goroutines; its row and its tied card. Conditions: those of the row: the table of checks is as the program's text lays it. -/
import Derived.Test.YtlbkicemccikgaaGreatDoorWLAsked10
set_option linter.all false
namespace Go.Proofs.YtlbkicemccikgaaGreatDoor
open Go Go.Lo Go.ChangeShapes Go.WideShapes Go.ChangeAt Go.RowKit Go.Conc
set_option maxRecDepth 100000
theorem asked_lifted (os : Os) (started : os.Started) (H : Type) (enc : TypeId × Value → H) :
    ReturnsInLeavingWide {} Tryz.checked os 13 .any (fun w args => (Rows.battenAskedSpec.pre enc Tryz.prog Tryz.f13 [] false w args ∧ laidMetH Tryz.prog laidL w) ∧ sizedMet enc Tryz.prog Tryz.f13 (OpenSpec.ofChange Rows.battenAskedSpec) false w args)
      (Rows.battenAskedSpec.post enc Tryz.prog Tryz.f13 false true false false) := by
  refine returnsInLeavingWide_of_change_and (C := Tryz.checked) (X := fun w _ => laidMetH Tryz.prog laidL w) (fun _ _ _ hh h => h.of_heap hh) own started Tryz.func13
    (ChangeSpec.witness_shaped (enc := enc) (C := Tryz.checked) (os := os) (X := fun w _ => laidMetH Tryz.prog laidL w) false (World.doorLaid Tryz.prog 14 os) #[.agg #[.int .i64 0, .int .i64 0, .int .i64 0, .slice none 0 0, .slice none 0 0], .int .u8 0] 8 rfl (World.shaped_of_RefB (by kernel_rfl) (by kernel_rfl)) (by kernel_rfl) (by kernel_rfl) (by kernel_rfl) (door_met os _)) ?_
  intro W base args ds gs before hval0 hW hL
  have hval : ∀ (j : Nat) t v, Tryz.f13.params[j]? = some t → args[j]? = some v → Value.okWide Tryz.prog W .any base t v := hval0
  have hW' := hW
  obtain ⟨p, q, hA0, hV, rfl, hfz, hnd⟩ := hW
  have hA : DataW.TrodAll enc Tryz.prog W 0 (fun _ => true) true Tryz.f13.params.toList args.toList ds p := hA0
  rw [Tryz.params13] at hA hval
  obtain ⟨v0, vr0, d0, dr0, p0, q0, ea0, ed0, ep0, h0, hA0⟩ := trodAll_cons hA
  obtain ⟨v1, vr1, d1, dr1, p1, q1, ea1, ed1, ep1, h1, hA1⟩ := trodAll_cons hA0
  obtain ⟨ez1, ez2, ez3⟩ := trodAll_end hA1
  subst ez1 ez2 ez3
  subst ea1 ed1 ep1
  subst ed0 ep0
  obtain rfl := Array.ext' (show args.toList = #[v0, v1].toList from ea0)
  obtain ⟨rfl, rfl⟩ := trodVars_none hV
  have hval0 := hval 0 _ v0 rfl rfl
  have hval1 := hval 1 _ v1 rfl rfl
  have hlt0 : ∀ x ∈ p0, x.block < W.heap.size := fun x hx => hW'.lt x (by simp [hx])
  have hlt1 : ∀ x ∈ p1, x.block < W.heap.size := fun x hx => hW'.lt x (by simp [hx])
  haveI := laid_of hL
  obtain ⟨b, pm, nm, cm, pr, nr, cr, ev0, hcm, hcr, rdm, rdr, _⟩ := book_arg hval0 h0
  obtain ⟨x, ev1, hx⟩ := u8_arg hval1 h1
  have run := law_good (W := W) (f := 13) (args := #[v0, v1]) (by rw [ev0, ev1]; exact f13_t [] rdm rdr hx)
  obtain ⟨M, last, o, w', t', r1, r2, r3, r4⟩ := run
  refine ⟨M, last, o, w', t', r1, r2, r3, r4.mono fun v hF => ?_⟩
  obtain ⟨rfl, hbelow⟩ : v = .bool true ∧ RowKit.Below W.heap.size W w' := hF
  have hq : DataW.TrodAll enc Tryz.prog w' 0 (fun b => decide (b < W.heap.size)) true Tryz.f13.params.toList #[v0, v1].toList [d0, d1] (p0 ++ (p1 ++ [])) := by rw [Tryz.params13]; exact (trodAll_more (Below.trod laidOut (by kernel_rfl) (of_decide_eq_true (by kernel_rfl)) h0 hbelow hlt0) (trodAll_more (Below.trod laidOut (by kernel_rfl) (of_decide_eq_true (by kernel_rfl)) h1 hbelow hlt1) rfl))
  exact ⟨_, _, _, [], _, [], hW', trodAll_mk1 (shut_bool Tryz.underlying4 _), hq, rfl, hbelow.frame _, fun h => by cases h⟩
theorem asked_j1 : Tryz.pinned.checked.prog.inPlace 13 = Rows.battenAskedRow.inPlace := by kernel_rfl
theorem asked_j2 : Tryz.pinned.checked.prog.unfollowed 13 = Rows.battenAskedRow.unfollowed := by kernel_rfl
theorem asked_j3 : Tryz.pinned.checked.prog.recurses 13 = Rows.battenAskedRow.recurses := by kernel_rfl
theorem asked_j4 : Tryz.pinned.checked.prog.varsNamed 13 = Rows.battenAskedRow.named := by kernel_rfl
theorem asked_j5 : namedTie Tryz.pinned.checked.prog Rows.battenAskedRow.named Rows.battenAskedSpec.vars = true := by kernel_rfl
theorem asked_joined : joinedFacts Tryz.pinned.checked.prog 13 Tryz.f13 Rows.battenAskedSpec Rows.battenAskedRow = true := by
  unfold joinedFacts
  rw [asked_j1, asked_j2, asked_j3, asked_j4, asked_j5, laidOutP]; kernel_rfl
theorem asked_holds : Rows.BattenAskedSaid :=
  OpenClaim.holds_of_wide_leaving 13 Tryz.f13 rfl rfl rfl rfl rfl rfl rfl ⟨rfl, rfl, rfl, rfl, rfl⟩ rfl rfl rfl rfl rfl (by kernel_rfl) Tryz.func13 asked_joined
    (of_decide_eq_true (by kernel_rfl)) (by unfold Func.isWrapper; first | (rw [if_pos (by decide +kernel)]; kernel_rfl) | (rw [if_neg (by decide +kernel)]; exact ⟨rfl, rfl⟩))
    (fun os started H enc _ => asked_lifted os started H enc)
theorem asked_card : Rows.BattenAskedCardSaid :=
  card_of .later [.funcs] true (true, "03349bc71d9aa5b6362bd449fcfd3cb52e85abaaf90408fe44bc4d9eb17cb839") false
    asked_holds (by kernel_rfl) battenAsked_row_tie rfl ⟨rfl, rfl⟩ (by kernel_rfl) rfl
    (fun f fn hf hfn => by
      obtain rfl : f = 13 := Option.some.inj ((show Tryz.prog.funcNamed "ribband/ribbandlaw02.BattenAsked" = some 13 by kernel_rfl).symm.trans hf) |>.symm
      obtain rfl : fn = Tryz.f13 := (Option.some.inj (Tryz.func13.symm.trans hfn)).symm
      exact ⟨by kernel_rfl, fun j t ht => by
        rw [Tryz.params13] at ht
        have hm := Array.mem_of_getElem? ht
        have hall : (Tryz.f13.params.toList.all fun u => !Tryz.prog.wantsStandIn u) = true := by kernel_rfl
        rw [Tryz.params13] at hall
        exact (show Tryz.prog.wantsStandIn t = false by simpa using List.all_eq_true.1 hall t (by simpa using hm))⟩)
    (by kernel_rfl)
#print axioms asked_card
end Go.Proofs.YtlbkicemccikgaaGreatDoor
