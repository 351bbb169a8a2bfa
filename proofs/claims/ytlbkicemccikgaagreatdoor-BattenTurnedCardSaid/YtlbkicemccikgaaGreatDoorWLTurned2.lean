/- A part of the proof of a law: my own separation logic over the machine, and walks of the program. Condition of each theorem: as its statement says. -/
import Derived.Test.YtlbkicemccikgaaGreatDoorWLTurned1
import Derived.Test.YtlbkicemccikgaaGreatDoorProg
set_option linter.all false
namespace Go.Lo
open Go.Conc (G)
def elemB (P : Program) (e k by' : Nat) : Bool := match P.info? e with
  | some i => i.size == k && i.bytes == by' && (match i.zero with | some z => z.cells.size == k | none => false)
  | none => false
class ElemT (P : Program) (e : TypeId) (k by' : outParam Nat) : Prop where
  eq : elemB P e k by' = true
def RdS (B : Array Obj) (h : Hp) (k : Nat) (v : Value) (n : Nat) (ys : List Value) : Prop :=
  ∃ p c, v = .slice p n c ∧ ys.length = n * k ∧ ((p = none ∧ n = 0) ∨ ∃ b o, p = some ⟨b, o, none⟩ ∧ RdN B h b o ys)
theorem RdN.keeps {B : Array Obj} {h h' : Hp} {b o : Nat} {vs : List Value} (r : RdN B h b o vs) (k : h.Sublist h') : RdN B h' b o vs := fun j hj => (r j hj).keeps k
theorem RdS.keeps {B : Array Obj} {h h' : Hp} {k : Nat} {v : Value} {n : Nat} {ys : List Value} (r : RdS B h k v n ys) (s : h.Sublist h') : RdS B h' k v n ys := by
  obtain ⟨p, c, e, hl, r⟩ := r
  exact ⟨p, c, e, hl, r.imp id fun ⟨b, o, e, r⟩ => ⟨b, o, e, r.keeps s⟩⟩
theorem RdS.app {B : Array Obj} {h : Hp} {k : Nat} {v : Value} {n : Nat} {ys : List Value} (r : RdS B h k v n ys) (l : Hp) : RdS B (h ++ l) k v n ys := r.keeps (List.sublist_append_left _ _)
inductive OwnS (t k : Nat) : Value → Nat → List Value → Hp → Prop
  | nil : OwnS t k (.slice none 0 0) 0 [] []
  | blk {b n cap : Nat} {cs junk : List Value} (hl : cs.length = n * k) (hc : cs.length + junk.length = cap * k) (hn : n ≤ cap) :
      OwnS t k (.slice (some ⟨b, 0, none⟩) n cap) n cs [⟨true, b, .cells (cs ++ junk).toArray t (0, 0)⟩]
theorem OwnS.rd {B : Array Obj} {t k : Nat} {v : Value} {n : Nat} {cs : List Value} {new h : Hp} (o : OwnS t k v n cs new) (s : new.Sublist h) : RdS B h k v n cs := by
  cases o with
  | nil => exact ⟨none, 0, rfl, by simp, .inl ⟨rfl, rfl⟩⟩
  | blk hl hc hn =>
    rename_i b cap junk
    refine ⟨_, cap, rfl, hl, .inr ⟨b, 0, rfl, fun j hj => ?_⟩⟩
    rw [Nat.zero_add]; refine Rd.held (s.subset List.mem_cons_self) ?_
    rw [List.getElem?_toArray, List.getElem?_append_left hj, List.getD_eq_getElem?_getD, List.getElem?_eq_getElem hj]; rfl
theorem OwnS.len {t k : Nat} {v : Value} {n : Nat} {cs : List Value} {new : Hp} (o : OwnS t k v n cs new) : ∃ p c, v = .slice p n c ∧ cs.length = n * k := by
  cases o with
  | nil => exact ⟨none, 0, rfl, by simp⟩
  | blk hl hc hn => exact ⟨_, _, rfl, hl⟩
section
variable {P : Program} {B : Array Obj} {h : Hp}
theorem elem_size {e k by' : Nat} [x : ElemT P e k by'] : ∃ i z, P.info? e = some i ∧ i.size = k ∧ i.bytes = by' ∧ i.zero = some z ∧ z.cells.size = k := by
  have := x.eq
  unfold elemB at this
  split at this
  · rename_i i ei
    simp only [Bool.and_eq_true, beq_iff_eq] at this
    obtain ⟨⟨h1, h2⟩, h3⟩ := this
    split at h3
    · rename_i z ez
      exact ⟨i, z, ei, h1, h2, ez, by simpa using h3⟩
    · cases h3
  · cases this
theorem reads_first {k n : Nat} {v : Value} {ys : List Value} (r : RdS B h k v n ys) : Reads P B (Builtin.firstCells k n v) h ys.toArray := by
  obtain ⟨p, c, rfl, hl, ⟨rfl, rfl⟩ | ⟨b, o, rfl, r⟩⟩ := r
  · have : ys = [] := List.length_eq_zero_iff.1 (by simpa using hl)
    subst this
    exact Reads.pure _
  · simp only [Builtin.firstCells, loadCells]
    have := reads_cells (P := P) (B := B) (h := h) (b := b) (o := o) (n * k) 0 ys [] hl (fun j hj => by rw [Nat.zero_add]; exact r j (by omega))
    simpa using this
theorem Reads.weak {α : Type} {s : Sem α} {h' : Hp} {a : α} (k : Weak B h h') (t : Reads P B s h' a) : Reads P B s h a := fun w sw => by
  obtain ⟨r, e⟩ := t w (k.sat w sw)
  exact ⟨r, fun x hx => (e x hx).less (Nat.le_refl _) k.key⟩
theorem tri_choose {q : Question} {Q : Nat → Hp → Prop} (hf : q.forced = false) (n : ∀ t, Q (q.cut t) h) : Tri P B (choose q) h Q := fun w sw =>
  ⟨q.cut (w.tape w.drawn q), { w with drawn := w.drawn + 1 }, h, by simp [choose, Sem.run, hf],
    { sat := ⟨sw.base, sw.mem, sw.apart⟩, size := Nat.le_refl _, os := rfl, out := rfl, tape := rfl, drawn := Nat.le_succ _, old := fun _ _ _ => rfl, key := fun c hc => .inr ⟨c, hc, rfl, fun x => x⟩, evs := by simp },
    n _⟩
theorem reads_room {n : Nat} : Reads P B (askRoom n) h () := by
  unfold askRoom
  split
  · intro w _
    refine ⟨rfl, fun e he => .inl ?_⟩
    rw [events_mark] at he
    simpa [noRoomEvent] using he
  · exact Reads.pure _
theorem growBy_le (need : Nat) (hn : 256 ≤ need) : ∀ (rounds c : Nat), c ≤ 2 * need → Builtin.growBy need rounds c ≤ 2 * need
  | 0, c, hc => hc
  | rounds + 1, c, hc => by
    unfold Builtin.growBy
    split
    · exact hc
    · exact growBy_le need hn rounds _ (by omega)
theorem next_le {need old : Nat} (h : old < need) : Builtin.nextslicecap need old ≤ 2 * need := by
  unfold Builtin.nextslicecap
  split
  · omega
  · split
    · omega
    · exact growBy_le need (by omega) _ _ (by omega)
theorem Tri.weakR {α : Type} {s : Sem α} {Q Q' : α → Hp → Prop} (t : Tri P B s h Q) (k : ∀ a h', Q a h' → ∃ h'', Weak B h' h'' ∧ Q' a h'') : Tri P B s h Q' := fun w sw => by
  obtain ⟨a, w', h', r, st, q⟩ := t w sw
  obtain ⟨h'', wk, q'⟩ := k a h' q
  exact ⟨a, w', h'', r, st.weak_right wk, q'⟩
theorem tri_append {t t2 e k by' ty : Nat} {s x : Value} {n m : Nat} {cs ys : List Value} {F new : Hp} {Q : Value → Hp → Prop} [SliceT P t e k] [SliceT P t2 e k] [ElemT P e k by'] (hw : Weak B h (F ++ new)) (o : OwnS e k s n cs new)
    (rx : RdS B h k x m ys) (h1 : ∀ u ∈ ys, u.oneCell' = true) (hb : 2 * (n + m) * by' ≤ 2 ^ 48) (hmax : n + m ≤ 2 ^ 62) (q : ∀ v' new', OwnS e k v' (n + m) (cs ++ ys) new' → Q v' (F ++ new')) : Tri P B (Builtin.append_ #[t, t2] ty #[s, x]) h Q := by
  obtain ⟨hu, hs⟩ := slice_und (P := P) (B := B) (h := h) (t := t)
  obtain ⟨hu2, _⟩ := slice_und (P := P) (B := B) (h := h) (t := t2)
  obtain ⟨i, z, hi, hi1, hi2, hi3, hz⟩ := elem_size (P := P) (e := e)
  have hx := reads_first (P := P) rx
  obtain ⟨p, c, rfl, hyl, _⟩ := id rx
  obtain ⟨ps, cap, rfl, hcl⟩ := o.len
  have hinfo : Reads P B (typeInfo e) h i := (still_info hi).reads
  refine Tri.weakR (Q := fun a h' => ∃ h'', Weak B h' h'' ∧ Q a h'') ?_ (fun a h' x => x)
  unfold Builtin.append_
  simp only [List.getElem?_toArray, List.getElem?_cons_zero, List.getElem?_cons_succ]
  refine Tri.bind ((still_und hu).reads.tri ?_)
  refine Tri.bind (hs.tri ?_)
  refine Tri.bind ((still_und hu2).reads.tri ?_)
  refine Tri.bind (Tri.pure ?_)
  simp only [Bool.false_eq_true, if_false]
  refine Tri.bind (Tri.pure (a := m) ?_)
  simp only [Bool.not_false, if_true]
  split
  · rename_i hle
    refine Tri.bind (hx.tri ?_)
    cases o with
    | nil =>
      have hm0 : m = 0 := by omega
      subst hm0
      have : ys = [] := List.length_eq_zero_iff.1 (by simpa using hyl)
      subst this
      exact Tri.pure ⟨_, hw, q _ _ .nil⟩
    | blk hl hc hn =>
      rename_i b junk
      refine Tri.weak hw ?_
      refine Tri.bind ?_
      rw [Addr.add_none, Nat.zero_add]; have hmul : (n + m) * k ≤ cap * k := Nat.mul_le_mul_right _ hle
      have hadd : (n + m) * k = n * k + m * k := Nat.add_mul ..
      refine tri_cells (h1 := F) (h2 := []) ys 0 _ (by simp; omega) h1 fun c' hc' => Tri.pure ⟨_, Weak.refl _ _, ?_⟩
      have e1 : c' = (cs ++ ys ++ junk.drop ys.length).toArray := by
        apply Array.ext'
        rw [hc']; simp only [Nat.add_zero, List.toList_toArray]
        rw [← hl, List.take_left, List.drop_append]; simp
      rw [e1]; exact q _ _ (.blk (by simp; omega) (by simp; omega) hle)
  · rename_i hgt
    refine Tri.bind (hinfo.tri ?_)
    have hM : IntKind.i64.max = 9223372036854775807 := by decide
    rw [if_neg (by rintro ⟨h3, _⟩; rw [hM] at h3; omega)]; refine Tri.bind (hinfo.tri ?_)
    have hnc : Builtin.nextslicecap (n + m) cap ≤ 2 * (n + m) := next_le (by omega)
    rw [if_neg (by rw [hi2]; have := Nat.mul_le_mul_right by' hnc; omega)]; refine Tri.bind (tri_choose rfl fun t0 => ?_)
    refine Tri.bind (hinfo.tri ?_)
    refine Tri.bind (reads_room.tri ?_)
    have hro : Reads P B (Builtin.firstCells k n (.slice ps n cap)) h cs.toArray := Reads.weak hw (reads_first (o.rd (List.sublist_append_right F new)))
    refine Tri.bind (hro.tri ?_)
    refine Tri.bind (hx.tri ?_)
    have hzv : Reads P B (zeroValue e) h z := by
      refine Reads.bind (still_info hi).reads ?_
      simp only [hi3]
      exact Reads.pure _
    refine Tri.bind (hzv.tri ?_)
    refine Tri.bind (tri_row fun b _ => Tri.pure ⟨F ++ [_], Weak.snoc (hw.trans (Weak.sub (List.sublist_append_left F new))) _, ?_⟩)
    have hcut : Question.cut (.appendCap (n + m) cap e) t0 = n + m + t0 % (2 ^ 63 - (n + m)) := rfl
    generalize hN : Question.cut (.appendCap (n + m) cap e) t0 = N at *
    have hlz : (Builtin.zeroCells z.cells (N - (n + m))).toList.length = (N - (n + m)) * k := by simp [Builtin.zeroCells, hz]
    have e1 : cs.toArray ++ ys.toArray ++ Builtin.zeroCells z.cells (N - (n + m)) = (cs ++ ys ++ (Builtin.zeroCells z.cells (N - (n + m))).toList).toArray := by
      apply Array.ext'; simp
    rw [e1]; refine q _ _ (.blk (by simp [hcl, hyl, Nat.add_mul]) ?_ (by omega))
    rw [hlz]; simp only [List.length_append, hcl, hyl]
    rw [← Nat.add_mul, ← Nat.add_mul]; congr 1
    omega
end
end Go.Lo
namespace Go.Lo
open Go.Conc (G)
section
variable {P : Program} {B : Array Obj} {m : Md P B} {ops : Array Oper} {l l' : List Value} {S h h' H : Hp} {C : List Value → Hp → Prop} {i : Nat} {kd : Kd} {r : List (Nat × Kd)}
  {d : Option Tmp} {ty : TypeId} {pos : String} {af : Array Edge} {g : Option (Nat × Bool)}
theorem exec_builtin {b : Builtin} {args : List Operand} {ats : Array TypeId} {vs : List Value} (ea : args.map (ev l) = vs) :
    execOp (ev l) ⟨d, .call ⟨.builtin b, args.toArray, ats⟩, ty, pos, af, g⟩ = builtin b ats ty (args.toArray.map fun | .const _ => true | _ => false) vs.toArray := by
  have e : (Array.map (ev l) args.toArray) = vs.toArray := by rw [List.map_toArray, ea]
  simp only [execOp, resolve, e]
  rfl
theorem k_app {t t2 e k by' : Nat} {x y : Operand} {s u : Value} {n mm : Nat} {cs ys : List Value} {F new : Hp} (ho : ops[i]? = some ⟨d, .call ⟨.builtin .append, [x, y].toArray, #[t, t2]⟩, ty, pos, af, g⟩) (hg : Wt ops l g)
    [ex : OpV l x s] [ey : OpV l y u] [SliceT P t e k] [SliceT P t2 e k] [ElemT P e k by'] (hw : Weak B h (F ++ new)) (o : OwnS e k s n cs new) (rx : RdS B h k u mm ys) (h1 : ∀ u ∈ ys, u.oneCell' = true) (hk : kd = .free ∨ (kd = .keep ∧ S.Sublist F)) (hb : 2 * (n + mm) * by' ≤ 2 ^ 48) (hmax : n + mm ≤ 2 ^ 62)
    (c : ∀ v' new', OwnS e k v' (n + mm) (cs ++ ys) new' → RegK m S ops r (put l d v') (F ++ new') C) : RegK m S ops ((i, kd) :: r) l h C := by
  refine RegK.ke (hk.symm.imp (·.1) id) ho hg ?_
  rw [exec_builtin (vs := [s, u]) (by simp [ex.eq, ey.eq])]; exact Tri.bind (tri_append hw o rx h1 hb hmax fun v' new' o' => Tri.pure ⟨hk.imp id fun x => x.2.trans (List.sublist_append_left _ _), c v' new' o'⟩)
def zrep (z : Array Value) (n : Nat) : Array Value := (Array.range n).map (z[· % z.size]!)
theorem k_bsl {t e k len : Nat} {ps : List (Nat × Operand)} {parts : List (Nat × Value)} {z : Value} {cs : List Value} (hk : kd = .free ∨ (kd = .keep ∧ S.Sublist h)) (ho : ops[i]? = some ⟨d, .buildSlice t len ps.toArray, ty, pos, af, g⟩) (hw : Wt ops l g) [a : PartsV l ps parts] [SliceT P t e k] [zt : ZeroT P e z]
    (hs : len * k ≤ 2 ^ 24) (hc : Instr.fill (fun j => some (j * k, k)) (if len * k = 0 then #[] else zrep z.cells (len * k)) parts = some cs.toArray)
    (n : ∀ q, RegK m S ops r (put l d (.slice (some ⟨q, 0, none⟩) len len)) (h ++ [⟨true, q, .cells cs.toArray e (0, 0)⟩]) C) : RegK m S ops ((i, kd) :: r) l h C := by
  refine RegK.ke (hk.symm.imp (·.1) id) ho hw ?_
  obtain ⟨hu, hsz⟩ := slice_und (P := P) (B := B) (h := h) (t := t)
  simp only [execOp]
  have e2 : (Array.map (fun x : Nat × Operand => (x.1, ev l x.2)) ps.toArray) = parts.toArray := by rw [List.map_toArray, ← a.eq]
  refine Tri.bind ?_
  show Tri P B (Instr.buildSlice t len (Array.map (fun x : Nat × Operand => (x.1, ev l x.2)) ps.toArray)) h _
  rw [e2]; unfold Instr.buildSlice
  refine Tri.bind ((still_und hu).reads.tri ?_)
  refine Tri.bind (hsz.tri ?_)
  rw [if_neg (by omega)]; have fin : ∀ zc, Instr.fill (fun j => some (j * k, k)) (zrep zc (len * k)) parts = some cs.toArray → Tri P B (do
      let some cells := Instr.fill (fun i => some (i * k, k)) ((Array.range (len * k)).map (zc[· % zc.size]!)) parts.toArray.toList | stuck "buildSlice: a part of the wrong size"
      pure (Value.slice (some (← newRow e cells)) len len)) h (fun a h' => Tri P B (pure (Next.value a)) h' (upon m ⟨d, .buildSlice t len ps.toArray, ty, pos, af, g⟩ l fun l' h' => (kd = .free ∨ S.Sublist h') ∧ RegK m S ops r l' h' C)) := by
    intro zc hf
    have : Instr.fill (fun i => some (i * k, k)) ((Array.range (len * k)).map (zc[· % zc.size]!)) parts.toArray.toList = some cs.toArray := hf
    simp only [this]
    exact Tri.bind (tri_row fun q hq => Tri.pure (Tri.pure ⟨hk.imp id fun x => x.2.trans (List.sublist_append_left _ _), n q⟩))
  split
  · rename_i h0
    rw [if_pos h0] at hc
    refine Tri.bind (Tri.pure (a := #[]) ?_)
    refine fin _ ?_
    have : zrep #[] (len * k) = #[] := by rw [h0]; simp [zrep]
    rw [this]; exact hc
  · rename_i h0
    rw [if_neg h0] at hc
    refine Tri.bind (s := zeroValue e) (reads_zero.tri ?_)
    refine Tri.bind (Tri.pure ?_)
    exact fin _ hc
theorem k_len {t e k n c : Nat} {x : Operand} {p : Option Addr} (ho : ops[i]? = some ⟨d, .call ⟨.builtin .len, [x].toArray, #[t]⟩, ty, pos, af, g⟩) (hw : Wt ops l g) [kh : KHeap kd S h H] [ex : OpV l x (.slice p n c)] [SliceT P t e k] [PutV l d (.int .i64 n) l']
    (q : RegK m S ops r l' h C) : RegK m S ops ((i, kd) :: r) l h C :=
  RegK.rd (v := .int .i64 n) ho hw (by
    rw [exec_builtin (vs := [.slice p n c]) (by simp [ex.eq])]; obtain ⟨hu, _⟩ := slice_und (P := P) (B := B) (h := H) (t := t)
    refine Reads.value ?_
    unfold Builtin.len_
    simp only [List.getElem?_toArray, List.getElem?_cons_zero]
    exact Reads.bind (still_und hu).reads (Reads.pure _)) q
theorem k_min {x y : Operand} {a b : Int} {k : IntKind} {ats : Array TypeId} (ho : ops[i]? = some ⟨d, .call ⟨.builtin .min, [x, y].toArray, ats⟩, ty, pos, af, g⟩) (hw : Wt ops l g) [kh : KHeap kd S h H] [ex : OpV l x (.int k a)] [ey : OpV l y (.int k b)] [PutV l d (.int k (min a b)) l']
    (q : RegK m S ops r l' h C) : RegK m S ops ((i, kd) :: r) l h C :=
  RegK.rd (v := .int k (min a b)) ho hw (by
    rw [exec_builtin (vs := [.int k a, .int k b]) (by simp [ex.eq, ey.eq])]; refine Reads.value ?_
    show Reads P B (Builtin.min_ ats ty #[.int k a, .int k b]) H _
    have : Builtin.min_ ats ty #[.int k a, .int k b] = Pure.pure (.int k (min a b)) := by
      simp only [Builtin.min_, List.foldlM, Builtin.min2]
      rw [show (if b < a then b else a) = min a b by rw [Int.min_def]; split <;> split <;> omega]; rfl
    rw [this]; exact Reads.pure _) q
theorem k_max {x y : Operand} {a b : Int} {k : IntKind} {ats : Array TypeId} (ho : ops[i]? = some ⟨d, .call ⟨.builtin .max, [x, y].toArray, ats⟩, ty, pos, af, g⟩) (hw : Wt ops l g) [kh : KHeap kd S h H] [ex : OpV l x (.int k a)] [ey : OpV l y (.int k b)] [PutV l d (.int k (max a b)) l']
    (q : RegK m S ops r l' h C) : RegK m S ops ((i, kd) :: r) l h C :=
  RegK.rd (v := .int k (max a b)) ho hw (by
    rw [exec_builtin (vs := [.int k a, .int k b]) (by simp [ex.eq, ey.eq])]; refine Reads.value ?_
    show Reads P B (Builtin.max_ ats ty #[.int k a, .int k b]) H _
    have : Builtin.max_ ats ty #[.int k a, .int k b] = Pure.pure (.int k (max a b)) := by
      simp only [Builtin.max_, List.foldlM, Builtin.max2]
      rw [show (if b > a then b else a) = max a b by rw [Int.max_def]; split <;> split <;> omega]; rfl
    rw [this]; exact Reads.pure _) q
class ArgsA (l : List Value) (xs : Array Operand) (vs : outParam (Array Value)) : Prop where
  eq : xs.map (ev l) = vs
instance {l : List Value} {xs : List Operand} {vs : List Value} [a : ArgsV l xs vs] : ArgsA l xs.toArray vs.toArray := ⟨by rw [List.map_toArray, a.eq]⟩
theorem k_fun {f : Fn} {a c : Array Operand} {av cv : Array Value} (ho : ops[i]? = some ⟨d, .makeFunc f a c, ty, pos, af, g⟩) (hw : Wt ops l g) [kh : KHeap kd S h H] [ea : ArgsA l a av] [ec : ArgsA l c cv] [PutV l d (.func f av cv) l'] (q : RegK m S ops r l' h C) : RegK m S ops ((i, kd) :: r) l h C :=
  RegK.rd (v := .func f av cv) ho hw (by simp only [execOp, ea.eq, ec.eq, Instr.makeFunc]; exact Reads.value (Reads.pure _)) q
end
end Go.Lo
namespace Go.Lo
open Go.Conc (G)
section
variable {P : Program} {B : Array Obj} {m : Md P B} {ops : Array Oper} {l l' : List Value} {S h h' H : Hp} {C : List Value → Hp → Prop} {i : Nat} {kd : Kd} {r : List (Nat × Kd)}
  {d : Option Tmp} {ty : TypeId} {pos : String} {af : Array Edge} {g : Option (Nat × Bool)}
theorem k_lssS {t u : TypeId} {x y : Operand} {a b : Int} {k : IntKind} {l'' : List Value} (ho : ops[i]? = some ⟨d, .binOp .lss t x y u, ty, pos, af, g⟩) (hw : Wt ops l g) [kh : KHeap kd S h H] [ex : OpV l x (.int k a)] [ey : OpV l y (.int k b)] [pt : PutV l d (.bool true) l'] [pf : PutV l d (.bool false) l'']
    (yes : a < b → RegK m S ops r l' h C) (no : b ≤ a → RegK m S ops r l'' h C) : RegK m S ops ((i, kd) :: r) l h C := by
  by_cases e : a < b
  · have pq := pt; rw [← decide_eq_true e] at pq; exact k_lss (l' := l') ho hw (yes e)
  · have pq := pf; rw [← decide_eq_false e] at pq; exact k_lss (l' := l'') ho hw (no (by omega))
theorem k_leqS {t u : TypeId} {x y : Operand} {a b : Int} {k : IntKind} {l'' : List Value} (ho : ops[i]? = some ⟨d, .binOp .leq t x y u, ty, pos, af, g⟩) (hw : Wt ops l g) [kh : KHeap kd S h H] [ex : OpV l x (.int k a)] [ey : OpV l y (.int k b)] [pt : PutV l d (.bool true) l'] [pf : PutV l d (.bool false) l'']
    (yes : a ≤ b → RegK m S ops r l' h C) (no : b < a → RegK m S ops r l'' h C) : RegK m S ops ((i, kd) :: r) l h C := by
  by_cases e : a ≤ b
  · have pq := pt; rw [← decide_eq_true e] at pq; exact k_leq (l' := l') ho hw (yes e)
  · have pq := pf; rw [← decide_eq_false e] at pq; exact k_leq (l' := l'') ho hw (no (by omega))
theorem k_gtrS {t u : TypeId} {x y : Operand} {a b : Int} {k : IntKind} {l'' : List Value} (ho : ops[i]? = some ⟨d, .binOp .gtr t x y u, ty, pos, af, g⟩) (hw : Wt ops l g) [kh : KHeap kd S h H] [ex : OpV l x (.int k a)] [ey : OpV l y (.int k b)] [pt : PutV l d (.bool true) l'] [pf : PutV l d (.bool false) l'']
    (yes : b < a → RegK m S ops r l' h C) (no : a ≤ b → RegK m S ops r l'' h C) : RegK m S ops ((i, kd) :: r) l h C := by
  by_cases e : b < a
  · have pq := pt; rw [← decide_eq_true e] at pq; exact k_gtr (l' := l') ho hw (yes e)
  · have pq := pf; rw [← decide_eq_false e] at pq; exact k_gtr (l' := l'') ho hw (no (by omega))
theorem k_geqS {t u : TypeId} {x y : Operand} {a b : Int} {k : IntKind} {l'' : List Value} (ho : ops[i]? = some ⟨d, .binOp .geq t x y u, ty, pos, af, g⟩) (hw : Wt ops l g) [kh : KHeap kd S h H] [ex : OpV l x (.int k a)] [ey : OpV l y (.int k b)] [pt : PutV l d (.bool true) l'] [pf : PutV l d (.bool false) l'']
    (yes : b ≤ a → RegK m S ops r l' h C) (no : a < b → RegK m S ops r l'' h C) : RegK m S ops ((i, kd) :: r) l h C := by
  by_cases e : b ≤ a
  · have pq := pt; rw [← decide_eq_true e] at pq; exact k_geq (l' := l') ho hw (yes e)
  · have pq := pf; rw [← decide_eq_false e] at pq; exact k_geq (l' := l'') ho hw (no (by omega))
theorem k_eqlS {t u : TypeId} {x y : Operand} {a b : Int} {k : IntKind} {l'' : List Value} (ho : ops[i]? = some ⟨d, .binOp .eql t x y u, ty, pos, af, g⟩) (hw : Wt ops l g) [kh : KHeap kd S h H] [ex : OpV l x (.int k a)] [ey : OpV l y (.int k b)] [pt : PutV l d (.bool true) l'] [pf : PutV l d (.bool false) l'']
    (yes : a = b → RegK m S ops r l' h C) (no : a ≠ b → RegK m S ops r l'' h C) : RegK m S ops ((i, kd) :: r) l h C := by
  by_cases e : a = b
  · have pq := pt; rw [← decide_eq_true e] at pq; exact k_eql (l' := l') ho hw (yes e)
  · have pq := pf; rw [← decide_eq_false e] at pq; exact k_eql (l' := l'') ho hw (no e)
theorem k_neqS {t u : TypeId} {x y : Operand} {a b : Int} {k : IntKind} {l'' : List Value} (ho : ops[i]? = some ⟨d, .binOp .neq t x y u, ty, pos, af, g⟩) (hw : Wt ops l g) [kh : KHeap kd S h H] [ex : OpV l x (.int k a)] [ey : OpV l y (.int k b)] [pt : PutV l d (.bool true) l'] [pf : PutV l d (.bool false) l'']
    (yes : a ≠ b → RegK m S ops r l' h C) (no : a = b → RegK m S ops r l'' h C) : RegK m S ops ((i, kd) :: r) l h C := by
  by_cases e : a = b
  · have pq := pf; rw [← decide_eq_false (not_not_intro e)] at pq; exact k_neq (l' := l'') ho hw (no e)
  · have pq := pt; rw [← decide_eq_true e] at pq; exact k_neq (l' := l') ho hw (yes e)
theorem run_split {b : Frame} {ds : List Deferred} {k : List Item} {cs : List Frame} {K : Goroutine → Hp → Prop} {c : Operand} {x y : Code} {t : Bool} [e : OpV l c (.bool t)] (yes : t = true → m.R K (Gr b l ds (.code x :: k) cs) h) (no : t = false → m.R K (Gr b l ds (.code y :: k) cs) h) :
    m.R K (Gr b l ds (.code (.cond c x y) :: k) cs) h := by
  cases t with
  | true => exact run_if e.eq (yes rfl)
  | false => exact run_else e.eq (no rfl)
theorem run_yes {b : Frame} {ds : List Deferred} {k : List Item} {cs : List Frame} {K : Goroutine → Hp → Prop} {c : Operand} {x y : Code} [e : OpV l c (.bool true)] (yes : m.R K (Gr b l ds (.code x :: k) cs) h) : m.R K (Gr b l ds (.code (.cond c x y) :: k) cs) h := run_if e.eq yes
theorem run_no {b : Frame} {ds : List Deferred} {k : List Item} {cs : List Frame} {K : Goroutine → Hp → Prop} {c : Operand} {x y : Code} [e : OpV l c (.bool false)] (no : m.R K (Gr b l ds (.code y :: k) cs) h) : m.R K (Gr b l ds (.code (.cond c x y) :: k) cs) h := run_else e.eq no
abbrev ints (xs : List Int) : List Value := xs.map (Value.int .i64)
theorem ints_one (xs : List Int) : ∀ u ∈ ints xs, u.oneCell' = true := by
  intro u hu
  obtain ⟨x, _, rfl⟩ := List.mem_map.1 hu
  rfl
theorem RdS.int {n c : Nat} {p : Option Addr} {b o : Nat} {xs : List Int} (rd : RdS B h 1 (.slice p n c) n (ints xs)) (hp : p = some ⟨b, o, none⟩) {j : Int} (h0 : 0 ≤ j) (h1 : j < n) : Rd B h ⟨b, o + j.toNat * 1, none⟩ (.int .i64 (xs.getD j.toNat 0)) := by
  obtain ⟨p', c', e, hl, ⟨e', e''⟩ | ⟨b', o', e', rd⟩⟩ := rd
  · omega
  · obtain ⟨rfl, _, rfl⟩ := Value.slice.inj e
    rw [hp] at e'
    obtain ⟨rfl, rfl, _⟩ := Addr.mk.inj (Option.some.inj e')
    have hj : j.toNat < xs.length := by simp at hl; omega
    have := rd j.toNat (by simpa using hj)
    rw [Nat.mul_one]; rw [List.getD_eq_getElem?_getD, List.getElem?_map, List.getElem?_eq_getElem hj] at this
    rw [List.getD_eq_getElem?_getD, List.getElem?_eq_getElem hj]; exact this
theorem RdS.ptr {k n c : Nat} {p : Option Addr} {ys : List Value} (rd : RdS B h k (.slice p n c) n ys) (hn : 0 < n) : ∃ b o, p = some ⟨b, o, none⟩ := by
  obtain ⟨p', c', e, hl, ⟨e', e''⟩ | ⟨b', o', e', rd⟩⟩ := rd
  · omega
  · obtain ⟨rfl, _, rfl⟩ := Value.slice.inj e
    exact ⟨b', o', e'⟩
end
end Go.Lo
namespace Go.Lo
open Go.Conc (G)
class LenIs (vs : List Value) (n : Nat) : Prop where
  eq : vs.length = n
instance : LenIs [] 0 := ⟨rfl⟩
instance {v : Value} {vs : List Value} {n : Nat} [s : LenIs vs n] : LenIs (v :: vs) (n + 1) := ⟨by simp [s.eq]⟩
theorem fold_set : ∀ (vs : List Value) (j off : Nat) (cs : List Value), off + j + vs.length ≤ cs.length →
    (vs.zipIdx j).foldl (fun (cs : Array Value) (p : Value × Nat) => cs.setIfInBounds (off + p.2) p.1) cs.toArray = (cs.take (off + j) ++ vs ++ cs.drop (off + j + vs.length)).toArray
  | [], j, off, cs, _ => by simp
  | v :: vs, j, off, cs, h => by
    simp only [List.length_cons] at h
    have hlt : off + j < cs.length := by omega
    rw [List.zipIdx_cons, List.foldl_cons]; have e : (cs.toArray.setIfInBounds (off + j) v) = (cs.set (off + j) v).toArray := by simp
    simp only [e]
    rw [fold_set vs (j + 1) off _ (by simp; omega)]; congr 1
    rw [show off + (j + 1) = off + j + 1 by omega]; simp only [List.length_cons]
    rw [show off + j + (vs.length + 1) = off + j + 1 + vs.length by omega, List.drop_set_of_lt (by omega), List.take_succ_eq_append_getElem (by simpa using hlt)]; simp [List.take_set_of_le]
theorem fill_step {place : Nat → Option (Nat × Nat)} {cs vs : List Value} {j off size : Nat} {v : Value} {ps : List (Nat × Value)} (hp : place j = some (off, size)) (hv : v.cells = vs.toArray) (hs : vs.length = size) (ho : off + vs.length ≤ cs.length) :
    Instr.fill place cs.toArray ((j, v) :: ps) = Instr.fill place (cs.take off ++ vs ++ cs.drop (off + vs.length)).toArray ps := by
  simp only [Instr.fill, hp, hv]
  have : (decide (vs.toArray.size ≠ size) || decide (off + vs.toArray.size > cs.toArray.size)) = false := by simp [hs]; omega
  rw [if_neg (by simpa using this)]; congr 1
  have := fold_set vs 0 off cs (by simpa using ho)
  rw [← Array.foldl_toList]; simp only [Nat.add_zero] at this
  rw [← this]; simp
class PlAt (pl : List (Nat × Nat)) (j : Nat) (off size : outParam Nat) : Prop where
  eq : pl[j]? = some (off, size)
instance {o s : Nat} {l : List (Nat × Nat)} : PlAt ((o, s) :: l) 0 o s := ⟨rfl⟩
instance {o s j : Nat} {x : Nat × Nat} {l : List (Nat × Nat)} [p : PlAt l j o s] : PlAt (x :: l) (j + 1) o s := ⟨by simpa using p.eq⟩
class FillS (pl : List (Nat × Nat)) (zs : List Value) (parts : List (Nat × Value)) (out : outParam (List Value)) : Prop where
  eq : fillL pl zs parts = some out.toArray
instance {pl : List (Nat × Nat)} {zs : List Value} : FillS pl zs [] zs := ⟨rfl⟩
instance {pl : List (Nat × Nat)} {zs zs' vs out : List Value} {j off size : Nat} {v : Value} {ps : List (Nat × Value)} [p : PlAt pl j off size] [c : CellsV v vs] [n : LenIs vs size] [s : SetSeg zs off vs zs'] [f : FillS pl zs' ps out] : FillS pl zs ((j, v) :: ps) out := ⟨by
  have := f.eq
  unfold fillL at this ⊢
  rw [fill_step p.eq c.eq n.eq s.eq.2, ← s.eq.1]; exact this⟩
class AppL (a b : List Value) (c : outParam (List Value)) : Prop where
  eq : a ++ b = c
instance {b : List Value} : AppL [] b b := ⟨rfl⟩
instance {x : Value} {a b c : List Value} [s : AppL a b c] : AppL (x :: a) b (x :: c) := ⟨by simp [s.eq]⟩
class PartsL (k s : Nat) (parts : List (Nat × Value)) (cs : outParam (List Value)) : Prop where
  eq : ∀ pre rest : List Value, pre.length = s * k → rest.length = parts.length * k → Instr.fill (fun j => some (j * k, k)) (pre ++ rest).toArray parts = some (pre ++ cs).toArray
instance {k s : Nat} : PartsL k s [] [] := ⟨fun pre rest _ hr => by
  have : rest = [] := List.length_eq_zero_iff.1 (by simpa using hr)
  subst this; rfl⟩
instance {k s : Nat} {v : Value} {ps : List (Nat × Value)} {vs cs out : List Value} [c : CellsV v vs] [n : LenIs vs k] [f : PartsL k (s + 1) ps cs] [a : AppL vs cs out] : PartsL k s ((s, v) :: ps) out := ⟨fun pre rest hp hr => by
  have hn := n.eq
  simp only [List.length_cons, Nat.add_mul, Nat.one_mul] at hr
  rw [fill_step rfl c.eq hn (by simp; omega)]; have e : (pre ++ rest).take (s * k) ++ vs ++ (pre ++ rest).drop (s * k + vs.length) = (pre ++ vs) ++ rest.drop k := by
    rw [← hp, List.take_left, List.drop_append]; simp [hn]
  rw [e, f.eq (pre ++ vs) (rest.drop k) (by simp [hp, hn, Nat.add_mul]) (by simp; omega), List.append_assoc, a.eq]⟩
section
variable {P : Program} {B : Array Obj} {m : Md P B} {ops : Array Oper} {l l' : List Value} {S h h' H : Hp} {C : List Value → Hp → Prop} {i : Nat} {kd : Kd} {r : List (Nat × Kd)}
  {d : Option Tmp} {ty : TypeId} {pos : String} {af : Array Edge} {g : Option (Nat × Bool)}
theorem k_bld {t : TypeId} {ps : List (Nat × Operand)} {parts : List (Nat × Value)} {pl : List (Nat × Nat)} {zs cs : List Value} (ho : ops[i]? = some ⟨d, .build t ps.toArray, ty, pos, af, g⟩) (hw : Wt ops l g) [KHeap kd S h H] [a : PartsV l ps parts] [StructT P t pl] [ZeroT P t (.agg zs.toArray)]
    [f : FillS pl zs parts cs] [PutV l d (.agg cs.toArray) l'] (n : RegK m S ops r l' h C) : RegK m S ops ((i, kd) :: r) l h C := k_build ho hw f.eq n
theorem k_bs {t e k len : Nat} {ps : List (Nat × Operand)} {parts : List (Nat × Value)} {z : Value} {cs : List Value} (hk : kd = .free ∨ (kd = .keep ∧ S.Sublist h)) (ho : ops[i]? = some ⟨d, .buildSlice t len ps.toArray, ty, pos, af, g⟩) (hw : Wt ops l g) [a : PartsV l ps parts] [SliceT P t e k] [zt : ZeroT P e z] [f : PartsL k 0 parts cs]
    (hs : len * k ≤ 2 ^ 24) (h0 : len * k ≠ 0) (hp : parts.length = len) (n : ∀ q, RegK m S ops r (put l d (.slice (some ⟨q, 0, none⟩) len len)) (h ++ [⟨true, q, .cells cs.toArray e (0, 0)⟩]) C) : RegK m S ops ((i, kd) :: r) l h C := by
  refine k_bsl hk ho hw hs ?_ n
  rw [if_neg h0]; have := f.eq [] (zrep z.cells (len * k)).toList (by simp) (by simp [zrep, hp])
  simpa using this
theorem k_bs0 {t e k : Nat} {z : Value} (hk : kd = .free ∨ (kd = .keep ∧ S.Sublist h)) (ho : ops[i]? = some ⟨d, .buildSlice t 0 #[], ty, pos, af, g⟩) (hw : Wt ops l g) [SliceT P t e k] [zt : ZeroT P e z]
    (n : ∀ q, RegK m S ops r (put l d (.slice (some ⟨q, 0, none⟩) 0 0)) (h ++ [⟨true, q, .cells ([] : List Value).toArray e (0, 0)⟩]) C) : RegK m S ops ((i, kd) :: r) l h C :=
  k_bsl (ps := []) (parts := []) (cs := []) hk ho hw (a := ⟨rfl⟩) (by simp) (by simp [Instr.fill]) n
end
end Go.Lo
namespace Go.Lo
open Go.Conc (G)
class AppH (a b : Hp) (c : outParam Hp) : Prop where
  eq : a ++ b = c
instance {b : Hp} : AppH [] b b := ⟨rfl⟩
instance {x : Chunk} {a b c : Hp} [s : AppH a b c] : AppH (x :: a) b (x :: c) := ⟨by simp [s.eq]⟩
instance (priority := low) {f b : Hp} : AppH f b (f ++ b) := ⟨rfl⟩
instance {S h : Hp} [s : SubH S h] : KSub .keep S h := ⟨.inl ⟨rfl, s.sub⟩⟩
instance {S h : Hp} [s : SubH S h] : KMk .keep S h := ⟨.inr (.inl ⟨rfl, s.sub⟩)⟩
theorem weakSub {B : Array Obj} {a b : Hp} [s : SubH a b] : Weak B b a := Weak.sub s.sub
theorem OwnS.rd' {B : Array Obj} {t k : Nat} {v : Value} {n : Nat} {cs : List Value} {new h : Hp} (o : OwnS t k v n cs new) [s : SubH new h] : RdS B h k v n cs := o.rd s.sub
theorem rdS_has {B : Array Obj} {h : Hp} {k q n c t : Nat} {rw : Bool} {f : Nat × Nat} {ys : List Value} [x : Has h q rw (.cells ys.toArray t f)] (hl : ys.length = n * k) : RdS B h k (.slice (some ⟨q, 0, none⟩) n c) n ys :=
  ⟨_, c, rfl, hl, .inr ⟨q, 0, rfl, fun j hj => by
    rw [Nat.zero_add]; refine Rd.held x.mem ?_
    rw [List.getElem?_toArray, List.getD_eq_getElem?_getD, List.getElem?_eq_getElem hj]; rfl⟩⟩
section
variable {P : Program} {B : Array Obj} {m : Md P B} {ops : Array Oper} {l l' : List Value} {S h h' H : Hp} {C : List Value → Hp → Prop} {i : Nat} {kd : Kd} {r : List (Nat × Kd)}
  {d : Option Tmp} {ty : TypeId} {pos : String} {af : Array Edge} {g : Option (Nat × Bool)}
theorem k_hpA {a b : Hp} [s : AppH a b h'] (n : RegK m S ops r l h' C) : RegK m S ops r l (a ++ b) C := by rw [s.eq]; exact n
theorem k_app1 {t t2 t3 e k by' q c : Nat} {x y : Operand} {s : Value} {n mm : Nat} {rw : Bool} {f : Nat × Nat} {cs ys : List Value} {F new : Hp} (ho : ops[i]? = some ⟨d, .call ⟨.builtin .append, [x, y].toArray, #[t, t2]⟩, ty, pos, af, g⟩) (hg : Wt ops l g)
    [ex : OpV l x s] [ey : OpV l y (.slice (some ⟨q, 0, none⟩) mm c)] [SliceT P t e k] [SliceT P t2 e k] [ElemT P e k by'] [hh : Has h q rw (.cells ys.toArray t3 f)] [on : Ones ys] (hy : ys.length = mm * k) (o : OwnS e k s n cs new) [w : SubH (F ++ new) h] (hk : kd = .free ∨ (kd = .keep ∧ S.Sublist F)) (hb : 2 * (n + mm) * by' ≤ 2 ^ 48) (hmax : n + mm ≤ 2 ^ 62)
    (cc : ∀ v' new', OwnS e k v' (n + mm) (cs ++ ys) new' → RegK m S ops r (put l d v') (F ++ new') C) : RegK m S ops ((i, kd) :: r) l h C :=
  k_app ho hg weakSub o (rdS_has hy) on.one hk hb hmax cc
end
end Go.Lo
namespace Go.Lo
open Go.Conc (G)
theorem sq {a b c : Hp} [s : SubH a b] (h : b.Sublist c) : a.Sublist c := s.sub.trans h
class HK (kd : Kd) (S h : Hp) : Prop where
  eq : kd = .free ∨ (kd = .keep ∧ S.Sublist h)
instance {S h : Hp} : HK .free S h := ⟨.inl rfl⟩
instance {S h : Hp} [s : SubH S h] : HK .keep S h := ⟨.inr ⟨rfl, s.sub⟩⟩
theorem kdq {kd : Kd} {S h : Hp} [k : HK kd S h] : kd = .free ∨ (kd = .keep ∧ S.Sublist h) := k.eq
section
variable {P : Program} {B : Array Obj} {m : Md P B} {ops : Array Oper} {l l' : List Value} {S h : Hp} {C : List Value → Hp → Prop} {i : Nat} {kd : Kd} {r : List (Nat × Kd)} {d : Option Tmp} {ty : TypeId} {pos : String} {af : Array Edge} {x : Operand} {v : Value}
theorem mq {H : Hp} (ho : ops[i]? = some ⟨d, .move x, ty, pos, af, none⟩) [KHeap kd S h H] [e : OpV l x v] [PutV l d v l'] (n : RegK m S ops r l' h C) : RegK m S ops ((i, kd) :: r) l h C := k_mv ho trivial n
theorem aq {H : Hp} (ho : ops[i]? = some ⟨d, .assign x, ty, pos, af, none⟩) [KHeap kd S h H] [e : OpV l x v] [PutV l d v l'] (n : C l' h) : RegK m S ops [(i, kd)] l h C := k_as ho trivial (k_nil n)
end
end Go.Lo
namespace Go.Lo
open Go.Conc (G)
abbrev uu1 : List Value := undef :: []
abbrev uu2 : List Value := undef :: uu1
abbrev uu3 : List Value := undef :: uu2
abbrev uu4 : List Value := undef :: uu3
abbrev uu5 : List Value := undef :: uu4
abbrev uu6 : List Value := undef :: uu5
abbrev uu7 : List Value := undef :: uu6
abbrev uu8 : List Value := undef :: uu7
abbrev uu9 : List Value := undef :: uu8
abbrev uu10 : List Value := undef :: uu9
abbrev uu11 : List Value := undef :: uu10
abbrev uu12 : List Value := undef :: uu11
abbrev uu13 : List Value := undef :: uu12
abbrev uu14 : List Value := undef :: uu13
abbrev uu15 : List Value := undef :: uu14
abbrev uu16 : List Value := undef :: uu15
abbrev uu17 : List Value := undef :: uu16
abbrev uu18 : List Value := undef :: uu17
abbrev uu19 : List Value := undef :: uu18
abbrev uu20 : List Value := undef :: uu19
abbrev uu21 : List Value := undef :: uu20
abbrev uu22 : List Value := undef :: uu21
abbrev uu23 : List Value := undef :: uu22
abbrev uu24 : List Value := undef :: uu23
abbrev uu25 : List Value := undef :: uu24
abbrev uu26 : List Value := undef :: uu25
abbrev uu27 : List Value := undef :: uu26
abbrev uu28 : List Value := undef :: uu27
abbrev uu29 : List Value := undef :: uu28
abbrev uu30 : List Value := undef :: uu29
abbrev uu31 : List Value := undef :: uu30
abbrev uu32 : List Value := undef :: uu31
abbrev uu33 : List Value := undef :: uu32
abbrev uu34 : List Value := undef :: uu33
abbrev uu35 : List Value := undef :: uu34
abbrev uu36 : List Value := undef :: uu35
abbrev uu37 : List Value := undef :: uu36
abbrev uu38 : List Value := undef :: uu37
abbrev uu39 : List Value := undef :: uu38
abbrev uu40 : List Value := undef :: uu39
abbrev uu41 : List Value := undef :: uu40
abbrev uu42 : List Value := undef :: uu41
abbrev uu43 : List Value := undef :: uu42
abbrev uu44 : List Value := undef :: uu43
abbrev uu45 : List Value := undef :: uu44
abbrev uu46 : List Value := undef :: uu45
abbrev uu47 : List Value := undef :: uu46
abbrev uu48 : List Value := undef :: uu47
abbrev uu49 : List Value := undef :: uu48
abbrev uu50 : List Value := undef :: uu49
abbrev uu51 : List Value := undef :: uu50
abbrev uu52 : List Value := undef :: uu51
abbrev uu53 : List Value := undef :: uu52
abbrev uu54 : List Value := undef :: uu53
abbrev uu55 : List Value := undef :: uu54
abbrev uu56 : List Value := undef :: uu55
abbrev uu57 : List Value := undef :: uu56
abbrev uu58 : List Value := undef :: uu57
abbrev uu59 : List Value := undef :: uu58
abbrev uu60 : List Value := undef :: uu59
abbrev uu61 : List Value := undef :: uu60
abbrev uu62 : List Value := undef :: uu61
abbrev uu63 : List Value := undef :: uu62
abbrev uu64 : List Value := undef :: uu63
abbrev uu65 : List Value := undef :: uu64
abbrev uu66 : List Value := undef :: uu65
abbrev uu67 : List Value := undef :: uu66
abbrev uu68 : List Value := undef :: uu67
abbrev uu69 : List Value := undef :: uu68
abbrev uu70 : List Value := undef :: uu69
abbrev uu71 : List Value := undef :: uu70
abbrev uu72 : List Value := undef :: uu71
abbrev uu73 : List Value := undef :: uu72
abbrev uu74 : List Value := undef :: uu73
abbrev uu75 : List Value := undef :: uu74
abbrev uu76 : List Value := undef :: uu75
abbrev uu77 : List Value := undef :: uu76
abbrev uu78 : List Value := undef :: uu77
abbrev uu79 : List Value := undef :: uu78
abbrev uu80 : List Value := undef :: uu79
abbrev uu81 : List Value := undef :: uu80
abbrev uu82 : List Value := undef :: uu81
abbrev uu83 : List Value := undef :: uu82
abbrev uu84 : List Value := undef :: uu83
abbrev uu85 : List Value := undef :: uu84
abbrev uu86 : List Value := undef :: uu85
abbrev uu87 : List Value := undef :: uu86
abbrev uu88 : List Value := undef :: uu87
abbrev uu89 : List Value := undef :: uu88
abbrev uu90 : List Value := undef :: uu89
abbrev uu91 : List Value := undef :: uu90
abbrev uu92 : List Value := undef :: uu91
abbrev uu93 : List Value := undef :: uu92
abbrev uu94 : List Value := undef :: uu93
abbrev uu95 : List Value := undef :: uu94
abbrev uu96 : List Value := undef :: uu95
abbrev uu97 : List Value := undef :: uu96
abbrev uu98 : List Value := undef :: uu97
abbrev uu99 : List Value := undef :: uu98
abbrev uu100 : List Value := undef :: uu99
abbrev uu101 : List Value := undef :: uu100
abbrev uu102 : List Value := undef :: uu101
abbrev uu103 : List Value := undef :: uu102
abbrev uu104 : List Value := undef :: uu103
abbrev uu105 : List Value := undef :: uu104
abbrev uu106 : List Value := undef :: uu105
abbrev uu107 : List Value := undef :: uu106
abbrev uu108 : List Value := undef :: uu107
abbrev uu109 : List Value := undef :: uu108
abbrev uu110 : List Value := undef :: uu109
abbrev uu111 : List Value := undef :: uu110
abbrev uu112 : List Value := undef :: uu111
abbrev uu113 : List Value := undef :: uu112
abbrev uu114 : List Value := undef :: uu113
abbrev uu115 : List Value := undef :: uu114
abbrev uu116 : List Value := undef :: uu115
abbrev uu117 : List Value := undef :: uu116
abbrev uu118 : List Value := undef :: uu117
abbrev uu119 : List Value := undef :: uu118
abbrev uu120 : List Value := undef :: uu119
abbrev uu121 : List Value := undef :: uu120
abbrev uu122 : List Value := undef :: uu121
abbrev uu123 : List Value := undef :: uu122
abbrev uu124 : List Value := undef :: uu123
abbrev uu125 : List Value := undef :: uu124
abbrev uu126 : List Value := undef :: uu125
abbrev uu127 : List Value := undef :: uu126
abbrev uu128 : List Value := undef :: uu127
abbrev uu129 : List Value := undef :: uu128
abbrev uu130 : List Value := undef :: uu129
abbrev uu131 : List Value := undef :: uu130
abbrev uu132 : List Value := undef :: uu131
abbrev uu133 : List Value := undef :: uu132
abbrev uu134 : List Value := undef :: uu133
abbrev uu135 : List Value := undef :: uu134
abbrev uu136 : List Value := undef :: uu135
abbrev uu137 : List Value := undef :: uu136
abbrev uu138 : List Value := undef :: uu137
abbrev uu139 : List Value := undef :: uu138
abbrev uu140 : List Value := undef :: uu139
abbrev uu141 : List Value := undef :: uu140
abbrev uu142 : List Value := undef :: uu141
abbrev uu143 : List Value := undef :: uu142
abbrev uu144 : List Value := undef :: uu143
abbrev uu145 : List Value := undef :: uu144
abbrev uu146 : List Value := undef :: uu145
abbrev uu147 : List Value := undef :: uu146
abbrev uu148 : List Value := undef :: uu147
abbrev uu149 : List Value := undef :: uu148
abbrev uu150 : List Value := undef :: uu149
abbrev uu151 : List Value := undef :: uu150
abbrev uu152 : List Value := undef :: uu151
abbrev uu153 : List Value := undef :: uu152
abbrev uu154 : List Value := undef :: uu153
abbrev uu155 : List Value := undef :: uu154
abbrev uu156 : List Value := undef :: uu155
abbrev uu157 : List Value := undef :: uu156
abbrev uu158 : List Value := undef :: uu157
abbrev uu159 : List Value := undef :: uu158
abbrev uu160 : List Value := undef :: uu159
abbrev uu161 : List Value := undef :: uu160
abbrev uu162 : List Value := undef :: uu161
abbrev uu163 : List Value := undef :: uu162
abbrev uu164 : List Value := undef :: uu163
abbrev uu165 : List Value := undef :: uu164
abbrev uu166 : List Value := undef :: uu165
abbrev uu167 : List Value := undef :: uu166
abbrev uu168 : List Value := undef :: uu167
abbrev uu169 : List Value := undef :: uu168
abbrev uu170 : List Value := undef :: uu169
abbrev uu171 : List Value := undef :: uu170
abbrev uu172 : List Value := undef :: uu171
abbrev uu173 : List Value := undef :: uu172
abbrev uu174 : List Value := undef :: uu173
abbrev uu175 : List Value := undef :: uu174
abbrev uu176 : List Value := undef :: uu175
abbrev uu177 : List Value := undef :: uu176
abbrev uu178 : List Value := undef :: uu177
abbrev uu179 : List Value := undef :: uu178
abbrev uu180 : List Value := undef :: uu179
abbrev uu181 : List Value := undef :: uu180
abbrev uu182 : List Value := undef :: uu181
abbrev uu183 : List Value := undef :: uu182
abbrev uu184 : List Value := undef :: uu183
abbrev uu185 : List Value := undef :: uu184
abbrev uu186 : List Value := undef :: uu185
abbrev uu187 : List Value := undef :: uu186
abbrev uu188 : List Value := undef :: uu187
abbrev uu189 : List Value := undef :: uu188
abbrev uu190 : List Value := undef :: uu189
abbrev uu191 : List Value := undef :: uu190
abbrev uu192 : List Value := undef :: uu191
abbrev uu193 : List Value := undef :: uu192
abbrev uu194 : List Value := undef :: uu193
abbrev uu195 : List Value := undef :: uu194
abbrev uu196 : List Value := undef :: uu195
abbrev uu197 : List Value := undef :: uu196
abbrev uu198 : List Value := undef :: uu197
abbrev uu199 : List Value := undef :: uu198
abbrev uu200 : List Value := undef :: uu199
abbrev uu201 : List Value := undef :: uu200
abbrev uu202 : List Value := undef :: uu201
abbrev uu203 : List Value := undef :: uu202
abbrev uu204 : List Value := undef :: uu203
abbrev uu205 : List Value := undef :: uu204
abbrev uu206 : List Value := undef :: uu205
abbrev uu207 : List Value := undef :: uu206
abbrev uu208 : List Value := undef :: uu207
abbrev uu209 : List Value := undef :: uu208
abbrev uu210 : List Value := undef :: uu209
abbrev uu211 : List Value := undef :: uu210
abbrev uu212 : List Value := undef :: uu211
abbrev uu213 : List Value := undef :: uu212
abbrev uu214 : List Value := undef :: uu213
abbrev uu215 : List Value := undef :: uu214
abbrev uu216 : List Value := undef :: uu215
abbrev uu217 : List Value := undef :: uu216
abbrev uu218 : List Value := undef :: uu217
abbrev uu219 : List Value := undef :: uu218
abbrev uu220 : List Value := undef :: uu219
abbrev uu221 : List Value := undef :: uu220
abbrev uu222 : List Value := undef :: uu221
abbrev uu223 : List Value := undef :: uu222
abbrev uu224 : List Value := undef :: uu223
abbrev uu225 : List Value := undef :: uu224
abbrev uu226 : List Value := undef :: uu225
abbrev uu227 : List Value := undef :: uu226
abbrev uu228 : List Value := undef :: uu227
abbrev uu229 : List Value := undef :: uu228
abbrev uu230 : List Value := undef :: uu229
abbrev uu231 : List Value := undef :: uu230
abbrev uu232 : List Value := undef :: uu231
abbrev uu233 : List Value := undef :: uu232
abbrev uu234 : List Value := undef :: uu233
abbrev uu235 : List Value := undef :: uu234
abbrev uu236 : List Value := undef :: uu235
abbrev uu237 : List Value := undef :: uu236
abbrev uu238 : List Value := undef :: uu237
abbrev uu239 : List Value := undef :: uu238
abbrev uu240 : List Value := undef :: uu239
abbrev uu241 : List Value := undef :: uu240
abbrev uu242 : List Value := undef :: uu241
abbrev uu243 : List Value := undef :: uu242
abbrev uu244 : List Value := undef :: uu243
abbrev uu245 : List Value := undef :: uu244
abbrev uu246 : List Value := undef :: uu245
abbrev uu247 : List Value := undef :: uu246
abbrev uu248 : List Value := undef :: uu247
abbrev uu249 : List Value := undef :: uu248
abbrev uu250 : List Value := undef :: uu249
abbrev uu251 : List Value := undef :: uu250
abbrev uu252 : List Value := undef :: uu251
abbrev uu253 : List Value := undef :: uu252
abbrev uu254 : List Value := undef :: uu253
abbrev uu255 : List Value := undef :: uu254
abbrev uu256 : List Value := undef :: uu255
abbrev uu257 : List Value := undef :: uu256
abbrev uu258 : List Value := undef :: uu257
abbrev uu259 : List Value := undef :: uu258
abbrev uu260 : List Value := undef :: uu259
abbrev uu261 : List Value := undef :: uu260
abbrev uu262 : List Value := undef :: uu261
abbrev uu263 : List Value := undef :: uu262
abbrev uu264 : List Value := undef :: uu263
abbrev uu265 : List Value := undef :: uu264
abbrev uu266 : List Value := undef :: uu265
abbrev uu267 : List Value := undef :: uu266
abbrev uu268 : List Value := undef :: uu267
abbrev uu269 : List Value := undef :: uu268
abbrev uu270 : List Value := undef :: uu269
abbrev uu271 : List Value := undef :: uu270
abbrev uu272 : List Value := undef :: uu271
abbrev uu273 : List Value := undef :: uu272
abbrev uu274 : List Value := undef :: uu273
abbrev uu275 : List Value := undef :: uu274
abbrev uu276 : List Value := undef :: uu275
abbrev uu277 : List Value := undef :: uu276
abbrev uu278 : List Value := undef :: uu277
abbrev uu279 : List Value := undef :: uu278
abbrev uu280 : List Value := undef :: uu279
abbrev uu281 : List Value := undef :: uu280
abbrev uu282 : List Value := undef :: uu281
abbrev uu283 : List Value := undef :: uu282
abbrev uu284 : List Value := undef :: uu283
abbrev uu285 : List Value := undef :: uu284
abbrev uu286 : List Value := undef :: uu285
abbrev uu287 : List Value := undef :: uu286
abbrev uu288 : List Value := undef :: uu287
abbrev uu289 : List Value := undef :: uu288
abbrev uu290 : List Value := undef :: uu289
abbrev uu291 : List Value := undef :: uu290
abbrev uu292 : List Value := undef :: uu291
abbrev uu293 : List Value := undef :: uu292
abbrev uu294 : List Value := undef :: uu293
abbrev uu295 : List Value := undef :: uu294
abbrev uu296 : List Value := undef :: uu295
abbrev uu297 : List Value := undef :: uu296
abbrev uu298 : List Value := undef :: uu297
abbrev uu299 : List Value := undef :: uu298
abbrev uu300 : List Value := undef :: uu299
abbrev uu301 : List Value := undef :: uu300
abbrev uu302 : List Value := undef :: uu301
abbrev uu303 : List Value := undef :: uu302
abbrev uu304 : List Value := undef :: uu303
abbrev uu305 : List Value := undef :: uu304
abbrev uu306 : List Value := undef :: uu305
abbrev uu307 : List Value := undef :: uu306
abbrev uu308 : List Value := undef :: uu307
abbrev uu309 : List Value := undef :: uu308
end Go.Lo
namespace Go.Lo
open Go.Conc (G)
class ResL (P : Program) (h : Hp) (l : List Value) (rs : List ResultVar) (vs : outParam (List Value)) : Prop where
  eq : ∀ B, Reads P B (rs.mapM (m := Sem) fun | .tmp t => pure (l.toArray.getD t undef) | .cell a t => do loadVar t (← asAddr (l.toArray.getD a undef))) h vs
instance {P : Program} {h : Hp} {l : List Value} : ResL P h l [] [] := ⟨fun _ => Reads.pure _⟩
theorem getD_slot {l : List Value} {t : Nat} {v : Value} (s : l.getD t undef = v) : l.toArray.getD t undef = v := by
  rw [← s, Array.getD_eq_getD_getElem?, List.getElem?_toArray, ← List.getD_eq_getElem?_getD]
instance {P : Program} {h : Hp} {l : List Value} {t : Nat} {v : Value} {rs : List ResultVar} {vs : List Value} [s : Slot l t v] [r : ResL P h l rs vs] : ResL P h l (.tmp t :: rs) (v :: vs) := ⟨fun B => by
  rw [List.mapM_cons]; refine Reads.bind (a := v) (by simp only [getD_slot s.eq]; exact Reads.pure _) ?_
  exact Reads.bind (r.eq B) (Reads.pure _)⟩
instance {P : Program} {h : Hp} {l : List Value} {a t b o n t' : Nat} {rw : Bool} {f : Nat × Nat} {cs ws : List Value} {rs : List ResultVar} {vs : List Value} [s : Slot l a (.pointer (some ⟨b, o, none⟩))] [AggT P t n] [q : Has h b rw (.cells cs.toArray t' f)] [g : Seg cs o n ws] [r : ResL P h l rs vs] :
    ResL P h l (.cell a t :: rs) (.agg ws.toArray :: vs) := ⟨fun B => by
  rw [List.mapM_cons]; refine Reads.bind (a := .agg ws.toArray) ?_ ?_
  · simp only [getD_slot s.eq]
    exact Reads.bind (a := ⟨b, o, none⟩) (Reads.pure _) (reads_varN g.eq.2 (rdN_of q.mem g.eq))
  · exact Reads.bind (r.eq B) (Reads.pure _)⟩
instance {P : Program} {h : Hp} {l : List Value} {a t b o t' : Nat} {rw : Bool} {f : Nat × Nat} {cs : List Value} {v : Value} {rs : List ResultVar} {vs : List Value} [s : Slot l a (.pointer (some ⟨b, o, none⟩))] [Scal P t] [q : Has h b rw (.cells cs.toArray t' f)] [g : At cs o v] [r : ResL P h l rs vs] :
    ResL P h l (.cell a t :: rs) (v :: vs) := ⟨fun B => by
  rw [List.mapM_cons]; refine Reads.bind (a := v) ?_ ?_
  · simp only [getD_slot s.eq]
    exact Reads.bind (a := ⟨b, o, none⟩) (Reads.pure _) (reads_var1 (Rd.held q.mem (by simpa using g.eq)))
  · exact Reads.bind (r.eq B) (Reads.pure _)⟩
class ResV (vs : List Value) (v : outParam Value) : Prop where
  eq : (if h : vs.toArray.size = 1 then vs.toArray[0] else .tuple vs.toArray) = v
instance {v : Value} : ResV [v] v := ⟨rfl⟩
instance : ResV [] (.tuple [].toArray) := ⟨rfl⟩
instance {v w : Value} {vs : List Value} : ResV (v :: w :: vs) (.tuple (v :: w :: vs).toArray) := ⟨by simp⟩
theorem reads_res {P : Program} {B : Array Obj} {h : Hp} {l : List Value} {fn : Func} {rs : List ResultVar} {vs : List Value} {v : Value} (hr : fn.results = rs.toArray) [r : ResL P h l rs vs] [e : ResV vs v] : Reads P B (results fn l.toArray) h v := by
  unfold results
  rw [hr, Array.mapM_eq_mapM_toList, map_eq_pure_bind]; refine Reads.bind (Reads.bind (r.eq B) (Reads.pure _)) ?_
  rw [e.eq]; exact Reads.pure _
section
variable {P : Program} {B : Array Obj} {m : Md P B} {ops : Array Oper} {l l' : List Value} {S h h' H : Hp} {C : List Value → Hp → Prop} {i : Nat} {kd : Kd} {r : List (Nat × Kd)}
  {d : Option Tmp} {ty : TypeId} {pos : String} {af : Array Edge} {g : Option (Nat × Bool)}
theorem run_res {b : Frame} {todo : List Item} {c : Frame} {cs : List Frame} {K : Goroutine → Hp → Prop} {fn : Func} {rs : List ResultVar} {vs : List Value} {v : Value} (h' : Hp) (hk : b.kind = .normal) (hf : P.funcs[b.fn]? = some fn) (hr : fn.results = rs.toArray) [ResL P h l rs vs] [ResV vs v] (w : Weak B h h')
    (n : m.R K (G (c.finish v) cs) h') : m.R K (Gret b l [] todo (c :: cs)) h := run_return hk hf (reads_res hr) (m.weak w n)
theorem k_cal {args : List Operand} {ats : Array TypeId} {f : FuncId} {vs : List Value} {Post : Value → Hp → Prop} (ho : ops[i]? = some ⟨d, .call ⟨.value (.func f), args.toArray, ats⟩, ty, pos, af, g⟩) (hw : Wt ops l g)
    [ea : ArgsV l args vs] (hf : callB P f = true) (c : FnC m f vs.toArray h Post) (n : ∀ v h', Post v h' → RegK m S ops r (put l d v) h' C) : RegK m S ops ((i, .free) :: r) l h C :=
  k_call (ex := (⟨rfl⟩ : OpV l (.func f) (.func (.func f) #[] #[]))) ho hw hf (by simpa using c) n
theorem k_calC {args : List Operand} {ats : Array TypeId} {f : FuncId} {vs : List Value} {Post : Value → Hp → Prop} (ho : ops[i]? = some ⟨d, .call ⟨.value (.func f), args.toArray, ats⟩, ty, pos, af, g⟩) (hw : Wt ops l g) [kb : KBase kd S h H]
    [ea : ArgsV l args vs] (hf : callB P f = true) (c : ∀ H' : Hp, H.Sublist H' → FnC m f vs.toArray H' fun v h' => ∃ new, h' = H' ++ new ∧ Post v new) (n : ∀ v new, Post v new → RegK m S ops r (put l d v) (h ++ new) C) : RegK m S ops ((i, kd) :: r) l h C :=
  k_callC (ex := (⟨rfl⟩ : OpV l (.func f) (.func (.func f) #[] #[]))) ho hw hf (by simpa using c) n
theorem k_calP {args : List Operand} {ats : Array TypeId} {f : FuncId} {vs : List Value} {Post : Value → Prop} (ho : ops[i]? = some ⟨d, .call ⟨.value (.func f), args.toArray, ats⟩, ty, pos, af, g⟩) (hw : Wt ops l g) [kb : KBase kd S h H]
    [ea : ArgsV l args vs] (hf : callB P f = true) (c : ∀ H' : Hp, H.Sublist H' → FnC m f vs.toArray H' fun v h' => h' = H' ∧ Post v) (n : ∀ v, Post v → RegK m S ops r (put l d v) h C) : RegK m S ops ((i, kd) :: r) l h C :=
  k_calC (Post := fun v new => new = [] ∧ Post v) ho hw hf (fun H' hs => CallF.mono (c H' hs) fun v h' ⟨e, p⟩ => ⟨[], by simp [e], rfl, p⟩) fun v new ⟨e, p⟩ => by subst e; simpa using n v p
end
theorem exU {l : List Value} {f : (Nat → Value) → List Value} (h : l = f fun i => l.getD i undef) : ∃ U, l = f U := ⟨_, h⟩
def IsB (p : Prop) (v : Value) : Prop := (p ∧ v = .bool true) ∨ (¬ p ∧ v = .bool false)
theorem IsB.yes {p : Prop} (h : p) : IsB p (.bool true) := .inl ⟨h, rfl⟩
theorem IsB.no {p : Prop} (h : ¬ p) : IsB p (.bool false) := .inr ⟨h, rfl⟩
end Go.Lo
namespace Go.Lo
open Go.Conc (G)
class Enc (α : Type) (k : outParam Nat) where
  enc : α → List Value
  len : ∀ a, (enc a).length = k
  one : ∀ a, ∀ u ∈ enc a, u.oneCell' = true
abbrev enc {α : Type} {k : Nat} [Enc α k] : α → List Value := Enc.enc
def encs {α : Type} {k : Nat} [Enc α k] : List α → List Value
  | [] => []
  | a :: r => Enc.enc a ++ encs r
section
variable {α : Type} {k : Nat} [Enc α k]
theorem encs_length : ∀ (xs : List α), (encs xs).length = xs.length * k
  | [] => by simp [encs]
  | a :: r => by
    have := encs_length r
    simp only [encs, List.length_append, Enc.len, this, List.length_cons, Nat.add_mul, Nat.one_mul]
    omega
theorem encs_append : ∀ (xs ys : List α), encs (xs ++ ys) = encs xs ++ encs ys
  | [], ys => rfl
  | a :: r, ys => by simp [encs, encs_append r ys]
theorem encs_one : ∀ (xs : List α), ∀ u ∈ encs xs, u.oneCell' = true
  | [], u, h => by simp [encs] at h
  | a :: r, u, h => by
    rcases List.mem_append.1 h with h | h
    · exact Enc.one a u h
    · exact encs_one r u h
theorem encs_at [Inhabited α] : ∀ (xs : List α) (i j : Nat), i < xs.length → j < k → (encs xs)[i * k + j]? = (Enc.enc (xs.getD i default))[j]?
  | [], i, j, h, _ => by simp at h
  | a :: r, 0, j, _, hj => by
    simp only [encs, Nat.zero_mul, Nat.zero_add]
    rw [List.getElem?_append_left (by rw [Enc.len]; exact hj)]; rfl
  | a :: r, i + 1, j, h, hj => by
    have := encs_at r i j (by simpa using h) hj
    simp only [encs]
    rw [List.getElem?_append_right (by rw [Enc.len, Nat.add_mul]; omega), Enc.len]; rw [show (i + 1) * k + j - k = i * k + j by rw [Nat.add_mul]; omega, this]; rfl
theorem encs_cut : ∀ (xs : List α) (i : Nat), (encs xs).take (i * k) = encs (xs.take i) ∧ (encs xs).drop (i * k) = encs (xs.drop i)
  | [], i => by simp [encs]
  | a :: r, 0 => by simp [encs]
  | a :: r, i + 1 => by
    obtain ⟨h1, h2⟩ := encs_cut r i
    have hl : (Enc.enc a).length = k := Enc.len a
    have e : (i + 1) * k = (Enc.enc a).length + i * k := by rw [hl, Nat.add_mul]; omega
    refine ⟨?_, ?_⟩
    · show (Enc.enc a ++ encs r).take ((i + 1) * k) = Enc.enc a ++ encs (r.take i)
      rw [e, List.take_length_add_append, h1]
    · show (Enc.enc a ++ encs r).drop ((i + 1) * k) = encs (r.drop i)
      rw [e, List.drop_length_add_append, h2]
theorem encs_take (xs : List α) (i : Nat) : encs (xs.take i) = (encs xs).take (i * k) := (encs_cut xs i).1.symm
theorem encs_drop (xs : List α) (i : Nat) : encs (xs.drop i) = (encs xs).drop (i * k) := (encs_cut xs i).2.symm
theorem take_snoc [Inhabited α] (xs : List α) (i : Nat) (h : i < xs.length) : xs.take (i + 1) = xs.take i ++ [xs.getD i default] := by
  rw [List.take_add_one, List.getElem?_eq_getElem h, List.getD_eq_getElem?_getD, List.getElem?_eq_getElem h]; rfl
end
theorem take_snoc' (xs : List Int) (i : Nat) (h : i < xs.length) : xs.take (i + 1) = xs.take i ++ [xs.getD i 0] := take_snoc xs i h
theorem ints_append (xs ys : List Int) : ints (xs ++ ys) = ints xs ++ ints ys := List.map_append
theorem ints_take (xs : List Int) (i : Nat) : ints (xs.take i) = (ints xs).take i := List.map_take
theorem ints_drop (xs : List Int) (i : Nat) : ints (xs.drop i) = (ints xs).drop i := List.map_drop
section
variable {B : Array Obj} {h H : Hp}
theorem RdS.up {k : Nat} {v : Value} {n : Nat} {ys : List Value} (r : RdS B h k v n ys) [s : SubH h H] : RdS B H k v n ys := r.keeps s.sub
theorem RdS.len {k n c : Nat} {p : Option Addr} {ys : List Value} (r : RdS B h k (.slice p n c) n ys) : ys.length = n * k := by
  obtain ⟨_, _, e, hl, _⟩ := r; exact hl
theorem RdS.ilen {n c : Nat} {p : Option Addr} {xs : List Int} (r : RdS B h 1 (.slice p n c) n (ints xs)) : xs.length = n := by
  have := r.len; simpa using this
theorem RdS.elen {α : Type} {k : Nat} [Enc α k] {n c : Nat} {p : Option Addr} {xs : List α} (r : RdS B h k (.slice p n c) n (encs xs)) (hk : 0 < k) : xs.length = n := by
  have := r.len
  rw [encs_length] at this
  exact Nat.eq_of_mul_eq_mul_right hk this
theorem RdS.rdN {k n c : Nat} {b o : Nat} {ys : List Value} (r : RdS B h k (.slice (some ⟨b, o, none⟩) n c) n ys) : RdN B h b o ys := by
  obtain ⟨p', c', e, hl, ⟨rfl, e''⟩ | ⟨b', o', e', rd⟩⟩ := r
  · cases e
  · obtain ⟨rfl, _, rfl⟩ := Value.slice.inj e
    obtain ⟨rfl, rfl, _⟩ := Addr.mk.inj (Option.some.inj e')
    exact rd
theorem RdS.iat {n c b o : Nat} {xs : List Int} (rd : RdS B h 1 (.slice (some ⟨b, o, none⟩) n c) n (ints xs)) [s : SubH h H] {j : Int} (i : Nat) (hj : j = i) (hi : i < n) : Rd B H ⟨b, o + j.toNat * 1, none⟩ (.int .i64 (xs.getD i 0)) := by
  have hl := rd.ilen
  have := rd.rdN i (by simpa [hl] using hi)
  rw [hj, Int.toNat_natCast, Nat.mul_one]; rw [List.getD_eq_getElem?_getD, List.getElem?_map, List.getElem?_eq_getElem (by omega)] at this
  rw [List.getD_eq_getElem?_getD, List.getElem?_eq_getElem (by omega)]; exact this.keeps s.sub
theorem RdS.fat {α : Type} {k : Nat} [Enc α k] [Inhabited α] {n c b o : Nat} {xs : List α} (rd : RdS B h k (.slice (some ⟨b, o, none⟩) n c) n (encs xs)) [s : SubH h H] {j : Int} (i : Nat) (f : Nat) (hj : j = i) (hi : i < n) {v : Value} (hv : (Enc.enc (xs.getD i default))[f]? = some v) : Rd B H ⟨b, o + j.toNat * k + f, none⟩ v := by
  have hf : f < k := by
    have := (List.getElem?_eq_some_iff.1 hv).1
    rwa [Enc.len] at this
  have hl := rd.elen (by omega)
  have hlt : i * k + f < (encs xs).length := by
    rw [encs_length, hl]; have : (i + 1) * k ≤ n * k := Nat.mul_le_mul_right k hi
    rw [Nat.add_mul] at this
    omega
  have := rd.rdN (i * k + f) hlt
  rw [List.getD_eq_getElem?_getD, encs_at xs i f (by omega) hf, hv] at this
  rw [hj, Int.toNat_natCast, Nat.add_assoc]; exact this.keeps s.sub
theorem RdS.eat {α : Type} {k : Nat} [Enc α k] [Inhabited α] {n c b o : Nat} {xs : List α} (rd : RdS B h k (.slice (some ⟨b, o, none⟩) n c) n (encs xs)) [s : SubH h H] {j : Int} (i : Nat) (hj : j = i) (hi : i < n) : RdN B H b (o + j.toNat * k) (Enc.enc (xs.getD i default)) := fun f hf => by
  refine rd.fat i f hj hi ?_
  have : ∀ (l : List Value), f < l.length → l[f]? = some (l.getD f undef) := fun l hl => by
    rw [List.getD_eq_getElem?_getD, List.getElem?_eq_getElem hl]; rfl
  exact this _ hf
end
end Go.Lo
namespace Go.Lo
open Go.Conc (G)
structure Sp where
  lo : Int
  hi : Int
  deriving DecidableEq, Inhabited
structure Ru where
  a : Int
  b : Int
  lo : Int
  hi : Int
  deriving DecidableEq, Inhabited
structure Bk where
  bend : Int
  twist : Int
  turns : Int
  marks : List Sp
  rules : List Ru
  deriving DecidableEq, Inhabited
abbrev spL (x : Sp) : List Value := [.int .i64 x.lo, .int .i64 x.hi]
abbrev ruL (x : Ru) : List Value := [.int .i64 x.a, .int .i64 x.b, .int .i64 x.lo, .int .i64 x.hi]
instance : Enc Sp 2 where
  enc := spL
  len := fun _ => rfl
  one := fun _ => one_all rfl
instance : Enc Ru 4 where
  enc := ruL
  len := fun _ => rfl
  one := fun _ => one_all rfl
abbrev spV (x : Sp) : Value := .agg (spL x).toArray
abbrev ruV (x : Ru) : Value := .agg (ruL x).toArray
abbrev bookL (x y z : Int) (mv rv : Value) : List Value := [.int .i64 x, .int .i64 y, .int .i64 z, mv, rv]
abbrev bookV (x y z : Int) (mv rv : Value) : Value := .agg (bookL x y z mv rv).toArray
abbrev bkL (b : Bk) (pm : Option Addr) (nm cm : Nat) (pr : Option Addr) (nr cr : Nat) : List Value := bookL b.bend b.twist b.turns (.slice pm nm cm) (.slice pr nr cr)
abbrev bkV (b : Bk) (pm : Option Addr) (nm cm : Nat) (pr : Option Addr) (nr cr : Nat) : Value := .agg (bkL b pm nm cm pr nr cr).toArray
theorem getD_dropR {α : Type} [Inhabited α] (xs : List α) (k : Nat) (h : k < xs.length) : xs.drop k = xs.getD k default :: xs.drop (k + 1) := by
  rw [List.drop_eq_getElem_cons h, List.getD_eq_getElem?_getD, List.getElem?_eq_getElem h]; rfl
theorem mem_getDR {α : Type} [Inhabited α] {xs : List α} {x : α} : x ∈ xs ↔ ∃ i, i < xs.length ∧ xs.getD i default = x := by
  rw [List.mem_iff_getElem]; constructor
  · rintro ⟨i, h, e⟩; exact ⟨i, h, by rw [List.getD_eq_getElem?_getD, List.getElem?_eq_getElem h]; exact e⟩
  · rintro ⟨i, h, e⟩; exact ⟨i, h, by rw [List.getD_eq_getElem?_getD, List.getElem?_eq_getElem h] at e; exact e⟩
theorem all_snoc {α : Type} [Inhabited α] {xs : List α} {p : α → Prop} {k : Nat} (h : ∀ i, i < k → p (xs.getD i default)) (hk : p (xs.getD k default)) : ∀ i, i < k + 1 → p (xs.getD i default) := fun i hi => by
  rcases Nat.lt_or_ge i k with h1 | h1
  · exact h i h1
  · obtain rfl : i = k := by omega
    exact hk
section
variable {B : Array Obj} {h H : Hp}
theorem RdS.vat {n c b o : Nat} {ys : List Value} (rd : RdS B h 1 (.slice (some ⟨b, o, none⟩) n c) n ys) [s : SubH h H] {j : Int} (i : Nat) (hj : j = i) (hi : i < n) : Rd B H ⟨b, o + j.toNat * 1, none⟩ (ys.getD i undef) := by
  have hl := rd.len
  have := rd.rdN i (by omega)
  rw [hj, Int.toNat_natCast, Nat.mul_one]; exact this.keeps s.sub
def CapV (u : Value) : Prop := ∀ p n c, u = .slice p n c → n ≤ c
def RdE (B : Array Obj) (h : Hp) (vs : List Value) (ll : List (List Int)) : Prop :=
  (vs.length = ll.length ∧ ∀ u ∈ vs, CapV u) ∧ ∀ i, i < ll.length → ∃ p c, vs.getD i undef = .slice p (ll.getD i []).length c ∧ RdS B h 1 (.slice p (ll.getD i []).length c) (ll.getD i []).length (ints (ll.getD i []))
theorem RdE.keeps {vs : List Value} {ll : List (List Int)} (r : RdE B h vs ll) (s : h.Sublist H) : RdE B H vs ll :=
  ⟨r.1, fun i hi => by obtain ⟨p, c, e, rd⟩ := r.2 i hi; exact ⟨p, c, e, rd.keeps s⟩⟩
theorem RdE.up {vs : List Value} {ll : List (List Int)} (r : RdE B h vs ll) [s : SubH h H] : RdE B H vs ll := r.keeps s.sub
theorem RdE.nil : RdE B h [] [] := ⟨⟨rfl, fun u hu => by simp at hu⟩, fun i hi => by simp at hi⟩
theorem RdE.snoc {vs : List Value} {ll : List (List Int)} {p : Option Addr} {c n : Nat} {xs : List Int} (r : RdE B h vs ll) (hn : n = xs.length) (rd : RdS B h 1 (.slice p n c) n (ints xs)) (hc : n ≤ c) : RdE B h (vs ++ [.slice p n c]) (ll ++ [xs]) := by
  subst hn
  refine ⟨⟨by simp [r.1.1], fun u hu => ?_⟩, fun i hi => ?_⟩
  · rcases List.mem_append.1 hu with hu | hu
    · exact r.1.2 u hu
    · rw [List.mem_singleton.1 hu]; intro p' n' c' e
      obtain ⟨_, rfl, rfl⟩ := Value.slice.inj e
      exact hc
  have hl := r.1.1
  simp only [List.length_append, List.length_cons, List.length_nil] at hi
  rcases Nat.lt_or_ge i ll.length with h1 | h1
  · obtain ⟨p', c', e, rd'⟩ := r.2 i h1
    refine ⟨p', c', ?_, ?_⟩ <;> simp only [List.getD_eq_getElem?_getD] at e rd' ⊢ <;> rw [List.getElem?_append_left h1]
    · rw [List.getElem?_append_left (by omega)]; exact e
    · exact rd'
  · obtain rfl : i = ll.length := by omega
    refine ⟨p, c, ?_, ?_⟩ <;> simp only [List.getD_eq_getElem?_getD] <;> rw [List.getElem?_append_right (Nat.le_refl _), Nat.sub_self]
    · rw [← hl, List.getElem?_append_right (Nat.le_refl _), Nat.sub_self]; rfl
    · exact rd
theorem RdE.cap {vs : List Value} {ll : List (List Int)} (r : RdE B h vs ll) {i : Nat} (hi : i < ll.length) {p : Option Addr} {n c : Nat} (e : vs.getD i undef = .slice p n c) : n ≤ c := by
  have hl := r.1.1
  refine r.1.2 (vs.getD i undef) ?_ p n c e
  rw [List.getD_eq_getElem?_getD, List.getElem?_eq_getElem (by omega)]; exact List.getElem_mem _
end
theorem OwnS.zero {t k q : Nat} : OwnS t k (.slice (some ⟨q, 0, none⟩) 0 0) 0 [] [⟨true, q, .cells ([] : List Value).toArray t (0, 0)⟩] :=
  .blk (cs := []) (junk := []) (by simp) (by simp) (Nat.le_refl _)
theorem Weak.mid {B : Array Obj} (A w C : Hp) : Weak B ((A ++ w) ++ C) ((A ++ C) ++ w) := Weak.perm (by
  rw [List.append_assoc, List.append_assoc]; exact List.Perm.append_left A List.perm_append_comm)
theorem take_snocL (ll : List (List Int)) (i : Nat) (h : i < ll.length) : ll.take (i + 1) = ll.take i ++ [ll.getD i []] := by
  rw [List.take_add_one, List.getElem?_eq_getElem h, List.getD_eq_getElem?_getD, List.getElem?_eq_getElem h]; rfl
section
variable {P : Program} {B : Array Obj} {m : Md P B} {ops : Array Oper} {l l' : List Value} {S h h' H : Hp} {C : List Value → Hp → Prop} {i : Nat} {kd : Kd} {r : List (Nat × Kd)}
  {d : Option Tmp} {ty : TypeId} {pos : String} {af : Array Edge} {g : Option (Nat × Bool)}
theorem k_appW {t t2 t3 e k by' q c : Nat} {x y : Operand} {s : Value} {n mm : Nat} {rw : Bool} {f : Nat × Nat} {cs ys : List Value} {F new : Hp} (ho : ops[i]? = some ⟨d, .call ⟨.builtin .append, [x, y].toArray, #[t, t2]⟩, ty, pos, af, g⟩) (hg : Wt ops l g)
    [ex : OpV l x s] [ey : OpV l y (.slice (some ⟨q, 0, none⟩) mm c)] [SliceT P t e k] [SliceT P t2 e k] [ElemT P e k by'] [hh : Has h q rw (.cells ys.toArray t3 f)] [on : Ones ys] (hy : ys.length = mm * k) (o : OwnS e k s n cs new) (w : Weak B h (F ++ new)) (hk : kd = .free ∨ (kd = .keep ∧ S.Sublist F)) (hb : 2 * (n + mm) * by' ≤ 2 ^ 48) (hmax : n + mm ≤ 2 ^ 62)
    (cc : ∀ v' new', OwnS e k v' (n + mm) (cs ++ ys) new' → RegK m S ops r (put l d v') (F ++ new') C) : RegK m S ops ((i, kd) :: r) l h C :=
  k_app ho hg w o (rdS_has hy) on.one hk hb hmax cc
end
end Go.Lo
namespace Go.Lo
open Go.Conc (G)
def cutP (k : Nat) (p : Option Addr) (c lo : Nat) : Option Addr := if c = lo then p else p.map fun a => a.add (lo * k)
def OkP (p : Option Addr) : Prop := p = none ∨ ∃ b o, p = some ⟨b, o, none⟩
section
variable {B : Array Obj} {h : Hp}
theorem RdS.okp {k n c : Nat} {p : Option Addr} {ys : List Value} (rd : RdS B h k (.slice p n c) n ys) : OkP p := by
  obtain ⟨p', c', e, _, ⟨rfl, _⟩ | ⟨b, o, rfl, _⟩⟩ := rd
  · exact .inl (Value.slice.inj e).1
  · exact .inr ⟨b, o, (Value.slice.inj e).1⟩
theorem cutP_zero {k c : Nat} {p : Option Addr} (hp : OkP p) : cutP k p c 0 = p := by
  unfold cutP
  split
  · rfl
  · rcases hp with rfl | ⟨b, o, rfl⟩
    · rfl
    · simp [Addr.add_none]
theorem RdS.pre {k n c : Nat} {p : Option Addr} {ys : List Value} (rd : RdS B h k (.slice p n c) n ys) {m : Nat} (hm : m ≤ n) : RdS B h k (.slice p m c) m (ys.take (m * k)) := by
  obtain ⟨p', c', e, hl, hr⟩ := rd
  obtain ⟨rfl, _, rfl⟩ := Value.slice.inj e
  have hmk : m * k ≤ n * k := Nat.mul_le_mul_right k hm
  refine ⟨_, _, rfl, by rw [List.length_take, hl]; omega, ?_⟩
  rcases hr with ⟨rfl, rfl⟩ | ⟨b, o, rfl, rd⟩
  · exact .inl ⟨rfl, by omega⟩
  · refine .inr ⟨b, o, rfl, fun j hj => ?_⟩
    rw [List.length_take] at hj
    have := rd j (by omega)
    rw [List.getD_eq_getElem?_getD] at this ⊢
    rw [List.getElem?_take, if_pos (by omega)]; exact this
theorem RdS.cut {k n c : Nat} {p : Option Addr} {ys : List Value} (rd : RdS B h k (.slice p n c) n ys) {lo : Nat} (hlo : lo ≤ n) (hc : n ≤ c) : RdS B h k (.slice (cutP k p c lo) (n - lo) (c - lo)) (n - lo) (ys.drop (lo * k)) := by
  obtain ⟨p', c', e, hl, hr⟩ := rd
  obtain ⟨rfl, _, rfl⟩ := Value.slice.inj e
  refine ⟨_, _, rfl, by rw [List.length_drop, hl, Nat.sub_mul], ?_⟩
  rcases hr with ⟨rfl, rfl⟩ | ⟨b, o, rfl, rd⟩
  · refine .inl ⟨?_, by omega⟩
    unfold cutP; split <;> rfl
  · have out : ∀ o', (c = lo → o' = o) → (c ≠ lo → o' = o + lo * k) → RdN B h b o' (ys.drop (lo * k)) := fun o' h1 h2 j hj => by
      rw [List.length_drop, hl] at hj
      have hne : c ≠ lo := by
        rintro rfl; have : n = c := by omega
        subst this
        omega
      have := rd (lo * k + j) (by omega)
      rw [List.getD_eq_getElem?_getD] at this ⊢
      rw [List.getElem?_drop, h2 hne, Nat.add_assoc]; exact this
    unfold cutP
    split
    · rename_i e1
      exact .inr ⟨b, o, rfl, out o (fun _ => rfl) (fun e => absurd e1 e)⟩
    · rename_i e1
      exact .inr ⟨b, o + lo * k, by simp [Addr.add_none], out _ (fun e => absurd e e1) (fun _ => rfl)⟩
theorem OwnS.pre {t k n c : Nat} {p : Option Addr} {cs : List Value} {new : Hp} (o : OwnS t k (.slice p n c) n cs new) {m : Nat} (hm : m ≤ n) : OwnS t k (.slice p m c) m (cs.take (m * k)) new := by
  have hmk : m * k ≤ n * k := Nat.mul_le_mul_right k hm
  cases o with
  | nil =>
    obtain rfl : m = 0 := by omega
    simp only [List.take_nil]
    exact .nil
  | blk hl hc hn =>
    rename_i b junk
    have e : cs ++ junk = cs.take (m * k) ++ (cs.drop (m * k) ++ junk) := by rw [← List.append_assoc, List.take_append_drop]
    rw [e]; exact .blk (by rw [List.length_take, hl]; omega) (by rw [← List.length_append, ← e, List.length_append]; exact hc) (by omega)
theorem OwnS.cap {t k n c : Nat} {p : Option Addr} {cs : List Value} {new : Hp} (o : OwnS t k (.slice p n c) n cs new) : n ≤ c := by
  cases o with
  | nil => exact Nat.le_refl _
  | blk hl hc hn => exact hn
theorem OwnS.okp {t k n c : Nat} {p : Option Addr} {cs : List Value} {new : Hp} (o : OwnS t k (.slice p n c) n cs new) : OkP p := by
  cases o with
  | nil => exact .inl rfl
  | blk hl hc hn => exact .inr ⟨_, _, rfl⟩
end
section
variable {P : Program} {B : Array Obj} {m : Md P B} {ops : Array Oper} {l l' : List Value} {S h h' H : Hp} {C : List Value → Hp → Prop} {i : Nat} {kd : Kd} {r : List (Nat × Kd)}
  {d : Option Tmp} {ty : TypeId} {pos : String} {af : Array Edge} {g : Option (Nat × Bool)}
theorem reads_bounds {n c : Nat} {lo hi : Option Value} {a b : Nat} (hh : (hi = none ∧ b = n) ∨ ∃ ik, hi = some (.int ik (b : Int)) ∧ b ≤ c) (hl : (lo = none ∧ a = 0) ∨ ∃ ik, lo = some (.int ik (a : Int)) ∧ a ≤ b) :
    Reads P B (Instr.sliceBounds true n c lo hi none) h (a, b, c) := by
  unfold Instr.sliceBounds
  refine Reads.bind (Reads.pure c) ?_
  rcases hh with ⟨rfl, rfl⟩ | ⟨ik, rfl, hb⟩ <;> rcases hl with ⟨rfl, rfl⟩ | ⟨ik', rfl, ha⟩
  · exact Reads.pure _
  · exact Reads.bind (Reads.pure b) (Reads.bind (reads_bound (i := (a : Int)) (by omega) (by omega)) (Reads.pure _))
  · exact Reads.bind (reads_bound (i := (b : Int)) (by omega) (by omega)) (Reads.pure _)
  · exact Reads.bind (reads_bound (i := (b : Int)) (by omega) (by omega)) (Reads.bind (reads_bound (i := (a : Int)) (by omega) (by omega)) (Reads.pure _))
theorem reads_cut {t e k n c : Nat} {p : Option Addr} {lo hi : Option Value} {a b : Nat} [SliceT P t e k] (hh : (hi = none ∧ b = n) ∨ ∃ ik, hi = some (.int ik (b : Int)) ∧ b ≤ c) (hl : (lo = none ∧ a = 0) ∨ ∃ ik, lo = some (.int ik (a : Int)) ∧ a ≤ b) :
    Reads P B (Instr.sliceAt t (.slice p n c) lo hi none) h (.slice (cutP k p c a) (b - a) (c - a)) := by
  obtain ⟨hu, hs⟩ := slice_und (P := P) (B := B) (h := h) (t := t)
  unfold Instr.sliceAt
  refine Reads.bind (still_und hu).reads ?_
  unfold Instr.slice
  refine Reads.bind (still_und hu).reads ?_
  refine Reads.bind (reads_bounds hh hl) ?_
  exact Reads.bind hs (Reads.pure _)
theorem k_slTo {t e k n c b : Nat} {x z : Operand} {p : Option Addr} {j : Int} {ik : IntKind} (ho : ops[i]? = some ⟨d, .slice t x none (some z) none, ty, pos, af, g⟩) (hw : Wt ops l g) [KHeap kd S h H] [ex : OpV l x (.slice p n c)] [ez : OpV l z (.int ik j)] [SliceT P t e k]
    (hp : OkP p) (hj : j = (b : Int)) (hb : b ≤ c) [PutV l d (.slice p b c) l'] (q : RegK m S ops r l' h C) : RegK m S ops ((i, kd) :: r) l h C :=
  RegK.rd (v := .slice p b c) ho hw (by
    simp only [execOp, ex.eq, Option.map_some, ez.eq, Option.map_none, hj]
    have := reads_cut (P := P) (B := B) (h := H) (t := t) (n := n) (c := c) (p := p) (lo := none) (hi := some (.int ik (b : Int))) (a := 0) (b := b) (.inr ⟨ik, rfl, hb⟩) (.inl ⟨rfl, rfl⟩)
    rw [cutP_zero hp, Nat.sub_zero, Nat.sub_zero] at this
    exact Reads.value this) q
theorem k_slFrom {t e k n c a : Nat} {x y : Operand} {p : Option Addr} {j : Int} {ik : IntKind} (ho : ops[i]? = some ⟨d, .slice t x (some y) none none, ty, pos, af, g⟩) (hw : Wt ops l g) [KHeap kd S h H] [ex : OpV l x (.slice p n c)] [ey : OpV l y (.int ik j)] [SliceT P t e k]
    (hj : j = (a : Int)) (ha : a ≤ n) [PutV l d (.slice (cutP k p c a) (n - a) (c - a)) l'] (q : RegK m S ops r l' h C) : RegK m S ops ((i, kd) :: r) l h C :=
  RegK.rd (v := .slice (cutP k p c a) (n - a) (c - a)) ho hw (by
    simp only [execOp, ex.eq, Option.map_some, ey.eq, Option.map_none, hj]
    exact Reads.value (reads_cut (.inl ⟨rfl, rfl⟩) (.inr ⟨ik, rfl, ha⟩))) q
end
end Go.Lo
namespace Go.Lo
open Go.Conc (G)
def padL (l : List Int) : List Int := (l ++ List.replicate 7 0).take 7
def hts (l : List Int) : List Value := ints (padL l)
abbrev htV (l : List Int) : Value := .agg (hts l).toArray
theorem padL_length (l : List Int) : (padL l).length = 7 := by simp [padL]
theorem hts_length (l : List Int) : (hts l).length = 7 := by simp [hts, padL]
theorem hts_one (l : List Int) : ∀ u ∈ hts l, u.oneCell' = true := ints_one _
theorem padL_get {l : List Int} {k : Nat} (hk : k < 7) : (padL l)[k]? = some (l.getD k 0) := by
  unfold padL
  rw [List.getElem?_take, if_pos hk, List.getD_eq_getElem?_getD]; by_cases h : k < l.length
  · rw [List.getElem?_append_left h, List.getElem?_eq_getElem h]; rfl
  · rw [List.getElem?_append_right (by omega), List.getElem?_replicate, if_pos (by omega), List.getElem?_eq_none (by omega)]; rfl
theorem hts_get {l : List Int} {k : Nat} (hk : k < 7) : (hts l)[k]? = some (.int .i64 (l.getD k 0)) := by
  simp [hts, padL_get hk]
theorem padL_take {l : List Int} (hl : l.length ≤ 7) : (padL l).take l.length = l := by
  unfold padL
  rw [List.take_take, Nat.min_eq_left hl, List.take_left]
theorem padL_eq {l m : List Int} (hl : l.length = m.length) (hn : l.length ≤ 7) : padL l = padL m ↔ l = m := by
  refine ⟨fun e => ?_, fun e => by rw [e]⟩
  rw [← padL_take hn, ← padL_take (l := m) (by omega), e, hl]
instance : Enc (List Int) 7 where
  enc := hts
  len := hts_length
  one := hts_one
instance {l : List Int} : Ones (hts l) := ⟨hts_one l⟩
instance {xs : List Int} : Ones (ints xs) := ⟨ints_one xs⟩
instance {l : List Int} : LenIs (hts l) 7 := ⟨hts_length l⟩
instance {l : List Int} : Seg (hts l) 0 7 (hts l) := ⟨by rw [List.drop_zero]; exact List.take_of_length_le (by rw [hts_length]; exact Nat.le_refl _), hts_length l⟩
instance {l m : List Int} : SetSeg (hts l) 0 (hts m) (hts m) := ⟨by simp [hts_length, List.drop_eq_nil_of_le], by simp [hts_length]⟩
instance {v1 v2 v3 v4 v5 v6 v7 : Value} {m : List Int} : SetSeg [v1, v2, v3, v4, v5, v6, v7] 0 (hts m) (hts m) := ⟨by simp [hts_length], by simp [hts_length]⟩
theorem hts_nil : hts [] = [.int .i64 0, .int .i64 0, .int .i64 0, .int .i64 0, .int .i64 0, .int .i64 0, .int .i64 0] := by simp [hts, padL, ints, List.replicate]
theorem hts_copy (xs : List Int) {n : Nat} (hn : xs.length = n) : hts xs = (ints xs).take 7 ++ (hts []).drop (min n 7) := by
  have e : (hts []) = ints (List.replicate 7 0) := by simp [hts, padL]
  rw [e, ← ints_take, ← ints_drop, ← ints_append, hts, padL]; congr 1
  rw [List.take_append, hn, List.take_replicate, List.drop_replicate]; congr 2
  omega
section
variable {B : Array Obj} {h H : Hp}
theorem rdS_hts {q n t : Nat} {rw : Bool} {f : Nat × Nat} {l : List Int} [x : Has h q rw (.cells (hts l).toArray t f)] (hl : l.length = n) (hn : n ≤ 7) (c : Nat) : RdS B h 1 (.slice (some ⟨q, 0, none⟩) n c) n (ints l) :=
  ⟨_, c, rfl, by simp [hl], .inr ⟨q, 0, rfl, fun j hj => by
    rw [Nat.zero_add]; have hj' : j < n := by simpa [hl] using hj
    refine Rd.held x.mem ?_
    rw [List.getElem?_toArray, hts_get (by omega)]; simp only [List.getD_eq_getElem?_getD, List.getElem?_map]
    rw [List.getElem?_eq_getElem (by omega)]; rfl⟩⟩
theorem rd_hts {q t : Nat} {rw : Bool} {f : Nat × Nat} {l : List Int} {j : Int} (k : Nat) [x : Has h q rw (.cells (hts l).toArray t f)] (hj : j = k) (hk : k < 7) : Rd B h ⟨q, 0 + j.toNat * 1, none⟩ (.int .i64 (l.getD k 0)) := by
  subst hj
  rw [Int.toNat_natCast, Nat.mul_one, Nat.zero_add]; refine Rd.held x.mem ?_
  rw [List.getElem?_toArray, hts_get hk]
end
section
variable {P : Program} {B : Array Obj} {m : Md P B} {ops : Array Oper} {l l' : List Value} {S h h' H : Hp} {C : List Value → Hp → Prop} {i : Nat} {kd : Kd} {r : List (Nat × Kd)}
  {d : Option Tmp} {ty : TypeId} {pos : String} {af : Array Edge} {g : Option (Nat × Bool)}
theorem k_valP {x : Operand} {args : List Operand} {ats : Array TypeId} {f : FuncId} {first cap : Array Value} {vs : List Value} {Post : Value → Prop} (ho : ops[i]? = some ⟨d, .call ⟨.value x, args.toArray, ats⟩, ty, pos, af, g⟩) (hw : Wt ops l g) [kb : KBase kd S h H]
    [ex : OpV l x (.func (.func f) first cap)] [ea : ArgsV l args vs] (hf : callB P f = true) (c : ∀ H' : Hp, H.Sublist H' → FnC m f (first ++ vs.toArray ++ cap) H' fun v h' => h' = H' ∧ Post v)
    (n : ∀ v, Post v → RegK m S ops r (put l d v) h C) : RegK m S ops ((i, kd) :: r) l h C :=
  k_callC (Post := fun v new => new = [] ∧ Post v) ho hw hf (fun H' hs => CallF.mono (c H' hs) fun v h' ⟨e, p⟩ => ⟨[], by simp [e], rfl, p⟩) fun v new ⟨e, p⟩ => by subst e; simpa using n v p
theorem reads_boundsA {n : Nat} {hi : Option Value} {b : Nat} (hh : (hi = none ∧ b = n) ∨ ∃ ik, hi = some (.int ik (b : Int)) ∧ b ≤ n) : Reads P B (Instr.sliceBounds false n n none hi none) h (0, b, n) := by
  unfold Instr.sliceBounds
  refine Reads.bind (Reads.pure n) ?_
  rcases hh with ⟨rfl, rfl⟩ | ⟨ik, rfl, hb⟩
  · exact Reads.pure _
  · exact Reads.bind (reads_bound (i := (b : Int)) (by omega) (by omega)) (Reads.pure _)
theorem reads_cutA {t e k n b o c : Nat} {hi : Option Value} [ArrayT P t n e k] (hh : (hi = none ∧ c = n) ∨ ∃ ik, hi = some (.int ik (c : Int)) ∧ c ≤ n) : Reads P B (Instr.sliceAt t (.pointer (some ⟨b, o, none⟩)) none hi none) h (.slice (some ⟨b, o, none⟩) c n) := by
  obtain ⟨hu, hs⟩ := array_und (P := P) (B := B) (h := h) (t := t)
  unfold Instr.sliceAt
  refine Reads.bind (still_und hu).reads ?_
  refine Reads.bind (a := ⟨b, o, none⟩) (Reads.pure _) ?_
  refine Reads.bind (reads_boundsA hh) ?_
  refine Reads.bind hs ?_
  simp only [Nat.zero_mul, Addr.add_none, Nat.add_zero, ite_self, Nat.sub_zero]
  exact Reads.pure _
theorem k_slA {t e k n b o c : Nat} {x z : Operand} {j : Int} {ik : IntKind} (ho : ops[i]? = some ⟨d, .slice t x none (some z) none, ty, pos, af, g⟩) (hw : Wt ops l g) [KHeap kd S h H] [ex : OpV l x (.pointer (some ⟨b, o, none⟩))] [ez : OpV l z (.int ik j)]
    [ArrayT P t n e k] (hj : j = (c : Int)) (hc : c ≤ n) [PutV l d (.slice (some ⟨b, o, none⟩) c n) l'] (q : RegK m S ops r l' h C) : RegK m S ops ((i, kd) :: r) l h C :=
  RegK.rd (v := .slice (some ⟨b, o, none⟩) c n) ho hw (by
    simp only [execOp, ex.eq, Option.map_some, ez.eq, Option.map_none, hj]
    exact Reads.value (reads_cutA (.inr ⟨ik, rfl, hc⟩))) q
theorem k_slAA {t e k n b o : Nat} {x : Operand} (ho : ops[i]? = some ⟨d, .slice t x none none none, ty, pos, af, g⟩) (hw : Wt ops l g) [KHeap kd S h H] [ex : OpV l x (.pointer (some ⟨b, o, none⟩))]
    [ArrayT P t n e k] [PutV l d (.slice (some ⟨b, o, none⟩) n n) l'] (q : RegK m S ops r l' h C) : RegK m S ops ((i, kd) :: r) l h C :=
  RegK.rd (v := .slice (some ⟨b, o, none⟩) n n) ho hw (by
    simp only [execOp, ex.eq, Option.map_none]
    exact Reads.value (reads_cutA (.inl ⟨rfl, rfl⟩))) q
theorem k_copy {t t2 e b nd cd ns t' : Nat} {x y : Operand} {u : Value} {rw : Bool} {cs ys : List Value} (cs' : List Value) (ho : ops[i]? = some ⟨d, .call ⟨.builtin .copy, [x, y].toArray, #[t, t2]⟩, ty, pos, af, g⟩) (hw : Wt ops l g) [KSub kd S h']
    [ex : OpV l x (.slice (some ⟨b, 0, none⟩) nd cd)] [ey : OpV l y u] [SliceT P t e 1] [q : Has h b rw (.cells cs.toArray t' (0, 0))] [up : Upd h b (.cells cs'.toArray t' (0, 0)) h'] (rd : RdS B h 1 u ns ys) (h1 : ∀ u ∈ ys, u.oneCell' = true) (hn : nd ≤ cs.length) (hc : cs' = (ys.take nd) ++ cs.drop (min ns nd))
    (n : RegK m S ops r (put l d (.int .i64 (min ns nd : Nat))) h' C) : RegK m S ops ((i, kd) :: r) l h C := by
  obtain ⟨o1, g1, g2, e1, e2⟩ := up.ex
  refine RegK.ke (KSub.kind (S := S) (h := h')) ho hw ?_
  obtain ⟨hu, hs⟩ := slice_und (P := P) (B := B) (h := h) (t := t)
  rw [exec_builtin (vs := [.slice (some ⟨b, 0, none⟩) nd cd, u]) (by simp [ex.eq, ey.eq])]; have hl := rd
  obtain ⟨p, c, rfl, hyl, hp⟩ := hl
  have hfirst : Reads P B (Builtin.firstCells 1 (min ns nd) (.slice p ns c)) h (ys.take (min ns nd)).toArray := by
    have := reads_first (P := P) (rd.pre (m := min ns nd) (by omega))
    rw [Nat.mul_one] at this
    have e : Builtin.firstCells 1 (min ns nd) (.slice p (min ns nd) c) = Builtin.firstCells 1 (min ns nd) (.slice p ns c) := by cases p <;> rfl
    rw [← e]; exact this
  show Tri P B (Builtin.copy_ #[t, t2] ty #[.slice (some ⟨b, 0, none⟩) nd cd, .slice p ns c] >>= fun v => pure (Next.value v)) h _
  refine Tri.bind ?_
  unfold Builtin.copy_
  refine Tri.bind ((still_und hu).reads.tri ?_)
  refine Tri.bind (Reads.tri (a := ns) (Reads.pure _) ?_)
  refine Tri.bind (hs.tri ?_)
  refine Tri.bind (hfirst.tri ?_)
  simp only [List.toList_toArray]
  have hlen : (ys.take (min ns nd)).length = min ns nd := by rw [List.length_take]; omega
  refine tri_upd q.mem ⟨o1, g1, g2, e1, rfl⟩ ?_
  refine Tri.bind (tri_cells (ys.take (min ns nd)) 0 _ (by simp; omega) (fun u hu => h1 u (List.mem_of_mem_take hu)) fun c' hc' => Tri.pure (Tri.pure ?_))
  have e3 : c' = cs'.toArray := by
    apply Array.ext'
    rw [hc', hc, hlen]; simp only [Nat.add_zero, List.toList_toArray, List.take_zero, List.nil_append, Nat.zero_add]
    congr 1
    rcases Nat.le_total ns nd with h2 | h2
    · rw [Nat.min_eq_left h2, List.take_of_length_le (by omega), List.take_of_length_le (by omega)]
    · rw [Nat.min_eq_right h2]
  rw [e3, ← e2]; exact ⟨KSub.sub, n⟩
theorem reads_part {e : TypeId} {xs : List Int} {j : Nat} [Scal P e] (hj : j < xs.length) : Reads P B (part e (ints xs).toArray (j * 1)) h (.int .i64 (xs.getD j 0)) := by
  unfold part
  refine Reads.bind und_scal ?_
  have : (ints xs).toArray[j * 1]? = some (.int .i64 (xs.getD j 0)) := by
    rw [Nat.mul_one, List.getElem?_toArray, List.getElem?_map, List.getElem?_eq_getElem hj, List.getD_eq_getElem?_getD, List.getElem?_eq_getElem hj]; rfl
  simp only [this]
  exact Reads.pure _
theorem reads_eqi (dd : Nat) {e : TypeId} (he : P.underlying e = some (.int .i64)) (a b : Int) : Reads P B (Op.equalIn (dd + 1) e (.int .i64 a) (.int .i64 b)) h (a == b) := by
  unfold Op.equalIn
  refine Reads.bind (still_und he).reads ?_
  simp only [if_true]
  exact Reads.pure _
theorem all_eq_ints : ∀ (xs ys : List Int), xs.length = ys.length → ((List.range' 0 xs.length 1).all fun j => xs.getD j 0 == ys.getD j 0) = decide (xs = ys) := by
  intro xs ys hl
  rw [Bool.eq_iff_iff, List.all_eq_true, decide_eq_true_iff]; constructor
  · intro h
    apply List.ext_getElem hl
    intro j h1 h2
    have := h j (by rw [List.mem_range'_1]; omega)
    rw [List.getD_eq_getElem?_getD, List.getElem?_eq_getElem h1, List.getD_eq_getElem?_getD, List.getElem?_eq_getElem h2] at this
    simpa using this
  · rintro rfl j _; simp
theorem reads_eqA (dd : Nat) {t n e : Nat} {xs ys : List Int} [ArrayT P t n e 1] [Scal P e] (he : P.underlying e = some (.int .i64)) (hx : xs.length = n) (hy : ys.length = n) : Reads P B (Op.equalIn (dd + 2) t (.agg (ints xs).toArray) (.agg (ints ys).toArray)) h (decide (xs = ys)) := by
  obtain ⟨hu, hs⟩ := array_und (P := P) (B := B) (h := h) (t := t)
  unfold Op.equalIn
  refine Reads.bind (still_und hu).reads ?_
  refine Reads.bind hs ?_
  rw [← all_eq_ints xs ys (hx.trans hy.symm), hx]; simp only [Std.Legacy.Range.forIn_eq_forIn_range', Std.Legacy.Range.size, Nat.sub_zero, Nat.add_sub_cancel, Nat.div_one]
  have hl : ∀ j ∈ List.range' 0 n 1, j < n := fun j hj => by simpa using (List.mem_range'_1.1 hj).2
  generalize List.range' 0 n 1 = L at hl ⊢
  induction L with
  | nil => exact Reads.bind (Reads.pure _) (Reads.pure _)
  | cons j L ih =>
    have hj : j < n := hl j (by simp)
    have ih' := ih fun x hx => hl x (by simp [hx])
    simp only [List.forIn_cons, bind_assoc, List.all_cons]
    refine Reads.bind (reads_part (by omega)) ?_
    refine Reads.bind (reads_part (by omega)) ?_
    refine Reads.bind (reads_eqi dd he _ _) ?_
    cases hb : (xs.getD j 0 == ys.getD j 0)
    · exact Reads.pure _
    · simpa using ih'
theorem k_eqA {t u n e : Nat} {x y : Operand} {xs ys : List Int} (ho : ops[i]? = some ⟨d, .binOp .eql t x y u, ty, pos, af, g⟩) (hw : Wt ops l g) [KHeap kd S h H] [ex : OpV l x (.agg (ints xs).toArray)] [ey : OpV l y (.agg (ints ys).toArray)] [ArrayT P t n e 1] [Scal P e]
    (he : P.underlying e = some (.int .i64)) (hg : P.eqGuardType P.depth t = false) (hx : xs.length = n) (hy : ys.length = n) [PutV l d (.bool (decide (xs = ys))) l'] (q : RegK m S ops r l' h C) : RegK m S ops ((i, kd) :: r) l h C :=
  RegK.rd (v := .bool (decide (xs = ys))) ho hw (by
    simp only [execOp, ex.eq, ey.eq]
    refine Reads.value (Reads.bind (a := ()) ?_ ?_)
    · unfold eqGuard
      refine Reads.bind Reads.program' (Reads.bind Reads.program' ?_)
      rw [if_pos (by simp [hg])]; exact Reads.pure _
    · show Reads P B (Op.equal t (.agg (ints xs).toArray) (.agg (ints ys).toArray) >>= fun b => pure (Value.bool b)) H _
      exact Reads.bind (reads_eqA 9998 he hx hy) (Reads.pure _)) q
end
end Go.Lo
namespace Go.Lo
open Go.Conc (G)
section
variable {P : Program} {B : Array Obj} {m : Md P B} {ops : Array Oper} {l l' : List Value} {S h h' H : Hp} {C : List Value → Hp → Prop} {i : Nat} {kd : Kd} {r : List (Nat × Kd)}
  {d : Option Tmp} {ty : TypeId} {pos : String} {af : Array Edge} {g : Option (Nat × Bool)}
theorem k_bldZ {t n e k : Nat} {zs : List Value} (ho : ops[i]? = some ⟨d, .build t #[], ty, pos, af, g⟩) (hw : Wt ops l g) [KHeap kd S h H] [ArrayT P t n e k] [ZeroT P t (.agg zs.toArray)] [PutV l d (.agg zs.toArray) l'] (q : RegK m S ops r l' h C) : RegK m S ops ((i, kd) :: r) l h C :=
  RegK.rd (v := .agg zs.toArray) ho hw (by
    obtain ⟨hu, hs⟩ := array_und (P := P) (B := B) (h := H) (t := t)
    simp only [execOp, Array.map_empty]
    refine Reads.value ?_
    unfold Instr.build
    refine Reads.bind (reads_zero (v := .agg zs.toArray)) ?_
    refine Reads.bind (still_und hu).reads ?_
    refine Reads.bind hs ?_
    exact Reads.pure _) q
end
end Go.Lo
namespace Go.Lo
open Go.Conc (G)
def Obj.plain : Obj → Bool
  | .cells .. => false
  | .chan .. => false
  | _ => true
section
variable {P : Program} {B : Array Obj} {h : Hp}
theorem reads_obj {rw : Bool} {b : Nat} {o : Obj} (hm : (⟨rw, b, o⟩ : Chunk) ∈ h) (ho : Obj.plain o = true) : Reads P B (getObj b) h o := fun w s => by
  have hb := (s.mem _ hm).2
  simp only at hb
  have e1 : o.isChan = false := by cases o <;> first | rfl | cases ho
  refine ⟨?_, ?_⟩
  · cases o <;> first | (cases ho; done) | simp [getObj, Sem.run, hb]
  · have : (getObj b).events P w #[] = #[⟨.obj b, false, false⟩] := by
      unfold Sem.events getObj
      simp only [Sem.runT, hb]
      cases o <;> first | (cases ho; done) | rfl
    rw [this]; intro e he
    simp at he
    subst he
    exact .inr ⟨rfl, .inr (.inl ⟨_, hm, rfl, fun x => by cases x⟩)⟩
theorem tri_setObj {h1 h2 : Hp} {b : Nat} {o o' : Obj} {Q : Unit → Hp → Prop} (ho : Obj.plain o = true) (ho' : Obj.plain o' = true) (q : Q () (h1 ++ ⟨true, b, o'⟩ :: h2)) : Tri P B (setObj b o') (h1 ++ ⟨true, b, o⟩ :: h2) Q := fun w s => by
  have hb := (s.mem ⟨true, b, o⟩ (by simp)).2
  simp only at hb
  have e1 : o'.isChan = false := by cases o' <;> first | rfl | cases ho'
  refine ⟨(), { w with heap := w.heap.setIfInBounds b o' }, _, ?_, ?_, q⟩
  · cases o <;> first | (cases ho; done) | simp [setObj, Sem.run, hb]
  · refine Stp.turn s ?_
    have : (setObj b o').events P w #[] = #[⟨.obj b, true, false⟩] := by
      unfold Sem.events setObj
      simp only [Sem.runT, hb, e1]
      cases o <;> first | (cases ho; done) | rfl
    rw [this]; intro e he
    simp at he
    subst he
    exact .inr ⟨rfl, .inr (.inl ⟨⟨true, b, o⟩, by simp, rfl, fun _ => rfl⟩)⟩
end
def lrec (fn : FuncId) (l : List Value) (ps : Array Tmp) (a c : Code) (q1 : Nat) (st : LoopState) : Obj := .loop { state := st, pending := none, fn, tmps := l.toArray, params := ps, assign := a, body := c, defers := q1 }
def bR (f : FuncId) (q : Nat) : Frame := { bF f with roundOf := some q }
def CallV {P : Program} {B : Array Obj} (m : Md P B) (v : Value) (args : List Value) (h : Hp) (Post : Value → Hp → Prop) : Prop :=
  ∃ fn first cap nx fr, v = .func fn first cap ∧ callee P nx = some fr ∧ Reads P B (invoke (.fn fn cap) (first ++ args.toArray)) h nx ∧ CallF m fr h Post
theorem CallV.mono {P : Program} {B : Array Obj} {m : Md P B} {v : Value} {args : List Value} {h : Hp} {Post Post' : Value → Hp → Prop} (t : CallV m v args h Post) (hp : ∀ v h', Post v h' → Post' v h') : CallV m v args h Post' := by
  obtain ⟨fn, first, cap, nx, fr, e, hc, hr, c⟩ := t
  exact ⟨fn, first, cap, nx, fr, e, hc, hr, c.mono hp⟩
theorem CallV.fn {P : Program} {B : Array Obj} {m : Md P B} {f : FuncId} {first cap : Array Value} {args : List Value} {h : Hp} {Post : Value → Hp → Prop} (hf : callB P f = true) (c : FnC m f (first ++ args.toArray ++ cap) h Post) : CallV m (.func (.func f) first cap) args h Post :=
  ⟨.func f, first, cap, .enter f (first ++ args.toArray ++ cap), _, rfl, rfl, by simp only [invoke]; exact reads_callF hf _, c⟩
section
variable {P : Program} {B : Array Obj} {m : Md P B} {K : Goroutine → Hp → Prop} {b : Frame} {l : List Value} {ds : List Deferred} {k : List Item} {cs : List Frame} {h : Hp}
theorem CallV.yield {q q1 : Nat} {fn : FuncId} {ps : Array Tmp} {a c : Code} {st : LoopState} {args : List Value} {rw : Bool} {Post : Value → Hp → Prop} (hm : (⟨rw, q, lrec fn l ps a c q1 st⟩ : Chunk) ∈ h) (hl : args.length = ps.size) {l' : List Value}
    (hp : (ps.zip args.toArray).foldl (fun tmps (t, a) => tmps.setIfInBounds t a) l.toArray = l'.toArray) (t : CallF m (Fr (bR fn q) l' [] [.code a, .beginRound, .code c]) h Post) : CallV m (.func (.yield q) #[] #[]) args h Post := by
  refine ⟨.yield q, #[], #[], .round q fn l'.toArray a c, Frame.round q fn l'.toArray a c .normal, rfl, rfl, ?_, t⟩
  simp only [invoke, Instr.yield, Instr.getLoop, Array.empty_append]
  refine Reads.bind (a := { state := st, pending := none, fn, tmps := l.toArray, params := ps, assign := a, body := c, defers := q1 }) (Reads.bind (reads_obj hm rfl) (Reads.pure _)) ?_
  rw [if_neg (by simp [hl])]; simp only [hp]
  exact Reads.pure _
theorem runT_of_reads {α : Type} {s : Sem α} {a : α} {w w' : World} (r : s.run P w = .ok a w') : s.runT P w #[] = (.ok a w', s.events P w #[]) := by
  have h1 : (s.runT P w #[]).1 = s.run P w := by simp
  have h2 : s.events P w #[] = (s.runT P w #[]).2 := rfl
  rw [← r, ← h1, h2]
theorem run_rangeF {f : Operand} {fid : FuncId} {first cap : Array Value} {ps : Array Tmp} {a c : Code} [ef : OpV l f (.func (.func fid) first cap)] (hr : b.roundOf = none) (hk : b.kind = .normal) (hcall : callB P fid = true)
    (t : ∀ q1 q2, FnC m fid (first ++ #[.func (.yield q2) #[] #[]] ++ cap) (h ++ [⟨true, q1, .deferred (some [])⟩, ⟨true, q2, lrec b.fn l ps a c q1 .ready⟩])
      fun v h' => m.R K (Gr b l (⟨.collected q1, #[]⟩ :: ds) (.endRangeFunc q2 :: k) cs) h') :
    m.R K (Gr b l ds (.code (.rangeFunc f ps a c) :: k) cs) h := by
  refine m.step (K' := fun g' h' => m.R K g' h') ⟨rfl, fun w sw => ?_⟩ fun g' h' x => x
  have s1 := sw.new (.deferred (some []))
  have s2 := s1.new (lrec b.fn l ps a c w.heap.size .ready)
  have st : Stp B h ((h ++ [⟨true, w.heap.size, .deferred (some [])⟩]) ++ [⟨true, (w.heap.push (.deferred (some []))).size, lrec b.fn l ps a c w.heap.size .ready⟩]) w
      { w with heap := (w.heap.push (.deferred (some []))).push (lrec b.fn l ps a c w.heap.size .ready) } #[] :=
    { sat := s2, size := by simp; omega, os := rfl, out := rfl, tape := rfl, drawn := Nat.le_refl _,
      old := fun x hx _ => by
        show ((w.heap.push _).push _)[x]? = _
        rw [Array.getElem?_push_lt (by simp; omega), Array.getElem_push_lt hx, Array.getElem?_eq_getElem hx]
      key := fun x hx => by
        simp only [List.mem_append, List.mem_singleton] at hx
        rcases hx with (hx | rfl) | rfl
        · exact .inr ⟨x, hx, rfl, fun y => y⟩
        · exact .inl (Nat.le_refl _)
        · exact .inl (by simp)
      evs := by simp }
  have hsz : (w.heap.push (.deferred (some []))).size = w.heap.size + 1 := by simp
  rw [hsz] at st
  have he := Fr.eval b l (⟨.collected w.heap.size, #[]⟩ :: ds) (.inRangeFunc (w.heap.size + 1) :: k)
  have hc : ∀ w', (callFunc fid (first ++ #[.func (.yield (w.heap.size + 1)) #[] #[]] ++ cap)).run P w' = .ok (.enter fid (first ++ #[.func (.yield (w.heap.size + 1)) #[] #[]] ++ cap)) w' ∧ (callFunc fid (first ++ #[.func (.yield (w.heap.size + 1)) #[] #[]] ++ cap)).events P w' #[] = #[] := by
    intro w'
    unfold callB at hcall
    split at hcall
    · rename_i fn e
      simp only [Bool.and_eq_true, Bool.not_eq_true'] at hcall
      have hn : fn.name ≠ "runtime.NumGoroutine" := by simpa using hcall.1
      have hb : fn.body ≠ none := fun hx => by rw [hx] at hcall; simp at hcall
      unfold callFunc
      constructor
      · simp [e, hn, hb]
      · simp [e, hn, hb]
    · cases hcall
  refine ⟨G (Frame.enter P fid (first ++ #[.func (.yield (w.heap.size + 1)) #[] #[]] ++ cap) .normal) (Fr b l (⟨.collected w.heap.size, #[]⟩ :: ds) (.inRangeFunc (w.heap.size + 1) :: k) :: cs),
    { w with heap := (w.heap.push (.deferred (some []))).push (lrec b.fn l ps a c w.heap.size .ready) }, #[], _, ?_, st, ?_⟩
  · have hent : (Instr.enterLoop b.fn l.toArray ps a c none).runT P w #[] = (.ok (w.heap.size + 1, [⟨.collected w.heap.size, #[]⟩]) { w with heap := (w.heap.push (.deferred (some []))).push (lrec b.fn l ps a c w.heap.size .ready) }, #[]) := by
      unfold Instr.enterLoop
      simp only [newObj, bind, Sem.bind, pure, lrec, Sem.runT, hsz]
    have hsem : ∀ fr : Frame, fr.eval = ev l → (do let d ← resolve fr.eval { callee := .value f, args := #[.const (.func (.yield (w.heap.size + 1)) #[] #[])], argTypes := #[] } 0; invoke d.target d.args) = callFunc fid (first ++ #[.func (.yield (w.heap.size + 1)) #[] #[]] ++ cap) := by
      intro fr hfr
      rw [hfr]; have e : Array.map (ev l) #[Operand.const (.func (.yield (w.heap.size + 1)) #[] #[])] = #[.func (.yield (w.heap.size + 1)) #[] #[]] := by simp [ev]
      simp only [resolve, ef.eq, Deferred.ofValue, e]
      rfl
    have h1 : stepG P m.main (Gr b l ds (.code (.rangeFunc f ps a c) :: k) cs) w = GStep.after (seen P b.fn #[]) (stepG.apply P true (Fr b l (⟨.collected w.heap.size, #[]⟩ :: ds) (.inRangeFunc (w.heap.size + 1) :: k)) cs none (callFunc fid (first ++ #[.func (.yield (w.heap.size + 1)) #[] #[]] ++ cap)) { w with heap := (w.heap.push (.deferred (some []))).push (lrec b.fn l ps a c w.heap.size .ready) }) := by
      rw [← hsem _ he]; simp only [Gr, Fr, G, stepG, stepG.exec, hr, hent]
      rfl
    rw [h1]; obtain ⟨c1, c2⟩ := hc { w with heap := (w.heap.push (.deferred (some []))).push (lrec b.fn l ps a c w.heap.size .ready) }
    have hseen : ∀ fn, seen P fn #[] = #[] := fun fn => by
      apply Array.eq_empty_of_size_eq_zero
      cases hs : (seen P fn #[]).size with
      | zero => rfl
      | succ x =>
        have hm : (seen P fn #[])[0]'(by omega) ∈ seen P fn #[] := Array.getElem_mem _
        have := seen_sub P fn #[] _ hm
        simp at this
    have hfn : (Fr b l (⟨.collected w.heap.size, #[]⟩ :: ds) (.inRangeFunc (w.heap.size + 1) :: k)).fn = b.fn := rfl
    have e2 := runT_of_reads c1
    rw [c2] at e2
    simp only [stepG.apply, e2, if_true, hfn, hseen, ite_self, GStep.after]
    rfl
  · rw [List.append_assoc]; refine t w.heap.size (w.heap.size + 1) _ _ K fun v h' hv => ?_
    have : (Fr b l (⟨.collected w.heap.size, #[]⟩ :: ds) (.inRangeFunc (w.heap.size + 1) :: k)).finish v = Fr b l (⟨.collected w.heap.size, #[]⟩ :: ds) (.endRangeFunc (w.heap.size + 1) :: k) := rfl
    rw [this]; exact hv
theorem run_endRange {q q1 : Nat} {fn : FuncId} {l0 : List Value} {ps : Array Tmp} {a c : Code} {st : LoopState} {F E : Hp} (hh : h = F ++ ⟨true, q, lrec fn l0 ps a c q1 st⟩ :: E) (hst : st = .ready ∨ st = .done) (n : m.R K (Gr b l ds k cs) (F ++ E)) :
    m.R K (Gr b l ds (.endRangeFunc q :: k) cs) h := by
  subst hh
  have key : Tri P B (Instr.endLoop q) (F ++ ⟨true, q, lrec fn l0 ps a c q1 st⟩ :: E) fun j h' => j = none ∧ m.R K (Gr b l ds k cs) h' := by
    unfold Instr.endLoop
    refine Tri.bind (Reads.tri (a := { state := st, pending := none, fn, tmps := l0.toArray, params := ps, assign := a, body := c, defers := q1 }) (Reads.bind (reads_obj (rw := true) (o := lrec fn l0 ps a c q1 st) (by simp) rfl) (Reads.pure _)) ?_)
    have hb : (st == LoopState.busy) = false := by rcases hst with rfl | rfl <;> rfl
    simp only [hb, Bool.false_eq_true, if_false]
    refine Tri.bind (tri_setObj rfl rfl (Tri.pure ⟨rfl, m.weak (Weak.sub ?_) n⟩))
    exact List.Sublist.append_left (List.sublist_cons_self _ _) _
  refine m.step (K' := fun g' h' => m.R K g' h') ⟨rfl, fun w sw => ?_⟩ fun g' h' x => x
  obtain ⟨j, w', h', hr, st', rfl, n'⟩ := key w sw
  refine ⟨_, w', seen P b.fn ((Instr.endLoop q).events P w #[]), h', ?_, st'.events fun e he => seen_sub _ _ _ e he, n'⟩
  simp [Gr, Fr, G, stepG, stepG.exec, hr, GStep.after]
theorem run_collected {q1 : Nat} {todo : List Item} {F E : Hp} (hh : h = F ++ ⟨true, q1, .deferred (some [])⟩ :: E) (n : m.R K (Gret b l ds todo cs) (F ++ E)) : m.R K (Gret b l (⟨.collected q1, #[]⟩ :: ds) todo cs) h := by
  subst hh
  have key : Tri P B (Instr.takeDeferred q1) (F ++ ⟨true, q1, .deferred (some [])⟩ :: E) fun j h' => j = [] ∧ m.R K (Gret b l ds todo cs) h' := by
    unfold Instr.takeDeferred
    refine Tri.bind (Reads.tri (reads_obj (rw := true) (o := .deferred (some [])) (by simp) rfl) ?_)
    refine Tri.bind (tri_setObj rfl rfl (Tri.pure ⟨rfl, m.weak (Weak.sub ?_) n⟩))
    exact List.Sublist.append_left (List.sublist_cons_self _ _) _
  refine m.step (K' := fun g' h' => m.R K g' h') ⟨rfl, fun w sw => ?_⟩ fun g' h' x => x
  obtain ⟨j, w', h', hr, st', rfl, n'⟩ := key w sw
  refine ⟨_, w', seen P b.fn ((Instr.takeDeferred q1).events P w #[]), h', ?_, st'.events fun e he => seen_sub _ _ _ e he, n'⟩
  simp [Gret, Fr, G, stepG, unwind, hr, GStep.after]
theorem run_beginRound {f : FuncId} {q q1 : Nat} {fn : FuncId} {l0 : List Value} {ps : Array Tmp} {a c : Code} {F E : Hp} (hh : h = F ++ ⟨true, q, lrec fn l0 ps a c q1 .ready⟩ :: E) (n : m.R K (Gr (bR f q) l ds k cs) (F ++ ⟨true, q, lrec fn l0 ps a c q1 .busy⟩ :: E)) :
    m.R K (Gr (bR f q) l ds (.beginRound :: k) cs) h := by
  subst hh
  have key : Tri P B (do Instr.beginRound q; pure Next.skip) (F ++ ⟨true, q, lrec fn l0 ps a c q1 .ready⟩ :: E) fun j h' => j = Next.skip ∧ m.R K (Gr (bR f q) l ds k cs) h' := by
    unfold Instr.beginRound
    refine Tri.bind ?_
    refine Tri.bind (Reads.tri (a := { state := .ready, pending := none, fn, tmps := l0.toArray, params := ps, assign := a, body := c, defers := q1 }) (Reads.bind (reads_obj (rw := true) (o := lrec fn l0 ps a c q1 .ready) (by simp) rfl) (Reads.pure _)) ?_)
    exact Tri.bind (tri_setObj (o' := lrec fn l0 ps a c q1 .busy) rfl rfl (Tri.pure (Tri.pure ⟨rfl, n⟩)))
  refine m.step (K' := fun g' h' => m.R K g' h') ⟨rfl, fun w sw => ?_⟩ fun g' h' x => x
  obtain ⟨j, w', h', hr, st', rfl, n'⟩ := key w sw
  refine ⟨_, w', seen P f ((do Instr.beginRound q; pure Next.skip : Sem Next).events P w #[]), h', ?_, st'.events fun e he => seen_sub _ _ _ e he, n'⟩
  have hfin : (Fr (bR f q) l ds (.beginRound :: k)).finish undef = Fr (bR f q) l ds k := rfl
  have hst : stepG P m.main (Gr (bR f q) l ds (.beginRound :: k) cs) w = stepG.apply P true (Fr (bR f q) l ds (.beginRound :: k)) cs none (do Instr.beginRound q; pure Next.skip) w := by
    simp [Gr, Fr, G, stepG, stepG.exec, bR]
  rw [hst]; have e2 := runT_of_reads hr
  have hkd : (Fr (bR f q) l ds (.beginRound :: k)).kind = .normal := rfl
  have hfn : (Fr (bR f q) l ds (.beginRound :: k)).fn = f := rfl
  simp only [stepG.apply, e2, if_true, hkd, hfn, hfin]
  rfl
theorem run_endRound {f : FuncId} {q q1 : Nat} {fn : FuncId} {l0 : List Value} {ps : Array Tmp} {a c : Code} {fr : Frame} {F E : Hp} (hh : h = F ++ ⟨true, q, lrec fn l0 ps a c q1 .busy⟩ :: E) (n : m.R K (G (fr.finish (.bool true)) cs) (F ++ ⟨true, q, lrec fn l0 ps a c q1 .ready⟩ :: E)) :
    m.R K (Gr (bR f q) l ds [] (fr :: cs)) h := by
  subst hh
  have key : Tri P B (Instr.endRound q none) (F ++ ⟨true, q, lrec fn l0 ps a c q1 .busy⟩ :: E) fun j h' => j = .bool true ∧ m.R K (G (fr.finish (.bool true)) cs) h' := by
    unfold Instr.endRound
    refine Tri.bind (Reads.tri (a := { state := .busy, pending := none, fn, tmps := l0.toArray, params := ps, assign := a, body := c, defers := q1 }) (Reads.bind (reads_obj (rw := true) (o := lrec fn l0 ps a c q1 .busy) (by simp) rfl) (Reads.pure _)) ?_)
    exact Tri.bind (tri_setObj (o' := lrec fn l0 ps a c q1 .ready) rfl rfl (Tri.pure ⟨rfl, n⟩))
  refine m.step (K' := fun g' h' => m.R K g' h') ⟨rfl, fun w sw => ?_⟩ fun g' h' x => x
  obtain ⟨j, w', h', hr, st', rfl, n'⟩ := key w sw
  refine ⟨_, w', seen P f ((Instr.endRound q none).events P w #[]), h', ?_, st'.events fun e he => seen_sub _ _ _ e he, n'⟩
  simp [Gr, Fr, G, stepG, stepG.exec, bR, bF, hr, GStep.after, doReturn]
end
section
variable {P : Program} {B : Array Obj} {m : Md P B} {ops : Array Oper} {l l' : List Value} {S h h' H : Hp} {C : List Value → Hp → Prop} {i : Nat} {r : List (Nat × Kd)}
  {d : Option Tmp} {ty : TypeId} {pos : String} {af : Array Edge} {g : Option (Nat × Bool)}
theorem k_weak {K : Goroutine → Hp → Prop} {b : Frame} {ds : List Deferred} {k : List Item} {cs : List Frame} {r : List (Nat × Kd)} (w : Weak B h h') (n : RegK m S ops r l h' fun l' h' => m.R K (Gr b l' ds k cs) h') : RegK m S ops r l h fun l' h' => m.R K (Gr b l' ds k cs) h' :=
  WeakC.reg WeakR r l h h' w n
theorem k_callV {x : Operand} {args : List Operand} {ats : Array TypeId} {v : Value} {vs : List Value} {Post : Value → Hp → Prop} (ho : ops[i]? = some ⟨d, .call ⟨.value x, args.toArray, ats⟩, ty, pos, af, g⟩) (hw : Wt ops l g)
    [ex : OpV l x v] [ea : ArgsV l args vs] (c : CallV m v vs h Post) (n : ∀ v h', Post v h' → RegK m S ops r (put l d v) h' C) : RegK m S ops ((i, .free) :: r) l h C := by
  obtain ⟨fn, first, cap, nx, fr, rfl, hc, hr, c⟩ := c
  refine RegK.fr ho hw ?_
  have e : (Array.map (ev l) args.toArray) = vs.toArray := by rw [List.map_toArray, ea.eq]
  refine Reads.tri (a := nx) ?_ (upon_callee hc (c.mono fun v h' p => n v h' p))
  simp only [execOp, resolve, e, ex.eq, Deferred.ofValue]
  refine Reads.bind (a := ⟨.fn fn cap, first ++ vs.toArray⟩) (Reads.pure _) ?_
  exact hr
end
end Go.Lo
namespace Go.Lo
open Go.Conc (G)
def swapL (xs : List Int) (i j : Nat) : List Int := (xs.set i (xs.getD j 0)).set j (xs.getD i 0)
theorem swapL_length (xs : List Int) (i j : Nat) : (swapL xs i j).length = xs.length := by simp [swapL]
theorem getD_set {xs : List Int} {i k : Nat} {v : Int} (h : i < xs.length) : (xs.set i v).getD k 0 = if k = i then v else xs.getD k 0 := by
  rw [List.getD_eq_getElem?_getD]; split
  · rename_i e; subst e; rw [List.getElem?_set_self h]; rfl
  · rename_i e; rw [List.getElem?_set_ne (fun x => e x.symm), ← List.getD_eq_getElem?_getD]
theorem swapL_getD {xs : List Int} {i j k : Nat} (hi : i < xs.length) (hj : j < xs.length) : (swapL xs i j).getD k 0 = if k = j then xs.getD i 0 else if k = i then xs.getD j 0 else xs.getD k 0 := by
  rw [swapL, getD_set (by simpa using hj), getD_set hi]
theorem set_perm_gen (l1 l2 l3 : List Int) (a b : Int) : (l1 ++ b :: l2 ++ a :: l3).Perm (l1 ++ a :: l2 ++ b :: l3) := by
  rw [List.append_assoc, List.append_assoc]; refine List.Perm.append_left l1 ?_
  rw [List.cons_append, List.cons_append]; have h1 : (b :: (l2 ++ a :: l3)).Perm (b :: a :: (l2 ++ l3)) := List.Perm.cons b List.perm_middle
  have h2 : (a :: (l2 ++ b :: l3)).Perm (a :: b :: (l2 ++ l3)) := List.Perm.cons a List.perm_middle
  exact h1.trans ((List.Perm.swap a b _).trans h2.symm)
theorem swapL_perm_lt {xs : List Int} {i j : Nat} (hij : i < j) (hj : j < xs.length) : (swapL xs i j).Perm xs := by
  have hi : i < xs.length := by omega
  have e : xs = xs.take i ++ xs.getD i 0 :: (xs.drop (i + 1)).take (j - i - 1) ++ xs.getD j 0 :: xs.drop (j + 1) := by
    apply List.ext_getElem?
    intro k
    rcases Nat.lt_trichotomy k i with h | h | h
    · rw [List.append_assoc, List.getElem?_append_left (by simp; omega), List.getElem?_take, if_pos h]
    · subst h
      rw [List.append_assoc, List.getElem?_append_right (by simp; omega)]; simp [List.getD_eq_getElem?_getD, List.getElem?_eq_getElem hi, Nat.min_eq_left (Nat.le_of_lt hi)]
    · rcases Nat.lt_trichotomy k j with h2 | h2 | h2
      · rw [List.append_assoc, List.getElem?_append_right (by simp; omega), List.length_take, Nat.min_eq_left (by omega), List.cons_append, show k - i = (k - i - 1) + 1 by omega, List.getElem?_cons_succ,
          List.getElem?_append_left (by simp; omega), List.getElem?_take, if_pos (by omega), List.getElem?_drop]
        congr 1; omega
      · subst h2
        rw [List.getElem?_append_right (by simp; omega)]; simp only [List.length_append, List.length_take, List.length_cons, List.length_drop]
        rw [show k - (min i xs.length + (min (k - i - 1) (xs.length - (i + 1)) + 1)) = 0 by omega]; simp [List.getD_eq_getElem?_getD, List.getElem?_eq_getElem hj]
      · rw [List.getElem?_append_right (by simp; omega)]; simp only [List.length_append, List.length_take, List.length_cons, List.length_drop]
        rw [show k - (min i xs.length + (min (j - i - 1) (xs.length - (i + 1)) + 1)) = (k - j - 1) + 1 by omega, List.getElem?_cons_succ, List.getElem?_drop]; congr 1; omega
  have e2 : swapL xs i j = xs.take i ++ xs.getD j 0 :: (xs.drop (i + 1)).take (j - i - 1) ++ xs.getD i 0 :: xs.drop (j + 1) := by
    generalize ha : xs.getD i 0 = a at *
    generalize hb : xs.getD j 0 = b at *
    unfold swapL
    rw [ha, hb]; generalize hl1 : xs.take i = l1 at *
    generalize hl2 : (xs.drop (i + 1)).take (j - i - 1) = l2 at *
    generalize hl3 : xs.drop (j + 1) = l3 at *
    have n1 : l1.length = i := by rw [← hl1, List.length_take]; omega
    have n2 : l2.length = j - i - 1 := by rw [← hl2, List.length_take, List.length_drop]; omega
    rw [e]; have s1 : (l1 ++ a :: l2 ++ b :: l3).set i b = l1 ++ b :: l2 ++ b :: l3 := by
      rw [List.append_assoc, List.set_append_right _ _ (by omega), n1, Nat.sub_self]; simp
    rw [s1]; rw [List.set_append_right _ _ (by simp; omega)]; simp only [List.length_append, List.length_cons]
    rw [show j - (l1.length + (l2.length + 1)) = 0 by omega]; simp
  rw [e2]; conv => rhs; rw [e]
  exact set_perm_gen _ _ _ _ _
theorem swapL_comm (xs : List Int) (i j : Nat) : swapL xs i j = swapL xs j i := by
  unfold swapL
  by_cases e : i = j
  · subst e; rfl
  · rw [List.set_comm _ _ e]
theorem swapL_perm {xs : List Int} {i j : Nat} (hi : i < xs.length) (hj : j < xs.length) : (swapL xs i j).Perm xs := by
  rcases Nat.lt_trichotomy i j with h | h | h
  · exact swapL_perm_lt h hj
  · subst h
    have : swapL xs i i = xs := by
      unfold swapL
      rw [List.set_set]; apply List.ext_getElem?
      intro k
      by_cases e : i = k
      · subst e; rw [List.getElem?_set_self hi, List.getD_eq_getElem?_getD, List.getElem?_eq_getElem hi]; rfl
      · rw [List.getElem?_set_ne e]
    rw [this]
  · rw [swapL_comm]; exact swapL_perm_lt h hi
inductive Sw (a b : Nat) : List Int → List Int → Prop
  | refl (xs : List Int) : Sw a b xs xs
  | step {xs ys : List Int} (i j : Nat) (hi : a ≤ i ∧ i < b) (hj : a ≤ j ∧ j < b) (s : Sw a b xs ys) : Sw a b xs (swapL ys i j)
theorem Sw.one {a b : Nat} {xs : List Int} (i j : Nat) (hi : a ≤ i ∧ i < b) (hj : a ≤ j ∧ j < b) : Sw a b xs (swapL xs i j) := .step i j hi hj (.refl _)
theorem Sw.length {a b : Nat} {xs ys : List Int} (s : Sw a b xs ys) : ys.length = xs.length := by
  induction s with
  | refl => rfl
  | step i j _ _ _ ih => rw [swapL_length, ih]
theorem Sw.trans {a b : Nat} {xs ys zs : List Int} (s : Sw a b xs ys) (t : Sw a b ys zs) : Sw a b xs zs := by
  induction t with
  | refl => exact s
  | step i j hi hj _ ih => exact .step i j hi hj ih
theorem Sw.mono {a b a' b' : Nat} {xs ys : List Int} (s : Sw a b xs ys) (ha : a' ≤ a) (hb : b ≤ b') : Sw a' b' xs ys := by
  induction s with
  | refl => exact .refl _
  | step i j hi hj _ ih => exact .step i j ⟨by omega, by omega⟩ ⟨by omega, by omega⟩ ih
theorem Sw.perm {a b : Nat} {xs ys : List Int} (s : Sw a b xs ys) (hb : b ≤ xs.length) : ys.Perm xs := by
  induction s with
  | refl => exact List.Perm.refl _
  | step i j hi hj s ih => exact (swapL_perm (by rw [s.length]; omega) (by rw [s.length]; omega)).trans ih
theorem Sw.out {a b : Nat} {xs ys : List Int} (s : Sw a b xs ys) (hb : b ≤ xs.length) {k : Nat} (hk : k < a ∨ b ≤ k) : ys.getD k 0 = xs.getD k 0 := by
  induction s with
  | refl => rfl
  | step i j hi hj s ih => rw [swapL_getD (by rw [s.length]; omega) (by rw [s.length]; omega), if_neg (by omega), if_neg (by omega), ih]
theorem Sw.all {a b : Nat} {xs ys : List Int} (s : Sw a b xs ys) (hb : b ≤ xs.length) {p : Int → Prop} (h : ∀ k, a ≤ k → k < b → p (xs.getD k 0)) : ∀ k, a ≤ k → k < b → p (ys.getD k 0) := by
  induction s with
  | refl => exact h
  | step i j hi hj s ih =>
    intro k h1 h2
    rw [swapL_getD (by rw [s.length]; omega) (by rw [s.length]; omega)]; split
    · exact ih i hi.1 hi.2
    · split
      · exact ih j hj.1 hj.2
      · exact ih k h1 h2
def SortR (xs : List Int) (a b : Nat) : Prop := ∀ i j, a ≤ i → i < j → j < b → xs.getD i 0 ≤ xs.getD j 0
theorem setSeg_ints {xs : List Int} {junk : List Value} {v : Int} {i : Int} {k : Nat} (hi : i = k) (hk : k < xs.length) : SetSeg (ints xs ++ junk) (0 + i.toNat * 1) [.int .i64 v] (ints (xs.set k v) ++ junk) := ⟨by
  subst hi
  rw [Int.toNat_natCast, Nat.mul_one, Nat.zero_add]; have h1 : ints (xs.set k v) = (ints xs).set k (.int .i64 v) := by simp [ints, List.map_set]
  have h2 : k < (ints xs).length := by simpa using hk
  rw [h1, ← List.set_append_left _ _ h2, List.set_eq_take_append_cons_drop, if_pos (by simp; omega)]; simp, by simp; omega⟩
abbrev blkC (b : Nat) (xs : List Int) (junk : List Value) : Chunk := ⟨true, b, .cells (ints xs ++ junk).toArray 3 (0, 0)⟩
theorem rd_blkI {B : Array Obj} {H : Hp} {b t : Nat} {rw : Bool} {f : Nat × Nat} {xs : List Int} {junk : List Value} {j : Int} (i : Nat) [x : Has H b rw (.cells (ints xs ++ junk).toArray t f)] (hj : j = i) (hi : i < xs.length) : Rd B H ⟨b, 0 + j.toNat * 1, none⟩ (.int .i64 (xs.getD i 0)) := by
  subst hj
  rw [Int.toNat_natCast, Nat.mul_one, Nat.zero_add]; refine Rd.held x.mem ?_
  rw [List.getElem?_toArray, List.getElem?_append_left (by simpa using hi), List.getElem?_map, List.getD_eq_getElem?_getD, List.getElem?_eq_getElem hi]; rfl
section
variable {P : Program} {B : Array Obj} {m : Md P B} {ops : Array Oper} {l l' : List Value} {S h h' H : Hp} {C : List Value → Hp → Prop} {i : Nat} {kd : Kd} {r : List (Nat × Kd)}
  {d : Option Tmp} {ty : TypeId} {pos : String} {af : Array Edge} {g : Option (Nat × Bool)}
theorem k_conv {s t : TypeId} {x : Operand} {n n' : Int} {k k' : IntKind} (ho : ops[i]? = some ⟨d, .convert s t x, ty, pos, af, g⟩) (hw : Wt ops l g) [KHeap kd S h H] [ex : OpV l x (.int k n)] (hs : (P.underlying s).isSome = true) [it : IntT P t k'] (hn : k'.wrap n = n') [PutV l d (.int k' n') l'] (q : RegK m S ops r l' h C) : RegK m S ops ((i, kd) :: r) l h C :=
  RegK.rd (v := .int k' n') ho hw (by
    obtain ⟨u, hu⟩ := Option.isSome_iff_exists.1 hs
    have := it.eq
    unfold intB at this
    simp only [execOp, ex.eq]
    refine Reads.value ?_
    unfold convert
    refine Reads.bind (still_und hu).reads ?_
    split at this
    · rename_i k2 e
      have : k2 = k' := by simpa using this
      subst this
      refine Reads.bind (still_und e).reads ?_
      rw [← hn]; cases u <;> exact Reads.pure _
    · cases this) q
theorem k_shr {t u : TypeId} {x y : Operand} {a b : Int} {k k' : IntKind} (v : Int) (ho : ops[i]? = some ⟨d, .binOp .shr t x y u, ty, pos, af, g⟩) (hw : Wt ops l g) [KHeap kd S h H] [ex : OpV l x (.int k a)] [ey : OpV l y (.int k' b)] (h0 : 0 ≤ b) (hv : a.fdiv (2 ^ (min b.toNat k.bits)) = v) [PutV l d (.int k v) l'] (q : RegK m S ops r l' h C) : RegK m S ops ((i, kd) :: r) l h C :=
  RegK.rd (v := .int k v) ho hw (by
    simp only [execOp, ex.eq, ey.eq]
    refine Reads.value (Reads.bind (a := ()) (Reads.pure _) ?_)
    show Reads P B (Op.shift .shr k a k' b) H _
    unfold Op.shift
    rw [if_neg (by omega), ← hv]; exact Reads.pure _) q
theorem k_ixS {t : TypeId} {x y : Operand} {s : ByteArray} {n : Nat} {j : Int} {k : IntKind} (ho : ops[i]? = some ⟨d, .index t x y, ty, pos, af, g⟩) (hw : Wt ops l g) [KHeap kd S h H] [ex : OpV l x (.string s)] [ey : OpV l y (.int k j)] (ht : P.underlying t = some .string) (hs : s.size = n) (h0 : 0 ≤ j) (h1 : j < n)
    (q : ∀ b : UInt8, RegK m S ops r (put l d (.int .u8 b.toNat)) h C) : RegK m S ops ((i, kd) :: r) l h C := by
  subst hs
  have hlt : j.toNat < s.size := by omega
  refine RegK.rd (v := .int .u8 (s[j.toNat]'hlt).toNat) (l' := put l d _) ho hw ?_ (p := ⟨rfl⟩) (q _)
  simp only [execOp, ex.eq, ey.eq]
  refine Reads.value ?_
  unfold Instr.index
  refine Reads.bind (a := (k, j)) (Reads.pure _) ?_
  refine Reads.bind (still_und ht).reads ?_
  simp only [h0, if_true]
  have : s[j.toNat]? = some (s[j.toNat]'hlt) := by rw [getElem?_pos s j.toNat hlt]
  simp only [this]
  exact Reads.pure _
end
end Go.Lo
namespace Go.Lo
open Go.Conc (G)
theorem rd_blkO {B : Array Obj} {H : Hp} {b o t : Nat} {rw : Bool} {f : Nat × Nat} {xs : List Int} {junk : List Value} {j : Int} (i : Nat) [x : Has H b rw (.cells (ints xs ++ junk).toArray t f)] (hj : j = i) (hi : o + i < xs.length) : Rd B H ⟨b, o + j.toNat * 1, none⟩ (.int .i64 (xs.getD (o + i) 0)) := by
  subst hj
  rw [Int.toNat_natCast, Nat.mul_one]; refine Rd.held x.mem ?_
  rw [List.getElem?_toArray, List.getElem?_append_left (by simpa using hi), List.getElem?_map, List.getD_eq_getElem?_getD, List.getElem?_eq_getElem hi]; rfl
theorem cutP_lt {b c lo : Nat} (h : lo < c) : cutP 1 (some ⟨b, 0, none⟩) c lo = some ⟨b, lo, none⟩ := by
  unfold cutP
  rw [if_neg (by omega)]; simp [Addr.add_none]
theorem zeroCells_int (n : Nat) : (Builtin.zeroCells #[Value.int .i64 0] n).toList = ints (List.replicate n 0) := by
  unfold Builtin.zeroCells
  apply List.ext_getElem
  · simp
  · intro i h1 h2
    simp [Nat.mod_one]
section
variable {P : Program} {B : Array Obj} {m : Md P B} {ops : Array Oper} {l l' : List Value} {S h h' H : Hp} {C : List Value → Hp → Prop} {i : Nat} {kd : Kd} {r : List (Nat × Kd)}
  {d : Option Tmp} {ty : TypeId} {pos : String} {af : Array Edge} {g : Option (Nat × Bool)}
theorem k_clear {t e b c k n t' : Nat} {x : Operand} {rw : Bool} {ys : List Int} {junk : List Value} (ho : ops[i]? = some ⟨none, .call ⟨.builtin .clear, [x].toArray, #[t]⟩, ty, pos, af, g⟩) (hw : Wt ops l g) [KSub kd S h']
    [ex : OpV l x (.slice (cutP 1 (some ⟨b, 0, none⟩) c k) (n - k) (c - k))] [SliceT P t e 1] [zt : ZeroT P e (.int .i64 0)] [q : Has h b rw (.cells (ints ys ++ junk).toArray t' (0, 0))] [up : Upd h b (.cells (ints (ys.take k ++ List.replicate (n - k) 0) ++ junk).toArray t' (0, 0)) h'] (hl : ys.length = n) (hk : k ≤ n) (hc : n ≤ c)
    (nx : RegK m S ops r l h' C) : RegK m S ops ((i, kd) :: r) l h C := by
  obtain ⟨o1, g1, g2, e1, e2⟩ := up.ex
  refine RegK.ke (KSub.kind (S := S) (h := h')) ho hw ?_
  obtain ⟨hu, hs⟩ := slice_und (P := P) (B := B) (h := h) (t := t)
  rw [exec_builtin (vs := [.slice (cutP 1 (some ⟨b, 0, none⟩) c k) (n - k) (c - k)]) (by simp [ex.eq])]; refine tri_upd q.mem ⟨o1, g1, g2, e1, rfl⟩ ?_
  show Tri P B (Builtin.clear_ #[t] ty #[.slice (cutP 1 (some ⟨b, 0, none⟩) c k) (n - k) (c - k)] >>= fun v => pure (Next.value v)) _ _
  refine Tri.bind ?_
  unfold Builtin.clear_
  refine Tri.bind ((still_und hu).reads.tri ?_)
  by_cases e0 : n - k = 0
  · rw [e0]; have e3 : ys.take k ++ List.replicate (n - k) 0 = ys := by rw [e0, List.take_of_length_le (by omega)]; simp
    have e4 : h' = g1 ++ ⟨true, b, .cells (ints ys ++ junk).toArray t' (0, 0)⟩ :: g2 := by rw [e2, e3]
    have key : Tri P B (Sem.pure (Value.tuple #[])) (g1 ++ ⟨true, b, .cells (ints ys ++ junk).toArray t' (0, 0)⟩ :: g2) (fun a h_1 => Tri P B (pure (Next.value a)) h_1 (upon m ⟨none, .call ⟨.builtin .clear, [x].toArray, #[t]⟩, ty, pos, af, g⟩ l fun l' h' => (kd = .free ∨ S.Sublist h') ∧ RegK m S ops r l' h' C)) :=
      Tri.pure' (Tri.pure (by rw [← e4]; exact ⟨KSub.sub, nx⟩))
    cases hp : cutP 1 (some ⟨b, 0, none⟩) c k with
    | none => exact key
    | some a => exact key
  · rw [cutP_lt (by omega)]; obtain ⟨n0, hn0⟩ : ∃ n0, n - k = n0 + 1 := ⟨n - k - 1, by omega⟩
    have hgoal : ∀ (N : Nat), n - k = N → N ≠ 0 → Tri P B (do storeCells ⟨b, k, none⟩ (Builtin.zeroCells (← zeroValue e).cells N).toList; pure (Value.tuple #[])) (g1 ++ ⟨true, b, .cells (ints ys ++ junk).toArray t' (0, 0)⟩ :: g2) (fun a h_1 => Tri P B (pure (Next.value a)) h_1 (upon m ⟨none, .call ⟨.builtin .clear, [x].toArray, #[t]⟩, ty, pos, af, g⟩ l fun l' h' => (kd = .free ∨ S.Sublist h') ∧ RegK m S ops r l' h' C)) := by
      intro N hN hN0
      refine Tri.bind (s := zeroValue e) ((reads_zero (v := .int .i64 0)).tri ?_)
      refine Tri.bind ?_
      rw [show (Value.int IntKind.i64 0).cells = #[Value.int .i64 0] from rfl, zeroCells_int]; refine tri_cells (ints (List.replicate N 0)) 0 _ (by simp; omega) (ints_one _) fun c' hc' => Tri.pure (Tri.pure ?_)
      have e3 : c' = (ints (ys.take k ++ List.replicate (n - k) 0) ++ junk).toArray := by
        apply Array.ext'
        rw [hc', hN]; simp only [Nat.add_zero, List.toList_toArray, List.length_map, List.length_replicate]
        rw [List.take_append_of_le_length (by simp; omega), ints_append, ints_take, show k + N = (ints ys).length by simp; omega, List.drop_left]
      rw [e3, ← e2]; exact ⟨KSub.sub, nx⟩
    rw [hn0]; exact hgoal (n0 + 1) hn0 (by omega)
end
end Go.Lo
namespace Go.Proofs
open Go.Lo
set_option maxRecDepth 100000
instance : Scal Tryz.prog 1 := ⟨by kernel_rfl⟩
instance : ZeroT Tryz.prog 1 (.nilFunc) := ⟨by kernel_rfl⟩
instance : ElemT Tryz.prog 1 1 8 := ⟨by kernel_rfl⟩
instance : Scal Tryz.prog 3 := ⟨by kernel_rfl⟩
instance : ZeroT Tryz.prog 3 (.int .i64 0) := ⟨by kernel_rfl⟩
instance : ElemT Tryz.prog 3 1 8 := ⟨by kernel_rfl⟩
instance : IntT Tryz.prog 3 .i64 := ⟨by kernel_rfl⟩
instance : Scal Tryz.prog 4 := ⟨by kernel_rfl⟩
instance : ZeroT Tryz.prog 4 (.bool false) := ⟨by kernel_rfl⟩
instance : ElemT Tryz.prog 4 1 1 := ⟨by kernel_rfl⟩
instance : Scal Tryz.prog 5 := ⟨by kernel_rfl⟩
instance : ZeroT Tryz.prog 5 (.int .u8 0) := ⟨by kernel_rfl⟩
instance : ElemT Tryz.prog 5 1 1 := ⟨by kernel_rfl⟩
instance : IntT Tryz.prog 5 .u8 := ⟨by kernel_rfl⟩
instance : Scal Tryz.prog 9 := ⟨by kernel_rfl⟩
instance : ZeroT Tryz.prog 9 (.string ⟨#[]⟩) := ⟨by kernel_rfl⟩
instance : ElemT Tryz.prog 9 1 16 := ⟨by kernel_rfl⟩
instance : Scal Tryz.prog 22 := ⟨by kernel_rfl⟩
instance : ZeroT Tryz.prog 22 (.slice none 0 0) := ⟨by kernel_rfl⟩
instance : ElemT Tryz.prog 22 1 24 := ⟨by kernel_rfl⟩
instance : SliceT Tryz.prog 22 92 2 := ⟨by kernel_rfl⟩
instance : Scal Tryz.prog 23 := ⟨by kernel_rfl⟩
instance : ZeroT Tryz.prog 23 (.slice none 0 0) := ⟨by kernel_rfl⟩
instance : ElemT Tryz.prog 23 1 24 := ⟨by kernel_rfl⟩
instance : SliceT Tryz.prog 23 94 4 := ⟨by kernel_rfl⟩
instance : AggT Tryz.prog 24 5 := ⟨by kernel_rfl⟩
instance : ZeroT Tryz.prog 24 (.agg [.int .i64 0, .int .i64 0, .int .i64 0, .slice none 0 0, .slice none 0 0].toArray) := ⟨by kernel_rfl⟩
instance : ElemT Tryz.prog 24 5 72 := ⟨by kernel_rfl⟩
instance : StructT Tryz.prog 24 [(0, 1), (1, 1), (2, 1), (3, 1), (4, 1)] := ⟨by kernel_rfl⟩
instance : FieldT Tryz.prog 24 0 0 3 := ⟨by kernel_rfl⟩
instance : FieldT Tryz.prog 24 1 1 3 := ⟨by kernel_rfl⟩
instance : FieldT Tryz.prog 24 2 2 3 := ⟨by kernel_rfl⟩
instance : FieldT Tryz.prog 24 3 3 22 := ⟨by kernel_rfl⟩
instance : FieldT Tryz.prog 24 4 4 23 := ⟨by kernel_rfl⟩
instance : AggT Tryz.prog 25 5 := ⟨by kernel_rfl⟩
instance : ZeroT Tryz.prog 25 (.agg [.int .i64 0, .int .i64 0, .int .i64 0, .slice none 0 0, .slice none 0 0].toArray) := ⟨by kernel_rfl⟩
instance : ElemT Tryz.prog 25 5 72 := ⟨by kernel_rfl⟩
instance : StructT Tryz.prog 25 [(0, 1), (1, 1), (2, 1), (3, 1), (4, 1)] := ⟨by kernel_rfl⟩
instance : FieldT Tryz.prog 25 0 0 3 := ⟨by kernel_rfl⟩
instance : FieldT Tryz.prog 25 1 1 3 := ⟨by kernel_rfl⟩
instance : FieldT Tryz.prog 25 2 2 3 := ⟨by kernel_rfl⟩
instance : FieldT Tryz.prog 25 3 3 22 := ⟨by kernel_rfl⟩
instance : FieldT Tryz.prog 25 4 4 23 := ⟨by kernel_rfl⟩
instance : Scal Tryz.prog 26 := ⟨by kernel_rfl⟩
instance : ZeroT Tryz.prog 26 (.slice none 0 0) := ⟨by kernel_rfl⟩
instance : ElemT Tryz.prog 26 1 24 := ⟨by kernel_rfl⟩
instance : SliceT Tryz.prog 26 3 1 := ⟨by kernel_rfl⟩
instance : Scal Tryz.prog 29 := ⟨by kernel_rfl⟩
instance : ZeroT Tryz.prog 29 (.int .i64 0) := ⟨by kernel_rfl⟩
instance : ElemT Tryz.prog 29 1 8 := ⟨by kernel_rfl⟩
instance : IntT Tryz.prog 29 .i64 := ⟨by kernel_rfl⟩
instance : Scal Tryz.prog 41 := ⟨by kernel_rfl⟩
instance : ZeroT Tryz.prog 41 (.int .i64 0) := ⟨by kernel_rfl⟩
instance : ElemT Tryz.prog 41 1 8 := ⟨by kernel_rfl⟩
instance : IntT Tryz.prog 41 .i64 := ⟨by kernel_rfl⟩
instance : Scal Tryz.prog 48 := ⟨by kernel_rfl⟩
instance : ZeroT Tryz.prog 48 (.slice none 0 0) := ⟨by kernel_rfl⟩
instance : ElemT Tryz.prog 48 1 24 := ⟨by kernel_rfl⟩
instance : SliceT Tryz.prog 48 55 1 := ⟨by kernel_rfl⟩
instance : Scal Tryz.prog 55 := ⟨by kernel_rfl⟩
instance : ZeroT Tryz.prog 55 (.int .u16 0) := ⟨by kernel_rfl⟩
instance : ElemT Tryz.prog 55 1 2 := ⟨by kernel_rfl⟩
instance : IntT Tryz.prog 55 .u16 := ⟨by kernel_rfl⟩
instance : AggT Tryz.prog 91 2 := ⟨by kernel_rfl⟩
instance : ZeroT Tryz.prog 91 (.agg [.int .i64 0, .int .i64 0].toArray) := ⟨by kernel_rfl⟩
instance : ElemT Tryz.prog 91 2 16 := ⟨by kernel_rfl⟩
instance : StructT Tryz.prog 91 [(0, 1), (1, 1)] := ⟨by kernel_rfl⟩
instance : FieldT Tryz.prog 91 0 0 3 := ⟨by kernel_rfl⟩
instance : FieldT Tryz.prog 91 1 1 3 := ⟨by kernel_rfl⟩
instance : AggT Tryz.prog 92 2 := ⟨by kernel_rfl⟩
instance : ZeroT Tryz.prog 92 (.agg [.int .i64 0, .int .i64 0].toArray) := ⟨by kernel_rfl⟩
instance : ElemT Tryz.prog 92 2 16 := ⟨by kernel_rfl⟩
instance : StructT Tryz.prog 92 [(0, 1), (1, 1)] := ⟨by kernel_rfl⟩
instance : FieldT Tryz.prog 92 0 0 3 := ⟨by kernel_rfl⟩
instance : FieldT Tryz.prog 92 1 1 3 := ⟨by kernel_rfl⟩
instance : AggT Tryz.prog 93 4 := ⟨by kernel_rfl⟩
instance : ZeroT Tryz.prog 93 (.agg [.int .i64 0, .int .i64 0, .int .i64 0, .int .i64 0].toArray) := ⟨by kernel_rfl⟩
instance : ElemT Tryz.prog 93 4 32 := ⟨by kernel_rfl⟩
instance : StructT Tryz.prog 93 [(0, 1), (1, 1), (2, 2)] := ⟨by kernel_rfl⟩
instance : FieldT Tryz.prog 93 0 0 3 := ⟨by kernel_rfl⟩
instance : FieldT Tryz.prog 93 1 1 3 := ⟨by kernel_rfl⟩
instance : FieldT Tryz.prog 93 2 2 92 := ⟨by kernel_rfl⟩
instance : AggT Tryz.prog 94 4 := ⟨by kernel_rfl⟩
instance : ZeroT Tryz.prog 94 (.agg [.int .i64 0, .int .i64 0, .int .i64 0, .int .i64 0].toArray) := ⟨by kernel_rfl⟩
instance : ElemT Tryz.prog 94 4 32 := ⟨by kernel_rfl⟩
instance : StructT Tryz.prog 94 [(0, 1), (1, 1), (2, 2)] := ⟨by kernel_rfl⟩
instance : FieldT Tryz.prog 94 0 0 3 := ⟨by kernel_rfl⟩
instance : FieldT Tryz.prog 94 1 1 3 := ⟨by kernel_rfl⟩
instance : FieldT Tryz.prog 94 2 2 92 := ⟨by kernel_rfl⟩
instance : Scal Tryz.prog 106 := ⟨by kernel_rfl⟩
instance : ZeroT Tryz.prog 106 (.nilFunc) := ⟨by kernel_rfl⟩
instance : ElemT Tryz.prog 106 1 8 := ⟨by kernel_rfl⟩
instance : AggT Tryz.prog 107 3 := ⟨by kernel_rfl⟩
instance : ZeroT Tryz.prog 107 (.agg [.nilFunc, .nilFunc, .nilFunc].toArray) := ⟨by kernel_rfl⟩
instance : ElemT Tryz.prog 107 3 24 := ⟨by kernel_rfl⟩
instance : ArrayT Tryz.prog 107 3 106 1 := ⟨by kernel_rfl⟩
instance : AggT Tryz.prog 108 5 := ⟨by kernel_rfl⟩
instance : ZeroT Tryz.prog 108 (.agg [.int .i64 0, .int .i64 0, .int .i64 0, .slice none 0 0, .slice none 0 0].toArray) := ⟨by kernel_rfl⟩
instance : ElemT Tryz.prog 108 5 72 := ⟨by kernel_rfl⟩
instance : StructT Tryz.prog 108 [(0, 5)] := ⟨by kernel_rfl⟩
instance : FieldT Tryz.prog 108 0 0 25 := ⟨by kernel_rfl⟩
instance : AggT Tryz.prog 109 5 := ⟨by kernel_rfl⟩
instance : ZeroT Tryz.prog 109 (.agg [.int .i64 0, .int .i64 0, .int .i64 0, .slice none 0 0, .slice none 0 0].toArray) := ⟨by kernel_rfl⟩
instance : ElemT Tryz.prog 109 5 72 := ⟨by kernel_rfl⟩
instance : StructT Tryz.prog 109 [(0, 5)] := ⟨by kernel_rfl⟩
instance : FieldT Tryz.prog 109 0 0 25 := ⟨by kernel_rfl⟩
instance : AggT Tryz.prog 111 7 := ⟨by kernel_rfl⟩
instance : ZeroT Tryz.prog 111 (.agg [.int .i64 0, .int .i64 0, .int .i64 0, .int .i64 0, .int .i64 0, .int .i64 0, .int .i64 0].toArray) := ⟨by kernel_rfl⟩
instance : ElemT Tryz.prog 111 7 56 := ⟨by kernel_rfl⟩
instance : ArrayT Tryz.prog 111 7 3 1 := ⟨by kernel_rfl⟩
instance : AggT Tryz.prog 112 7 := ⟨by kernel_rfl⟩
instance : ZeroT Tryz.prog 112 (.agg [.int .i64 0, .int .i64 0, .int .i64 0, .int .i64 0, .int .i64 0, .int .i64 0, .int .i64 0].toArray) := ⟨by kernel_rfl⟩
instance : ElemT Tryz.prog 112 7 56 := ⟨by kernel_rfl⟩
instance : ArrayT Tryz.prog 112 7 3 1 := ⟨by kernel_rfl⟩
instance : Scal Tryz.prog 117 := ⟨by kernel_rfl⟩
instance : ZeroT Tryz.prog 117 (.nilFunc) := ⟨by kernel_rfl⟩
instance : ElemT Tryz.prog 117 1 8 := ⟨by kernel_rfl⟩
instance : Scal Tryz.prog 118 := ⟨by kernel_rfl⟩
instance : ZeroT Tryz.prog 118 (.nilFunc) := ⟨by kernel_rfl⟩
instance : ElemT Tryz.prog 118 1 8 := ⟨by kernel_rfl⟩
instance : Scal Tryz.prog 120 := ⟨by kernel_rfl⟩
instance : ZeroT Tryz.prog 120 (.slice none 0 0) := ⟨by kernel_rfl⟩
instance : ElemT Tryz.prog 120 1 24 := ⟨by kernel_rfl⟩
instance : SliceT Tryz.prog 120 112 7 := ⟨by kernel_rfl⟩
instance : AggT Tryz.prog 122 6 := ⟨by kernel_rfl⟩
instance : ZeroT Tryz.prog 122 (.agg [.int .i64 0, .int .i64 0, .int .i64 0, .slice none 0 0, .slice none 0 0, .slice none 0 0].toArray) := ⟨by kernel_rfl⟩
instance : ElemT Tryz.prog 122 6 96 := ⟨by kernel_rfl⟩
instance : StructT Tryz.prog 122 [(0, 5), (5, 1)] := ⟨by kernel_rfl⟩
instance : FieldT Tryz.prog 122 0 0 109 := ⟨by kernel_rfl⟩
instance : FieldT Tryz.prog 122 1 5 120 := ⟨by kernel_rfl⟩
instance : AggT Tryz.prog 123 6 := ⟨by kernel_rfl⟩
instance : ZeroT Tryz.prog 123 (.agg [.int .i64 0, .int .i64 0, .int .i64 0, .slice none 0 0, .slice none 0 0, .slice none 0 0].toArray) := ⟨by kernel_rfl⟩
instance : ElemT Tryz.prog 123 6 96 := ⟨by kernel_rfl⟩
instance : StructT Tryz.prog 123 [(0, 5), (5, 1)] := ⟨by kernel_rfl⟩
instance : FieldT Tryz.prog 123 0 0 109 := ⟨by kernel_rfl⟩
instance : FieldT Tryz.prog 123 1 5 120 := ⟨by kernel_rfl⟩
instance : AggT Tryz.prog 137 7 := ⟨by kernel_rfl⟩
instance : ZeroT Tryz.prog 137 (.agg [.int .i64 0, .int .i64 0, .int .i64 0, .int .i64 0, .int .i64 0, .int .i64 0, .int .i64 0].toArray) := ⟨by kernel_rfl⟩
instance : ElemT Tryz.prog 137 7 56 := ⟨by kernel_rfl⟩
instance : StructT Tryz.prog 137 [(0, 7)] := ⟨by kernel_rfl⟩
instance : FieldT Tryz.prog 137 0 0 112 := ⟨by kernel_rfl⟩
instance : AggT Tryz.prog 138 7 := ⟨by kernel_rfl⟩
instance : ZeroT Tryz.prog 138 (.agg [.int .i64 0, .int .i64 0, .int .i64 0, .int .i64 0, .int .i64 0, .int .i64 0, .int .i64 0].toArray) := ⟨by kernel_rfl⟩
instance : ElemT Tryz.prog 138 7 56 := ⟨by kernel_rfl⟩
instance : StructT Tryz.prog 138 [(0, 7)] := ⟨by kernel_rfl⟩
instance : FieldT Tryz.prog 138 0 0 112 := ⟨by kernel_rfl⟩
instance : Scal Tryz.prog 142 := ⟨by kernel_rfl⟩
instance : ZeroT Tryz.prog 142 (.chan none) := ⟨by kernel_rfl⟩
instance : ElemT Tryz.prog 142 1 8 := ⟨by kernel_rfl⟩
instance : Scal Tryz.prog 143 := ⟨by kernel_rfl⟩
instance : ZeroT Tryz.prog 143 (.chan none) := ⟨by kernel_rfl⟩
instance : ElemT Tryz.prog 143 1 8 := ⟨by kernel_rfl⟩
instance : Scal Tryz.prog 145 := ⟨by kernel_rfl⟩
instance : ZeroT Tryz.prog 145 (.map none) := ⟨by kernel_rfl⟩
instance : ElemT Tryz.prog 145 1 8 := ⟨by kernel_rfl⟩
instance : AggT Tryz.prog 146 2 := ⟨by kernel_rfl⟩
instance : ZeroT Tryz.prog 146 (.agg [.int .i64 0, .int .i64 0].toArray) := ⟨by kernel_rfl⟩
instance : ElemT Tryz.prog 146 2 16 := ⟨by kernel_rfl⟩
instance : StructT Tryz.prog 146 [(0, 1), (1, 1)] := ⟨by kernel_rfl⟩
instance : FieldT Tryz.prog 146 0 0 3 := ⟨by kernel_rfl⟩
instance : FieldT Tryz.prog 146 1 1 3 := ⟨by kernel_rfl⟩
instance : AggT Tryz.prog 147 2 := ⟨by kernel_rfl⟩
instance : ZeroT Tryz.prog 147 (.agg [.int .i64 0, .int .i64 0].toArray) := ⟨by kernel_rfl⟩
instance : ElemT Tryz.prog 147 2 16 := ⟨by kernel_rfl⟩
instance : StructT Tryz.prog 147 [(0, 1), (1, 1)] := ⟨by kernel_rfl⟩
instance : FieldT Tryz.prog 147 0 0 3 := ⟨by kernel_rfl⟩
instance : FieldT Tryz.prog 147 1 1 3 := ⟨by kernel_rfl⟩
instance : Scal Tryz.prog 148 := ⟨by kernel_rfl⟩
instance : ZeroT Tryz.prog 148 (.slice none 0 0) := ⟨by kernel_rfl⟩
instance : ElemT Tryz.prog 148 1 24 := ⟨by kernel_rfl⟩
instance : SliceT Tryz.prog 148 25 5 := ⟨by kernel_rfl⟩
instance : Scal Tryz.prog 159 := ⟨by kernel_rfl⟩
instance : ZeroT Tryz.prog 159 (.nilFunc) := ⟨by kernel_rfl⟩
instance : ElemT Tryz.prog 159 1 8 := ⟨by kernel_rfl⟩
instance : Scal Tryz.prog 160 := ⟨by kernel_rfl⟩
instance : ZeroT Tryz.prog 160 (.nilFunc) := ⟨by kernel_rfl⟩
instance : ElemT Tryz.prog 160 1 8 := ⟨by kernel_rfl⟩
instance : Scal Tryz.prog 163 := ⟨by kernel_rfl⟩
instance : ZeroT Tryz.prog 163 (.nilFunc) := ⟨by kernel_rfl⟩
instance : ElemT Tryz.prog 163 1 8 := ⟨by kernel_rfl⟩
instance : Scal Tryz.prog 166 := ⟨by kernel_rfl⟩
instance : ZeroT Tryz.prog 166 (.int .u64 0) := ⟨by kernel_rfl⟩
instance : ElemT Tryz.prog 166 1 8 := ⟨by kernel_rfl⟩
instance : IntT Tryz.prog 166 .u64 := ⟨by kernel_rfl⟩
instance : Scal Tryz.prog 167 := ⟨by kernel_rfl⟩
instance : ZeroT Tryz.prog 167 (.slice none 0 0) := ⟨by kernel_rfl⟩
instance : ElemT Tryz.prog 167 1 24 := ⟨by kernel_rfl⟩
instance : SliceT Tryz.prog 167 117 1 := ⟨by kernel_rfl⟩
instance : Scal Tryz.prog 172 := ⟨by kernel_rfl⟩
instance : ZeroT Tryz.prog 172 (.nilFunc) := ⟨by kernel_rfl⟩
instance : ElemT Tryz.prog 172 1 8 := ⟨by kernel_rfl⟩
instance : Scal Tryz.prog 174 := ⟨by kernel_rfl⟩
instance : ZeroT Tryz.prog 174 (.int .i64 0) := ⟨by kernel_rfl⟩
instance : ElemT Tryz.prog 174 1 8 := ⟨by kernel_rfl⟩
instance : IntT Tryz.prog 174 .i64 := ⟨by kernel_rfl⟩
instance : Scal Tryz.prog 182 := ⟨by kernel_rfl⟩
instance : ZeroT Tryz.prog 182 (.int .u32 0) := ⟨by kernel_rfl⟩
instance : ElemT Tryz.prog 182 1 4 := ⟨by kernel_rfl⟩
instance : IntT Tryz.prog 182 .u32 := ⟨by kernel_rfl⟩
instance : Scal Tryz.prog 184 := ⟨by kernel_rfl⟩
instance : ZeroT Tryz.prog 184 (.int .u64 0) := ⟨by kernel_rfl⟩
instance : ElemT Tryz.prog 184 1 8 := ⟨by kernel_rfl⟩
instance : IntT Tryz.prog 184 .u64 := ⟨by kernel_rfl⟩
instance : Scal Tryz.prog 187 := ⟨by kernel_rfl⟩
instance : ZeroT Tryz.prog 187 (.int .u64 0) := ⟨by kernel_rfl⟩
instance : ElemT Tryz.prog 187 1 8 := ⟨by kernel_rfl⟩
instance : IntT Tryz.prog 187 .u64 := ⟨by kernel_rfl⟩
instance : Scal Tryz.prog 191 := ⟨by kernel_rfl⟩
instance : ZeroT Tryz.prog 191 (.pointer none) := ⟨by kernel_rfl⟩
instance : ElemT Tryz.prog 191 1 8 := ⟨by kernel_rfl⟩
instance : Scal Tryz.prog 193 := ⟨by kernel_rfl⟩
instance : ZeroT Tryz.prog 193 (.pointer none) := ⟨by kernel_rfl⟩
instance : ElemT Tryz.prog 193 1 8 := ⟨by kernel_rfl⟩
instance : Scal Tryz.prog 212 := ⟨by kernel_rfl⟩
instance : ZeroT Tryz.prog 212 (.nilFunc) := ⟨by kernel_rfl⟩
instance : ElemT Tryz.prog 212 1 8 := ⟨by kernel_rfl⟩
end Go.Proofs
