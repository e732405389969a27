/- Texts of this seat, joined: BuildL, RunSpec, RankLaw, RefuseLaw, BuildM, BuildN, RunA, RunB, CardD. -/
import Derived.Test.YtacgopankhpnbaaGreatDoorJRefusesTopE
import Derived.Test.YtacgopankhpnbaaGreatDoorJRefusesTopC
import Derived.Test.YtacgopankhpnbaaGreatDoorJRefusesTopD
import Derived.Deep.RegionHeld3
/- Walks of package build: ready, choose. -/
namespace Go.Proofs.YtacgopankhpnbaaGreatDoor
open Go.RowKit

/-- A list of ints that is being gathered, in blocks of its own. -/
structure Gath (W0 : World) (l : List Nat) (v : Value) (wr : World) : Prop where
  own : wr.ownsRow W0.heap.size 3 1 v l.length ((natInts l).map (Value.int .i64))
  below : Below W0.heap.size W0 wr
theorem Gath.first (W0 : World) : Gath W0 [] (.slice none 0 0) W0 := ⟨by simpa using World.ownsRow_nil _ _ _ _, Below.refl _ _⟩
theorem Gath.later {W0 wr w2 : World} {l : List Nat} {v : Value} (h : Gath W0 l v wr) (hb : Below wr.heap.size wr w2) : Gath W0 l v w2 :=
  ⟨h.own.kept (row := none) ⟨hb.os, hb.tape, hb.output, hb.size, fun k hk _ => hb.block k hk⟩ (Classical.em _), h.below.trans (hb.mono h.below.size)⟩
theorem Gath.added {W0 wr w3 : World} {l : List Nat} {v v' : Value} {j : Nat} {o : Obj} (h : Gath W0 l v wr) (hown : w3.ownsRow W0.heap.size 3 1 v' (l.length + 1) ((natInts l).map (Value.int .i64) ++ [.int .i64 j])) (hg : (wr.alloc o).grownBy w3 v.ownBlock) : Gath W0 (l ++ [j]) v' w3 := by
  have hz : wr.heap.size + 1 ≤ w3.heap.size := by have := hg.size; simpa using this
  have hbb := h.below
  refine ⟨by simpa [natInts] using hown, ?_⟩
  refine ⟨hg.os.trans hbb.os, hg.tape.trans hbb.tape, hg.output.trans hbb.output, by have := hbb.size; omega, fun j hj => ?_⟩
  have := hbb.size
  rw [hg.block j (by simp; omega) (fun e => by have := (h.own.lt j e.symm).1; omega), Below.heap_alloc _ _ _ (by omega)]
  exact hbb.block j hj
theorem Gath.post {w W0 w' : World} {l : List Nat} {v : Value} (h : Gath W0 l v w') (hw : Below w.heap.size w W0) : NeedsPost l w (.returned v) w' := by
  refine ⟨v, rfl, ints_of_owns (by simpa [natInts] using h.own), fun a n c e => ?_, below_trans hw h.below⟩
  subst e
  have := (h.own.lt a.block rfl).1
  have := hw.size
  omega
/-- The steps below k that can come. -/
def readyTo (steps : List Stp) (done : Nat → Bool) (k : Nat) : List Nat := (List.range k).filter (canCome steps done)
theorem readyTo_yes {steps : List Stp} {done : Nat → Bool} {k : Nat} (h : canCome steps done k = true) : readyTo steps done (k + 1) = readyTo steps done k ++ [k] := by
  unfold readyTo; rw [List.range_succ, List.filter_append]; simp [h]
theorem readyTo_no {steps : List Stp} {done : Nat → Bool} {k : Nat} (h : canCome steps done k = false) : readyTo steps done (k + 1) = readyTo steps done k := by
  unfold readyTo; rw [List.range_succ, List.filter_append]; simp [h]
theorem readyTo_len (steps : List Stp) (done : Nat → Bool) (k : Nat) : (readyTo steps done k).length ≤ k := by
  unfold readyTo
  have := List.length_filter_le (canCome steps done) (List.range k)
  simpa using this

set_option maxRecDepth 100000 in
set_option maxHeartbeats 2000000 in
theorem ready_any (r : Rcp) (L : List (Value × Stp)) (vi vs : Value) (bw bi bd : Nat) (done : Nat → Bool) (w : World) (h : Grf r L vi vs bw bi w) (hd : DoneIs w bd done) :
    Calls Tryz.prog 64 #[grfV vi vs r.output bw bi, .map (some bd)] w (NeedsPost (readyOf r.steps done) w) := by
  have hw0 : Below w.heap.size w ((w.alloc (grfBox vi vs r.output bw bi)).alloc (.cells #[.map (some bd)] 104)) := below_trans (below_alloc _ _) (below_alloc _ _)
  have HB0 := Lib.hid hw0
  have HBox := Lib.hid (heap_up (below_alloc _ (.cells #[.map (some bd)] 104)) (alloc_self w (grfBox vi vs r.output bw bi)))
  have HDb := Lib.hid (show ((w.alloc (grfBox vi vs r.output bw bi)).alloc (.cells #[.map (some bd)] 104)).heap[w.heap.size + 1]? = some (.cells #[.map (some bd)] 104) by
    have := alloc_self (w.alloc (grfBox vi vs r.output bw bi)) (.cells #[.map (some bd)] 104)
    simpa only [World.size_alloc] using this)
  obtain ⟨i0, hi0, hz0, hz1, hz2⟩ := info_parts intInfo
  obtain ⟨ai, ci, av, cv, rfl, rfl⟩ := h.rcp.slices
  have h60 := h.few
  have hlen := h.rcp.len
  have HR := Lib.hid (show readyOf r.steps done = readyTo r.steps done L.length by unfold readyOf readyTo; rw [hlen])
  rw [HR.out]
  have HG := Lib.hid h
  have HD := Lib.hid hd
  clear h hd hw0 hlen HR
  go_enter Tryz.func64, Tryz.ntmps64
  go_wp2_with fail
  generalize hW : (w.alloc (grfBox (.slice ai r.inputs.length ci) (.slice av L.length cv) r.output bw bi)).alloc (.cells #[.map (some bd)] 104) = W0 at HB0 HBox HDb ⊢
  clear hW
  go_loopw [5, 11] (fun v i wr => ∃ k : Nat, k ≤ L.length ∧ i = .int .i64 k ∧ Hid (Gath W0 (readyTo r.steps done k) v wr)) (fun _ i _ => L.length - (intOf i).toNat)
  case atStart => exact ⟨0, Nat.zero_le _, rfl, Lib.hid (Gath.first W0)⟩
  case round =>
    obtain ⟨k, hk, rfl, HR⟩ := hrel
    rename World => wr
    rename Value => vo
    by_cases hlt : k < L.length
    · have HBw := Lib.hid (below_trans HB0.out HR.out.below)
      have hdb := box1 (heap_up HR.out.below HDb.out)
      have hl := (HD.out.later HBw.out).look (i := k) (by omega)
      have hrl := readyTo_len r.steps done k
      have hbz : W0.heap.size ≤ wr.heap.size := HR.out.below.size
      cases hdk : done k with
      | true =>
        rw [hdk] at hl
        have HN := Lib.hid (readyTo_no (steps := r.steps) (show canCome r.steps done k = false by unfold canCome; rw [hdk]; rfl))
        clear hdk
        go_wp2_with fail
        go_roundw
        case rel => exact ⟨k + 1, by omega, by go_num, Lib.hid (by rw [HN.out]; exact HR.out)⟩
        case measure => simp [intOf]; omega
      | false =>
        rw [hdk] at hl
        have HNe := Lib.hid ((HG.out.later HBw.out).needs hlt)
        obtain ⟨g0, g1, g2, g3, g4⟩ := box5 (heap_up HR.out.below HBox.out)
        have HCF : Hid (∀ v W, Below wr.heap.size wr W → Ints W v (natInts (needsAt r.steps k)) → Calls Tryz.prog 61 #[v, .func (.func 96) #[] #[.pointer (some ⟨w.heap.size + 1, 0, none⟩)]] W fun e w' => e = .returned (.bool ((needsAt r.steps k).any fun j => !done j)) ∧ Below W.heap.size W w') :=
          Lib.hid fun v W hb hI => containsFunc_plain 96 #[.pointer (some ⟨w.heap.size + 1, 0, none⟩)] (fun j => !done j) (needsAt r.steps k) v W hI enters_ready1 (fun x hx W' hb' => by
            have hb2 := below_trans hb hb'
            refine (ready1_any x (w.heap.size + 1) bd done W' (cell_later hb2 hdb) ((HD.out.later HBw.out).later hb2) (by have := needsAt_lt hx; have := HG.out.rcp.len; omega)).mono ?_
            rintro e w' ⟨rfl, rfl⟩
            exact ⟨rfl, Below.refl _ _⟩)
        cases hq : (needsAt r.steps k).any fun j => !done j with
        | true =>
          rw [hq] at HCF
          have HN := Lib.hid (readyTo_no (steps := r.steps) (show canCome r.steps done k = false by unfold canCome; rw [hdk, hq]; rfl))
          clear hdk hq
          go_wp2_with fail
          refine HNe.out.mono ?_
          rintro e w2 ⟨v, rfl, hI, -, hb⟩
          have HC2 := Lib.hid (HCF.out v w2 hb hI)
          have HB2 := Lib.hid hb
          clear hI hb
          go_wp2_with fail
          refine HC2.out.mono ?_
          rintro e w3 ⟨rfl, hb⟩
          have HB3 := Lib.hid hb
          clear hb
          go_wp2_with fail
          go_roundw
          case rel => exact ⟨k + 1, by omega, by go_num, Lib.hid (by rw [HN.out]; exact HR.out.later (below_trans HB2.out HB3.out))⟩
          case measure => simp [intOf]; omega
        | false =>
          rw [hq] at HCF
          have HN := Lib.hid (readyTo_yes (steps := r.steps) (show canCome r.steps done k = true by unfold canCome; rw [hdk, hq]; rfl))
          clear hdk hq
          go_wp2_with fail
          refine HNe.out.mono ?_
          rintro e w2 ⟨v, rfl, hI, -, hb⟩
          have HC2 := Lib.hid (HCF.out v w2 hb hI)
          have HB2 := Lib.hid hb
          clear hI hb
          go_wp2_with fail
          refine HC2.out.mono ?_
          rintro e w3 ⟨rfl, hb⟩
          have HR3 := Lib.hid (HR.out.later (below_trans HB2.out hb))
          have hbz3 : W0.heap.size ≤ w3.heap.size := HR3.out.below.size
          clear hb
          go_wp2_with (at_builtin; refine wpList_append_own _ rfl _ _ 26 rfl W0.heap.size 3 i0 (.int .i64 0) 1 8 Tryz.underlying26 hi0 hz0 hz1 hz2 rfl (by decide) _ _ _ rfl (HR3.out.own.alloc _) ⟨w3.heap.size, 0, none⟩ 1 1 [.int .i64 k] rfl rfl (cell_one_new _ _ _) (by simp [Value.oneCell']) (by unfold maxLen; omega) (by omega) (by simp; omega) ?_)
          intro v' w4 hown hgrow _
          have HNew := Lib.hid (HR3.out.added (by simpa [natInts] using hown) hgrow)
          clear hown hgrow
          go_wp2_with fail
          go_roundw
          case rel => exact ⟨k + 1, by omega, by go_num, Lib.hid (by rw [HN.out]; exact HNew.out)⟩
          case measure => simp [intOf]; omega
    · obtain rfl : k = L.length := by omega
      go_wp2_with fail
      go_ret
      exact HR.out.post HB0.out
end Go.Proofs.YtacgopankhpnbaaGreatDoor
/- Package build in plain words: Run, Order, Slice, Pure. No program in sight. -/
namespace Go.Proofs.YtacgopankhpnbaaGreatDoor

/-- What was done for a step. -/
structure Dn where
  step : Int
  saw : List ByteArray
  out : ByteArray

/-- build.choose: which one of a list that is not empty. -/
def chooseL (l : List Nat) (next : List Int) (u : Nat) : Nat := l.getD (pickIdx (next.getD u 0) l.length) 0
/-- One more is done. -/
def also (done : Nat → Bool) (i : Nat) : Nat → Bool := fun j => if j = i then true else done j

/-- build.Run's loop: the error, or what was done, and the files. -/
def runFrom (C : ByteArray → Int × ByteArray) (steps : List Stp) (clock order next : List Int) : Nat → (Nat → Bool) → List Dn → List Fil → Int → Int → Except Int (List Dn × List Fil)
  | 0, _, out, files, _, _ => .ok (out, files)
  | f + 1, done, out, files, u0, u1 =>
    if (readyOf steps done).isEmpty then .ok (out, files)
    else match steps[chooseL (readyOf steps done) next out.length]? with
      | none => .ok (out, files)
      | some s => match doStep C s files clock order u0 u1 with
        | .error e => .error e
        | .ok (text, saw, a, b) => runFrom C steps clock order next f (also done (chooseL (readyOf steps done) next out.length)) (out ++ [⟨chooseL (readyOf steps done) next out.length, saw, text⟩]) (doFiles s files text) a b
/-- build.Run, behind inspect. -/
def runAll (C : ByteArray → Int × ByteArray) (r : Rcp) (clock order next : List Int) : Except Int (List Dn × List Fil) :=
  runFrom C r.steps clock order next (r.steps.length + 1) (fun _ => false) [] r.inputs 0 0
/-- build.Run. -/
def runL (C : ByteArray → Int × ByteArray) (r : Rcp) (clock order next : List Int) : Except Int (List Dn × ByteArray) :=
  if inspectE r ≠ 0 then .error (inspectE r)
  else match runAll C r clock order next with
    | .error e => .error e
    | .ok (out, files) => .ok (out, (findFile files r.output).getD ByteArray.empty)

/-- build.Order's loop. -/
def orderFrom (steps : List Stp) : Nat → (Nat → Bool) → List Nat → List Nat
  | 0, _, out => out
  | f + 1, done, out => match readyOf steps done with
    | [] => out
    | i :: _ => orderFrom steps f (also done i) (out ++ [i])
/-- build.Order, behind inspect. -/
def orderAll (steps : List Stp) : List Nat := orderFrom steps (steps.length + 1) (fun _ => false) []
def orderL (r : Rcp) : List Nat := if inspectE r ≠ 0 then [] else orderAll r.steps

/-- Slice's visit, so many levels deep. -/
def grow (needs : Nat → List Nat) : Nat → (Nat → Bool) → Nat → (Nat → Bool)
  | 0, st, _ => st
  | f + 1, st, i => if st i then st else (needs i).foldl (grow needs f) (also st i)
/-- The steps on which the output depends. -/
def inSlice (r : Rcp) : Nat → Bool := match writerOf r.steps r.output with
  | some i => grow (needsAt r.steps) (r.steps.length + 1) (fun _ => false) i
  | none => fun _ => false
def sliceAll (r : Rcp) : List Nat := (List.range r.steps.length).filter (inSlice r)
def sliceL (r : Rcp) : List Nat := if inspectE r ≠ 0 then [] else sliceAll r
/-- build.Pure. -/
def pureL (r : Rcp) : Bool := decide (inspectE r = 0) && !(sliceL r).any fun i => match r.steps[i]? with
  | some s => !stepPure s
  | none => true
end Go.Proofs.YtacgopankhpnbaaGreatDoor
/- circle finds no circle: then the steps have ranks; and every step comes. No program in sight. -/
namespace Go.Proofs.YtacgopankhpnbaaGreatDoor

/-- Marks are 0, 1, 2; what a shut step needs is shut, and has a lower rank. -/
structure Sound (needs : Nat → List Nat) (st : Marks) (rk : Nat → Nat) : Prop where
  vals : ∀ i, st i = 0 ∨ st i = 1 ∨ st i = 2
  shut : ∀ i, st i = 2 → ∀ k, k ∈ needs i → st k = 2 ∧ rk k < rk i
def SoundE (needs : Nat → List Nat) (st : Marks) : Prop := ∃ rk, Sound needs st rk

theorem SoundE.open_ {needs : Nat → List Nat} {st : Marks} {i : Nat} (h : SoundE needs st) (h0 : st i = 0) : SoundE needs (mark st i 1) := by
  obtain ⟨rk, h1, h2⟩ := h
  refine ⟨rk, fun j => ?_, fun j hj k hk => ?_⟩
  · by_cases e : j = i
    · subst e; rw [mark_same]; exact .inr (.inl rfl)
    · rw [mark_other _ _ e]; exact h1 j
  · have hji : j ≠ i := by rintro rfl; rw [mark_same] at hj; omega
    rw [mark_other _ _ hji] at hj
    obtain ⟨h3, h4⟩ := h2 j hj k hk
    have hki : k ≠ i := by rintro rfl; omega
    rw [mark_other _ _ hki]
    exact ⟨h3, h4⟩
theorem le_sum (rk : Nat → Nat) : ∀ (l : List Nat) (k : Nat), k ∈ l → rk k ≤ (l.map rk).sum
  | [], _, h => by cases h
  | a :: r, k, h => by
    rw [List.map_cons, List.sum_cons]
    rcases List.mem_cons.1 h with rfl | h
    · omega
    · have := le_sum rk r k h; omega
theorem SoundE.shut_ {needs : Nat → List Nat} {st : Marks} {i : Nat} (h : SoundE needs st) (h0 : st i = 1) (hn : ∀ k, k ∈ needs i → st k = 2) : SoundE needs (mark st i 2) := by
  obtain ⟨rk, h1, h2⟩ := h
  refine ⟨fun j => if j = i then ((needs i).map rk).sum + 1 else rk j, fun j => ?_, fun j hj k hk => ?_⟩
  · by_cases e : j = i
    · subst e; rw [mark_same]; exact .inr (.inr rfl)
    · rw [mark_other _ _ e]; exact h1 j
  · by_cases e : j = i
    · subst e
      have hk2 := hn k hk
      have hki : k ≠ j := by rintro rfl; omega
      rw [mark_other _ _ hki, if_neg hki, if_pos rfl]
      exact ⟨hk2, by have := le_sum rk _ _ hk; omega⟩
    · rw [mark_other _ _ e] at hj
      obtain ⟨h3, h4⟩ := h2 j hj k hk
      have hki : k ≠ i := by rintro rfl; omega
      rw [mark_other _ _ hki, if_neg hki, if_neg e]
      exact ⟨h3, h4⟩

/-- What a visit that finds no circle leaves. -/
def ShutOk (needs : Nat → List Nat) (g : Marks → Nat → Marks × Bool) : Prop := ∀ st i, SoundE needs st → (g st i).2 = false → SoundE needs (g st i).1 ∧ (g st i).1 i = 2
theorem anyV_ok {needs : Nat → List Nat} {g : Marks → Nat → Marks × Bool} (hg : ShutOk needs g) (hk : ∀ st k j, st j ≠ 0 → (g st k).1 j = st j) : ∀ (l : List Nat) (st : Marks), SoundE needs st → (anyV g st l).2 = false →
    SoundE needs (anyV g st l).1 ∧ ∀ k, k ∈ l → (anyV g st l).1 k = 2
  | [], st, h, _ => ⟨h, fun k hk => by cases hk⟩
  | a :: r, st, h, hf => by
    rw [anyV] at hf ⊢
    by_cases e : (g st a).2 = true
    · rw [if_pos e] at hf; cases hf
    · rw [if_neg e] at hf ⊢
      have e' : (g st a).2 = false := by simpa using e
      obtain ⟨h1, h2⟩ := hg st a h e'
      obtain ⟨h3, h4⟩ := anyV_ok hg hk r _ h1 hf
      refine ⟨h3, fun k hm => ?_⟩
      rcases List.mem_cons.1 hm with rfl | hm
      · rw [anyV_keeps hk r _ k (by rw [h2]; decide), h2]
      · exact h4 k hm
theorem visit_shut (needs : Nat → List Nat) : ∀ f, ShutOk needs (visit needs f)
  | 0, st, i, _, hf => by cases hf
  | f + 1, st, i, h, hf => by
    rw [visit] at hf ⊢
    by_cases e : st i ≠ 0
    · rw [if_pos e] at hf ⊢
      have h1 : st i ≠ 1 := of_decide_eq_false hf
      obtain ⟨rk, hv, hs⟩ := h
      refine ⟨⟨rk, hv, hs⟩, ?_⟩
      show st i = 2
      rcases hv i with h0 | h0 | h0
      · exact absurd h0 e
      · exact absurd h0 h1
      · exact h0
    · rw [if_neg e] at hf ⊢
      have h0 : st i = 0 := Classical.not_not.1 e
      by_cases e2 : (anyV (visit needs f) (mark st i 1) (needs i)).2 = true
      · rw [if_pos e2] at hf; cases hf
      · rw [if_neg e2]
        have e3 : (anyV (visit needs f) (mark st i 1) (needs i)).2 = false := by simpa using e2
        obtain ⟨h3, h4⟩ := anyV_ok (visit_shut needs f) (visit_keeps needs f) (needs i) (mark st i 1) (h.open_ h0) e3
        have h5 : (anyV (visit needs f) (mark st i 1) (needs i)).1 i = 1 := by
          rw [anyV_keeps (visit_keeps needs f) (needs i) (mark st i 1) i (by rw [mark_same]; decide), mark_same]
        exact ⟨h3.shut_ h5 h4, mark_same _ _ _⟩
theorem circleFrom_ok (needs : Nat → List Nat) (f : Nat) : ∀ (n k : Nat) (st : Marks), SoundE needs st → (∀ j, j < k → st j = 2) → circleFrom needs f k n st = false → ∃ st', SoundE needs st' ∧ ∀ j, j < k + n → st' j = 2
  | 0, k, st, h, hk, _ => ⟨st, h, hk⟩
  | n + 1, k, st, h, hk, hf => by
    rw [circleFrom, Bool.or_eq_false_iff] at hf
    obtain ⟨h1, h2⟩ := visit_shut needs f st k h hf.1
    obtain ⟨st', h3, h4⟩ := circleFrom_ok needs f n (k + 1) _ h1 (fun j hj => by
      by_cases e : j = k
      · subst e; exact h2
      · rw [visit_keeps needs f st k j (by rw [hk j (by omega)]; decide)]; exact hk j (by omega)) hf.2
    exact ⟨st', h3, fun j hj => h4 j (by omega)⟩
/-- Without a circle there are ranks. -/
theorem circle_rank {steps : List Stp} (h : circle steps = false) : ∃ rk : Nat → Nat, ∀ i k, k ∈ needsAt steps i → rk k < rk i := by
  obtain ⟨st, ⟨rk, hv, hs⟩, h2⟩ := circleFrom_ok (needsAt steps) _ steps.length 0 (fun _ => 0) ⟨fun _ => 0, fun _ => .inl rfl, fun i hi => by cases hi⟩ (fun j hj => absurd hj (by omega)) h
  refine ⟨rk, fun i k hk => (hs i (h2 i ?_) k hk).2⟩
  rw [Nat.zero_add]
  unfold needsAt at hk
  split at hk
  · rename_i s hs
    exact (List.getElem?_eq_some_iff.1 hs).1
  · cases hk

/-- While something is left, something can come. -/
theorem ready_some {steps : List Stp} (h : circle steps = false) (done : Nat → Bool) {i : Nat} (hi : i < steps.length) (hd : done i = false) : readyOf steps done ≠ [] := by
  obtain ⟨rk, hr⟩ := circle_rank h
  have key : ∀ n i, rk i ≤ n → i < steps.length → done i = false → readyOf steps done ≠ [] := by
    intro n
    induction n with
    | zero =>
      intro i hn hi hd he
      have : i ∈ readyOf steps done := by
        unfold readyOf
        rw [List.mem_filter]
        refine ⟨List.mem_range.2 hi, ?_⟩
        unfold canCome
        rw [hd]
        have : (needsAt steps i).any (fun k => !done k) = false := by
          rw [List.any_eq_false]
          intro k hk
          have := hr i k hk
          omega
        rw [this]; rfl
      rw [he] at this; cases this
    | succ n ih =>
      intro i hn hi hd
      by_cases hc : (needsAt steps i).any (fun k => !done k) = true
      · obtain ⟨k, hk, hkd⟩ := List.any_eq_true.1 hc
        have h1 := hr i k hk
        have h2 := needsAt_lt hk
        exact ih k (by omega) h2 (by simpa using hkd)
      · intro he
        have : i ∈ readyOf steps done := by
          unfold readyOf
          rw [List.mem_filter]
          refine ⟨List.mem_range.2 hi, ?_⟩
          unfold canCome
          rw [hd]
          have : (needsAt steps i).any (fun k => !done k) = false := by simpa using hc
          rw [this]; rfl
        rw [he] at this; cases this
  exact key (rk i) i (Nat.le_refl _) hi hd
theorem ready_mem {steps : List Stp} {done : Nat → Bool} {i : Nat} (h : i ∈ readyOf steps done) : i < steps.length ∧ done i = false ∧ ∀ k, k ∈ needsAt steps i → done k = true := by
  unfold readyOf at h
  rw [List.mem_filter] at h
  obtain ⟨h1, h2⟩ := h
  unfold canCome at h2
  rw [Bool.and_eq_true, Bool.not_eq_true', Bool.not_eq_true'] at h2
  refine ⟨List.mem_range.1 h1, h2.1, fun k hk => ?_⟩
  have := List.any_eq_false.1 h2.2 k hk
  simpa using this
theorem choose_mem {l : List Nat} (next : List Int) (u : Nat) (h : l ≠ []) : chooseL l next u ∈ l := by
  unfold chooseL
  have hl : 0 < l.length := List.length_pos_iff.2 h
  have hp : pickIdx (next.getD u 0) l.length < l.length := by
    unfold pickIdx
    have h1 := Int.emod_lt_of_pos (next.getD u 0) (show (0 : Int) < (l.length : Int) by omega)
    have h2 := Int.emod_nonneg (next.getD u 0) (show (l.length : Int) ≠ 0 by omega)
    omega
  rw [List.getD_eq_getElem?_getD, List.getElem?_eq_getElem hp]
  exact List.getElem_mem hp
/-- How many of the first n are left. -/
def leftN (done : Nat → Bool) : Nat → Nat
  | 0 => 0
  | n + 1 => leftN done n + if done n then 0 else 1
theorem leftN_out (done : Nat → Bool) {i : Nat} : ∀ n, n ≤ i → leftN (also done i) n = leftN done n
  | 0, _ => rfl
  | n + 1, h => by rw [leftN, leftN, leftN_out done n (by omega)]; simp [also, show n ≠ i by omega]
theorem leftN_also {done : Nat → Bool} {i : Nat} (h : done i = false) : ∀ n, i < n → leftN (also done i) n + 1 = leftN done n
  | 0, hn => absurd hn (by omega)
  | n + 1, hn => by
    rw [leftN, leftN]
    by_cases e : i = n
    · subst e; rw [leftN_out done i (Nat.le_refl _)]; simp [also, h]
    · have := leftN_also h n (by omega)
      have e2 : also done i n = done n := by simp [also, show n ≠ i by omega]
      rw [e2]; omega
theorem leftN_le (done : Nat → Bool) : ∀ n, leftN done n ≤ n
  | 0 => Nat.le_refl _
  | n + 1 => by have := leftN_le done n; rw [leftN]; split <;> omega
theorem leftN_pos {done : Nat → Bool} {i n : Nat} (hi : i < n) (h : done i = false) : 0 < leftN done n := by
  have := leftN_also h n hi
  omega
end Go.Proofs.YtacgopankhpnbaaGreatDoor
/- What is refused of a right recipe with one more step. No program in sight. -/
namespace Go.Proofs.YtacgopankhpnbaaGreatDoor

/-- The parts of a right recipe. -/
structure RightR (r : Rcp) : Prop where
  files : rightFiles r.inputs = true
  few : r.steps.length ≤ 60
  steps : ∀ s, s ∈ r.steps → stepRight s = true
  once : twice r = false
  room : r.inputs.length + r.steps.length ≤ 60
  out : known r r.output = true
  srcs : ∀ s, s ∈ r.steps → ∀ x, x ∈ s.src → known r x = true
  circ : circle r.steps = false
theorem inspectE_ok {r : Rcp} (h : inspectE r = 0) : RightR r := by
  unfold inspectE at h
  split at h
  · cases h
  rename_i h1
  split at h
  · cases h
  rename_i h2
  split at h
  · cases h
  rename_i h3
  split at h
  · cases h
  rename_i h4
  split at h
  · cases h
  rename_i h5
  have e1 : rightFiles r.inputs = true ∧ ¬ 60 < r.steps.length ∧ (r.steps.any fun s => !stepRight s) = false := by
    rw [Bool.not_eq_true, Bool.or_eq_false_iff, Bool.or_eq_false_iff] at h1
    exact ⟨by simpa using h1.1.1, by simpa using h1.1.2, h1.2⟩
  have e4 : known r r.output = true ∧ (r.steps.any fun s => s.src.any fun x => !known r x) = false := by
    rw [Bool.not_eq_true, Bool.or_eq_false_iff] at h4
    exact ⟨by simpa using h4.1, h4.2⟩
  refine ⟨e1.1, by omega, fun s hs => ?_, by simpa using h2, by omega, e4.1, fun s hs x hx => ?_, by simpa using h5⟩
  · have := List.any_eq_false.1 e1.2.2 s hs
    simpa using this
  · have := List.any_eq_false.1 e4.2 s hs
    rw [Bool.not_eq_true, List.any_eq_false] at this
    have := this x hx
    simpa using this
theorem inspectE_of {r : Rcp} (h : RightR r) : inspectE r = 0 := by
  have h3 : (r.steps.any fun s => !stepRight s) = false := by rw [List.any_eq_false]; intro s hs; simp [h.steps s hs]
  have h4 : (r.steps.any fun s => s.src.any fun x => !known r x) = false := by
    rw [List.any_eq_false]
    intro s hs
    simp only [List.any_eq_true, not_exists, not_and]
    intro x hx
    simp [h.srcs s hs x hx]
  have h2 := h.few
  have h5 := h.room
  unfold inspectE
  rw [h.files, h3, decide_eq_false (by omega), h.once, h.out, h4, h.circ]
  simp; omega

/-- A recipe with one more step. -/
def more (r : Rcp) (t : Stp) : Rcp := { r with steps := r.steps ++ [t] }
theorem writerOf_more (l : List Stp) (t : Stp) (x : ByteArray) : writerOf (l ++ [t]) x = match writerOf l x with
    | some i => some i
    | none => if t.out = x then some l.length else none := by
  unfold writerOf
  rw [List.findIdx?_append]
  cases h : l.findIdx? (fun s => decide (s.out = x)) with
  | some i => rfl
  | none =>
    by_cases e : t.out = x
    · simp [e, List.findIdx?_cons]
    · simp [e, List.findIdx?_cons]
theorem known_more (r : Rcp) (t : Stp) (x : ByteArray) : known (more r t) x = (known r x || decide (t.out = x)) := by
  unfold known more
  rw [writerOf_more]
  cases writerOf r.steps x with
  | some i => simp
  | none =>
    by_cases e : t.out = x
    · simp [e]
    · simp [e]
theorem twiceFrom_iff (r : Rcp) : ∀ (n k : Nat), twiceFrom r k n = true ↔ ∃ j s, k ≤ j ∧ j < k + n ∧ r.steps[j]? = some s ∧ knownTo r j s.out = true
  | 0, k => by
    constructor
    · intro h; cases h
    · rintro ⟨j, s, h1, h2, -⟩; omega
  | n + 1, k => by
    rw [twiceFrom, Bool.or_eq_true, twiceFrom_iff r n (k + 1)]
    constructor
    · rintro (h | ⟨j, s, h1, h2, h3, h4⟩)
      · cases hs : r.steps[k]? with
        | none => rw [hs] at h; cases h
        | some s => rw [hs] at h; exact ⟨k, s, Nat.le_refl _, by omega, hs, h⟩
      · exact ⟨j, s, by omega, by omega, h3, h4⟩
    · rintro ⟨j, s, h1, h2, h3, h4⟩
      by_cases e : j = k
      · subst e; rw [h3]; exact .inl h4
      · exact .inr ⟨j, s, by omega, by omega, h3, h4⟩
theorem twice_iff (r : Rcp) : twice r = true ↔ ∃ j s, r.steps[j]? = some s ∧ knownTo r j s.out = true := by
  unfold twice
  rw [twiceFrom_iff]
  constructor
  · rintro ⟨j, s, -, -, h3, h4⟩; exact ⟨j, s, h3, h4⟩
  · rintro ⟨j, s, h3, h4⟩
    exact ⟨j, s, by omega, by have := (List.getElem?_eq_some_iff.1 h3).1; omega, h3, h4⟩
theorem twice_more (r : Rcp) (t : Stp) (h : twice r = false) : twice (more r t) = known r t.out := by
  rw [Bool.eq_iff_iff, twice_iff]
  constructor
  · rintro ⟨j, s, h3, h4⟩
    have hj := (List.getElem?_eq_some_iff.1 h3).1
    have hj2 : j < r.steps.length + 1 := by simpa [more] using hj
    by_cases e : j = r.steps.length
    · subst e
      have : s = t := by simpa [more] using h3.symm
      subst this
      unfold knownTo more at h4
      simpa [known] using h4
    · exfalso
      have : twice r = true := (twice_iff r).2 ⟨j, s, by
        have : (r.steps ++ [t])[j]? = some s := h3
        rwa [List.getElem?_append_left (by omega)] at this, by
        unfold knownTo more at h4
        unfold knownTo
        rwa [List.take_append_of_le_length (by omega)] at h4⟩
      rw [h] at this; cases this
  · intro hk
    refine ⟨r.steps.length, t, by simp [more], ?_⟩
    unfold knownTo more
    simpa [known] using hk
/-- A step that copies. -/
abbrev copyStep (x y : ByteArray) : Stp := ⟨0, [x], y, false⟩
theorem copyStep_right {x y : ByteArray} (hx : isName x = true) (hy : isName y = true) : stepRight (copyStep x y) = true := by
  simp [stepRight, hx, hy]
section
variable {r : Rcp} (h : RightR r) (h59 : r.inputs.length + r.steps.length < 60)
include h h59
theorem more_head {t : Stp} (ht : stepRight t = true) : (!rightFiles (more r t).inputs || decide (60 < (more r t).steps.length) || (more r t).steps.any (fun s => !stepRight s)) = false := by
  have h3 : ((more r t).steps.any fun s => !stepRight s) = false := by
    rw [List.any_eq_false]
    intro s hs
    have hs' : s ∈ r.steps ++ [t] := hs
    rcases List.mem_append.1 hs' with hs' | hs'
    · simp [h.steps s hs']
    · simp at hs'; subst hs'; simp [ht]
  have h4 : (more r t).steps.length = r.steps.length + 1 := by simp [more]
  have h5 : rightFiles (more r t).inputs = true := h.files
  rw [h3, h5, decide_eq_false (by omega)]; rfl
theorem refuse_twice {s : Stp} (hs : s ∈ r.steps) : inspectE (more r (copyStep s.out s.out)) = 5 := by
  have hn : isName s.out = true := by
    have := h.steps s hs
    unfold stepRight at this
    split at this
    · cases this
    · rename_i hh
      simp only [Bool.or_eq_true, not_or, Bool.not_eq_true', Bool.not_eq_false] at hh
      exact hh.1
  have hk : known r s.out = true := by
    unfold known
    cases hw : writerOf r.steps s.out with
    | some i => rfl
    | none =>
      unfold writerOf at hw
      rw [List.findIdx?_eq_none_iff] at hw
      have := hw s hs
      simp at this
  unfold inspectE
  rw [more_head h h59 (copyStep_right hn hn), twice_more r _ h.once, hk]; simp
theorem refuse_none {x y : ByteArray} (hx : isName x = true) (hy : isName y = true) (hkx : known r x = false) (hky : known r y = false) (hne : y ≠ x) : inspectE (more r (copyStep x y)) = 4 := by
  have hlen : (more r (copyStep x y)).inputs.length + (more r (copyStep x y)).steps.length = r.inputs.length + r.steps.length + 1 := by simp [more]; omega
  have hu : ((more r (copyStep x y)).steps.any fun s => s.src.any fun z => !known (more r (copyStep x y)) z) = true := by
    rw [List.any_eq_true]
    refine ⟨copyStep x y, by simp [more], ?_⟩
    rw [List.any_eq_true]
    exact ⟨x, by simp, by rw [known_more, hkx]; simp [hne]⟩
  unfold inspectE
  rw [more_head h h59 (copyStep_right hx hy), twice_more r _ h.once, hky, hu, Bool.or_true, hlen]
  simp; omega
theorem refuse_round {x : ByteArray} (hx : isName x = true) (hkx : known r x = false) : inspectE (more r (copyStep x x)) = 15 := by
  have hlen : (more r (copyStep x x)).inputs.length + (more r (copyStep x x)).steps.length = r.inputs.length + r.steps.length + 1 := by simp [more]; omega
  have hu : ((more r (copyStep x x)).steps.any fun s => s.src.any fun z => !known (more r (copyStep x x)) z) = false := by
    rw [List.any_eq_false]
    intro s hs
    have hs' : s ∈ r.steps ++ [copyStep x x] := hs
    simp only [List.any_eq_true, not_exists, not_and]
    intro z hz
    rw [known_more]
    rcases List.mem_append.1 hs' with hs' | hs'
    · simp [h.srcs s hs' z hz]
    · simp at hs'; subst hs'
      simp at hz; subst hz
      simp
  have ho : known (more r (copyStep x x)) (more r (copyStep x x)).output = true := by
    have : (more r (copyStep x x)).output = r.output := rfl
    rw [known_more, this, h.out]; rfl
  have hw : writerOf r.steps x = none := by
    unfold known at hkx
    rw [Bool.or_eq_false_iff] at hkx
    simpa using hkx.1
  have hc : circle (more r (copyStep x x)).steps = true := by
    cases hc : circle (more r (copyStep x x)).steps with
    | true => rfl
    | false =>
      exfalso
      obtain ⟨rk, hr⟩ := circle_rank hc
      have := hr r.steps.length r.steps.length (by
        have e : (more r (copyStep x x)).steps[r.steps.length]? = some (copyStep x x) := by simp [more]
        unfold needsAt
        rw [e]
        unfold needsOf
        rw [List.mem_filterMap]
        refine ⟨x, by simp, ?_⟩
        show writerOf (r.steps ++ [copyStep x x]) x = _
        rw [writerOf_more, hw]; simp)
      omega
  unfold inspectE
  rw [more_head h h59 (copyStep_right hx hx), twice_more r _ h.once, hkx, hu, ho, hlen, hc]
  simp; omega
omit h59 in
theorem refuse_output {x : ByteArray} (hkx : known r x = false) : inspectE { r with output := x } = 4 := by
  have h3 : (r.steps.any fun s => !stepRight s) = false := by rw [List.any_eq_false]; intro s hs; simp [h.steps s hs]
  have h2 := h.few
  have h5 := h.room
  have hk : known { r with output := x } x = false := hkx
  have ht : twice { r with output := x } = false := by
    rw [Bool.eq_false_iff]
    intro ht
    rw [twice_iff] at ht
    have := h.once
    rw [Bool.eq_false_iff] at this
    exact this ((twice_iff r).2 ht)
  unfold inspectE
  rw [ht]
  show (if (!rightFiles r.inputs || decide (60 < r.steps.length) || r.steps.any fun s => !stepRight s) = true then (1 : Int) else _) = 4
  rw [h.files, h3, decide_eq_false (by omega), hk]
  simp; omega
end
end Go.Proofs.YtacgopankhpnbaaGreatDoor
/- Walks of package build: choose, Order. -/
namespace Go.Proofs.YtacgopankhpnbaaGreatDoor
open Go.RowKit

set_option maxHeartbeats 1000000 in
theorem choose_any (l : List Nat) (next : List Int) (u : Nat) (vl vn : Value) (w : World) (hl : Ints w vl (natInts l)) (hn : Ints w vn next) (hpos : 0 < l.length) (hwf : ∀ x, x ∈ next → (Lit.int .i64 x).wf = true) :
    Calls Tryz.prog 65 #[vl, vn, .int .i64 u] w fun e w' => e = .returned (.int .i64 (chooseL l next u)) ∧ w = w' := by
  rcases hl.cases with ⟨e, -⟩ | ⟨b, o, c, rfl, -, hb1, hb2, -, hc⟩
  · rw [natInts, List.map_eq_nil_iff] at e; subst e; simp at hpos
  rw [show (natInts l).length = l.length by simp] at hb1 ⊢
  have hk : pickIdx (next.getD u 0) l.length < l.length := (tmod_cases _ _ hpos).2
  have hT := (tmod_cases (next.getD u 0) _ hpos).1
  generalize hK : pickIdx (next.getD u 0) l.length = k at hk hT
  have hcell : w.cell? ⟨b, o + k, none⟩ = some (.int .i64 (chooseL l next u)) := by
    have : (natInts l)[k]? = some (chooseL l next u : Int) := by
      unfold chooseL natInts
      rw [List.getElem?_map, hK, List.getD_eq_getElem?_getD, List.getElem?_eq_getElem hk]; rfl
    exact hc k _ this
  have HK := Lib.hid hK; clear hK
  have HC := Lib.hid hc; clear hc hl
  generalize chooseL l next u = R at hcell ⊢
  by_cases hlt : u < next.length
  · rcases hn.cases with ⟨e, -⟩ | ⟨bn, on, cn, rfl, -, hn1, hn2, -, hcn⟩
    · subst e; simp at hlt
    obtain ⟨x, hx, hxm⟩ := getElem?_of_lt hlt
    have hcx : w.cell? ⟨bn, on + u, none⟩ = some (.int .i64 x) := hcn u x hx
    have hX : next.getD u 0 = x := by rw [List.getD_eq_getElem?_getD, hx]; rfl
    rw [hX] at hT
    obtain ⟨hx0, hx1⟩ := i64_bounds (hwf x hxm)
    have hTe : (x.tmod l.length < 0 ∧ x.tmod l.length = (k : Int) - l.length) ∨ (0 ≤ x.tmod l.length ∧ x.tmod l.length = (k : Int)) := by omega
    clear hT hX hcn hx hxm hwf hn
    rcases hTe with ⟨hneg, hTe⟩ | ⟨hneg, hTe⟩
    all_goals
      go_enter Tryz.func65, Tryz.ntmps65
      go_wp2_with fail
      go_ret
      exact ⟨rfl, rfl⟩
  · have hX : next.getD u 0 = 0 := by rw [List.getD_eq_getElem?_getD, List.getElem?_eq_none (by omega)]; rfl
    rw [hX, Int.zero_tmod] at hT
    obtain rfl : k = 0 := by omega
    rw [Nat.add_zero] at hcell
    obtain ⟨an, cn, hvn, -⟩ := id hn
    subst hvn
    clear hT hX hwf hn
    go_enter Tryz.func65, Tryz.ntmps65
    go_wp2_with fail
    go_ret
    exact ⟨rfl, rfl⟩

/-- The map of what is done, with room left for so many steps. -/
def DoneN (w : World) (b : Nat) (done : Nat → Bool) (len : Nat) : Prop := ∃ n m, MapIs kInt vBool w b n m ∧ n + leftN done len ≤ 100 ∧ ∀ i : Nat, (m i).getD false = done i
theorem DoneN.is {w : World} {b len : Nat} {done : Nat → Bool} (h : DoneN w b done len) : DoneIs w b done := by
  obtain ⟨n, m, h1, h2, h3⟩ := h
  exact ⟨n, m, h1, by omega, h3⟩
theorem DoneN.lt {w : World} {b len : Nat} {done : Nat → Bool} (h : DoneN w b done len) : b < w.heap.size := by obtain ⟨n, m, h1, -⟩ := h; exact h1.lt
theorem DoneN.isMap {w : World} {b len : Nat} {done : Nat → Bool} (h : DoneN w b done len) : IsMapAt w b := by obtain ⟨n, m, h1, -⟩ := h; exact IsMapAt.of h1
theorem DoneN.later {w w' : World} {b len : Nat} {done : Nat → Bool} (h : DoneN w b done len) (hb : Below w.heap.size w w') : DoneN w' b done len := by
  obtain ⟨n, m, h1, h2, h3⟩ := h
  exact ⟨n, m, h1.later hb, h2, h3⟩
theorem DoneN.of_block {w w' : World} {b len : Nat} {done : Nat → Bool} (h : DoneN w b done len) (hb : w'.heap[b]? = w.heap[b]?) : DoneN w' b done len := by
  obtain ⟨n, m, h1, h2, h3⟩ := h
  exact ⟨n, m, h1.of_block hb, h2, h3⟩
open Classical in
theorem DoneN.set {w : World} {b len i : Nat} {done : Nat → Bool} (h : DoneN w b done len) (hi : i < len) (hd : done i = false) (hl : len ≤ 1000000) :
    ∃ w', (Instr.mapUpdate 104 (.map (some b)) (.int .i64 i) (.bool true)).run Tryz.prog w = .ok () w' ∧ DoneN w' b (also done i) len ∧ w.grownBy w' (some b) := by
  obtain ⟨n, m, h1, h2, h3⟩ := h
  have hp := leftN_also hd len hi
  obtain ⟨w', hrun, hm', hg⟩ := h1.store Tryz.underlying104 (by unfold maxLen; omega) (x := (i : Int)) (nat_wf (by omega)) (y := true) trivial
  refine ⟨w', hrun, ⟨n + 1, _, hm', by omega, fun j => ?_⟩, hg⟩
  by_cases hj : j = i
  · subst hj; simp [also]
  · have : ¬ (j : Int) = i := by omega
    simp only [this, if_false, also, hj]
    exact h3 j
theorem DoneN.first (w : World) (len : Nat) (h : len ≤ 100) : DoneN (w.alloc (.map #[] 0)) w.heap.size (fun _ => false) len :=
  ⟨0, fun _ => none, MapIs.made (K := kInt) (V := vBool) w, by have := leftN_le (fun _ => false) len; omega, fun _ => rfl⟩

/-- Order's loop: wb is the world before the map was made. -/
structure OrdSt (steps : List Stp) (len : Nat) (wb : World) (done : Nat → Bool) (out : List Nat) (v6 : Value) (wr : World) : Prop where
  map : DoneN wr wb.heap.size done len
  own : wr.ownsRow (wb.heap.size + 1) 3 1 v6 out.length ((natInts out).map (Value.int .i64))
  cnt : out.length + leftN done len = len
  below : Below wb.heap.size wb wr
  left : orderAll steps = orderFrom steps (leftN done len + 1) done out
/-- Behind the store into the map. -/
theorem grown_below {w wr w1 : World} {b : Nat} (h : Below w.heap.size w wr) (hg : wr.grownBy w1 (some b)) (hb : w.heap.size ≤ b) : Below w.heap.size w w1 := (only_grown hg).below h hb h.size
theorem own_map {wr w1 : World} {bd : Nat} {v : Value} {l : List Nat} (h : wr.ownsRow (bd + 1) 3 1 v l.length ((natInts l).map (Value.int .i64))) (hg : wr.grownBy w1 (some bd)) : w1.ownsRow (bd + 1) 3 1 v l.length ((natInts l).map (Value.int .i64)) :=
  ownsRow_only h (only_grown hg) (by omega)
theorem own_later {wr w1 : World} {B : Nat} {v : Value} {l : List Nat} (h : wr.ownsRow B 3 1 v l.length ((natInts l).map (Value.int .i64))) (hb : Below wr.heap.size wr w1) : w1.ownsRow B 3 1 v l.length ((natInts l).map (Value.int .i64)) :=
  h.kept (row := none) ⟨hb.os, hb.tape, hb.output, hb.size, fun k hk _ => hb.block k hk⟩ (Classical.em _)
/-- An append changes none of the elder blocks that are not its own. -/
theorem grown_block {wr w3 : World} {o : Obj} {v : Value} {B j : Nat} {e : TypeId} {size n : Nat} {xs : List Value} (hg : (wr.alloc o).grownBy w3 v.ownBlock) (hown : wr.ownsRow B e size v n xs) (hj : j < wr.heap.size) (hB : j < B) : w3.heap[j]? = wr.heap[j]? := by
  rw [hg.block j (by simp; omega) (fun e => by have := (hown.lt j e.symm).1; omega), Below.heap_alloc _ _ _ (by omega)]
theorem grown_below2 {w wr w3 : World} {o : Obj} {v : Value} {B : Nat} {e : TypeId} {size n : Nat} {xs : List Value} (h : Below w.heap.size w wr) (hg : (wr.alloc o).grownBy w3 v.ownBlock) (hown : wr.ownsRow B e size v n xs) (hB : w.heap.size ≤ B) : Below w.heap.size w w3 := by
  have hz : wr.heap.size + 1 ≤ w3.heap.size := by have := hg.size; simpa using this
  have hs := h.size
  exact ⟨hg.os.trans h.os, hg.tape.trans h.tape, hg.output.trans h.output, by omega, fun j hj => (grown_block hg hown (by omega) (by omega)).trans (h.block j hj)⟩
theorem OrdSt.later {steps : List Stp} {len : Nat} {wb : World} {done : Nat → Bool} {out : List Nat} {v6 : Value} {wr w' : World} (h : OrdSt steps len wb done out v6 wr) (hb : Below wr.heap.size wr w') : OrdSt steps len wb done out v6 w' :=
  ⟨h.map.later hb, own_later h.own hb, h.cnt, below_trans h.below hb, h.left⟩
theorem leftN_all : ∀ n, leftN (fun _ => false) n = n
  | 0 => rfl
  | n + 1 => by rw [leftN, leftN_all n]; rfl
theorem OrdSt.first {steps : List Stp} {len : Nat} (wb : World) (hl : steps.length = len) (h60 : len ≤ 60) : OrdSt steps len wb (fun _ => false) [] (.slice none 0 0) (wb.alloc (.map #[] 0)) :=
  ⟨DoneN.first wb len (by omega), by simpa using World.ownsRow_nil _ _ _ _, by rw [leftN_all]; simp, below_alloc _ _, by rw [leftN_all, ← hl]; rfl⟩
theorem own_len {w : World} {base : Nat} {e : TypeId} {size : Nat} {v : Value} {n : Nat} {xs : List Value} (h : w.ownsRow base e size v n xs) : sliceLen v = n := by
  rcases h.2 with ⟨rfl, h0⟩ | ⟨g, cap, cur, rfl, _⟩
  · exact h0.symm
  · rfl
/-- What the loop's list comes to at its end. -/
theorem OrdSt.post {steps : List Stp} {len : Nat} {wb w wr : World} {done : Nat → Bool} {out : List Nat} {v6 : Value} (h : OrdSt steps len wb done out v6 wr) (hr : readyOf steps done = []) (hb : Below w.heap.size w wb) : NeedsPost (orderAll steps) w (.returned v6) wr := by
  have e : orderAll steps = out := by
    rw [h.left, orderFrom, hr]
  have hs := hb.size
  rw [e]
  refine ⟨v6, rfl, ints_of_owns (by simpa [natInts] using h.own), fun a n c e => ?_, hb.trans (h.below.mono hs)⟩
  have := owns_block h.own (Nat.le_refl _) a n c e
  omega
/-- A round: the step i comes. -/
theorem OrdSt.next {steps : List Stp} {len : Nat} {wb : World} {done : Nat → Bool} {out : List Nat} {v6 v' : Value} {wr w1 w3 : World} {i : Nat} {rest : List Nat} {o : Obj} (h : OrdSt steps len wb done out v6 wr)
    (hr : readyOf steps done = i :: rest) (hm : DoneN w1 wb.heap.size (also done i) len) (hg : wr.grownBy w1 (some wb.heap.size))
    (hown : w3.ownsRow (wb.heap.size + 1) 3 1 v' (out.length + 1) ((natInts out).map (Value.int .i64) ++ [.int .i64 i])) (hg3 : (w1.alloc o).grownBy w3 v6.ownBlock) (hlt : steps.length = len) : OrdSt steps len wb (also done i) (out ++ [i]) v' w3 := by
  obtain ⟨h1, h2, -⟩ := ready_mem (show i ∈ readyOf steps done by rw [hr]; simp)
  have hl := leftN_also h2 len (by omega)
  have hown1 := own_map h.own hg
  have hbl := h.below.size
  refine ⟨hm.of_block (grown_block hg3 hown1 hm.lt (by omega)), by simpa [natInts] using hown, by have := h.cnt; simp; omega, grown_below2 (grown_below h.below hg (by omega)) hg3 hown1 (by omega), ?_⟩
  rw [h.left, ← hl, orderFrom, hr]
end Go.Proofs.YtacgopankhpnbaaGreatDoor
/- Walks of package build: Order. -/
namespace Go.Proofs.YtacgopankhpnbaaGreatDoor
open Go.RowKit

theorem orderFrom_at {steps : List Stp} {f i : Nat} {done : Nat → Bool} {out rest : List Nat} (h : readyOf steps done = i :: rest) : orderFrom steps (f + 1) done out = orderFrom steps f (also done i) (out ++ [i]) := by
  rw [orderFrom, h]
theorem orderFrom_end {steps : List Stp} {f : Nat} {done : Nat → Bool} {out : List Nat} (h : readyOf steps done = []) : orderFrom steps f done out = out := by
  cases f with
  | zero => rfl
  | succ f => rw [orderFrom, h]

set_option maxRecDepth 100000 in
set_option maxHeartbeats 4000000 in
theorem order_good (r : Rcp) (L : List (Value × Stp)) (vi vs : Value) (w : World) (h : RcpIn r L vi vs w) (he : inspectE r = 0) :
    Calls Tryz.prog 33 #[rcpV vi vs r.output] w (NeedsPost (orderL r) w) := by
  have HI := Lib.hid (h.later (below_alloc w (rcpBox vi vs r.output))).inspect
  have HE := Lib.hid (show orderL r = orderAll r.steps by unfold orderL; rw [if_neg (by simp [he])])
  rw [HE.out]
  have HR := Lib.hid (inspectE_ok he)
  have HRcp := Lib.hid h
  have hlen := h.len
  have hL60 : L.length ≤ 60 := by have := HR.out.few; omega
  obtain ⟨i0, hi0, hz0, hz1, hz2⟩ := info_parts intInfo
  have hmm := @run_makeMap Tryz.prog
  obtain ⟨ai, ci, av, cv, rfl, rfl⟩ := h.slices
  have H0 := Lib.hid he
  have HSrc := Lib.hid (show ∀ y, y ∈ L → y.2.src.length ≤ 1000000 from fun y hy => by
    have := HR.out.steps y.2 (by rw [← h.map]; exact List.mem_map.2 ⟨y, hy, rfl⟩)
    have := (stepRight_parts this).2.2.1
    omega)
  have HLen := Lib.hid hlen
  clear h he hlen HE
  go_enter Tryz.func33, Tryz.ntmps33
  go_wp2_with fail
  refine HI.out.mono ?_
  rintro e w2 ⟨rfl, hb, hm⟩
  obtain ⟨nw, ni, hmw, hmi⟩ := hm H0.out
  have HB := Lib.hid (below_trans (below_trans (below_alloc w _) hb) (below_alloc w2 (grfBox (.slice ai r.inputs.length ci) (.slice av L.length cv) r.output (w.heap.size + 1 + 1 + 1) (w.heap.size + 1 + 1 + 1 + 1))))
  have HG := Lib.hid (show Grf r L (.slice ai r.inputs.length ci) (.slice av L.length cv) (w.heap.size + 1 + 1 + 1) (w.heap.size + 1 + 1 + 1 + 1) (w2.alloc (grfBox (.slice ai r.inputs.length ci) (.slice av L.length cv) r.output (w.heap.size + 1 + 1 + 1) (w.heap.size + 1 + 1 + 1 + 1))) from
    ⟨HRcp.out.later HB.out, ⟨nw, by have := hmw.later (below_alloc w2 (grfBox (.slice ai r.inputs.length ci) (.slice av L.length cv) r.output (w.heap.size + 1 + 1 + 1) (w.heap.size + 1 + 1 + 1 + 1))); simpa only [World.size_alloc] using this⟩, hL60, HSrc.out⟩)
  have HBx := Lib.hid (alloc_self w2 (grfBox (.slice ai r.inputs.length ci) (.slice av L.length cv) r.output (w.heap.size + 1 + 1 + 1) (w.heap.size + 1 + 1 + 1 + 1)))
  have HO := Lib.hid (OrdSt.first (steps := r.steps) (w2.alloc (grfBox (.slice ai r.inputs.length ci) (.slice av L.length cv) r.output (w.heap.size + 1 + 1 + 1) (w.heap.size + 1 + 1 + 1 + 1))) HLen.out hL60)
  have hsz : (w2.alloc (grfBox (.slice ai r.inputs.length ci) (.slice av L.length cv) r.output (w.heap.size + 1 + 1 + 1) (w.heap.size + 1 + 1 + 1 + 1))).heap.size = w2.heap.size + 1 := World.size_alloc _ _
  have HSz := Lib.hid hsz
  rw [H0.out]
  clear hb hm hmw hmi HI hsz
  go_wp2_with fail
  generalize hWb : w2.alloc (grfBox (.slice ai r.inputs.length ci) (.slice av L.length cv) r.output (w.heap.size + 1 + 1 + 1) (w.heap.size + 1 + 1 + 1 + 1)) = wb at HB HG HBx HO HSz ⊢
  clear hWb
  have HRd : Hid (∀ done W, Below wb.heap.size wb W → DoneN W wb.heap.size done L.length → Calls Tryz.prog 64 #[grfV (.slice ai r.inputs.length ci) (.slice av L.length cv) r.output (w.heap.size + 1 + 1 + 1) (w.heap.size + 1 + 1 + 1 + 1), .map (some (w2.heap.size + 1))] W (NeedsPost (readyOf r.steps done) W)) :=
    Lib.hid fun done W hb hd => by
      have := ready_any r L _ _ _ _ wb.heap.size done W (HG.out.later hb) hd.is
      rwa [HSz.out] at this
  refine (HRd.out (fun _ => false) _ (below_alloc _ _) HO.out.map).mono ?_
  rintro e w3 ⟨v7, rfl, hI, -, hb⟩
  have HI := Lib.hid hI
  have HO3 := Lib.hid (HO.out.later hb)
  clear hI hb HO
  go_wp2_with fail
  go_loopw [6, 7] (fun v6 v7 wr => ∃ (done : Nat → Bool) (out : List Nat), Hid (OrdSt r.steps L.length wb done out v6 wr) ∧ Hid (Ints wr v7 (natInts (readyOf r.steps done)))) (fun v6 _ _ => L.length - sliceLen v6)
  case atStart => exact ⟨_, _, HO3, HI⟩
  case round =>
    clear HO3 HI
    obtain ⟨done, out, HO, HI⟩ := hrel
    rename World => wr
    generalize hv6 : u6 = v6 at *
    generalize hv7 : u7 = v7 at *
    clear hv6 hv7
    obtain ⟨a7, c7, e7⟩ : ∃ a c, v7 = .slice a (readyOf r.steps done).length c := by
      obtain ⟨a, c, hv, -⟩ := HI.out
      exact ⟨a, c, by rw [hv]; simp⟩
    subst e7
    cases hr : readyOf r.steps done with
    | nil =>
      have HF := Lib.hid (HO.out.post hr HB.out)
      rw [hr] at HI
      clear hr
      go_wp2_with fail
      go_ret
      exact HF.out
    | cons i rest =>
      have HRy := Lib.hid hr
      rw [hr] at HI
      obtain ⟨hi, hid, -⟩ := ready_mem (show i ∈ readyOf r.steps done by rw [hr]; simp)
      have hlen0 : out.length < L.length := by
        have h1 := HO.out.cnt
        have h2 := leftN_pos (n := L.length) (by rw [← HLen.out]; exact hi) hid
        omega
      obtain ⟨w1, hrun, hm1, hg1⟩ := HO.out.map.set (i := i) (by rw [← HLen.out]; exact hi) hid (by omega)
      rw [HSz.out] at hrun
      have HM1 := Lib.hid hm1
      have HG1 := Lib.hid hg1
      have hsl : sliceLen v6 = out.length := own_len HO.out.own
      have HSl := Lib.hid hsl
      rcases HI.out.cases with ⟨e, -⟩ | ⟨b, o, c, e, -, -, -, -, hc⟩
      · simp at e
      obtain ⟨rfl, rfl⟩ : a7 = some ⟨b, o, none⟩ ∧ c7 = c := by
        simp only [natInts, List.map_cons, List.length_cons, List.length_map] at e
        injection e with e1 e2 e3; exact ⟨e1, e3⟩
      have c0 : wr.cell? ⟨b, o, none⟩ = some (.int .i64 i) := hc 0 _ rfl
      have c1 : w1.cell? ⟨b, o, none⟩ = some (.int .i64 i) := HO.out.map.isMap.cell (only_grown hg1) c0
      have hown1 := own_map HO.out.own hg1
      have HOwn1 := Lib.hid hown1
      have hbw : wb.heap.size < w1.heap.size := hm1.lt
      clear hr hi hid hm1 hg1 hsl hc e hown1
      go_wp2_with (at_builtin; refine wpList_append_own _ rfl _ _ 26 rfl (wb.heap.size + 1) 3 i0 (.int .i64 0) 1 8 Tryz.underlying26 hi0 hz0 hz1 hz2 rfl (by decide) _ _ _ rfl (HOwn1.out.alloc _) ⟨w1.heap.size, 0, none⟩ 1 1 [.int .i64 i] rfl rfl (cell_one_new _ _ _) (by simp [Value.oneCell']) (by unfold maxLen; omega) (by omega) (by simp; omega) ?_)
      intro v' w3 hown hgrow _
      have HN := Lib.hid (HO.out.next HRy.out HM1.out HG1.out (by simpa [natInts] using hown) hgrow HLen.out)
      have hsl3 : sliceLen v' = out.length + 1 := own_len hown
      have HSl3 := Lib.hid hsl3
      obtain ⟨g0, g1, g2, g3, g4⟩ := box5 (heap_up HN.out.below HBx.out)
      have HCall := Lib.hid (HRd.out (also done i) w3 HN.out.below HN.out.map)
      clear hown hgrow hsl3
      go_wp2_with fail
      refine HCall.out.mono ?_
      rintro e w4 ⟨v8, rfl, hI, -, hb⟩
      have HI4 := Lib.hid hI
      have HN4 := Lib.hid (HN.out.later hb)
      clear hI hb g0 g1 g2 g3 g4
      go_wp2_with fail
      go_roundw
      case rel => exact ⟨_, _, HN4, HI4⟩
      case measure => rw [HSl3.out, HSl.out]; omega
end Go.Proofs.YtacgopankhpnbaaGreatDoor
/- Package build: the state of Run's loop. -/
namespace Go.Proofs.YtacgopankhpnbaaGreatDoor
open Go.RowKit

/-- Elements of records, each with the value of its Saw. -/
def encDn (w : World) (y : Value × Dn) (cs : List Value) : Prop := cs = [.int .i64 y.2.step, y.1, .string y.2.out] ∧ Strs w y.1 y.2.saw ∧ y.2.out.size ≤ 140737488355328
def Dns (w : World) (v : Value) (l : List (Value × Dn)) : Prop := Row 3 encDn w v l
theorem Dns.later {w w' : World} {v : Value} {l : List (Value × Dn)} (hb : Below w.heap.size w w') (h : Dns w v l) : Dns w' v l :=
  Row.later hb (fun _ _ h => ⟨h.1, h.2.1.later hb, h.2.2⟩) h
theorem Dns.cases {w : World} {v : Value} {l : List (Value × Dn)} (h : Dns w v l) :
    (l = [] ∧ ∃ a c, v = .slice a 0 c) ∨ (∃ b o c, v = .slice (some ⟨b, o, none⟩) l.length c ∧ 0 < l.length ∧ l.length ≤ c ∧ c ≤ 9223372036854775807 ∧ b < w.heap.size ∧
      ∀ i y, l[i]? = some y → w.cell? ⟨b, o + i * 3, none⟩ = some (.int .i64 y.2.step) ∧ w.cell? ⟨b, o + i * 3 + 1, none⟩ = some y.1 ∧ w.cell? ⟨b, o + i * 3 + 2, none⟩ = some (.string y.2.out) ∧ Strs w y.1 y.2.saw ∧ y.2.out.size ≤ 140737488355328) := by
  rcases Row.cases h with h | ⟨b, o, c, hv, h0, h1, h2, hb, hc⟩
  · exact .inl h
  · refine .inr ⟨b, o, c, hv, h0, h1, h2, hb, fun i y hy => ?_⟩
    obtain ⟨cs, ⟨e, hs, hz⟩, -, hj⟩ := hc i y hy
    subst e
    exact ⟨hj 0 _ rfl, hj 1 _ rfl, hj 2 _ rfl, hs, hz⟩
theorem dns_slice {w : World} {v : Value} {l : List (Value × Dn)} (h : Dns w v l) : ∃ a c, v = .slice a l.length c := by
  obtain ⟨a, c, hv, -⟩ := h; exact ⟨a, c, hv⟩
/-- The cells of such a list. -/
def dnCells (l : List (Value × Dn)) : List Value := l.flatMap fun y => [.int .i64 y.2.step, y.1, .string y.2.out]
theorem dnCells_snoc (l : List (Value × Dn)) (y : Value × Dn) : dnCells l ++ [.int .i64 y.2.step, y.1, .string y.2.out] = dnCells (l ++ [y]) := by simp [dnCells]
theorem dnCells_at : ∀ (l : List (Value × Dn)) (i : Nat) (y : Value × Dn), l[i]? = some y → (dnCells l)[i * 3]? = some (.int .i64 y.2.step) ∧ (dnCells l)[i * 3 + 1]? = some y.1 ∧ (dnCells l)[i * 3 + 2]? = some (.string y.2.out)
  | [], i, y, h => by simp at h
  | x :: l, 0, y, h => by simp at h; subst h; exact ⟨rfl, rfl, rfl⟩
  | x :: l, i + 1, y, h => by
    have := dnCells_at l i y (by simpa using h)
    rw [show dnCells (x :: l) = [.int .i64 x.2.step, x.1, .string x.2.out] ++ dnCells l from rfl, show (i + 1) * 3 = i * 3 + 1 + 1 + 1 by omega]
    exact this
theorem dns_of_owns {w : World} {base : Nat} {e : TypeId} {v : Value} {l : List (Value × Dn)} (h : w.ownsRow base e 3 v l.length (dnCells l)) (hz : ∀ y, y ∈ l → Strs w y.1 y.2.saw ∧ y.2.out.size ≤ 140737488355328) : Dns w v l := by
  rcases h.2 with ⟨rfl, h0⟩ | ⟨g, cap, cur, rfl, hg, hgb, r1, r2, r3, r4⟩
  · have := List.eq_nil_of_length_eq_zero h0
    subst this
    exact ⟨none, 0, rfl, by simp, by simp, fun h => absurd rfl h⟩
  · refine ⟨_, cap, rfl, r1, r2, fun _ => ⟨g, 0, rfl, fun i y hy => ⟨_, ⟨rfl, hz y (List.mem_of_getElem? hy)⟩, rfl, fun j u hu => ?_⟩⟩⟩
    have hi := (List.getElem?_eq_some_iff.1 hy).1
    obtain ⟨d0, d1, d2⟩ := dnCells_at l i y hy
    have get : ∀ k u, k < l.length * 3 → (dnCells l)[k]? = some u → w.cell? ⟨g, 0 + k, none⟩ = some u := fun k u hk hu => by
      have := congrArg (fun t : List Value => t[k]?) r4
      rw [List.getElem?_take, if_pos hk, hu] at this
      have h2 : cur[k]? = some u := by simpa using this
      simp [World.cell?, hgb, h2]
    match j, hu with
    | 0, hu => cases hu; exact get _ _ (by omega) d0
    | 1, hu => cases hu; rw [Nat.add_assoc]; exact get _ _ (by omega) d1
    | 2, hu => cases hu; rw [Nat.add_assoc]; exact get _ _ (by omega) d2
/-- A list stays as it is where its block stays as it is. -/
theorem Row.apart {α : Type} {k : Nat} {enc : World → α → List Value → Prop} {w w' : World} {v : Value} {l : List α} (he : ∀ x cs, enc w x cs → enc w' x cs) (h : Row k enc w v l)
    (hb : ∀ a n c, v = .slice (some a) n c → l ≠ [] → w'.heap[a.block]? = w.heap[a.block]?) : Row k enc w' v l := by
  obtain ⟨a, c, hv, h1, h2, h3⟩ := h
  refine ⟨a, c, hv, h1, h2, fun hne => ?_⟩
  obtain ⟨b, o, ha, hc⟩ := h3 hne
  have hh : w'.heap[b]? = w.heap[b]? := hb ⟨b, o, none⟩ _ _ (by rw [hv, ha]) hne
  refine ⟨b, o, ha, fun i x hx => ?_⟩
  obtain ⟨cs, e, hl, hj⟩ := hc i x hx
  exact ⟨cs, he x cs e, hl, fun j u hu => (World.cell?_of_block (w := w) (a := ⟨b, o + i * k + j, none⟩) hh).trans (hj j u hu)⟩
theorem Fils.apart {w w' : World} {v : Value} {l : List Fil} (h : Fils w v l) (hb : ∀ a n c, v = .slice (some a) n c → l ≠ [] → w'.heap[a.block]? = w.heap[a.block]?) : Fils w' v l := Row.apart (w := w) (fun _ _ h => h) h hb
theorem Strs.apart {w w' : World} {v : Value} {l : List ByteArray} (h : Strs w v l) (hb : ∀ a n c, v = .slice (some a) n c → l ≠ [] → w'.heap[a.block]? = w.heap[a.block]?) : Strs w' v l := Row.apart (w := w) (fun _ _ h => h) h hb
theorem dnInfo : (Tryz.prog.info? 59).map (fun i => (i.zero, i.size, i.bytes)) = some (some (.agg #[.int .i64 0, .slice none 0 0, .string ByteArray.empty]), 3, 48) := by kernel_rfl

/-- doStep's counts stay small. -/
theorem doStep_used {C : ByteArray → Int × ByteArray} {s : Stp} {files : List Fil} {clock order : List Int} {u0 u1 a b : Int} {text : ByteArray} {saw : List ByteArray} (h : doStep C s files clock order u0 u1 = .ok (text, saw, a, b)) :
    stepRight s = true ∧ findFile files s.out = none ∧ text.size ≤ 65536 ∧ (a = u0 ∨ a = u0 + 1) ∧ (b = u1 ∨ b = u1 + s.src.length) := by
  unfold doStep at h
  split at h
  · cases h
  rename_i h1
  split at h
  · cases h
  rename_i h2
  split at h
  · cases h
  split at h
  · cases h
  rename_i saw0 hs
  have hr : stepRight s = true := by
    cases hh : stepRight s with
    | true => rfl
    | false => rw [hh] at h1; simp at h1
  have hf : findFile files s.out = none := by simpa using h2
  split at h
  · split at h
    · cases h
    · split at h
      · cases h
      · cases h
        exact ⟨hr, hf, by omega, .inl rfl, .inl rfl⟩
  · split at h
    · cases h
    · rename_i hbig
      injection h with h
      refine ⟨hr, hf, ?_⟩
      unfold writeStep at h hbig
      split at h
      · rename_i hk; rw [if_pos hk] at hbig; cases h; exact ⟨by simpa using hbig, .inl rfl, .inl rfl⟩
      · rename_i hk
        rw [if_neg hk] at hbig
        split at h
        · rename_i hk2; rw [if_pos hk2] at hbig; cases h; exact ⟨by simpa using hbig, .inl rfl, .inl rfl⟩
        · rename_i hk2
          rw [if_neg hk2] at hbig
          split at h
          · rename_i hk3; rw [if_pos hk3] at hbig; cases h; exact ⟨by simpa using hbig, .inr rfl, .inl rfl⟩
          · rename_i hk3
            rw [if_neg hk3] at hbig
            split at h
            · rename_i hk4; rw [if_pos hk4] at hbig; cases h; exact ⟨by simpa using hbig, .inl rfl, .inl rfl⟩
            · rename_i hk4; rw [if_neg hk4] at hbig; cases h; exact ⟨by simpa using hbig, .inl rfl, .inr rfl⟩
theorem find_doFiles {s : Stp} {files : List Fil} {text : ByteArray} (h : findFile files s.out = none) : findFile (doFiles s files text) s.out = some text := by
  unfold findFile at h ⊢
  unfold doFiles
  rw [Option.map_eq_none_iff] at h
  rw [List.find?_append, h]
  simp

/-- A value's block is none of those that turn: the box of counts, the map, the gathered record. -/
def Clear (v : Value) (ub : Nat) (v12 : Value) : Prop := ∀ a n c, v = .slice (some a) n c → a.block ≠ ub ∧ a.block ≠ ub + 1 ∧ v12.ownBlock ≠ some a.block
theorem Clear.block {v v12 : Value} {ub : Nat} (h : Clear v ub v12) {w w' : World} (hk : ∀ k, k ≠ ub → k ≠ ub + 1 → v12.ownBlock ≠ some k → w'.heap[k]? = w.heap[k]?) : ∀ a n c, v = .slice (some a) n c → w'.heap[a.block]? = w.heap[a.block]? := by
  intro a n c e
  obtain ⟨h1, h2, h3⟩ := h a n c e
  exact hk _ h1 h2 h3
/-- Run's loop, what lies in memory: wb is the world before the box of counts was made. -/
structure RunW (len : Nat) (wb : World) (done : Nat → Bool) (out : List (Value × Dn)) (files : List Fil) (u0 u1 : Int) (v9 v12 : Value) (wr : World) : Prop where
  used : wr.heap[wb.heap.size]? = some (.cells #[.int .i64 u0, .int .i64 u1] 31)
  map : DoneN wr (wb.heap.size + 1) done len
  own : wr.ownsRow (wb.heap.size + 1 + 1) 59 3 v12 out.length (dnCells out)
  fils : Fils wr v9 files
  fclr : files ≠ [] → Clear v9 wb.heap.size v12
  flt : files ≠ [] → ∀ a n c, v9 = .slice (some a) n c → a.block < wr.heap.size
  saws : ∀ y, y ∈ out → Strs wr y.1 y.2.saw ∧ (y.2.saw ≠ [] → Clear y.1 wb.heap.size v12 ∧ ∀ a n c, y.1 = .slice (some a) n c → a.block < wr.heap.size) ∧ y.2.out.size ≤ 140737488355328
  below : Below wb.heap.size wb wr
theorem strs_lt {w : World} {v : Value} {l : List ByteArray} (h : Strs w v l) (hne : l ≠ []) : ∀ a n c, v = .slice (some a) n c → a.block < w.heap.size := by
  intro a n c e
  rcases h.cases with ⟨h0, -⟩ | ⟨b, o, c', hv, -, -, -, hb, -⟩
  · exact absurd h0 hne
  · rw [hv] at e; injection e with e1; cases e1; exact hb
theorem fils_lt {w : World} {v : Value} {l : List Fil} (h : Fils w v l) (hne : l ≠ []) : ∀ a n c, v = .slice (some a) n c → a.block < w.heap.size := by
  intro a n c e
  rcases h.cases with ⟨h0, -⟩ | ⟨b, o, c', hv, -, -, -, hb, -⟩
  · exact absurd h0 hne
  · rw [hv] at e; injection e with e1; cases e1; exact hb
theorem clear_of_far {wr : World} {v v12 : Value} {wb : World} {e : TypeId} {size n : Nat} {xs : List Value} (h : FarFrom wr v) (hlt : wb.heap.size + 1 < wr.heap.size) (hown : wr.ownsRow (wb.heap.size + 1 + 1) e size v12 n xs) : Clear v wb.heap.size v12 := by
  intro a m c ha
  have h1 := h a m c ha
  refine ⟨by omega, by omega, fun h2 => ?_⟩
  have := (hown.lt _ h2).2
  omega
section
variable {len : Nat} {wb : World} {done : Nat → Bool} {out : List (Value × Dn)} {files : List Fil} {u0 u1 : Int} {v9 v12 : Value} {wr : World}
theorem RunW.later {w' : World} (h : RunW len wb done out files u0 u1 v9 v12 wr) (hb : Below wr.heap.size wr w') : RunW len wb done out files u0 u1 v9 v12 w' := by
  have hs := hb.size
  exact ⟨heap_up hb h.used, h.map.later hb, h.own.kept (row := none) ⟨hb.os, hb.tape, hb.output, hb.size, fun k hk _ => hb.block k hk⟩ (Classical.em _), h.fils.later hb, h.fclr,
    fun hne a n c e => Nat.lt_of_lt_of_le (h.flt hne a n c e) hs,
    fun y hy => ⟨(h.saws y hy).1.later hb, fun hne => ⟨((h.saws y hy).2.1 hne).1, fun a n c e => Nat.lt_of_lt_of_le (((h.saws y hy).2.1 hne).2 a n c e) hs⟩, (h.saws y hy).2.2⟩, below_trans h.below hb⟩
/-- Behind Do, and the store into the box of counts. -/
theorem RunW.did {w4 w5 : World} {files' : List Fil} {vfl vsaw : Value} {saw : List ByteArray} {a b : Int} (h : RunW len wb done out files u0 u1 v9 v12 wr) (hb : Below wr.heap.size wr w4) (hF : Fils w4 vfl files') (hff : FarFrom wr vfl) (hS : Strs w4 vsaw saw) (hsf : saw ≠ [] → FarFrom wr vsaw)
    (ho : Only wb.heap.size w4 w5) (hu : w5.heap[wb.heap.size]? = some (.cells #[.int .i64 a, .int .i64 b] 31)) :
    RunW len wb done out files' a b vfl v12 w5 ∧ Strs w5 vsaw saw ∧ (saw ≠ [] → Clear vsaw wb.heap.size v12 ∧ ∀ a n c, vsaw = .slice (some a) n c → a.block < w5.heap.size) := by
  have h4 := h.later hb
  have hub : wb.heap.size + 1 < wr.heap.size := h.map.lt
  have hs1 := hb.size
  have hs2 := ho.size
  have hcf := clear_of_far hff hub h.own
  have blk : ∀ {v : Value}, Clear v wb.heap.size v12 → (∀ a n c, v = .slice (some a) n c → a.block < w4.heap.size) → ∀ a n c, v = .slice (some a) n c → w5.heap[a.block]? = w4.heap[a.block]? := fun hc hl a n c e => ho.block _ (hl a n c e) (hc a n c e).1
  refine ⟨⟨hu, h4.map.of_block (ho.block _ h4.map.lt (by omega)), ownsRow_only h4.own ho (by omega), Fils.apart hF (fun a n c e hne => blk hcf (fils_lt hF hne) a n c e), fun _ => hcf, fun hne a n c e => Nat.lt_of_lt_of_le (fils_lt hF hne a n c e) hs2, fun y hy => ?_, ho.below h4.below (Nat.le_refl _) (by have := h4.below.size; omega)⟩, ?_, ?_⟩
  · obtain ⟨y1, y2, y3⟩ := h4.saws y hy
    refine ⟨Strs.apart y1 (fun a n c e hne => blk (y2 hne).1 (y2 hne).2 a n c e), fun hne => ⟨(y2 hne).1, fun a n c e => Nat.lt_of_lt_of_le ((y2 hne).2 a n c e) hs2⟩, y3⟩
  · exact Strs.apart hS (fun a n c e hne => blk (clear_of_far (hsf hne) hub h.own) (strs_lt hS hne) a n c e)
  · exact fun hne => ⟨clear_of_far (hsf hne) hub h.own, fun a n c e => Nat.lt_of_lt_of_le (strs_lt hS hne a n c e) hs2⟩
/-- One more element of the record. -/
theorem RunW.added {w7 : World} {y : Value × Dn} {g n' cap : Nat} {o : Obj} (h : RunW len wb done out files u0 u1 v9 v12 wr) (hy : Strs wr y.1 y.2.saw ∧ (y.2.saw ≠ [] → Clear y.1 wb.heap.size v12 ∧ ∀ a n c, y.1 = .slice (some a) n c → a.block < wr.heap.size) ∧ y.2.out.size ≤ 140737488355328)
    (hown : w7.ownsRow (wb.heap.size + 1 + 1) 59 3 (.slice (some ⟨g, 0, none⟩) n' cap) (out.length + 1) (dnCells out ++ [.int .i64 y.2.step, y.1, .string y.2.out])) (hg : (wr.alloc o).grownBy w7 v12.ownBlock) (hl : v12.ownBlock = some g ∨ g = wr.heap.size + 1) :
    RunW len wb done (out ++ [y]) files u0 u1 v9 (.slice (some ⟨g, 0, none⟩) n' cap) w7 := by
  have hub : wb.heap.size + 1 < wr.heap.size := h.map.lt
  have hz : wr.heap.size + 1 ≤ w7.heap.size := by have := hg.size; simpa using this
  have keep : ∀ k, k < wr.heap.size → v12.ownBlock ≠ some k → w7.heap[k]? = wr.heap[k]? := fun k hk hne => by
    rw [hg.block k (by simp; omega) (fun e => hne e.symm), Below.heap_alloc _ _ _ hk]
  have clr : ∀ {v : Value}, Clear v wb.heap.size v12 → (∀ a n c, v = .slice (some a) n c → a.block < wr.heap.size) → Clear v wb.heap.size (.slice (some ⟨g, 0, none⟩) n' cap) := fun hc hlt a n c e => by
    obtain ⟨c1, c2, c3⟩ := hc a n c e
    have := hlt a n c e
    refine ⟨c1, c2, fun e2 => ?_⟩
    have e3 : g = a.block := by simpa [Value.ownBlock] using e2
    rcases hl with hl | hl
    · exact c3 (by rw [hl, e3])
    · omega
  have blk : ∀ {v : Value}, Clear v wb.heap.size v12 → (∀ a n c, v = .slice (some a) n c → a.block < wr.heap.size) → ∀ a n c, v = .slice (some a) n c → w7.heap[a.block]? = wr.heap[a.block]? := fun hc hlt a n c e => keep _ (hlt a n c e) (hc a n c e).2.2
  have one : ∀ z : Value × Dn, (Strs wr z.1 z.2.saw ∧ (z.2.saw ≠ [] → Clear z.1 wb.heap.size v12 ∧ ∀ a n c, z.1 = .slice (some a) n c → a.block < wr.heap.size) ∧ z.2.out.size ≤ 140737488355328) →
      Strs w7 z.1 z.2.saw ∧ (z.2.saw ≠ [] → Clear z.1 wb.heap.size (.slice (some ⟨g, 0, none⟩) n' cap) ∧ ∀ a n c, z.1 = .slice (some a) n c → a.block < w7.heap.size) ∧ z.2.out.size ≤ 140737488355328 := fun z ⟨z1, z2, z3⟩ =>
    ⟨Strs.apart z1 (fun a n c e hne => blk (z2 hne).1 (z2 hne).2 a n c e), fun hne => ⟨clr (z2 hne).1 (z2 hne).2, fun a n c e => by have := (z2 hne).2 a n c e; omega⟩, z3⟩
  have nown : ∀ k, k < wb.heap.size + 1 + 1 → v12.ownBlock ≠ some k := fun k hk e => by have := (h.own.lt k e).1; omega
  refine ⟨by rw [keep _ (by omega) (nown _ (by omega))]; exact h.used, h.map.of_block (keep _ hub (nown _ (by omega))), ?_, Fils.apart h.fils (fun a n c e hne => blk (h.fclr hne) (h.flt hne) a n c e), fun hne => clr (h.fclr hne) (h.flt hne), fun hne a n c e => by have := h.flt hne a n c e; omega, fun z hz => ?_, ?_⟩
  · rw [List.length_append, List.length_singleton, ← dnCells_snoc]; exact hown
  · rcases List.mem_append.1 hz with hz | hz
    · exact one z (h.saws z hz)
    · simp at hz; subst hz; exact one z hy
  · have hb := h.below
    exact ⟨hg.os.trans hb.os, hg.tape.trans hb.tape, hg.output.trans hb.output, by have := hb.size; omega, fun j hj => (keep j (by omega) (nown j (by omega))).trans (hb.block j hj)⟩
/-- One more step is done. -/
theorem RunW.marked {w8 : World} {done' : Nat → Bool} (h : RunW len wb done out files u0 u1 v9 v12 wr) (hm : DoneN w8 (wb.heap.size + 1) done' len) (hg : wr.grownBy w8 (some (wb.heap.size + 1))) : RunW len wb done' out files u0 u1 v9 v12 w8 := by
  have ho := only_grown hg
  have hM := h.map.isMap
  have hs := ho.size
  have hub : wb.heap.size + 1 < wr.heap.size := h.map.lt
  refine ⟨hM.box ho h.used, hm, ownsRow_only h.own ho (by omega), h.fils.onlyMap hM ho, h.fclr, fun hne a n c e => Nat.lt_of_lt_of_le (h.flt hne a n c e) hs, fun y hy => ?_, ho.below h.below (by omega) (by omega)⟩
  obtain ⟨y1, y2, y3⟩ := h.saws y hy
  exact ⟨y1.onlyMap hM ho, fun hne => ⟨(y2 hne).1, fun a n c e => Nat.lt_of_lt_of_le ((y2 hne).2 a n c e) hs⟩, y3⟩
theorem RunW.dns (h : RunW len wb done out files u0 u1 v9 v12 wr) : Dns wr v12 out := dns_of_owns h.own (fun y hy => ⟨(h.saws y hy).1, (h.saws y hy).2.2⟩)
theorem RunW.first {vf : Value} (hf : Fils wb vf files) (h60 : len ≤ 60) :
    RunW len wb (fun _ => false) [] files 0 0 vf (.slice none 0 0) ((wb.alloc (.cells #[.int .i64 0, .int .i64 0] 31)).alloc (.map #[] 0)) := by
  have B1 := below_alloc wb (.cells #[.int .i64 0, .int .i64 0] 31)
  have B2 := below_alloc (wb.alloc (.cells #[.int .i64 0, .int .i64 0] 31)) (.map #[] 0)
  have hl : ∀ hne : files ≠ [], ∀ a n c, vf = .slice (some a) n c → a.block < wb.heap.size := fun hne => fils_lt hf hne
  refine ⟨heap_up B2 (alloc_self _ _), ?_, by simpa [dnCells] using World.ownsRow_nil _ _ _ _, hf.later (below_trans B1 B2), fun hne a n c e => ?_, fun hne a n c e => ?_, fun y hy => (by cases hy), below_trans B1 B2⟩
  · have := DoneN.first (wb.alloc (.cells #[.int .i64 0, .int .i64 0] 31)) len (by omega)
    simpa only [World.size_alloc] using this
  · have := hl hne a n c e
    exact ⟨by omega, by omega, by simp [Value.ownBlock]⟩
  · have := hl hne a n c e
    simp only [World.size_alloc]; omega
end
/-- Run's loop, what was reckoned. -/
structure RunS (C : ByteArray → Int × ByteArray) (r : Rcp) (clock order next : List Int) (len : Nat) (done : Nat → Bool) (out : List (Value × Dn)) (files : List Fil) (u0 u1 : Int) : Prop where
  cnt : out.length + leftN done len = len
  b0 : 0 ≤ u0 ∧ u0 ≤ 1000 * out.length
  b1 : 0 ≤ u1 ∧ u1 ≤ 1000 * out.length
  left : runAll C r clock order next = runFrom C r.steps clock order next (leftN done len + 1) done (out.map (·.2)) files u0 u1
/-- What Run comes to. -/
def RunPost (w : World) (res : Except Int (List Dn × ByteArray)) (e : Ending) (w' : World) : Prop :=
  Below w.heap.size w w' ∧ match res with
    | .error c => e = .returned (.tuple #[.slice none 0 0, .string ⟨#[]⟩, .int .i64 c])
    | .ok (out, text) => ∃ v L, e = .returned (.tuple #[v, .string text, .int .i64 0]) ∧ Dns w' v L ∧ L.map (·.2) = out
section
variable {C : ByteArray → Int × ByteArray} {r : Rcp} {clock order next : List Int} {len : Nat} {done : Nat → Bool} {out : List (Value × Dn)} {files : List Fil} {u0 u1 : Int}
theorem RunS.first (hl : r.steps.length = len) : RunS C r clock order next len (fun _ => false) [] r.inputs 0 0 :=
  ⟨by rw [leftN_all]; simp, by simp, by simp, by rw [leftN_all, ← hl]; rfl⟩
theorem RunS.pick (h : RunS C r clock order next len done out files u0 u1) (hl : r.steps.length = len) (hr : readyOf r.steps done ≠ []) : ∃ s, r.steps[chooseL (readyOf r.steps done) next out.length]? = some s ∧ chooseL (readyOf r.steps done) next out.length < len ∧ done (chooseL (readyOf r.steps done) next out.length) = false := by
  obtain ⟨h1, h2, -⟩ := ready_mem (choose_mem next out.length hr)
  exact ⟨_, List.getElem?_eq_getElem h1, by rw [← hl]; exact h1, h2⟩
theorem RunS.at_ (h : RunS C r clock order next len done out files u0 u1) (hr : readyOf r.steps done ≠ []) {s : Stp} (hs : r.steps[chooseL (readyOf r.steps done) next out.length]? = some s) :
    runAll C r clock order next = match doStep C s files clock order u0 u1 with
      | .error e => .error e
      | .ok (text, saw, a, b) => runFrom C r.steps clock order next (leftN done len) (also done (chooseL (readyOf r.steps done) next out.length)) (out.map (·.2) ++ [⟨(chooseL (readyOf r.steps done) next out.length : Nat), saw, text⟩]) (doFiles s files text) a b := by
  rw [h.left, runFrom, if_neg (by simpa using hr), List.length_map]
  show (match r.steps[chooseL (readyOf r.steps done) next out.length]? with | none => _ | some s => _) = _
  rw [hs]
  rfl
theorem RunS.end_ (h : RunS C r clock order next len done out files u0 u1) (hr : readyOf r.steps done = []) : runAll C r clock order next = .ok (out.map (·.2), files) := by
  rw [h.left, runFrom, if_pos (by simp [hr])]
theorem RunS.next_ (h : RunS C r clock order next len done out files u0 u1) (hl : r.steps.length = len) (hr : readyOf r.steps done ≠ []) {s : Stp} (hs : r.steps[chooseL (readyOf r.steps done) next out.length]? = some s) {text : ByteArray} {saw : List ByteArray} {a b : Int} {v : Value}
    (hd : doStep C s files clock order u0 u1 = .ok (text, saw, a, b)) : RunS C r clock order next len (also done (chooseL (readyOf r.steps done) next out.length)) (out ++ [(v, ⟨(chooseL (readyOf r.steps done) next out.length : Nat), saw, text⟩)]) (doFiles s files text) a b := by
  obtain ⟨-, -, h1, h2⟩ := h.pick hl hr
  have h3 := leftN_also h2 len h1
  obtain ⟨h4, -, -, h5, h6⟩ := doStep_used hd
  have h7 := (stepRight_parts h4).2.2.1
  have e := h.at_ hr hs
  rw [hd] at e
  have h8 := h.cnt
  have h9 := h.b0
  have h10 := h.b1
  refine ⟨by simp; omega, by simp; omega, by simp; omega, ?_⟩
  rw [e, h3, List.map_append]; rfl
end
end Go.Proofs.YtacgopankhpnbaaGreatDoor
/- Walks of package build: Run. -/
namespace Go.Proofs.YtacgopankhpnbaaGreatDoor
open Go.RowKit

/-- That Do does so with a step. -/
def DoAll (C : ByteArray → Int × ByteArray) (s : Stp) : Prop := ∀ files clock order vf vl vc vo vn u0 u1 w, DoIn s files clock order vf vl vc vo vn u0 u1 w → Calls Tryz.prog 17 (doArgs s vf vl vc vo vn u0 u1) w (DoFar w s files u0 u1 (doStep C s files clock order u0 u1))
theorem doAll_plain {C : ByteArray → Int × ByteArray} {s : Stp} (h5 : s.kind ≠ 5) : DoAll C s := fun files clock order vf vl vc vo vn u0 u1 w h => do_far C s files clock order vf vl vc vo vn u0 u1 w h h5
/-- A world that is handed over. -/
structure WldIn (clock order next : List Int) (vc vo vn : Value) (w : World) : Prop where
  clk : Ints w vc clock
  ord : Ints w vo order
  nxt : Ints w vn next
  cwf : ∀ x, x ∈ clock → (Lit.int .i64 x).wf = true
  owf : ∀ x, x ∈ order → (Lit.int .i64 x).wf = true
  nwf : ∀ x, x ∈ next → (Lit.int .i64 x).wf = true
section
variable {clock order next : List Int} {vc vo vn : Value} {w w' : World}
theorem WldIn.later (h : WldIn clock order next vc vo vn w) (hb : Below w.heap.size w w') : WldIn clock order next vc vo vn w' := ⟨h.clk.later hb, h.ord.later hb, h.nxt.later hb, h.cwf, h.owf, h.nwf⟩
theorem WldIn.slices (h : WldIn clock order next vc vo vn w) : (∃ a c, vc = .slice a clock.length c) ∧ (∃ a c, vo = .slice a order.length c) ∧ (∃ a c, vn = .slice a next.length c) := by
  obtain ⟨a, c, h1, -⟩ := h.clk
  obtain ⟨a', c', h2, -⟩ := h.ord
  obtain ⟨a'', c'', h3, -⟩ := h.nxt
  exact ⟨⟨a, c, h1⟩, ⟨a', c', h2⟩, ⟨a'', c'', h3⟩⟩
end
theorem box2 {w : World} {k : Nat} {a b : Value} {t : TypeId} (h : w.heap[k]? = some (.cells #[a, b] t)) : w.cell? ⟨k, 0, none⟩ = some a ∧ w.cell? ⟨k, 1, none⟩ = some b ∧ w.frozen? ⟨k, 0, none⟩ = false ∧ w.frozen? ⟨k, 1, none⟩ = false := by
  refine ⟨?_, ?_, ?_, ?_⟩ <;> simp [World.cell?, World.frozen?, h]
theorem set2 {w : World} {k : Nat} {a b x y : Value} {t : TypeId} (h : w.heap[k]? = some (.cells #[a, b] t)) : ((w.setCell ⟨k, 0, none⟩ x).setCell ⟨k, 1, none⟩ y).heap[k]? = some (.cells #[x, y] t) := by
  simp [World.setCell, Array.getElem?_modify, h]
theorem fils_form {w : World} {v : Value} {l : List Fil} (h : Fils w v l) : ∃ a c, v = .slice a l.length c := by
  obtain ⟨a, c, hv, -⟩ := h; exact ⟨a, c, hv⟩
theorem own_form {w : World} {base : Nat} {e : TypeId} {size : Nat} {v : Value} {n : Nat} {xs : List Value} (h : w.ownsRow base e size v n xs) : ∃ a c, v = .slice a n c := by
  rcases h.2 with ⟨rfl, h0⟩ | ⟨g, cap, cur, rfl, _⟩
  · subst h0; exact ⟨_, _, rfl⟩
  · exact ⟨_, _, rfl⟩
theorem cell_set2c {w : World} {b b' o o' o'' : Nat} {v v' x : Value} (hlt : b < b') (h : w.cell? ⟨b, o, none⟩ = some x) : ((w.setCell ⟨b', o', none⟩ v).setCell ⟨b', o'', none⟩ v').cell? ⟨b, o, none⟩ = some x := cell_set2 (Apart.of (by omega)) h
abbrev wldBox (vc vo vn : Value) : Obj := .cells #[vc, vo, vn] 28

set_option maxRecDepth 100000 in
theorem run_bad (C : ByteArray → Int × ByteArray) (r : Rcp) (L : List (Value × Stp)) (vi vs vc vo vn : Value) (clock order next : List Int) (w : World) (h : RcpIn r L vi vs w) (hw : WldIn clock order next vc vo vn w) (he : inspectE r ≠ 0) :
    Calls Tryz.prog 29 #[rcpV vi vs r.output, .agg #[vc, vo, vn]] w (RunPost w (runL C r clock order next)) := by
  have HI := Lib.hid (h.later (below_trans (below_alloc w (rcpBox vi vs r.output)) (below_alloc _ (wldBox vc vo vn)))).inspect
  have HR := Lib.hid (show runL C r clock order next = .error (inspectE r) by unfold runL; rw [if_pos he])
  rw [HR.out]
  obtain ⟨⟨a1, c1, rfl⟩, ⟨a2, c2, rfl⟩, ⟨a3, c3, rfl⟩⟩ := hw.slices
  obtain ⟨ai, ci, av, cv, rfl, rfl⟩ := h.slices
  have h0 : (inspectE r == 0) = false := beq_eq_false_iff_ne.2 he
  have h1 : (inspectE r != 0) = true := by rw [bne_iff_ne]; exact he
  obtain ⟨q, hq⟩ : ∃ q, q = inspectE r := ⟨_, rfl⟩
  have HQ := Lib.hid hq
  rw [← hq] at h0 h1 ⊢
  clear h he hw HR hq
  go_enter Tryz.func29, Tryz.ntmps29
  go_wp2_with fail
  refine HI.out.mono ?_
  rintro e w2 ⟨rfl, hb, -⟩
  rw [← HQ.out]
  have HB := Lib.hid hb
  clear hb
  go_wp2_with fail
  refine bodyPost_ret (v := .tuple #[.slice none 0 0, .string ⟨#[]⟩, .int .i64 q]) (by simp [results, Tryz.results29, go_sem]) rfl ⟨?_, rfl⟩
  exact below_trans (below_trans (below_trans (below_alloc _ _) (below_alloc _ _)) HB.out) (below_alloc _ _)

theorem doStep_err {C : ByteArray → Int × ByteArray} {s : Stp} {files : List Fil} {clock order : List Int} {u0 u1 q : Int} (h : doStep C s files clock order u0 u1 = .error q) : q ≠ 0 := by
  unfold doStep at h
  split at h
  · cases h; decide
  split at h
  · cases h; decide
  split at h
  · cases h; decide
  split at h
  · cases h; decide
  split at h
  · split at h
    · rename_i hq; cases h; exact hq
    · split at h
      · cases h; decide
      · cases h
  · split at h
    · cases h; decide
    · cases h
/-- The end of Run. -/
def finishL (o : ByteArray) : Except Int (List Dn × List Fil) → Except Int (List Dn × ByteArray)
  | .error e => .error e
  | .ok (out, files) => .ok (out, (findFile files o).getD ByteArray.empty)
set_option maxRecDepth 100000 in
set_option maxHeartbeats 8000000 in
theorem run_good (C : ByteArray → Int × ByteArray) (r : Rcp) (L : List (Value × Stp)) (vi vs vc vo vn : Value) (clock order next : List Int) (w : World) (h : RcpIn r L vi vs w) (hw : WldIn clock order next vc vo vn w) (hG : Glob w) (hD : ∀ s, s ∈ r.steps → DoAll C s) (he : inspectE r = 0) :
    Calls Tryz.prog 29 #[rcpV vi vs r.output, .agg #[vc, vo, vn]] w (RunPost w (runL C r clock order next)) := by
  have HI := Lib.hid (h.later (below_trans (below_alloc w (rcpBox vi vs r.output)) (below_alloc _ (wldBox vc vo vn)))).inspect
  have HE := Lib.hid (show runL C r clock order next = finishL r.output (runAll C r clock order next) by unfold runL; rw [if_neg (by simp [he])]; rfl)
  rw [HE.out]
  have HR := Lib.hid (inspectE_ok he)
  have hlen := h.len
  have hL60 : L.length ≤ 60 := by have := HR.out.few; omega
  have HSrc := Lib.hid (show ∀ y, y ∈ L → y.2.src.length ≤ 1000000 from fun y hy => by
    have := HR.out.steps y.2 (by rw [← h.map]; exact List.mem_map.2 ⟨y, hy, rfl⟩)
    have := (stepRight_parts this).2.2.1
    omega)
  have HRcp := Lib.hid h
  have HWld := Lib.hid hw
  have HG := Lib.hid hG
  have HD := Lib.hid hD
  have hmm := @run_makeMap Tryz.prog
  obtain ⟨⟨a1, c1, rfl⟩, ⟨a2, c2, rfl⟩, ⟨a3, c3, rfl⟩⟩ := hw.slices
  obtain ⟨ai, ci, av, cv, rfl, rfl⟩ := h.slices
  have H0 := Lib.hid he
  have HLen := Lib.hid hlen
  have hil : r.inputs.length ≤ 60 := by have := HR.out.room; omega
  clear h he hlen HE hw hG hD
  go_enter Tryz.func29, Tryz.ntmps29
  go_wp2_with fail
  refine HI.out.mono ?_
  rintro e w2 ⟨rfl, hb, hm⟩
  obtain ⟨nw, ni, hmw, -⟩ := hm H0.out
  have B1 := below_alloc w (rcpBox (.slice ai r.inputs.length ci) (.slice av L.length cv) r.output)
  have B2 := below_alloc (w.alloc (rcpBox (.slice ai r.inputs.length ci) (.slice av L.length cv) r.output)) (wldBox (.slice a1 clock.length c1) (.slice a2 order.length c2) (.slice a3 next.length c3))
  have B4 := below_alloc w2 (grfBox (.slice ai r.inputs.length ci) (.slice av L.length cv) r.output (w.heap.size + 1 + 1 + 1 + 1) (w.heap.size + 1 + 1 + 1 + 1 + 1))
  have HB3 := Lib.hid (below_trans (below_trans (below_trans B1 B2) hb) B4)
  have HRb := Lib.hid (heap_up (below_trans (below_trans B2 hb) B4) (alloc_self w (rcpBox (.slice ai r.inputs.length ci) (.slice av L.length cv) r.output)))
  have HWb := Lib.hid (show (w2.alloc (grfBox (.slice ai r.inputs.length ci) (.slice av L.length cv) r.output (w.heap.size + 1 + 1 + 1 + 1) (w.heap.size + 1 + 1 + 1 + 1 + 1))).heap[w.heap.size + 1]? = some (wldBox (.slice a1 clock.length c1) (.slice a2 order.length c2) (.slice a3 next.length c3)) by
    have := heap_up (below_trans hb B4) (alloc_self (w.alloc (rcpBox (.slice ai r.inputs.length ci) (.slice av L.length cv) r.output)) (wldBox (.slice a1 clock.length c1) (.slice a2 order.length c2) (.slice a3 next.length c3)))
    simpa only [World.size_alloc] using this)
  have HGb := Lib.hid (alloc_self w2 (grfBox (.slice ai r.inputs.length ci) (.slice av L.length cv) r.output (w.heap.size + 1 + 1 + 1 + 1) (w.heap.size + 1 + 1 + 1 + 1 + 1)))
  have HMW := Lib.hid (show MapIs kStr vInt (w2.alloc (grfBox (.slice ai r.inputs.length ci) (.slice av L.length cv) r.output (w.heap.size + 1 + 1 + 1 + 1) (w.heap.size + 1 + 1 + 1 + 1 + 1))) (w.heap.size + 1 + 1 + 1 + 1) nw (wMap r.steps) by
    have := hmw.later B4; simpa only [World.size_alloc] using this)
  rw [H0.out]
  have r0 := (box3 HRb.out).1
  clear hb hm hmw HI B1 B2 B4
  go_wp2_with fail
  generalize w2.alloc (grfBox (.slice ai r.inputs.length ci) (.slice av L.length cv) r.output (w.heap.size + 1 + 1 + 1 + 1) (w.heap.size + 1 + 1 + 1 + 1 + 1)) = w3 at HB3 HRb HWb HGb HMW r0 ⊢
  generalize w2.heap.size = pg at HGb ⊢
  refine (clone_any r.inputs _ w3 (HRcp.out.inp.later HB3.out) (by omega)).mono ?_
  rintro e wb ⟨v9, rfl, hown, hb⟩
  have HBb := Lib.hid (below_trans HB3.out hb)
  replace HRb := Lib.hid (heap_up hb HRb.out)
  replace HWb := Lib.hid (heap_up hb HWb.out)
  replace HGb := Lib.hid (heap_up hb HGb.out)
  replace HMW := Lib.hid (HMW.out.later hb)
  have HF9 := Lib.hid (fils_of_owns hown (fun f hf => fils_size HRcp.out.inp hf))
  have HGr := Lib.hid (show Grf r L (.slice ai r.inputs.length ci) (.slice av L.length cv) (w.heap.size + 1 + 1 + 1 + 1) (w.heap.size + 1 + 1 + 1 + 1 + 1) wb from ⟨HRcp.out.later HBb.out, ⟨nw, HMW.out⟩, hL60, HSrc.out⟩)
  have HRW := Lib.hid (RunW.first (len := L.length) HF9.out hL60)
  have HRS := Lib.hid (RunS.first (C := C) (clock := clock) (order := order) (next := next) HLen.out)
  have HRd : Hid (∀ done W, Below wb.heap.size wb W → DoneN W (wb.heap.size + 1) done L.length → Calls Tryz.prog 64 #[grfV (.slice ai r.inputs.length ci) (.slice av L.length cv) r.output (w.heap.size + 1 + 1 + 1 + 1) (w.heap.size + 1 + 1 + 1 + 1 + 1), .map (some (wb.heap.size + 1))] W (NeedsPost (readyOf r.steps done) W)) :=
    Lib.hid fun done W hb hd => ready_any r L _ _ _ _ (wb.heap.size + 1) done W (HGr.out.later hb) hd.is
  obtain ⟨g0, g1, g2, g3, g4⟩ := box5 (heap_up HRW.out.below HGb.out)
  clear hown hb r0
  go_wp2_with fail
  refine (HRd.out (fun _ => false) _ HRW.out.below HRW.out.map).mono ?_
  rintro e w6 ⟨v13, rfl, hI, -, hb⟩
  have HI := Lib.hid hI
  have HRW6 := Lib.hid (HRW.out.later hb)
  clear hI hb HRW g0 g1 g2 g3 g4
  obtain ⟨i0, hi0, hz0, hz1, hz2⟩ := info_parts dnInfo
  go_wp2_with fail
  go_loopw [9, 12, 13] (fun v9 v12 v13 wr => ∃ (done : Nat → Bool) (out : List (Value × Dn)) (files : List Fil) (u0 u1 : Int), Hid (RunW L.length wb done out files u0 u1 v9 v12 wr) ∧ Hid (RunS C r clock order next L.length done out files u0 u1) ∧ Hid (Ints wr v13 (natInts (readyOf r.steps done)))) (fun _ v12 _ _ => L.length - sliceLen v12)
  case atStart => exact ⟨_, _, _, _, _, HRW6, HRS, HI⟩
  case round =>
    clear HRW6 HRS HI HF9
    obtain ⟨done, out, files, c0, c1', HRW, HRS, HI⟩ := hrel
    rename World => wr
    generalize hv9 : u9 = v9 at *
    generalize hv12 : u12 = v12 at *
    generalize hv13 : u13 = v13 at *
    clear hv9 hv12 hv13
    obtain ⟨a13, c13, e13⟩ : ∃ a c, v13 = .slice a (readyOf r.steps done).length c := by
      obtain ⟨a, c, hv, -⟩ := HI.out
      exact ⟨a, c, by rw [hv]; simp⟩
    obtain ⟨a9, c9, e9⟩ := fils_form HRW.out.fils
    obtain ⟨a12, c12, e12⟩ := own_form HRW.out.own
    subst e13 e9 e12
    have HBr := Lib.hid (below_trans HBb.out HRW.out.below)
    obtain ⟨r0, r1, r2⟩ := box3 (heap_up HRW.out.below HRb.out)
    by_cases hr : readyOf r.steps done = []
    · have HEnd := Lib.hid (HRS.out.end_ hr)
      have HRe := Lib.hid hr
      have h0 : (readyOf r.steps done).length = 0 := by rw [hr]; rfl
      rw [h0]
      clear hr h0
      go_wp2_with fail
      refine (find_any files _ r.output _ HRW.out.fils).mono ?_
      rintro e w7 ⟨rfl, hb⟩
      have HD7 := Lib.hid (HRW.out.later hb).dns
      have HB7 := Lib.hid (below_trans HBr.out hb)
      clear hb
      cases hf : findFile files r.output with
      | none =>
        have HFv := Lib.hid (show findV files r.output = .tuple #[.string ByteArray.empty, .bool false] by unfold findV; rw [hf])
        have HFf := Lib.hid hf
        clear hf
        rw [HFv.out]
        go_wp2_with fail
        refine bodyPost_ret (v := .tuple #[.slice a12 out.length c12, .string ByteArray.empty, .int .i64 0]) (by simp [results, Tryz.results29, go_sem]) rfl ?_
        rw [HEnd.out]
        exact ⟨HB7.out, _, out, by rw [HFf.out]; rfl, HD7.out, rfl⟩
      | some t =>
        have HFv := Lib.hid (show findV files r.output = .tuple #[.string t, .bool true] by unfold findV; rw [hf])
        have HFf := Lib.hid hf
        clear hf
        rw [HFv.out]
        go_wp2_with fail
        refine bodyPost_ret (v := .tuple #[.slice a12 out.length c12, .string t, .int .i64 0]) (by simp [results, Tryz.results29, go_sem]) rfl ?_
        rw [HEnd.out]
        exact ⟨HB7.out, _, out, by rw [HFf.out]; rfl, HD7.out, rfl⟩
    · have hpos : 0 < (readyOf r.steps done).length := List.length_pos_iff.2 hr
      obtain ⟨st, hs, hlt, hdn⟩ := HRS.out.pick HLen.out hr
      have HRn := Lib.hid hr
      have HC := Lib.hid (choose_any (readyOf r.steps done) next out.length _ (.slice a3 next.length c3) wr HI.out (HWld.out.later HBr.out).nxt hpos HWld.out.nwf)
      have HAt := Lib.hid (HRS.out.at_ hr hs)
      have HNx := Lib.hid (fun (text : ByteArray) (saw : List ByteArray) (a b : Int) (v : Value) (hd : doStep C st files clock order c0 c1' = .ok (text, saw, a, b)) => HRS.out.next_ (v := v) HLen.out hr hs hd)
      generalize chooseL (readyOf r.steps done) next out.length = i at HC hs hlt hdn HAt HNx
      obtain ⟨x0, x1, x2⟩ := box3 (heap_up HRW.out.below HWb.out)
      obtain ⟨y, hy, hym⟩ : ∃ y, L[i]? = some y ∧ y.2 = st := by
        obtain ⟨y, hy, -⟩ := getElem?_of_lt hlt
        refine ⟨y, hy, ?_⟩
        have : (L.map (·.2))[i]? = some st := by rw [HRcp.out.map]; exact hs
        rw [List.getElem?_map, hy] at this
        exact Option.some.inj this
      subst hym
      rcases HRcp.out.stp.cases with ⟨e, -⟩ | ⟨b, o, cc, e, -, -, -, hbl, hc⟩
      · rw [e] at hlt; simp at hlt
      obtain ⟨rfl, rfl⟩ : av = some ⟨b, o, none⟩ ∧ cc = cv := by injection e with e1 e2 e3; exact ⟨e1, e3.symm⟩
      obtain ⟨s0, s1, s2, s3, hsrc, hso⟩ := hc i y hy
      have HS2 := Lib.hid s2
      replace s0 := cell_later HBr.out s0
      replace s1 := cell_later HBr.out s1
      replace s2 := cell_later HBr.out s2
      replace s3 := cell_later HBr.out s3
      replace hsrc := hsrc.later HBr.out
      have hk1 : w.heap.size + 1 < wb.heap.size := (Array.getElem?_eq_some_iff.1 HWb.out).1
      have hk0 : w.heap.size < wb.heap.size := by omega
      have hkb : b < wb.heap.size := by omega
      obtain ⟨t0, t1, f0, f1⟩ := box2 HRW.out.used
      have hb0 := HRS.out.b0
      have hb1 := HRS.out.b1
      have hol : out.length < L.length := by
        have h1 := HRS.out.cnt
        have h2 := leftN_pos hlt hdn
        omega
      have HDi := Lib.hid (show DoIn y.2 files clock order y.1 (.slice a9 files.length c9) (.slice a1 clock.length c1) (.slice a2 order.length c2) (.slice a3 next.length c3) c0 c1' wr.drew from
        ⟨(HG.out.later HBr.out).later (Below.refl _ _).drew, hsrc.later (Below.refl _ _).drew, hso, HRW.out.fils.later (Below.refl _ _).drew, (HWld.out.later HBr.out).clk.later (Below.refl _ _).drew, (HWld.out.later HBr.out).ord.later (Below.refl _ _).drew, ⟨_, _, _, rfl⟩, by omega, by omega, HWld.out.cwf, HWld.out.owf⟩)
      have HDo := Lib.hid (HD.out y.2 (List.mem_of_getElem? hs) _ _ _ _ _ _ _ _ _ _ _ HDi.out)
      have hub := HRW.out.map.lt
      have HDn := Lib.hid hdn
      have HSl := Lib.hid (show sliceLen (.slice a12 out.length c12) = out.length from rfl)
      clear hc e hr hs hdn HI
      obtain ⟨yv, kind, src, yo, sorted⟩ := y
      obtain ⟨ya, yc, hyv⟩ := strs_slice hsrc
      simp only at s0 s1 s2 s3 hso HDo HAt HNx hyv
      subst hyv
      have HSo := Lib.hid hso
      have hbi0 : (0 : Int) ≤ (i : Int) := by omega
      have hbi1 : (i : Int) < (L.length : Int) := by omega
      clear hsrc hso hy
      go_wp2_with fail
      refine HC.out.mono ?_
      rintro e w7 ⟨rfl, rfl⟩
      go_wp2_with fail
      cases hd : doStep C ⟨kind, src, yo, sorted⟩ files clock order c0 c1' with
      | error q =>
        rw [hd] at HDo HAt
        have hq := doStep_err hd
        have hq0 : (q == 0) = false := beq_eq_false_iff_ne.2 hq
        have hq1 : (q != 0) = true := by rw [bne_iff_ne]; exact hq
        clear hd HNx hq
        go_region_held3 (fun W => W.cell? ⟨w.heap.size, 1, none⟩ = some (.slice (some ⟨b, o, none⟩) L.length cc) ∧ (W.cell? ⟨b, o + i * 4, none⟩ = some (.int .i64 kind) ∧ W.cell? ⟨b, o + i * 4 + 1, none⟩ = some (.slice ya src.length yc) ∧ W.cell? ⟨b, o + i * 4 + 2, none⟩ = some (.string yo) ∧ W.cell? ⟨b, o + i * 4 + 3, none⟩ = some (.bool sorted)) ∧ (W.cell? ⟨w.heap.size + 1, 0, none⟩ = some (.slice a1 clock.length c1) ∧ W.cell? ⟨w.heap.size + 1, 1, none⟩ = some (.slice a2 order.length c2) ∧ W.cell? ⟨w.heap.size + 1, 2, none⟩ = some (.slice a3 next.length c3)))
          (first | (with_reducible exact ⟨r1, ⟨s0, s1, s2, s3⟩, x0, x1, x2⟩) | (with_reducible exact ⟨l1, ⟨m0, m1, m2, m3⟩, n0, n1, n2⟩) | exact ⟨cell_set2c hk0 l1, ⟨cell_set2c hkb m0, cell_set2c hkb m1, cell_set2c hkb m2, cell_set2c hkb m3⟩, cell_set2c hk1 n0, cell_set2c hk1 n1, cell_set2c hk1 n2⟩ | go_keep)
          (first | (go_at_call 17; (with_reducible refine HDo.out.mono ?_); rintro e w8 ⟨hb, rfl⟩; have hb8 : Below wr.heap.size wr w8 := (Below.refl _ wr).drew.trans hb; have l1 := cell_later hb8 r1; have m0 := cell_later hb8 s0; have m1 := cell_later hb8 s1; have m2 := cell_later hb8 s2; have m3 := cell_later hb8 s3; have n0 := cell_later hb8 x0; have n1 := cell_later hb8 x1; have n2 := cell_later hb8 x2; obtain ⟨p0, p1, q0, q1⟩ := box2 (heap_up hb8 HRW.out.used); have HB8 := Lib.hid hb8; clear hb hb8))
        have HBe := Lib.hid (show Below w.heap.size w ((w8.setCell ⟨wb.heap.size, 0, none⟩ (.int .i64 c0)).setCell ⟨wb.heap.size, 1, none⟩ (.int .i64 c1')) from
          ((below_trans HBr.out HB8.out).setCell (by have := HBb.out.size; simp; omega) _).setCell (by have := HBb.out.size; simp; omega) _)
        go_wp2_with fail
        refine bodyPost_ret (v := .tuple #[.slice none 0 0, .string ⟨#[]⟩, .int .i64 q]) (by simp [results, Tryz.results29, go_sem]) rfl ?_
        rw [HAt.out]
        exact ⟨HBe.out, rfl⟩
      | ok res =>
        obtain ⟨text, saw, ua, ub⟩ := res
        rw [hd] at HDo
        have HNx2 := Lib.hid (fun v => HNx.out _ _ _ _ v hd)
        have HUs := Lib.hid (doStep_used hd)
        clear hd HAt HNx
        go_region_held3 (fun W => W.cell? ⟨w.heap.size, 1, none⟩ = some (.slice (some ⟨b, o, none⟩) L.length cc) ∧ (W.cell? ⟨b, o + i * 4, none⟩ = some (.int .i64 kind) ∧ W.cell? ⟨b, o + i * 4 + 1, none⟩ = some (.slice ya src.length yc) ∧ W.cell? ⟨b, o + i * 4 + 2, none⟩ = some (.string yo) ∧ W.cell? ⟨b, o + i * 4 + 3, none⟩ = some (.bool sorted)) ∧ (W.cell? ⟨w.heap.size + 1, 0, none⟩ = some (.slice a1 clock.length c1) ∧ W.cell? ⟨w.heap.size + 1, 1, none⟩ = some (.slice a2 order.length c2) ∧ W.cell? ⟨w.heap.size + 1, 2, none⟩ = some (.slice a3 next.length c3)))
          (first | (with_reducible exact ⟨r1, ⟨s0, s1, s2, s3⟩, x0, x1, x2⟩) | (with_reducible exact ⟨l1, ⟨m0, m1, m2, m3⟩, n0, n1, n2⟩) | exact ⟨cell_set2c hk0 l1, ⟨cell_set2c hkb m0, cell_set2c hkb m1, cell_set2c hkb m2, cell_set2c hkb m3⟩, cell_set2c hk1 n0, cell_set2c hk1 n1, cell_set2c hk1 n2⟩ | go_keep)
          (first | (go_at_call 17; (with_reducible refine HDo.out.mono ?_); rintro e w8 ⟨hb, vfl, vsaw, rfl, hF, hS, hff, hsf⟩; have hb8 : Below wr.heap.size wr w8 := (Below.refl _ wr).drew.trans hb; have l1 := cell_later hb8 r1; have m0 := cell_later hb8 s0; have m1 := cell_later hb8 s1; have m2 := cell_later hb8 s2; have m3 := cell_later hb8 s3; have n0 := cell_later hb8 x0; have n1 := cell_later hb8 x1; have n2 := cell_later hb8 x2; obtain ⟨p0, p1, q0, q1⟩ := box2 (heap_up hb8 HRW.out.used); have HF8 := Lib.hid hF; have HS8 := Lib.hid hS; have HFf := Lib.hid hff; have HSf := Lib.hid hsf; have HB8 := Lib.hid hb8; clear hb hF hS hff hsf hb8))
        have HDid := HRW.out.did HB8.out HF8.out HFf.out HS8.out HSf.out ((Only.setCell w8).trans (Only.setCell _)) (set2 (x := .int .i64 ua) (y := .int .i64 ub) (heap_up HB8.out HRW.out.used))
        obtain ⟨hW9, hS9, hC9⟩ := HDid
        have HFd := Lib.hid (show findV (doFiles ⟨kind, src, yo, sorted⟩ files text) yo = .tuple #[.string text, .bool true] by
          unfold findV; rw [find_doFiles (s := ⟨kind, src, yo, sorted⟩) HUs.out.2.1])
        generalize doFiles ⟨kind, src, yo, sorted⟩ files text = files' at hW9 HNx2 HFd
        have HW9 := Lib.hid hW9
        have HS9 := Lib.hid hS9
        have HC9 := Lib.hid hC9
        obtain ⟨af, cf, ef⟩ := fils_form HW9.out.fils
        obtain ⟨as', cs', es⟩ := strs_slice HS9.out
        subst ef es
        have hts := HUs.out.2.2.1
        clear hW9 hS9 hC9 HF8 HS8 HFf HSf l1 m0 m1 m2 m3 n0 n1 n2 p0 p1 q0 q1 r0 r1 r2 x0 x1 x2 s0 s1 s2 s3 t0 t1 f0 f1
        generalize ((w8.setCell ⟨wb.heap.size, 0, none⟩ (.int .i64 ua)).setCell ⟨wb.heap.size, 1, none⟩ (.int .i64 ub)) = w9 at HW9 HS9 HC9 ⊢
        obtain ⟨r0, r1, r2⟩ := box3 (heap_up HW9.out.below HRb.out)
        have s2 := cell_later (below_trans HBb.out HW9.out.below) HS2.out
        go_wp2_with fail
        refine (find_any files' _ yo _ HW9.out.fils).mono ?_
        rw [HFd.out]
        rintro e w10 ⟨rfl, hb⟩
        have HW10 := Lib.hid (HW9.out.later hb)
        have HY := Lib.hid (show Strs w10 (.slice as' saw.length cs') saw ∧ (saw ≠ [] → Clear (.slice as' saw.length cs') wb.heap.size (.slice a12 out.length c12) ∧ ∀ a n c, Value.slice as' saw.length cs' = .slice (some a) n c → a.block < w10.heap.size) ∧ text.size ≤ 140737488355328 from
          ⟨HS9.out.later hb, fun hne => ⟨(HC9.out hne).1, fun a n c e => Nat.lt_of_lt_of_le ((HC9.out hne).2 a n c e) hb.size⟩, by omega⟩)
        have hw10 := HW10.out.map.lt
        clear hb r0 r1 r2 s2
        go_wp2_with (at_builtin; refine wpList_append_lies _ rfl _ _ 54 rfl (wb.heap.size + 1 + 1) 59 i0 (.agg #[.int .i64 0, .slice none 0 0, .string ByteArray.empty]) 3 48 Tryz.underlying54 hi0 hz0 hz1 hz2 rfl (by omega) (.slice a12 out.length c12) out.length (dnCells out) (by rfl) (HW10.out.own.alloc _) ⟨w10.heap.size, 0, none⟩ 1 1 [.int .i64 i, .slice as' saw.length cs', .string text] (by rfl) rfl (World.news_of_block (cs := #[.int .i64 i, .slice as' saw.length cs', .string text]) (t := 59) (fr := (0, 0)) (heap_alloc_new w10 _)) (by simp [Value.oneCell']) (by omega) (by unfold maxLen; omega) (by omega) (by simp; omega) (w10.heap.size + 1) (by simp) ?_)
        intro g cap w11 hown hgrow hat hlt11
        have HW11 := Lib.hid (HW10.out.added (y := (.slice as' saw.length cs', ⟨(i : Int), saw, text⟩)) HY.out hown hgrow hat)
        obtain ⟨w12, hrun, hm12, hg12⟩ := HW11.out.map.set (i := i) hlt HDn.out (by omega)
        have HW12 := Lib.hid (HW11.out.marked hm12 hg12)
        obtain ⟨g0, g1, g2, g3, g4⟩ := box5 (heap_up HW12.out.below HGb.out)
        clear hown hgrow hat hm12 hg12
        go_wp2_with fail
        refine (HRd.out _ w12 HW12.out.below HW12.out.map).mono ?_
        rintro e w13 ⟨v13', rfl, hI, -, hb⟩
        have HI13 := Lib.hid hI
        have HW13 := Lib.hid (HW12.out.later hb)
        clear hI hb g0 g1 g2 g3 g4
        go_wp2_with fail
        go_roundw
        case rel => exact ⟨_, _, _, _, _, HW13, Lib.hid (HNx2.out _), HI13⟩
        case measure => simp [sliceLen]; omega
end Go.Proofs.YtacgopankhpnbaaGreatDoor
/- How recipes and worlds that come in are read. -/
namespace Go.Proofs.YtacgopankhpnbaaGreatDoor
open Go.ChangeShapes Go.WideShapes Go.ChangeAt Go.RowKit Go.Deep Go.Joins

section
variable {H : Type} {enc : TypeId × Value → H} {W : World}
theorem form_of {n : Nat} {t e : TypeId} {v : Value} {y : DataW H × List MemPlace} (ht : Tryz.prog.underlying t = some (.slice e)) (h : DataW.trod enc Tryz.prog W 0 (fun _ => true) true n t [v] = some y) : ∃ a n c, v = .slice a n c := by
  rcases open_slice ht h with ⟨hcs, -⟩ | ⟨a, len, cap, m, k, D, Pl, hcs, -⟩
  · exact ⟨none, 0, 0, by injection hcs⟩
  · exact ⟨some a, len, cap, by injection hcs⟩
theorem field_ints {n : Nat} {v : Value} {y : DataW H × List MemPlace} (h : DataW.trod enc Tryz.prog W 0 (fun _ => true) true n 26 [v] = some y) (hz : (y.1.weights Tryz.prog 26).all (· ≤ reachBytes) = true) :
    ∃ l : List Int, Ints W v l ∧ l.length ≤ 140737488355328 ∧ ∀ x, x ∈ l → (Lit.int .i64 x).wf = true := by
  obtain ⟨a0, n0, c0, rfl⟩ := form_of Tryz.underlying26 h
  obtain ⟨l, a, b, o, c, e, h1, -, h2, h3⟩ := read_ints_form (d := y.1) (p := y.2) ⟨a0, n0, c0, rfl⟩ ⟨n, h⟩ hz
  exact ⟨l, by rw [e]; exact h1, h2, h3⟩
theorem field_strs {n : Nat} {v : Value} {y : DataW H × List MemPlace} (h : DataW.trod enc Tryz.prog W 0 (fun _ => true) true n 22 [v] = some y) (hz : (y.1.weights Tryz.prog 22).all (· ≤ reachBytes) = true) :
    ∃ l : List ByteArray, Strs W v l := by
  obtain ⟨a0, n0, c0, rfl⟩ := form_of Tryz.underlying22 h
  obtain ⟨l, a, b, o, c, e, h1, -⟩ := read_strs_form (d := y.1) (p := y.2) ⟨a0, n0, c0, rfl⟩ ⟨n, h⟩ hz
  exact ⟨l, by rw [e]; exact h1⟩
theorem field_string {n : Nat} {t : TypeId} {v : Value} {y : DataW H × List MemPlace} (ht : Tryz.prog.underlying t = some .string) (h : DataW.trod enc Tryz.prog W 0 (fun _ => true) true n t [v] = some y) (hz : (y.1.weights Tryz.prog t).all (· ≤ reachBytes) = true) :
    ∃ s : ByteArray, v = .string s ∧ s.size ≤ 140737488355328 := by
  obtain ⟨s, hcs, hy, hm⟩ := DataW.trod_string ht h
  obtain rfl : v = .string s := by injection hcs
  subst hy
  have hr := reach_le
  simp [DataW.weights] at hz
  exact ⟨s, rfl, by omega⟩
theorem field_int {n : Nat} {t : TypeId} {v : Value} {y : DataW H × List MemPlace} (ht : Tryz.prog.underlying t = some (.int .i64)) (h : DataW.trod enc Tryz.prog W 0 (fun _ => true) true n t [v] = some y) : ∃ x : Int, v = .int .i64 x := by
  obtain ⟨x, hcs, -⟩ := DataW.trod_int ht h
  exact ⟨x, by injection hcs⟩
theorem field_bool {n : Nat} {t : TypeId} {v : Value} {y : DataW H × List MemPlace} (ht : Tryz.prog.underlying t = some .bool) (h : DataW.trod enc Tryz.prog W 0 (fun _ => true) true n t [v] = some y) : ∃ x : Bool, v = .bool x := by
  obtain ⟨x, hcs, -⟩ := DataW.trod_bool ht h
  exact ⟨x, by injection hcs⟩
set_option maxRecDepth 100000 in
theorem field_fils {n : Nat} {v : Value} {y : DataW H × List MemPlace} (h : DataW.trod enc Tryz.prog W 0 (fun _ => true) true n 25 [v] = some y) (hz : (y.1.weights Tryz.prog 25).all (· ≤ reachBytes) = true) :
    ∃ l : List Fil, Fils W v l := by
  obtain ⟨l, a, c, hv, hr, -⟩ := open_row (α := Fil) (ec := encFil) Tryz.underlying25 Tryz.underlying40 (by kernel_rfl) (by kernel_rfl) (by decide) h hz (fun vs ys k hl hf => by
    match vs, hl with
    | [u0, u1], _ =>
      obtain ⟨x0, y0, e0, t0, z0⟩ := hf 0 _ rfl
      obtain ⟨x1, y1, e1, t1, z1⟩ := hf 1 _ rfl
      cases e0; cases e1
      obtain ⟨s0, rfl, h0⟩ := field_string (by kernel_rfl) t0 z0
      obtain ⟨s1, rfl, h1⟩ := field_string (by kernel_rfl) t1 z1
      exact ⟨⟨s0, s1⟩, rfl, h0, h1⟩)
  exact ⟨l, hr⟩
set_option maxRecDepth 100000 in
theorem field_stps {n : Nat} {v : Value} {y : DataW H × List MemPlace} (h : DataW.trod enc Tryz.prog W 0 (fun _ => true) true n 49 [v] = some y) (hz : (y.1.weights Tryz.prog 49).all (· ≤ reachBytes) = true) :
    ∃ l : List (Value × Stp), Stps W v l := by
  obtain ⟨l, a, c, hv, hr, -⟩ := open_row (α := Value × Stp) (ec := encStp) Tryz.underlying49 Tryz.underlying24 (by kernel_rfl) (by kernel_rfl) (by decide) h hz (fun vs ys k hl hf => by
    match vs, hl with
    | [u0, u1, u2, u3], _ =>
      obtain ⟨x0, y0, e0, t0, z0⟩ := hf 0 _ rfl
      obtain ⟨x1, y1, e1, t1, z1⟩ := hf 1 _ rfl
      obtain ⟨x2, y2, e2, t2, z2⟩ := hf 2 _ rfl
      obtain ⟨x3, y3, e3, t3, z3⟩ := hf 3 _ rfl
      cases e0; cases e1; cases e2; cases e3
      obtain ⟨i, rfl⟩ := field_int (by kernel_rfl) t0
      obtain ⟨ls, hls⟩ := field_strs t1 z1
      obtain ⟨s, rfl, hs⟩ := field_string (by kernel_rfl) t2 z2
      obtain ⟨q, rfl⟩ := field_bool (by kernel_rfl) t3
      exact ⟨(u1, ⟨i, ls, s, q⟩), rfl, hls, hs⟩)
  exact ⟨l, hr⟩
end
set_option maxRecDepth 100000 in
theorem read_rcp {H : Type} {enc : TypeId × Value → H} {W : World} {base : Nat} {v : Value} {d : DataW H} {p : List MemPlace} (hok : Value.okWide Tryz.prog W .any base 51 v) (h : DataW.Trod enc Tryz.prog W 0 (fun _ => true) true 51 v d p)
    (hz : (d.weights Tryz.prog 51).all (· ≤ reachBytes) = true) : ∃ (r : Rcp) (L : List (Value × Stp)) (vi vs : Value), v = rcpV vi vs r.output ∧ RcpIn r L vi vs W := by
  obtain ⟨v0, v1, v2, y0, y1, y2, n, rfl, rfl, -, h0, h1, h2⟩ := open_agg3 Tryz.underlying51 (by kernel_rfl) (by kernel_rfl) hok h
  rw [DataW.weights, Tryz.underlying51] at hz
  obtain ⟨fl, hf⟩ := field_fils h0 (weightsEach_at hz (j := 0) rfl rfl)
  obtain ⟨L, hL⟩ := field_stps h1 (weightsEach_at hz (j := 1) rfl rfl)
  obtain ⟨o, rfl, ho⟩ := field_string (by kernel_rfl) h2 (weightsEach_at hz (j := 2) rfl rfl)
  exact ⟨⟨fl, L.map (·.2), o⟩, L, v0, v1, rfl, hf, hL, rfl, ho⟩
set_option maxRecDepth 100000 in
theorem read_wld {H : Type} {enc : TypeId × Value → H} {W : World} {base : Nat} {v : Value} {d : DataW H} {p : List MemPlace} (hok : Value.okWide Tryz.prog W .any base 28 v) (h : DataW.Trod enc Tryz.prog W 0 (fun _ => true) true 28 v d p)
    (hz : (d.weights Tryz.prog 28).all (· ≤ reachBytes) = true) : ∃ (clock order next : List Int) (vc vo vn : Value), v = .agg #[vc, vo, vn] ∧ WldIn clock order next vc vo vn W := by
  obtain ⟨v0, v1, v2, y0, y1, y2, n, rfl, rfl, -, h0, h1, h2⟩ := open_agg3 Tryz.underlying28 (by kernel_rfl) (by kernel_rfl) hok h
  rw [DataW.weights, Tryz.underlying28] at hz
  obtain ⟨l0, a0, -, b0⟩ := field_ints h0 (weightsEach_at hz (j := 0) rfl rfl)
  obtain ⟨l1, a1, -, b1⟩ := field_ints h1 (weightsEach_at hz (j := 1) rfl rfl)
  obtain ⟨l2, a2, -, b2⟩ := field_ints h2 (weightsEach_at hz (j := 2) rfl rfl)
  exact ⟨l0, l1, l2, v0, v1, v2, rfl, a0, a1, a2, b0, b1, b2⟩
theorem weights_3 {H : Type} {t0 t1 t2 : TypeId} {us : List TypeId} {d0 d1 d2 : DataW H} (h : (DataW.weightsEach Tryz.prog ([t0, t1, t2] ++ us) [d0, d1, d2]).all (· ≤ reachBytes) = true) :
    (d0.weights Tryz.prog t0).all (· ≤ reachBytes) = true ∧ (d1.weights Tryz.prog t1).all (· ≤ reachBytes) = true ∧ (d2.weights Tryz.prog t2).all (· ≤ reachBytes) = true := by
  simp only [List.cons_append, DataW.weightsEach, List.all_append, Bool.and_eq_true] at h
  exact ⟨h.1, h.2.1, h.2.2.1⟩
end Go.Proofs.YtacgopankhpnbaaGreatDoor
