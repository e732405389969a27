/- Texts of this seat, joined: BuildF, BuildG, BuildH. -/
import Derived.Test.YtacgopankhpnbaaGreatDoorJFindsTopM
import Derived.Laws.EntriesVeiled
import Derived.Test.YtacgopankhpnbaaGreatDoorJFindsTopI
/- Walks of package build: circle. -/
namespace Go.Proofs.YtacgopankhpnbaaGreatDoor
open Go.RowKit

/-- circle's loop. -/
structure CircRel (L : List (Value × Stp)) (vi vs : Value) (out : ByteArray) (bw bi bm ps pg pv nw : Nat) (w : World) (k : Nat) (st : Marks) (wr : World) : Prop where
  circ : Circ L vi vs out bw bi bm ps pg pv nw wr st
  below : Below w.heap.size w wr
  left : circle (L.map (·.2)) = circleFrom (needsAt (L.map (·.2))) (L.length + 1) k (L.length - k) st
theorem circleFrom_at {needs : Nat → List Nat} {f k len : Nat} {st : Marks} (h : k < len) : circleFrom needs f k (len - k) st = ((visit needs f st k).2 || circleFrom needs f (k + 1) (len - (k + 1)) (visit needs f st k).1) := by
  obtain ⟨n, hn⟩ : ∃ n, len - k = n + 1 := ⟨len - k - 1, by omega⟩
  rw [hn, circleFrom, show len - (k + 1) = n by omega]
theorem zeros_len (st : Marks) : ∀ n, zeros st n ≤ n
  | 0 => Nat.le_refl _
  | n + 1 => by rw [zeros]; have := zeros_len st n; split <;> omega
section
variable {L : List (Value × Stp)} {vi vs : Value} {out : ByteArray} {bw bi nw : Nat} {w : World}
/-- The world in which circle's loop begins. -/
abbrev circWorld (vi vs : Value) (out : ByteArray) (bw bi : Nat) (w : World) : World :=
  (((w.alloc (grfBox vi vs out bw bi)).alloc (.map #[] 0)).alloc (.cells #[.map (some (w.heap.size + 1))] 192)).alloc
    (.cells #[.func (.func 119) #[] #[.pointer (some ⟨w.heap.size + 1 + 1, 0, none⟩), .pointer (some ⟨w.heap.size, 0, none⟩), .pointer (some ⟨w.heap.size + 1 + 1 + 1, 0, none⟩)]] 97)
theorem CircRel.first (hS : Stps w vs L) (hM : MapIs kStr vInt w bw nw (wMap (L.map (·.2)))) (hL : L.length ≤ 60) :
    CircRel L vi vs out bw bi (w.heap.size + 1) (w.heap.size + 1 + 1) w.heap.size (w.heap.size + 1 + 1 + 1) nw w 0 (fun _ => 0) (circWorld vi vs out bw bi w) := by
  have B1 := below_alloc w (grfBox vi vs out bw bi)
  have B2 := below_alloc (w.alloc (grfBox vi vs out bw bi)) (.map #[] 0)
  have B3 := below_alloc ((w.alloc (grfBox vi vs out bw bi)).alloc (.map #[] 0)) (.cells #[.map (some (w.heap.size + 1))] 192)
  have B4 := below_alloc (((w.alloc (grfBox vi vs out bw bi)).alloc (.map #[] 0)).alloc (.cells #[.map (some (w.heap.size + 1))] 192)) (.cells #[.func (.func 119) #[] #[.pointer (some ⟨w.heap.size + 1 + 1, 0, none⟩), .pointer (some ⟨w.heap.size, 0, none⟩), .pointer (some ⟨w.heap.size + 1 + 1 + 1, 0, none⟩)]] 97)
  have B := below_trans (below_trans (below_trans B1 B2) B3) B4
  have hx : ∀ {a b : World} {k : Nat} {o : Obj}, Below a.heap.size a b → a.heap[k]? = some o → b.heap[k]? = some o := fun hb hk => (hb.block _ (Array.getElem?_eq_some_iff.1 hk).1).trans hk
  refine ⟨⟨⟨?_, ?_, ?_⟩, hS.later B, hM.later B, by have := hM.lt; omega, 0, fun _ => none, ?_, by rw [pot_new]; omega, fun _ => rfl⟩, B, by unfold circle; rw [List.length_map]; rfl⟩
  · have := hx B4 (alloc_self ((w.alloc (grfBox vi vs out bw bi)).alloc (.map #[] 0)) (.cells #[.map (some (w.heap.size + 1))] 192))
    simpa only [World.size_alloc] using this
  · exact hx (below_trans (below_trans B2 B3) B4) (alloc_self w _)
  · have := alloc_self (((w.alloc (grfBox vi vs out bw bi)).alloc (.map #[] 0)).alloc (.cells #[.map (some (w.heap.size + 1))] 192)) (.cells #[.func (.func 119) #[] #[.pointer (some ⟨w.heap.size + 1 + 1, 0, none⟩), .pointer (some ⟨w.heap.size, 0, none⟩), .pointer (some ⟨w.heap.size + 1 + 1 + 1, 0, none⟩)]] 97)
    simpa only [World.size_alloc] using this
  · have := (MapIs.made (K := kInt) (V := vInt) (w.alloc (grfBox vi vs out bw bi))).later (below_trans B3 B4)
    simpa only [World.size_alloc] using this
end

set_option maxRecDepth 100000 in
set_option maxHeartbeats 2000000 in
theorem circle_any (L : List (Value × Stp)) (vi vs : Value) (out : ByteArray) (bw bi nw : Nat) (w : World) (hS : Stps w vs L) (hM : MapIs kStr vInt w bw nw (wMap (L.map (·.2)))) (hL : L.length ≤ 60) (hs : ∀ y, y ∈ L → y.2.src.length ≤ 1000000) :
    Calls Tryz.prog 95 #[grfV vi vs out bw bi] w fun e w' => e = .returned (.bool (circle (L.map (·.2)))) ∧ Below w.heap.size w w' := by
  have HV := Lib.hid (visit_any L vi vs out bw bi (w.heap.size + 1) (w.heap.size + 1 + 1) w.heap.size (w.heap.size + 1 + 1 + 1) nw (by omega) hs (L.length + 1))
  have HF := Lib.hid (CircRel.first (vi := vi) (out := out) (bi := bi) hS hM hL)
  have hmm := @run_makeMap Tryz.prog
  have eg := enters_visit
  obtain ⟨a, c, hvs⟩ := stps_slice hS
  subst hvs
  clear hS hM hs
  go_enter Tryz.func95, Tryz.ntmps95
  go_wp2_with fail
  go_loopw [12] (fun i wr => ∃ (k : Nat) (st : Marks), k ≤ L.length ∧ i = .int .i64 k ∧ Hid (CircRel L vi (.slice a L.length c) out bw bi (w.heap.size + 1) (w.heap.size + 1 + 1) w.heap.size (w.heap.size + 1 + 1 + 1) nw w k st wr)) (fun i _ => L.length - (intOf i).toNat)
  case atStart => exact ⟨0, fun _ => 0, Nat.zero_le _, rfl, HF⟩
  case round =>
    obtain ⟨k, st, hk, rfl, HR⟩ := hrel
    rename World => wr
    clear HF hmm
    by_cases hlt : k < L.length
    · obtain ⟨-, -, d0⟩ := HR.out.circ.cells
      have HC := Lib.hid (HV.out wr st k HR.out.circ hlt (by have := zeros_len st L.length; omega))
      have HL := Lib.hid (HR.out.left.trans (circleFrom_at hlt))
      generalize visit (needsAt (L.map (·.2))) (L.length + 1) st k = r at HC HL
      obtain ⟨st2, q⟩ := r
      cases q with
      | true =>
        go_wp2_with (go_at_fn 119; (with_reducible refine HC.out.mono ?_); rintro e w2 ⟨rfl, h2, ho⟩)
        go_ret
        refine ⟨ret_bool (by rw [HL.out]; rfl), ho.below HR.out.below (by omega) HR.out.below.size⟩
      | false =>
        go_wp2_with (go_at_fn 119; (with_reducible refine HC.out.mono ?_); rintro e w2 ⟨rfl, h2, ho⟩)
        go_roundw
        case rel => exact ⟨k + 1, st2, by omega, by go_num, Lib.hid ⟨h2, ho.below HR.out.below (by omega) HR.out.below.size, HL.out⟩⟩
        case measure => simp [intOf]; omega
    · have HL := Lib.hid (show circle (L.map (·.2)) = false by rw [HR.out.left, show L.length - k = 0 by omega]; rfl)
      go_wp2_with fail
      go_ret
      exact ⟨ret_bool HL.out.symm, HR.out.below⟩
end Go.Proofs.YtacgopankhpnbaaGreatDoor
/- Walks of package build: what inspect holds while it goes. -/
namespace Go.Proofs.YtacgopankhpnbaaGreatDoor
open Go.RowKit

/-- A recipe as a value. -/
abbrev rcpV (vi vs : Value) (out : ByteArray) : Value := .agg #[vi, vs, .string out]
abbrev rcpBox (vi vs : Value) (out : ByteArray) : Obj := .cells #[vi, vs, .string out] 51
abbrev grfZero : Obj := .cells #[.slice none 0 0, .slice none 0 0, .string ⟨#[]⟩, .map none, .map none] 101
/-- What the map of inputs holds. -/
def iMap (inputs : List Fil) (x : ByteArray) : Option Bool := if isInput inputs x then some true else none
theorem iMap_getD (inputs : List Fil) (x : ByteArray) : (iMap inputs x).getD false = isInput inputs x := by
  unfold iMap; cases isInput inputs x <;> rfl
theorem wMap_isSome (steps : List Stp) (x : ByteArray) : (wMap steps x).isSome = (writerOf steps x).isSome := by
  unfold wMap; cases writerOf steps x <;> rfl

/-- What inspect holds: the recipe's box, the result's, the graph's, the two maps. -/
structure InspW (vi vs : Value) (out : ByteArray) (w : World) (nw ni : Nat) (mw : ByteArray → Option Int) (mi : ByteArray → Option Bool) (W : World) : Prop where
  br : W.heap[w.heap.size]? = some (rcpBox vi vs out)
  bres : W.heap[w.heap.size + 1]? = some grfZero
  bg : W.heap[w.heap.size + 1 + 1 + 1 + 1]? = some (grfBox vi vs out (w.heap.size + 1 + 1) (w.heap.size + 1 + 1 + 1))
  mw : MapIs kStr vInt W (w.heap.size + 1 + 1) nw mw
  mi : MapIs kStr vBool W (w.heap.size + 1 + 1 + 1) ni mi
  below : Below w.heap.size w W
section
variable {vi vs : Value} {out : ByteArray} {w W W' : World} {nw ni : Nat} {mw : ByteArray → Option Int} {mi : ByteArray → Option Bool}
theorem heap_up {a b : World} {k : Nat} {o : Obj} (hb : Below a.heap.size a b) (hk : a.heap[k]? = some o) : b.heap[k]? = some o := (hb.block _ (Array.getElem?_eq_some_iff.1 hk).1).trans hk
theorem InspW.later (h : InspW vi vs out w nw ni mw mi W) (hb : Below W.heap.size W W') : InspW vi vs out w nw ni mw mi W' :=
  ⟨heap_up hb h.br, heap_up hb h.bres, heap_up hb h.bg, h.mw.later hb, h.mi.later hb, below_trans h.below hb⟩
theorem InspW.setI {n' : Nat} {mi' : ByteArray → Option Bool} (h : InspW vi vs out w nw ni mw mi W) (hg : W.grownBy W' (some (w.heap.size + 1 + 1 + 1))) (hm : MapIs kStr vBool W' (w.heap.size + 1 + 1 + 1) n' mi') : InspW vi vs out w nw n' mw mi' W' := by
  have ho := only_grown hg
  have hM := IsMapAt.of h.mi
  exact ⟨hM.box ho h.br, hM.box ho h.bres, hM.box ho h.bg, h.mw.of_block (ho.block _ h.mw.lt (by omega)), hm, ho.below h.below (by omega) h.below.size⟩
theorem InspW.setW {n' : Nat} {mw' : ByteArray → Option Int} (h : InspW vi vs out w nw ni mw mi W) (hg : W.grownBy W' (some (w.heap.size + 1 + 1))) (hm : MapIs kStr vInt W' (w.heap.size + 1 + 1) n' mw') : InspW vi vs out w n' ni mw' mi W' := by
  have ho := only_grown hg
  have hM := IsMapAt.of h.mw
  exact ⟨hM.box ho h.br, hM.box ho h.bres, hM.box ho h.bg, hm, h.mi.of_block (ho.block _ h.mi.lt (by omega)), ho.below h.below (by omega) h.below.size⟩
theorem InspW.first (vi vs : Value) (out : ByteArray) (w : World) :
    InspW vi vs out w 0 0 (fun _ => none) (fun _ => none) (((((w.alloc (rcpBox vi vs out)).alloc grfZero).alloc (.map #[] 0)).alloc (.map #[] 0)).alloc (grfBox vi vs out (w.heap.size + 1 + 1) (w.heap.size + 1 + 1 + 1))) := by
  have B1 := below_alloc w (rcpBox vi vs out)
  have B2 := below_alloc (w.alloc (rcpBox vi vs out)) grfZero
  have B3 := below_alloc ((w.alloc (rcpBox vi vs out)).alloc grfZero) (.map #[] 0)
  have B4 := below_alloc (((w.alloc (rcpBox vi vs out)).alloc grfZero).alloc (.map #[] 0)) (.map #[] 0)
  have B5 := below_alloc ((((w.alloc (rcpBox vi vs out)).alloc grfZero).alloc (.map #[] 0)).alloc (.map #[] 0)) (grfBox vi vs out (w.heap.size + 1 + 1) (w.heap.size + 1 + 1 + 1))
  refine ⟨heap_up (below_trans (below_trans (below_trans B2 B3) B4) B5) (alloc_self w _), ?_, ?_, ?_, ?_, below_trans (below_trans (below_trans (below_trans B1 B2) B3) B4) B5⟩
  · have := heap_up (below_trans (below_trans B3 B4) B5) (alloc_self (w.alloc (rcpBox vi vs out)) grfZero)
    simpa only [World.size_alloc] using this
  · have := alloc_self ((((w.alloc (rcpBox vi vs out)).alloc grfZero).alloc (.map #[] 0)).alloc (.map #[] 0)) (grfBox vi vs out (w.heap.size + 1 + 1) (w.heap.size + 1 + 1 + 1))
    simpa only [World.size_alloc] using this
  · have := (MapIs.made (K := kStr) (V := vInt) ((w.alloc (rcpBox vi vs out)).alloc grfZero)).later (below_trans B4 B5)
    simpa only [World.size_alloc] using this
  · have := (MapIs.made (K := kStr) (V := vBool) (((w.alloc (rcpBox vi vs out)).alloc grfZero).alloc (.map #[] 0))).later B5
    simpa only [World.size_alloc] using this
theorem box3 {w : World} {k : Nat} {a b c : Value} {t : TypeId} {fr : Nat × Nat} (h : w.heap[k]? = some (.cells #[a, b, c] t fr)) :
    w.cell? ⟨k, 0, none⟩ = some a ∧ w.cell? ⟨k, 1, none⟩ = some b ∧ w.cell? ⟨k, 2, none⟩ = some c := by
  simp only [World.cell?, h]; simp
theorem box4' {w : World} {k : Nat} {a b c d : Value} {t : TypeId} {fr : Nat × Nat} (h : w.heap[k]? = some (.cells #[a, b, c, d] t fr)) :
    w.cell? ⟨k, 0, none⟩ = some a ∧ w.cell? ⟨k, 1, none⟩ = some b ∧ w.cell? ⟨k, 2, none⟩ = some c ∧ w.cell? ⟨k, 3, none⟩ = some d := by
  simp only [World.cell?, h]; simp
theorem InspW.rcells (h : InspW vi vs out w nw ni mw mi W) : W.cell? ⟨w.heap.size, 0, none⟩ = some vi ∧ W.cell? ⟨w.heap.size, 1, none⟩ = some vs ∧ W.cell? ⟨w.heap.size, 2, none⟩ = some (.string out) := box3 h.br
theorem InspW.gcells (h : InspW vi vs out w nw ni mw mi W) : W.cell? ⟨w.heap.size + 1 + 1 + 1 + 1, 0, none⟩ = some vi ∧ W.cell? ⟨w.heap.size + 1 + 1 + 1 + 1, 1, none⟩ = some vs ∧ W.cell? ⟨w.heap.size + 1 + 1 + 1 + 1, 2, none⟩ = some (.string out) ∧
    W.cell? ⟨w.heap.size + 1 + 1 + 1 + 1, 3, none⟩ = some (.map (some (w.heap.size + 1 + 1))) ∧ W.cell? ⟨w.heap.size + 1 + 1 + 1 + 1, 4, none⟩ = some (.map (some (w.heap.size + 1 + 1 + 1))) := box5 h.bg
theorem InspW.zcells (h : InspW vi vs out w nw ni mw mi W) : (W.cell? ⟨w.heap.size + 1, 0, none⟩ = some (.slice none 0 0) ∧ W.cell? ⟨w.heap.size + 1, 1, none⟩ = some (.slice none 0 0) ∧ W.cell? ⟨w.heap.size + 1, 2, none⟩ = some (.string ⟨#[]⟩) ∧
    W.cell? ⟨w.heap.size + 1, 3, none⟩ = some (.map none) ∧ W.cell? ⟨w.heap.size + 1, 4, none⟩ = some (.map none)) ∧ (W.frozen? ⟨w.heap.size + 1, 0, none⟩ = false ∧ W.frozen? ⟨w.heap.size + 1, 1, none⟩ = false ∧ W.frozen? ⟨w.heap.size + 1, 2, none⟩ = false ∧ W.frozen? ⟨w.heap.size + 1, 3, none⟩ = false ∧ W.frozen? ⟨w.heap.size + 1, 4, none⟩ = false) := by
  refine ⟨box5 h.bres, ?_⟩
  simp only [World.frozen?, h.bres]; simp
theorem set5 {W : World} {b : Nat} {x0 x1 x2 x3 x4 u0 u1 u2 u3 u4 : Value} {t : TypeId} {fr : Nat × Nat} (h : W.heap[b]? = some (.cells #[x0, x1, x2, x3, x4] t fr)) :
    (((((W.setCell ⟨b, 0, none⟩ u0).setCell ⟨b, 1, none⟩ u1).setCell ⟨b, 2, none⟩ u2).setCell ⟨b, 3, none⟩ u3).setCell ⟨b, 4, none⟩ u4).heap[b]? = some (.cells #[u0, u1, u2, u3, u4] t fr) := by
  simp [World.setCell, Array.getElem?_modify, h]
/-- What inspect comes to. -/
def InspPost (vi vs : Value) (out : ByteArray) (r : Rcp) (w : World) (e : Ending) (w' : World) : Prop :=
  e = .returned (.tuple #[grfV vi vs out (w.heap.size + 1 + 1) (w.heap.size + 1 + 1 + 1), .int .i64 (inspectE r)]) ∧ Below w.heap.size w w' ∧
  (inspectE r = 0 → ∃ nw ni, MapIs kStr vInt w' (w.heap.size + 1 + 1) nw (wMap r.steps) ∧ MapIs kStr vBool w' (w.heap.size + 1 + 1 + 1) ni (iMap r.inputs))
/-- The world behind the stores into the result. -/
abbrev inspEnd (vi vs : Value) (out : ByteArray) (w W : World) : World :=
  ((((W.setCell ⟨w.heap.size + 1, 0, none⟩ vi).setCell ⟨w.heap.size + 1, 1, none⟩ vs).setCell ⟨w.heap.size + 1, 2, none⟩ (.string out)).setCell ⟨w.heap.size + 1, 3, none⟩ (.map (some (w.heap.size + 1 + 1)))).setCell ⟨w.heap.size + 1, 4, none⟩ (.map (some (w.heap.size + 1 + 1 + 1)))
theorem insp_only (vi vs : Value) (out : ByteArray) (w W : World) : Only (w.heap.size + 1) W (inspEnd vi vs out w W) :=
  ((((Only.setCell _).trans (Only.setCell _)).trans (Only.setCell _)).trans (Only.setCell _)).trans (Only.setCell _)
/-- A return of inspect. -/
theorem InspW.ret {r : Rcp} {e : Int} {a : Act} (h : InspW vi vs out w nw ni mw mi W) (h2 : a.tmps[2]?.getD undef = .pointer (some ⟨w.heap.size + 1, 0, none⟩)) (h3 : a.tmps[3]?.getD undef = .int .i64 e) (hd : a.defers = []) (he : inspectE r = e)
    (hm : e = 0 → mw = wMap r.steps ∧ mi = iMap r.inputs) :
    bodyPost Tryz.prog Tryz.f63 (InspPost vi vs out r w) .ret a (inspEnd vi vs out w W) := by
  obtain ⟨c0, c1, c2, c3, c4⟩ := box5 (set5 (u0 := vi) (u1 := vs) (u2 := .string out) (u3 := .map (some (w.heap.size + 1 + 1))) (u4 := .map (some (w.heap.size + 1 + 1 + 1))) h.bres)
  subst he
  refine bodyPost_ret (v := .tuple #[grfV vi vs out (w.heap.size + 1 + 1) (w.heap.size + 1 + 1 + 1), .int .i64 (inspectE r)]) (by simp [results, Tryz.results63, go_sem, h2, h3, c0, c1, c2, c3, c4]) hd ⟨rfl, ?_, fun h0 => ?_⟩
  · exact (insp_only vi vs out w W).below h.below (by omega) h.below.size
  · obtain ⟨rfl, rfl⟩ := hm h0
    exact ⟨nw, ni, h.mw.of_block ((insp_only vi vs out w W).block _ h.mw.lt (by omega)), h.mi.of_block ((insp_only vi vs out w W).block _ h.mi.lt (by omega))⟩
end
end Go.Proofs.YtacgopankhpnbaaGreatDoor
/- Walks of package build: inspect. -/
namespace Go.Proofs.YtacgopankhpnbaaGreatDoor
open Go.RowKit

theorem iMap_snoc {inputs : List Fil} {k : Nat} {f : Fil} (hf : inputs[k]? = some f) (z : ByteArray) [Decidable (z = f.name)] : (if z = f.name then some true else iMap (inputs.take k) z) = iMap (inputs.take (k + 1)) z := by
  obtain ⟨hk, rfl⟩ := List.getElem?_eq_some_iff.1 hf
  unfold iMap isInput
  rw [List.take_succ_eq_append_getElem hk, List.any_append]
  by_cases h : z = inputs[k].name
  · subst h; simp
  · have : decide (inputs[k].name = z) = false := decide_eq_false (fun e => h e.symm)
    rw [if_neg h]; simp only [List.any_cons, List.any_nil, this, Bool.or_false]
theorem wMap_snoc {steps : List Stp} {k : Nat} {s : Stp} (hs : steps[k]? = some s) (hn : writerOf (steps.take k) s.out = none) (z : ByteArray) [Decidable (z = s.out)] : (if z = s.out then some (k : Int) else wMap (steps.take k) z) = wMap (steps.take (k + 1)) z := by
  obtain ⟨hk, rfl⟩ := List.getElem?_eq_some_iff.1 hs
  unfold wMap writerOf at *
  rw [List.take_succ_eq_append_getElem hk, List.findIdx?_append]
  by_cases h : z = steps[k].out
  · subst h
    rw [hn]
    have hl : (steps.take k).length = k := by simp; omega
    simp [List.findIdx?_cons, hl]
  · have : decide (steps[k].out = z) = false := decide_eq_false (fun e => h e.symm)
    rw [if_neg h]
    cases hh : List.findIdx? (fun s => decide (s.out = z)) (steps.take k) <;> simp [List.findIdx?_cons, this]
theorem twiceFrom_at {r : Rcp} {k len : Nat} {s : Stp} (h : k < len) (hs : r.steps[k]? = some s) : twiceFrom r k (len - k) = (knownTo r k s.out || twiceFrom r (k + 1) (len - (k + 1))) := by
  obtain ⟨n, hn⟩ : ∃ n, len - k = n + 1 := ⟨len - k - 1, by omega⟩
  rw [hn, twiceFrom, hs, show len - (k + 1) = n by omega]

set_option maxRecDepth 100000 in
set_option maxHeartbeats 4000000 in
/-- inspect, where the recipe's parts are not valid. -/
theorem inspect_arg (r : Rcp) (L : List (Value × Stp)) (vi vs : Value) (w : World) (hin : Fils w vi r.inputs) (hst : Stps w vs L) (hL : L.map (·.2) = r.steps)
    (hbad : rightFiles r.inputs = false ∨ 60 < L.length ∨ (L.any fun y => !stepRight y.2) = true) :
    Calls Tryz.prog 63 #[rcpV vi vs r.output] w (InspPost vi vs r.output r w) := by
  have HE : Hid (inspectE r = 1) := Lib.hid (by
    unfold inspectE
    rw [if_pos]
    rcases hbad with h | h | h
    · simp [h]
    · rw [← hL]; simp; exact .inl (.inr h)
    · rw [← hL, List.any_map]
      have : (L.any ((fun s => !stepRight s) ∘ fun x => x.snd)) = true := h
      simp only [this, Bool.or_true])
  obtain ⟨ai, ci, hvi, -⟩ := id hin
  obtain ⟨av, cv, hvs⟩ := stps_slice hst
  subst hvi hvs
  have HW := Lib.hid (InspW.first (.slice ai r.inputs.length ci) (.slice av L.length cv) r.output w)
  have HF := Lib.hid (rightFiles_any r.inputs _ _ (hin.later HW.out.below))
  have HC : Hid (∀ W, Below w.heap.size w W → Calls Tryz.prog 90 #[.slice av L.length cv, .func (.func 91) #[] #[]] W fun e w' => e = .returned (.bool (L.any fun y => !stepRight y.2)) ∧ Below W.heap.size W w') :=
    Lib.hid fun W hb => containsFunc_stp _ _ _ L _ W (hst.later hb) enters_inspect1 (fun y hy W' hb' => inspect1_any y W' ((hst.src hy).1.later (below_trans hb hb')) (hst.src hy).2)
  have hmm := @run_makeMap Tryz.prog
  generalize (L.any fun y => !stepRight y.2) = b3 at HC hbad
  generalize rightFiles r.inputs = b1 at HF hbad
  clear hin hst hL
  cases b1 with
  | false =>
    clear hbad HC
    go_enter Tryz.func63, Tryz.ntmps63
    go_wp2_with fail
    refine HF.out.mono ?_
    rintro e w2 ⟨rfl, hb⟩
    replace HW := Lib.hid (HW.out.later hb)
    obtain ⟨g0, g1, g2, g3, g4⟩ := HW.out.gcells
    obtain ⟨⟨z0, z1, z2, z3, z4⟩, f0, f1, f2, f3, f4⟩ := HW.out.zcells
    clear hmm hb
    go_wp2_with fail
    exact HW.out.ret rfl rfl rfl HE.out (fun h => absurd h (by decide))
  | true =>
    by_cases h60 : 60 < L.length
    · clear hbad HC
      go_enter Tryz.func63, Tryz.ntmps63
      go_wp2_with fail
      refine HF.out.mono ?_
      rintro e w2 ⟨rfl, hb⟩
      replace HW := Lib.hid (HW.out.later hb)
      obtain ⟨g0, g1, g2, g3, g4⟩ := HW.out.gcells
      obtain ⟨r0, r1, r2⟩ := HW.out.rcells
      obtain ⟨⟨z0, z1, z2, z3, z4⟩, f0, f1, f2, f3, f4⟩ := HW.out.zcells
      clear hmm hb
      go_wp2_with fail
      exact HW.out.ret rfl rfl rfl HE.out (fun h => absurd h (by decide))
    · obtain rfl : b3 = true := by
        rcases hbad with h | h | h
        · cases h
        · exact absurd h h60
        · exact h
      clear hbad
      go_enter Tryz.func63, Tryz.ntmps63
      go_wp2_with fail
      refine HF.out.mono ?_
      rintro e w2 ⟨rfl, hb⟩
      replace HW := Lib.hid (HW.out.later hb)
      obtain ⟨r0, r1, r2⟩ := HW.out.rcells
      clear hmm hb
      go_wp2_with fail
      refine (HC.out _ HW.out.below).mono ?_
      rintro e w3 ⟨rfl, hb⟩
      replace HW := Lib.hid (HW.out.later hb)
      clear r0 r1 r2
      obtain ⟨g0, g1, g2, g3, g4⟩ := HW.out.gcells
      obtain ⟨⟨z0, z1, z2, z3, z4⟩, f0, f1, f2, f3, f4⟩ := HW.out.zcells
      clear hb
      go_wp2_with fail
      exact HW.out.ret rfl rfl rfl HE.out (fun h => absurd h (by decide))
end Go.Proofs.YtacgopankhpnbaaGreatDoor
