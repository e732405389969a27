/- Texts of this seat, joined: PureB, LawD, LawE, LawF, LawG, LawI, LawH. -/
import Derived.Test.YtacgopankhpnbaaGreatDoorJRefusesTopSSliceB
import Derived.Test.YtacgopankhpnbaaGreatDoorJRefusesTopS
import Derived.Test.YtacgopankhpnbaaGreatDoorJRefusesTopP
import Derived.Test.YtacgopankhpnbaaGreatDoorJRefusesTopG
import Derived.Deep.AppendLies
import Derived.Deep.RegionHeld3
import Derived.Deep.Cut
/- Walks of package build: Pure. -/
namespace Go.Proofs.YtacgopankhpnbaaGreatDoor
open Go.RowKit

/-- Is a step not pure? -/
def impureAt (steps : List Stp) (i : Nat) : Bool := match steps[i]? with
  | some s => !stepPure s
  | none => true
set_option maxRecDepth 100000 in
theorem pure1_any (r : Rcp) (L : List (Value × Stp)) (vi vs : Value) (pr i : Nat) (w : World) (h : RcpIn r L vi vs w) (hb : w.heap[pr]? = some (rcpBox vi vs r.output)) (hi : i < L.length) :
    Calls Tryz.prog 62 #[.int .i64 i, .pointer (some ⟨pr, 0, none⟩)] w fun e w' => e = .returned (.bool (impureAt r.steps i)) ∧ Below w.heap.size w w' := by
  obtain ⟨y, hy, -⟩ := getElem?_of_lt hi
  have hs : r.steps[i]? = some y.2 := by rw [← h.map, List.getElem?_map, hy]; rfl
  have HP := Lib.hid (show impureAt r.steps i = !stepPure y.2 by unfold impureAt; rw [hs])
  rw [HP.out]
  obtain ⟨r0, r1, r2⟩ := box3 hb
  rcases h.stp.cases with ⟨e, -⟩ | ⟨b, o, c, rfl, -, hc1, hc2, -, hc⟩
  · subst e; simp at hi
  obtain ⟨s0, s1, s2, s3, hsrc, hso⟩ := hc i y hy
  have HC := Lib.hid (stepPure_any y.2 y.1 w hsrc hso)
  generalize stepPure y.2 = q at HC ⊢
  obtain ⟨a, cc, hv⟩ := strs_slice hsrc
  obtain ⟨yv, kind, src, out, sorted⟩ := y
  simp only at s0 s1 s2 s3 HC hv
  subst hv
  clear h hb hy hs HP hc hsrc hso
  go_enter Tryz.func62, Tryz.ntmps62
  go_wp2_with fail
  refine HC.out.mono ?_
  rintro e w1 ⟨rfl, hb⟩
  have HB := Lib.hid hb; clear hb
  go_wp2_with fail
  go_ret
  exact ⟨rfl, HB.out⟩
theorem enters_pure1 : ∀ args w, (callFunc 62 args).run Tryz.prog w = .ok (.enter 62 args) w := enters_of Tryz.func62 (by kernel_rfl) rfl
theorem sliceL_lt {r : Rcp} {i : Nat} (h : i ∈ sliceL r) : i < r.steps.length := by
  unfold sliceL at h
  split at h
  · cases h
  · unfold sliceAll at h
    exact List.mem_range.1 (List.mem_filter.1 h).1

set_option maxRecDepth 100000 in
theorem pure_any (r : Rcp) (L : List (Value × Stp)) (vi vs : Value) (w : World) (h : RcpIn r L vi vs w) :
    Calls Tryz.prog 28 #[rcpV vi vs r.output] w fun e w' => e = .returned (.bool (pureL r)) ∧ Below w.heap.size w w' := by
  by_cases he : ¬ inspectE r = 0
  · refine (pure_bad r L vi vs w h he).mono ?_
    rw [show pureL r = false by unfold pureL; rw [decide_eq_false he]; rfl]
    exact fun _ _ h => h
  replace he := Classical.not_not.1 he
  have HR := Lib.hid (right_any r L vi vs _ (h.later (below_alloc w (rcpBox vi vs r.output))))
  have HP := Lib.hid (show pureL r = !(sliceL r).any (impureAt r.steps) by unfold pureL; rw [decide_eq_true he]; rfl)
  rw [HP.out]
  have HRcp := Lib.hid h
  have HSl : Hid (∀ W, Below w.heap.size w W → Calls Tryz.prog 30 #[rcpV vi vs r.output] W (NeedsPost (sliceL r) W)) := Lib.hid fun W hb => slice_any r L vi vs W (HRcp.out.later hb)
  have HCf : Hid (∀ v W, Below w.heap.size w W → W.heap[w.heap.size]? = some (rcpBox vi vs r.output) → Ints W v (natInts (sliceL r)) → Calls Tryz.prog 61 #[v, .func (.func 62) #[] #[.pointer (some ⟨w.heap.size, 0, none⟩)]] W fun e w' => e = .returned (.bool ((sliceL r).any (impureAt r.steps))) ∧ Below W.heap.size W w') :=
    Lib.hid fun v W hb hbx hI => containsFunc_plain 62 #[.pointer (some ⟨w.heap.size, 0, none⟩)] (impureAt r.steps) (sliceL r) v W hI enters_pure1 (fun x hx W' hb' =>
      pure1_any r L vi vs w.heap.size x W' (HRcp.out.later (below_trans hb hb')) (heap_up hb' hbx) (by rw [← HRcp.out.len]; exact sliceL_lt hx))
  have HB0 := Lib.hid (below_alloc w (rcpBox vi vs r.output))
  have HBx := Lib.hid (alloc_self w (rcpBox vi vs r.output))
  obtain ⟨ai, ci, av, cv, rfl, rfl⟩ := h.slices
  rw [he] at HR
  generalize (sliceL r).any (impureAt r.steps) = q at HCf ⊢
  clear h he HP
  go_enter Tryz.func28, Tryz.ntmps28
  go_wp2_with fail
  refine HR.out.mono ?_
  rintro e w2 ⟨rfl, hb⟩
  obtain ⟨r0, r1, r2⟩ := box3 (heap_up hb HBx.out)
  have HB2 := Lib.hid (below_trans HB0.out hb)
  have HBx2 := Lib.hid (heap_up hb HBx.out)
  clear hb HR
  go_wp2_with fail
  refine (HSl.out _ HB2.out).mono ?_
  rintro e w3 ⟨v, rfl, hI, -, hb⟩
  have HC := Lib.hid (HCf.out v w3 (below_trans HB2.out hb) (heap_up hb HBx2.out) hI)
  have HB3 := Lib.hid (below_trans HB2.out hb)
  clear hI hb r0 r1 r2
  go_wp2_with fail
  refine HC.out.mono ?_
  rintro e w4 ⟨rfl, hb⟩
  have HB4 := Lib.hid (below_trans HB3.out hb)
  clear hb
  go_wp2_with fail
  go_ret
  exact ⟨rfl, HB4.out⟩
end Go.Proofs.YtacgopankhpnbaaGreatDoor
/- Walks of ladinglaw33: example, few, light; ladingref33.Ints. -/
namespace Go.Proofs.YtacgopankhpnbaaGreatDoor
open Go.RowKit

theorem small_sz (l : List ByteArray) (h : l.all (fun x => decide (x.size ≤ 100)) = true) : ∀ x, x ∈ l → x.size ≤ 140737488355328 := by
  intro x hx
  have := List.all_eq_true.1 h x hx
  simp at this; omega
theorem flatMap_at {α : Type} {k : Nat} (f : α → List Value) : ∀ (l : List α) (i : Nat) (x : α) (j : Nat), (∀ y, y ∈ l → (f y).length = k) → l[i]? = some x → j < k → (l.flatMap f)[i * k + j]? = (f x)[j]?
  | [], i, x, j, _, h, _ => by simp at h
  | a :: l, 0, x, j, hf, h, hj => by
    simp at h; subst h
    rw [List.flatMap_cons, List.getElem?_append_left (by rw [hf a (by simp)]; omega)]; simp
  | a :: l, i + 1, x, j, hf, h, hj => by
    have ha := hf a (by simp)
    rw [List.flatMap_cons, List.getElem?_append_right (by rw [ha, Nat.add_mul]; omega), ha, show (i + 1) * k + j - k = i * k + j by rw [Nat.add_mul]; omega]
    exact flatMap_at f l i x j (fun y hy => hf y (by simp [hy])) (by simpa using h) hj
theorem row_made {α : Type} {k : Nat} {enc : World → α → List Value → Prop} {w : World} {g : Nat} {cs : Array Value} {t : TypeId} {fr : Nat × Nat} (l : List α) (f : α → List Value) (h : w.heap[g]? = some (.cells cs t fr)) (hcs : cs.toList = l.flatMap f)
    (hl : l.length ≤ 140737488355328) (hf : ∀ x, x ∈ l → (f x).length = k ∧ enc w x (f x)) : Row k enc w (.slice (some ⟨g, 0, none⟩) l.length l.length) l := by
  refine ⟨_, l.length, rfl, Nat.le_refl _, by omega, fun _ => ⟨g, 0, rfl, fun i x hx => ⟨f x, (hf x (List.mem_of_getElem? hx)).2, (hf x (List.mem_of_getElem? hx)).1, fun j u hu => ?_⟩⟩⟩
  have hk := (hf x (List.mem_of_getElem? hx)).1
  have hj : j < k := by rw [← hk]; exact (List.getElem?_eq_some_iff.1 hu).1
  have h1 := flatMap_at f l i x j (fun y hy => (hf y hy).1) hx hj
  rw [hu, ← hcs] at h1
  simp only [World.cell?, h]; simpa using h1
abbrev stpCells (y : Value × Stp) : List Value := [.int .i64 y.2.kind, y.1, .string y.2.out, .bool y.2.sorted]
abbrev exL (h : Nat) : List (Value × Stp) := [(.slice (some ⟨h + 1 + 1, 0, none⟩) 2 2, ⟨1, [⟨#[98]⟩, ⟨#[97]⟩], ⟨#[99]⟩, false⟩), (.slice (some ⟨h + 1 + 1 + 1, 0, none⟩) 1 1, ⟨4, [⟨#[99]⟩], ⟨#[100]⟩, false⟩), (.slice (some ⟨h + 1 + 1 + 1 + 1, 0, none⟩) 1 1, ⟨0, [⟨#[97]⟩], ⟨#[101]⟩, false⟩)]
/-- That a recipe is handed back. -/
def RcpPost (r : Rcp) (w : World) (e : Ending) (w' : World) : Prop := ∃ vi vs L, e = .returned (rcpV vi vs r.output) ∧ RcpIn r L vi vs w' ∧ Below w.heap.size w w'
theorem lay6 (w : World) (o0 o1 o2 o3 o4 o5 : Obj) : ((((((w.alloc o0).alloc o1).alloc o2).alloc o3).alloc o4).alloc o5).heap[w.heap.size + 1]? = some o1 ∧ ((((((w.alloc o0).alloc o1).alloc o2).alloc o3).alloc o4).alloc o5).heap[w.heap.size + 1 + 1]? = some o2 ∧
    ((((((w.alloc o0).alloc o1).alloc o2).alloc o3).alloc o4).alloc o5).heap[w.heap.size + 1 + 1 + 1]? = some o3 ∧ ((((((w.alloc o0).alloc o1).alloc o2).alloc o3).alloc o4).alloc o5).heap[w.heap.size + 1 + 1 + 1 + 1]? = some o4 ∧
    ((((((w.alloc o0).alloc o1).alloc o2).alloc o3).alloc o4).alloc o5).heap[w.heap.size + 1 + 1 + 1 + 1 + 1]? = some o5 := by
  have up : ∀ {a : World} {o : Obj} {k : Nat} {x : Obj}, a.heap[k]? = some x → (a.alloc o).heap[k]? = some x := fun h => heap_up (below_alloc _ _) h
  have e1 := alloc_self (w.alloc o0) o1
  have e2 := alloc_self ((w.alloc o0).alloc o1) o2
  have e3 := alloc_self (((w.alloc o0).alloc o1).alloc o2) o3
  have e4 := alloc_self ((((w.alloc o0).alloc o1).alloc o2).alloc o3) o4
  have e5 := alloc_self (((((w.alloc o0).alloc o1).alloc o2).alloc o3).alloc o4) o5
  simp only [World.size_alloc] at e1 e2 e3 e4 e5
  exact ⟨up (up (up (up e1))), up (up (up e2)), up (up e3), up e4, e5⟩
theorem exIn {w : World} {h : Nat} {output : ByteArray} {fr : Nat × Nat} {t1 t2 t3 t4 t5 : TypeId} (hz : output.size ≤ 140737488355328) (h1 : w.heap[h + 1]? = some (.cells #[.string ⟨#[97]⟩, .string ⟨#[120]⟩, .string ⟨#[98]⟩, .string ⟨#[121]⟩] t1 fr)) (h2 : w.heap[h + 1 + 1]? = some (.cells #[.string ⟨#[98]⟩, .string ⟨#[97]⟩] t2 fr))
    (h3 : w.heap[h + 1 + 1 + 1]? = some (.cells #[.string ⟨#[99]⟩] t3 fr)) (h4 : w.heap[h + 1 + 1 + 1 + 1]? = some (.cells #[.string ⟨#[97]⟩] t4 fr))
    (h5 : w.heap[h + 1 + 1 + 1 + 1 + 1]? = some (.cells #[.int .i64 1, .slice (some ⟨h + 1 + 1, 0, none⟩) 2 2, .string ⟨#[99]⟩, .bool false, .int .i64 4, .slice (some ⟨h + 1 + 1 + 1, 0, none⟩) 1 1, .string ⟨#[100]⟩, .bool false, .int .i64 0, .slice (some ⟨h + 1 + 1 + 1 + 1, 0, none⟩) 1 1, .string ⟨#[101]⟩, .bool false] t5 fr)) :
    RcpIn (exR output) (exL h) (.slice (some ⟨h + 1, 0, none⟩) 2 2) (.slice (some ⟨h + 1 + 1 + 1 + 1 + 1, 0, none⟩) 3 3) w := by
  refine ⟨fils_made exInputs h1 rfl (by decide) (fun f hf => by simp [exInputs] at hf; rcases hf with rfl | rfl <;> decide), ?_, rfl, hz⟩
  refine row_made (exL h) stpCells h5 rfl (by show (3 : Nat) ≤ _; decide) (fun y hy => ⟨rfl, rfl, ?_⟩)
  simp only [List.mem_cons, List.not_mem_nil, or_false] at hy
  rcases hy with rfl | rfl | rfl
  · exact ⟨strs_made [⟨#[98]⟩, ⟨#[97]⟩] h2 rfl (by decide) (small_sz _ (by decide)), by show (⟨#[99]⟩ : ByteArray).size ≤ _; decide⟩
  · exact ⟨strs_made [⟨#[99]⟩] h3 rfl (by decide) (small_sz _ (by decide)), by show (⟨#[100]⟩ : ByteArray).size ≤ _; decide⟩
  · exact ⟨strs_made [⟨#[97]⟩] h4 rfl (by decide) (small_sz _ (by decide)), by show (⟨#[101]⟩ : ByteArray).size ≤ _; decide⟩
set_option maxRecDepth 100000 in
theorem example_any (output : ByteArray) (w : World) (hz : output.size ≤ 140737488355328) :
    Calls Tryz.prog 59 #[.string output] w (RcpPost (exR output) w) := by
  go_enter Tryz.func59, Tryz.ntmps59
  go_wp2_with fail
  refine bodyPost_ret (v := rcpV (.slice (some ⟨w.heap.size + 1, 0, none⟩) 2 2) (.slice (some ⟨w.heap.size + 1 + 1 + 1 + 1 + 1, 0, none⟩) 3 3) output) (by simp [results, Tryz.results59, go_sem]) rfl ?_
  obtain ⟨h1, h2, h3, h4, h5⟩ := lay6 w (.cells #[.slice (some ⟨w.heap.size + 1, 0, none⟩) 2 2, .slice (some ⟨w.heap.size + 1 + 1 + 1 + 1 + 1, 0, none⟩) 3 3, .string output] 51) (.cells #[.string ⟨#[97]⟩, .string ⟨#[120]⟩, .string ⟨#[98]⟩, .string ⟨#[121]⟩] 40) (.cells #[.string ⟨#[98]⟩, .string ⟨#[97]⟩] 9) (.cells #[.string ⟨#[99]⟩] 9) (.cells #[.string ⟨#[97]⟩] 9)
    (.cells #[.int .i64 1, .slice (some ⟨w.heap.size + 1 + 1, 0, none⟩) 2 2, .string ⟨#[99]⟩, .bool false, .int .i64 4, .slice (some ⟨w.heap.size + 1 + 1 + 1, 0, none⟩) 1 1, .string ⟨#[100]⟩, .bool false, .int .i64 0, .slice (some ⟨w.heap.size + 1 + 1 + 1 + 1, 0, none⟩) 1 1, .string ⟨#[101]⟩, .bool false] 24)
  exact ⟨_, _, exL w.heap.size, rfl, exIn hz h1 h2 h3 h4 h5, below_trans (below_trans (below_trans (below_trans (below_trans (below_alloc _ _) (below_alloc _ _)) (below_alloc _ _)) (below_alloc _ _)) (below_alloc _ _)) (below_alloc _ _)⟩
end Go.Proofs.YtacgopankhpnbaaGreatDoor
/- Walks of ladinglaw33: few, light; ladingref33.Ints. -/
namespace Go.Proofs.YtacgopankhpnbaaGreatDoor
open Go.RowKit

set_option maxHeartbeats 1000000 in
theorem ints33_any (a b : List Int) (va vb : Value) (w : World) (ha : Ints w va a) (hb : Ints w vb b) :
    Calls Tryz.prog 60 #[va, vb] w fun e w' => e = .returned (.bool (decide (a = b))) ∧ Below w.heap.size w w' := by
  obtain ⟨aa, ca, hva, ha1, ha2, -⟩ := id ha
  obtain ⟨ab, cb, hvb, hb1, hb2, -⟩ := id hb
  subst hva hvb
  have HA := Lib.hid ha; have HB := Lib.hid hb
  clear ha hb
  by_cases hl : a.length = b.length
  · have HL := Lib.hid hl
    rw [← hl] at hb1 HB ⊢
    clear hl
    go_enter Tryz.func60, Tryz.ntmps60
    go_wp2_with fail
    go_loopw [5] (fun i wr => ∃ k : Nat, k ≤ a.length ∧ i = .int .i64 k ∧ Hid (a.take k = b.take k) ∧ Hid (Below w.heap.size w wr)) (fun i _ => a.length - (intOf i).toNat)
    case atStart => exact ⟨0, Nat.zero_le _, rfl, Lib.hid rfl, Lib.hid (Below.refl _ _)⟩
    case round =>
      obtain ⟨k, hk, rfl, HT, HW⟩ := hrel
      rename World => wr
      by_cases hlt : k < a.length
      · obtain ⟨x, hx, -⟩ := getElem?_of_lt hlt
        obtain ⟨y, hy, -⟩ := getElem?_of_lt (show k < b.length by rw [← HL.out]; exact hlt)
        rcases (HA.out.later HW.out).cases with ⟨e, -⟩ | ⟨b1, o1, c1, e, -, -, -, -, hc⟩
        · subst e; simp at hlt
        obtain ⟨rfl, rfl⟩ : aa = some ⟨b1, o1, none⟩ ∧ ca = c1 := by injection e with e1 e2 e3; exact ⟨e1, e3⟩
        have hB := HB.out.later HW.out
        obtain ⟨b2, o2, c2, e2, cy⟩ : ∃ b2 o2 c2, Value.slice ab a.length cb = .slice (some ⟨b2, o2, none⟩) b.length c2 ∧ wr.cell? ⟨b2, o2 + k, none⟩ = some (.int .i64 y) := by
          rcases hB.cases with ⟨e, -⟩ | ⟨b2, o2, c2, e, -, -, -, -, hc2⟩
          · rw [e] at hy; simp at hy
          · exact ⟨b2, o2, c2, e, hc2 k y hy⟩
        obtain rfl : ab = some ⟨b2, o2, none⟩ := by injection e2
        have cx : wr.cell? ⟨b1, o1 + k, none⟩ = some (.int .i64 x) := hc k x hx
        have HX := Lib.hid hx; have HY := Lib.hid hy
        clear hc hB e e2 hx hy
        by_cases he : x = y
        · subst he
          go_wp2_with fail
          go_region
          go_wp2_with fail
          go_roundw
          case rel => exact ⟨k + 1, by omega, by go_num, Lib.hid (by rw [List.take_add_one, List.take_add_one, HT.out, HX.out, HY.out]), Lib.hid HW.out.drew⟩
          case measure => simp [intOf]; omega
        · have hne : (x == y) = false := beq_eq_false_iff_ne.2 he
          have hne2 : (x != y) = true := by rw [bne_iff_ne]; exact he
          have HNe := Lib.hid he
          clear he
          go_wp2_with fail
          go_region
          go_wp2_with fail
          go_ret
          refine ⟨ret_bool ?_, HW.out.drew⟩
          rw [eq_comm, decide_eq_false_iff_not]
          intro h
          have h1 := HX.out; have h2 := HY.out
          rw [h, h2] at h1
          exact HNe.out (Option.some.inj h1).symm
      · go_wp2_with fail
        go_ret
        refine ⟨ret_bool ?_, HW.out⟩
        rw [eq_comm, decide_eq_true_iff]
        have h := HT.out
        rwa [List.take_of_length_le (by omega), List.take_of_length_le (by rw [← HL.out]; omega)] at h
  · have HL := Lib.hid hl
    have hl2 : ¬ (a.length : Int) = (b.length : Int) := by omega
    have hl3 : ((a.length : Int) != (b.length : Int)) = true := by rw [bne_iff_ne]; exact hl2
    clear hl hl2
    go_enter Tryz.func60, Tryz.ntmps60
    go_wp2_with fail
    all_goals
      go_ret
      refine ⟨ret_bool ?_, Below.refl _ _⟩
      rw [eq_comm, decide_eq_false_iff_not]
      intro h
      exact HL.out (by rw [h])
/-- What light comes to. -/
def AnyBool (w : World) (e : Ending) (w' : World) : Prop := ∃ q, e = .returned (.bool q) ∧ Below w.heap.size w w'
set_option maxHeartbeats 1000000 in
theorem light_any (a1 a2 a3 : Option Addr) (n1 n2 n3 c1 c2 c3 : Nat) (w : World) :
    Calls Tryz.prog 27 #[.agg #[.slice a1 n1 c1, .slice a2 n2 c2, .slice a3 n3 c3]] w (AnyBool w) := by
  by_cases h1 : (n1 : Int) ≤ 40
  · by_cases h2 : (n2 : Int) ≤ 40
    · go_enter Tryz.func27, Tryz.ntmps27
      go_wp2_with fail
      go_ret
      exact ⟨_, rfl, below_alloc _ _⟩
    · go_enter Tryz.func27, Tryz.ntmps27
      go_wp2_with fail
      go_ret
      exact ⟨_, rfl, below_alloc _ _⟩
  · go_enter Tryz.func27, Tryz.ntmps27
    go_wp2_with fail
    go_ret
    exact ⟨_, rfl, below_alloc _ _⟩
end Go.Proofs.YtacgopankhpnbaaGreatDoor
/- Walks of ladinglaw33: few. -/
namespace Go.Proofs.YtacgopankhpnbaaGreatDoor
open Go.RowKit

/-- What few comes to. -/
def FewPost (r : Rcp) (w : World) (e : Ending) (w' : World) : Prop := ∃ q : Bool, e = .returned (.bool q) ∧ (q = true → r.inputs.length ≤ 5 ∧ r.steps.length ≤ 8) ∧ Below w.heap.size w w'
set_option maxRecDepth 100000 in
set_option maxHeartbeats 4000000 in
theorem few_any (r : Rcp) (L : List (Value × Stp)) (vi vs : Value) (w : World) (h : RcpIn r L vi vs w) :
    Calls Tryz.prog 26 #[rcpV vi vs r.output] w (FewPost r w) := by
  have HB := Lib.hid (below_alloc w (rcpBox vi vs r.output))
  have HRcp := Lib.hid (h.later HB.out)
  obtain ⟨r0, r1, r2⟩ := box3 (alloc_self w (rcpBox vi vs r.output))
  obtain ⟨ai, ci, av, cv, rfl, rfl⟩ := h.slices
  have hlen := h.len
  have hin : r.inputs.length ≤ 9223372036854775807 := by obtain ⟨a, c, hv, h1, h2, -⟩ := h.inp; omega
  have hst : L.length ≤ 9223372036854775807 := by obtain ⟨a, c, hv, h1, h2, -⟩ := h.stp; omega
  have HLen := Lib.hid hlen
  clear h hlen
  go_enter Tryz.func26, Tryz.ntmps26
  go_wp2_with fail
  generalize w.alloc (rcpBox (.slice ai r.inputs.length ci) (.slice av L.length cv) r.output) = W at HB HRcp r0 r1 r2 ⊢
  go_loop [3] (fun i => ∃ k : Nat, k ≤ r.inputs.length ∧ i = .int .i64 k) (fun i => r.inputs.length - (intOf i).toNat)
  case atStart => exact ⟨0, Nat.zero_le _, rfl⟩
  case round =>
    obtain ⟨k, hk, rfl⟩ := hrel
    by_cases hlt : k < r.inputs.length ∧ k < 6
    · obtain ⟨hlt, h6⟩ := hlt
      obtain ⟨f, hf, -⟩ := getElem?_of_lt hlt
      rcases HRcp.out.inp.cases with ⟨e, -⟩ | ⟨b, o, c, e, -, -, -, -, hc⟩
      · rw [e] at hlt; simp at hlt
      obtain ⟨rfl, rfl⟩ : ai = some ⟨b, o, none⟩ ∧ ci = c := by injection e with e1 e2 e3; exact ⟨e1, e3⟩
      obtain ⟨f0, f1, -, -⟩ := hc k f hf
      clear hc e hf
      by_cases ht : (300 : Int) < f.text.size
      · first
          | (exfalso; omega)
          | (go_wp2_with fail; go_ret; exact ⟨_, rfl, (fun h => by (cases h)), HB.out⟩)
      · by_cases hn : (60 : Int) < f.name.size
        · first
            | (exfalso; omega)
            | (go_wp2_with fail; go_ret; exact ⟨_, rfl, (fun h => by (cases h)), HB.out⟩)
        · go_wp2_with fail
          go_round
          case rel => exact ⟨k + 1, by omega, by go_num⟩
          case measure => simp [intOf]; omega
    · by_cases h6 : k < r.inputs.length
      · have h7 : ¬ k < 6 := fun h => hlt ⟨h6, h⟩
        clear hlt
        go_wp2_with fail
        go_loop [4] (fun i => ∃ k : Nat, k ≤ L.length ∧ i = .int .i64 k) (fun i => L.length - (intOf i).toNat)
        case atStart => exact ⟨0, Nat.zero_le _, rfl⟩
        case round =>
          obtain ⟨k2, hk2, rfl⟩ := hrel
          by_cases hlt2 : k2 < L.length ∧ k2 < 9
          · obtain ⟨hlt2, h9⟩ := hlt2
            obtain ⟨y, hy, -⟩ := getElem?_of_lt hlt2
            rcases HRcp.out.stp.cases with ⟨e, -⟩ | ⟨b, o, c, e, -, -, -, -, hc⟩
            · rw [e] at hlt2; simp at hlt2
            obtain ⟨rfl, rfl⟩ : av = some ⟨b, o, none⟩ ∧ cv = c := by injection e with e1 e2 e3; exact ⟨e1, e3⟩
            obtain ⟨s0, s1, s2, s3, hsrc, -⟩ := hc k2 y hy
            obtain ⟨sa, sc, hvv⟩ := strs_slice hsrc
            obtain ⟨yv, kind, src, yo, sorted⟩ := y
            simp only at s0 s1 s2 s3 hvv
            subst hvv
            clear hc e hy hsrc
            by_cases ht : (4 : Int) < src.length
            · first
                | (exfalso; omega)
                | (go_wp2_with fail; go_ret; exact ⟨_, rfl, (fun h => by (cases h)), HB.out⟩)
            · by_cases hn : (60 : Int) < yo.size
              · first
                  | (exfalso; omega)
                  | (go_wp2_with fail; go_ret; exact ⟨_, rfl, (fun h => by (cases h)), HB.out⟩)
              · go_wp2_with fail
                go_round
                case rel => exact ⟨k2 + 1, by omega, by go_num⟩
                case measure => simp [intOf]; omega
          · by_cases h10 : k2 < L.length
            · have h11 : ¬ k2 < 9 := fun h => hlt2 ⟨h10, h⟩
              clear hlt2
              by_cases h5 : (r.inputs.length : Int) ≤ 5
              · by_cases h8 : (L.length : Int) ≤ 8
                · by_cases h60 : (r.output.size : Int) ≤ 60
                  · first
                      | (exfalso; omega)
                      | (go_wp2_with fail; go_ret; exact ⟨_, rfl, (fun _ => ⟨by omega, by rw [HLen.out]; omega⟩), HB.out⟩)
                  · first
                      | (exfalso; omega)
                      | (go_wp2_with fail; go_ret; exact ⟨_, rfl, (fun h => by (cases h)), HB.out⟩)
                · first
                    | (exfalso; omega)
                    | (go_wp2_with fail; go_ret; exact ⟨_, rfl, (fun h => by (cases h)), HB.out⟩)
              · first
                  | (exfalso; omega)
                  | (go_wp2_with fail; go_ret; exact ⟨_, rfl, (fun h => by (cases h)), HB.out⟩)
            · clear hlt2
              by_cases h5 : (r.inputs.length : Int) ≤ 5
              · by_cases h8 : (L.length : Int) ≤ 8
                · by_cases h60 : (r.output.size : Int) ≤ 60
                  · first
                      | (exfalso; omega)
                      | (go_wp2_with fail; go_ret; exact ⟨_, rfl, (fun _ => ⟨by omega, by rw [HLen.out]; omega⟩), HB.out⟩)
                  · first
                      | (exfalso; omega)
                      | (go_wp2_with fail; go_ret; exact ⟨_, rfl, (fun h => by (cases h)), HB.out⟩)
                · first
                    | (exfalso; omega)
                    | (go_wp2_with fail; go_ret; exact ⟨_, rfl, (fun h => by (cases h)), HB.out⟩)
              · first
                  | (exfalso; omega)
                  | (go_wp2_with fail; go_ret; exact ⟨_, rfl, (fun h => by (cases h)), HB.out⟩)
      · clear hlt
        go_wp2_with fail
        go_loop [4] (fun i => ∃ k : Nat, k ≤ L.length ∧ i = .int .i64 k) (fun i => L.length - (intOf i).toNat)
        case atStart => exact ⟨0, Nat.zero_le _, rfl⟩
        case round =>
          obtain ⟨k2, hk2, rfl⟩ := hrel
          by_cases hlt2 : k2 < L.length ∧ k2 < 9
          · obtain ⟨hlt2, h9⟩ := hlt2
            obtain ⟨y, hy, -⟩ := getElem?_of_lt hlt2
            rcases HRcp.out.stp.cases with ⟨e, -⟩ | ⟨b, o, c, e, -, -, -, -, hc⟩
            · rw [e] at hlt2; simp at hlt2
            obtain ⟨rfl, rfl⟩ : av = some ⟨b, o, none⟩ ∧ cv = c := by injection e with e1 e2 e3; exact ⟨e1, e3⟩
            obtain ⟨s0, s1, s2, s3, hsrc, -⟩ := hc k2 y hy
            obtain ⟨sa, sc, hvv⟩ := strs_slice hsrc
            obtain ⟨yv, kind, src, yo, sorted⟩ := y
            simp only at s0 s1 s2 s3 hvv
            subst hvv
            clear hc e hy hsrc
            by_cases ht : (4 : Int) < src.length
            · first
                | (exfalso; omega)
                | (go_wp2_with fail; go_ret; exact ⟨_, rfl, (fun h => by (cases h)), HB.out⟩)
            · by_cases hn : (60 : Int) < yo.size
              · first
                  | (exfalso; omega)
                  | (go_wp2_with fail; go_ret; exact ⟨_, rfl, (fun h => by (cases h)), HB.out⟩)
              · go_wp2_with fail
                go_round
                case rel => exact ⟨k2 + 1, by omega, by go_num⟩
                case measure => simp [intOf]; omega
          · by_cases h10 : k2 < L.length
            · have h11 : ¬ k2 < 9 := fun h => hlt2 ⟨h10, h⟩
              clear hlt2
              by_cases h5 : (r.inputs.length : Int) ≤ 5
              · by_cases h8 : (L.length : Int) ≤ 8
                · by_cases h60 : (r.output.size : Int) ≤ 60
                  · first
                      | (exfalso; omega)
                      | (go_wp2_with fail; go_ret; exact ⟨_, rfl, (fun _ => ⟨by omega, by rw [HLen.out]; omega⟩), HB.out⟩)
                  · first
                      | (exfalso; omega)
                      | (go_wp2_with fail; go_ret; exact ⟨_, rfl, (fun h => by (cases h)), HB.out⟩)
                · first
                    | (exfalso; omega)
                    | (go_wp2_with fail; go_ret; exact ⟨_, rfl, (fun h => by (cases h)), HB.out⟩)
              · first
                  | (exfalso; omega)
                  | (go_wp2_with fail; go_ret; exact ⟨_, rfl, (fun h => by (cases h)), HB.out⟩)
            · clear hlt2
              by_cases h5 : (r.inputs.length : Int) ≤ 5
              · by_cases h8 : (L.length : Int) ≤ 8
                · by_cases h60 : (r.output.size : Int) ≤ 60
                  · first
                      | (exfalso; omega)
                      | (go_wp2_with fail; go_ret; exact ⟨_, rfl, (fun _ => ⟨by omega, by rw [HLen.out]; omega⟩), HB.out⟩)
                  · first
                      | (exfalso; omega)
                      | (go_wp2_with fail; go_ret; exact ⟨_, rfl, (fun h => by (cases h)), HB.out⟩)
                · first
                    | (exfalso; omega)
                    | (go_wp2_with fail; go_ret; exact ⟨_, rfl, (fun h => by (cases h)), HB.out⟩)
              · first
                  | (exfalso; omega)
                  | (go_wp2_with fail; go_ret; exact ⟨_, rfl, (fun h => by (cases h)), HB.out⟩)
end Go.Proofs.YtacgopankhpnbaaGreatDoor
/- Walk of ladinglaw33.small. -/
namespace Go.Proofs.YtacgopankhpnbaaGreatDoor
open Go.RowKit

theorem exRight (o : ByteArray) (h : o = ⟨#[100]⟩ ∨ o = ⟨#[99]⟩) : inspectE (exR o) = 0 := by
  rcases h with rfl | rfl <;> kernel_rfl
theorem exDo (o : ByteArray) : ∀ s, s ∈ (exR o).steps → DoAll C0 s := by
  intro s hs
  have : s ∈ exSteps := hs
  simp only [exSteps, List.mem_cons, List.not_mem_nil, or_false] at this
  rcases this with rfl | rfl | rfl <;> exact doAll_plain (by decide)
/-- What Run of the example comes to. -/
def ExRunPost (w : World) (e : Ending) (w' : World) : Prop := ∃ b o c, e = .returned (.tuple #[.slice (some ⟨b, o, none⟩) 3 c, .string ⟨#[121, 120, 55, 59, 10]⟩, .int .i64 0]) ∧ w'.cell? ⟨b, o, none⟩ = some (.int .i64 2) ∧ w'.cell? ⟨b, o + 3, none⟩ = some (.int .i64 0) ∧ w'.cell? ⟨b, o + 6, none⟩ = some (.int .i64 1) ∧ 3 ≤ c ∧ Below w.heap.size w w'
theorem exRun_any (L : List (Value × Stp)) (vi vs vc vo vn : Value) (w : World) (h : RcpIn (exR ⟨#[100]⟩) L vi vs w) (hw : WldIn [7] [] [1] vc vo vn w) (hG : Glob w) :
    Calls Tryz.prog 29 #[rcpV vi vs ⟨#[100]⟩, .agg #[vc, vo, vn]] w (ExRunPost w) := by
  refine (run_good C0 (exR ⟨#[100]⟩) L vi vs vc vo vn [7] [] [1] w h hw hG (exDo _) (exRight _ (.inl rfl))).mono ?_
  rw [exRun]
  rintro e w' ⟨hb, v, M, rfl, hD, hM⟩
  have hl : M.length = 3 := by have := congrArg List.length hM; simpa using this
  rcases hD.cases with ⟨e, -⟩ | ⟨b, o, c, rfl, -, hc1, -, -, hc⟩
  · rw [e] at hl; cases hl
  rw [hl] at hc1 ⊢
  have at_ : ∀ i s, ((M.map (·.2))[i]?).map (·.step) = some s → w'.cell? ⟨b, o + i * 3, none⟩ = some (.int .i64 s) := fun i s hs => by
    rw [List.getElem?_map] at hs
    cases hy : M[i]? with
    | none => rw [hy] at hs; cases hs
    | some y =>
      rw [hy] at hs
      have := (hc i y hy).1
      rw [this]
      simp at hs; rw [hs]
  rw [hM] at at_
  exact ⟨b, o, c, rfl, at_ 0 2 rfl, at_ 1 0 rfl, at_ 2 1 rfl, hc1, hb⟩

set_option maxRecDepth 100000 in
set_option maxHeartbeats 8000000 in
theorem small33_any (w : World) (hG : Glob w) :
    Calls Tryz.prog 25 #[] w fun e w' => e = .returned (.bool true) ∧ Below w.heap.size w w' := by
  have HG := Lib.hid hG; clear hG
  go_enter Tryz.func25, Tryz.ntmps25
  go_wp2_with fail
  refine (example_any ⟨#[100]⟩ _ (by decide)).mono ?_
  rintro e w1 ⟨vi, vs, L, rfl, hr, hb⟩
  obtain ⟨ai, ci, av, cv, rfl, rfl⟩ := hr.slices
  have HB1 := Lib.hid hb
  have HR1 := Lib.hid hr
  clear hb hr
  go_wp2_with fail
  refine (exRun_any L _ _ _ _ _ _ (HR1.out.later (below_trans (below_alloc w1 (.cells #[.int .i64 7] 3)) (below_alloc _ (.cells #[.int .i64 1] 3)))) ⟨(ints_made [7] (alloc_self w1 _) rfl (by decide)).later (below_alloc _ _), ints_nil _, ?_, ?_, ?_, ?_⟩ ?_).mono ?_
  · have := ints_made (w := (w1.alloc (.cells #[.int .i64 7] 3)).alloc (.cells #[.int .i64 1] 3)) (g := w1.heap.size + 1) (cs := #[.int .i64 1]) (t := 3) (fr := (0, 0)) [1] (by have := alloc_self (w1.alloc (.cells #[.int .i64 7] 3)) (.cells #[.int .i64 1] 3); simpa only [World.size_alloc] using this) rfl (by decide)
    exact this
  · intro x hx; simp at hx; subst hx; decide
  · intro x hx; cases hx
  · intro x hx; simp at hx; subst hx; decide
  · exact HG.out.later (below_trans HB1.out (below_trans (below_alloc _ _) (below_alloc _ _)))
  rintro e w2 ⟨b, o, c, rfl, c0, c1, c2, hc3, hb⟩
  have HB2 := Lib.hid (below_trans HB1.out (below_trans (below_trans (below_alloc _ _) (below_alloc _ _)) hb))
  have hx : ((⟨#[121, 120, 55, 59, 10]⟩ : ByteArray).extract 0 2).toList = [121, 120] := by rw [toList_eq]; kernel_rfl
  clear hb HR1
  go_wp2_with fail
  refine (example_any ⟨#[100]⟩ _ (by decide)).mono ?_
  rintro e w3 ⟨vi3, vs3, L3, rfl, hr, hb⟩
  have HO3 := Lib.hid (order_any _ _ _ _ _ hr)
  have HB3 := Lib.hid (below_trans HB2.out hb)
  obtain ⟨ai3, ci3, av3, cv3, rfl, rfl⟩ := hr.slices
  rw [exOrder] at HO3
  clear hb hr
  go_wp2_with fail
  refine HO3.out.mono ?_
  rintro e w4 ⟨v4, rfl, hI, -, hb⟩
  have HB4 := Lib.hid (below_trans HB3.out hb)
  have HI4 := Lib.hid (ints33_any _ _ _ _ _ (hI.later (below_alloc w4 (.cells #[.int .i64 0, .int .i64 1, .int .i64 2] 3))) (ints_made [0, 1, 2] (alloc_self w4 _) rfl (by decide)))
  rw [decide_eq_true (show natInts [0, 1, 2] = [0, 1, 2] from rfl)] at HI4
  clear hI hb HO3
  go_wp2_with fail
  refine HI4.out.mono ?_
  rintro e w5 ⟨rfl, hb⟩
  have HB5 := Lib.hid (below_trans (below_trans HB4.out (below_alloc _ _)) hb)
  clear hb HI4
  go_wp2_with fail
  refine (example_any ⟨#[100]⟩ _ (by decide)).mono ?_
  rintro e w6 ⟨vi6, vs6, L6, rfl, hr, hb⟩
  have HO6 := Lib.hid (slice_any _ _ _ _ _ hr)
  have HB6 := Lib.hid (below_trans HB5.out hb)
  obtain ⟨ai6, ci6, av6, cv6, rfl, rfl⟩ := hr.slices
  rw [exSliceD] at HO6
  clear hb hr
  go_wp2_with fail
  refine HO6.out.mono ?_
  rintro e w7 ⟨v7, rfl, hI, -, hb⟩
  have HB7 := Lib.hid (below_trans HB6.out hb)
  have HI7 := Lib.hid (ints33_any _ _ _ _ _ (hI.later (below_alloc w7 (.cells #[.int .i64 0, .int .i64 1] 3))) (ints_made [0, 1] (alloc_self w7 _) rfl (by decide)))
  rw [decide_eq_true (show natInts [0, 1] = [0, 1] from rfl)] at HI7
  clear hI hb HO6
  go_wp2_with fail
  refine HI7.out.mono ?_
  rintro e w8 ⟨rfl, hb⟩
  have HB8 := Lib.hid (below_trans (below_trans HB7.out (below_alloc _ _)) hb)
  clear hb HI7
  go_wp2_with fail
  refine (example_any ⟨#[99]⟩ _ (by decide)).mono ?_
  rintro e w9 ⟨vi9, vs9, L9, rfl, hr, hb⟩
  have HO9 := Lib.hid (slice_any _ _ _ _ _ hr)
  have HB9 := Lib.hid (below_trans HB8.out hb)
  obtain ⟨ai9, ci9, av9, cv9, rfl, rfl⟩ := hr.slices
  rw [exSliceC] at HO9
  clear hb hr
  go_wp2_with fail
  refine HO9.out.mono ?_
  rintro e w10 ⟨v10, rfl, hI, -, hb⟩
  have HB10 := Lib.hid (below_trans HB9.out hb)
  have HI10 := Lib.hid (ints33_any _ _ _ _ _ (hI.later (below_alloc w10 (.cells #[.int .i64 0] 3))) (ints_made [0] (alloc_self w10 _) rfl (by decide)))
  rw [decide_eq_true (show natInts [0] = [0] from rfl)] at HI10
  clear hI hb HO9
  go_wp2_with fail
  refine HI10.out.mono ?_
  rintro e w11 ⟨rfl, hb⟩
  have HB11 := Lib.hid (below_trans (below_trans HB10.out (below_alloc _ _)) hb)
  clear hb HI10
  go_wp2_with fail
  refine (example_any ⟨#[100]⟩ _ (by decide)).mono ?_
  rintro e w12 ⟨vi12, vs12, L12, rfl, hr, hb⟩
  have HO12 := Lib.hid (pure_any _ _ _ _ _ hr)
  have HB12 := Lib.hid (below_trans HB11.out hb)
  obtain ⟨ai12, ci12, av12, cv12, rfl, rfl⟩ := hr.slices
  rw [exPureD] at HO12
  clear hb hr
  go_wp2_with fail
  refine HO12.out.mono ?_
  rintro e w13 ⟨rfl, hb⟩
  have HB13 := Lib.hid (below_trans HB12.out hb)
  clear hb HO12
  go_wp2_with fail
  refine (example_any ⟨#[99]⟩ _ (by decide)).mono ?_
  rintro e w14 ⟨vi14, vs14, L14, rfl, hr, hb⟩
  have HO14 := Lib.hid (pure_any _ _ _ _ _ hr)
  have HB14 := Lib.hid (below_trans HB13.out hb)
  obtain ⟨ai14, ci14, av14, cv14, rfl, rfl⟩ := hr.slices
  rw [exPureC] at HO14
  clear hb hr
  go_wp2_with fail
  refine HO14.out.mono ?_
  rintro e w15 ⟨rfl, hb⟩
  have HB15 := Lib.hid (below_trans HB14.out hb)
  clear hb HO14
  go_wp2_with fail
  go_ret
  exact ⟨rfl, HB15.out⟩
end Go.Proofs.YtacgopankhpnbaaGreatDoor
/- Lemmas for ladinglaw33.BuildRefuses: a list of steps with one more, in memory. -/
namespace Go.Proofs.YtacgopankhpnbaaGreatDoor
open Go.RowKit

theorem stpInfo : (Tryz.prog.info? 24).map (fun i => (i.zero, i.size, i.bytes)) = some (some (.agg #[.int .i64 0, .slice none 0 0, .string ByteArray.empty, .bool false]), 4, 56) := by kernel_rfl
theorem alloc_at1 (w : World) (o1 o2 : Obj) : ((w.alloc o1).alloc o2).heap[w.heap.size + 1]? = some o2 := by
  have := alloc_self (w.alloc o1) o2
  simpa only [World.size_alloc] using this
theorem alloc_at2 (w : World) (o1 o2 o3 : Obj) : (((w.alloc o1).alloc o2).alloc o3).heap[w.heap.size + 1 + 1]? = some o3 := by
  have := alloc_self ((w.alloc o1).alloc o2) o3
  simpa only [World.size_alloc] using this
theorem alloc_up1 {w : World} {o o2 : Obj} {k : Nat} (h : w.heap[k]? = some o) : (w.alloc o2).heap[k]? = some o := heap_up (below_alloc _ _) h
/-- An empty list that the call itself has made. -/
theorem own_empty {w : World} {base g : Nat} {t : TypeId} (h : w.heap[g]? = some (.cells #[] t)) (hb : base ≤ g) : w.ownsRow base t 4 (.slice (some ⟨g, 0, none⟩) 0 0) 0 [] :=
  ⟨rfl, .inr ⟨g, 0, #[], rfl, hb, h, Nat.le_refl _, Nat.zero_le _, rfl, rfl⟩⟩
/-- The cells of the steps that came in. -/
def NewsAt (w : World) (b o : Nat) (news : List Value) : Prop := ∀ (j : Nat) (u : Value), news[j]? = some u → w.cell? ⟨b, o + j, none⟩ = some u
theorem NewsAt.later {w w' : World} {b o : Nat} {news : List Value} (h : NewsAt w b o news) (hb : Below w.heap.size w w') : ∀ (j : Nat) (u : Value), news[j]? = some u → w'.cell? ((⟨b, o, none⟩ : Addr).add j) = some u := fun j u hu => by
  rw [Addr.add_lit]; exact cell_later hb (h j u hu)
theorem stpCells_len (L : List (Value × Stp)) : (L.flatMap stpCells).length = L.length * 4 := by
  induction L with
  | nil => rfl
  | cons a l ih => rw [List.flatMap_cons, List.length_append, ih]; simp; omega
theorem stps_news {w : World} {b o c : Nat} {L : List (Value × Stp)} (h : Stps w (.slice (some ⟨b, o, none⟩) L.length c) L) : NewsAt w b o (L.flatMap stpCells) := by
  intro j u hu
  have hlen : ∀ y, y ∈ L → (stpCells y).length = 4 := fun y _ => rfl
  rcases h.cases with ⟨e, -⟩ | ⟨b', o', c', e, h0, -, -, -, hc⟩
  · subst e; simp at hu
  injection e with e1
  cases e1
  have hj : j < L.length * 4 := by
    have := (List.getElem?_eq_some_iff.1 hu).1
    rw [stpCells_len] at this
    omega
  have hi : j / 4 < L.length := by omega
  have h1 := flatMap_at stpCells L (j / 4) L[j / 4] (j % 4) hlen (List.getElem?_eq_getElem hi) (by omega)
  rw [show j / 4 * 4 + j % 4 = j by omega, hu] at h1
  obtain ⟨s0, s1, s2, s3, -⟩ := hc (j / 4) L[j / 4] (List.getElem?_eq_getElem hi)
  have hm : j % 4 = 0 ∨ j % 4 = 1 ∨ j % 4 = 2 ∨ j % 4 = 3 := by omega
  rcases hm with hm | hm | hm | hm
  · rw [hm] at h1; cases h1; rw [show o + j = o + j / 4 * 4 by omega]; exact s0
  · rw [hm] at h1; cases h1; rw [show o + j = o + j / 4 * 4 + 1 by omega]; exact s1
  · rw [hm] at h1; cases h1; rw [show o + j = o + j / 4 * 4 + 2 by omega]; exact s2
  · rw [hm] at h1; cases h1; rw [show o + j = o + j / 4 * 4 + 3 by omega]; exact s3
theorem stpCells_one {w : World} {v : Value} {L : List (Value × Stp)} (h : Stps w v L) : ∀ u, u ∈ L.flatMap stpCells → u.oneCell' = true := by
  intro u hu
  obtain ⟨y, hy, hu⟩ := List.mem_flatMap.1 hu
  obtain ⟨a, c, hv⟩ := strs_slice (h.src hy).1
  simp only [stpCells, List.mem_cons, List.not_mem_nil, or_false] at hu
  rcases hu with rfl | rfl | rfl | rfl
  · rfl
  · rw [hv]; rfl
  · rfl
  · rfl
/-- Behind an append to a list of the call's own: the elder blocks are as they were. -/
theorem grown_new {w before x : World} {g : Nat} (hb : Below w.heap.size w before) (hg : before.grownBy x (some g)) (hw : w.heap.size ≤ g) : Below w.heap.size w x :=
  ⟨hg.os.trans hb.os, hg.tape.trans hb.tape, hg.output.trans hb.output, by have := hg.size; have := hb.size; omega, fun j hj => (hg.block j (by have := hb.size; omega) (fun e => by cases e; omega)).trans (hb.block j hj)⟩
theorem stps_of_owns {w : World} {base : Nat} {e : TypeId} {v : Value} {l : List (Value × Stp)} (h : w.ownsRow base e 4 v l.length (l.flatMap stpCells)) (hz : ∀ y, y ∈ l → Strs w y.1 y.2.src ∧ y.2.out.size ≤ 140737488355328) : Stps w v l := by
  rcases h.2 with ⟨rfl, h0⟩ | ⟨g, cap, cur, rfl, hg, hgb, r1, r2, r3, r4⟩
  · have := List.eq_nil_of_length_eq_zero h0
    subst this
    exact ⟨none, 0, rfl, by simp, by simp, fun h => absurd rfl h⟩
  · refine ⟨_, cap, rfl, r1, r2, fun _ => ⟨g, 0, rfl, fun i y hy => ⟨_, ⟨rfl, hz y (List.mem_of_getElem? hy)⟩, rfl, fun j u hu => ?_⟩⟩⟩
    have hi := (List.getElem?_eq_some_iff.1 hy).1
    have hj : j < 4 := (List.getElem?_eq_some_iff.1 hu).1
    have h1 := flatMap_at stpCells l i y j (fun y _ => rfl) hy hj
    rw [show (stpCells y)[j]? = some u from hu] at h1
    have := congrArg (fun t : List Value => t[i * 4 + j]?) r4
    rw [List.getElem?_take, if_pos (by omega), h1] at this
    have h2 : cur[i * 4 + j]? = some u := by simpa using this
    simp [World.cell?, hgb, h2]
/-- A recipe with one more step. -/
theorem rcp_more {r : Rcp} {L : List (Value × Stp)} {vi vs vf v : Value} {w x : World} {base : Nat} {e : TypeId} {t : Stp} (h : RcpIn r L vi vs w) (hb : Below w.heap.size w x) (hown : x.ownsRow base e 4 v (L.length + 1) (L.flatMap stpCells ++ [.int .i64 t.kind, vf, .string t.out, .bool t.sorted])) (hs : Strs x vf t.src) (ho : t.out.size ≤ 140737488355328) :
    RcpIn (more r t) (L ++ [(vf, t)]) vi v x := by
  refine ⟨h.inp.later hb, stps_of_owns (by simpa using hown) (fun y hy => ?_), by simp [more, h.map], h.out⟩
  rcases List.mem_append.1 hy with hy | hy
  · exact ⟨((h.stp.src hy).1).later hb, (h.stp.src hy).2⟩
  · simp at hy; subst hy; exact ⟨hs, ho⟩
/-- A copy of a recipe that has one more step; w5: the world before the copy's box was made. -/
structure TwS (r : Rcp) (t : Stp) (vi : Value) (p : Nat) (w5 wx : World) : Prop where
  rcp : ∃ (a : Option Addr) (n c : Nat) (L : List (Value × Stp)), RcpIn (more r t) L vi (.slice a n c) wx ∧ wx.heap[p]? = some (rcpBox vi (.slice a n c) r.output)
  below : Below w5.heap.size w5 wx
theorem tw_made {r : Rcp} {L : List (Value × Stp)} {vi vs : Value} {w5 w6 x : World} {p f g c : Nat} {s out : ByteArray} {t9 e : TypeId} (hr : RcpIn r L vi vs w5) (h56 : Below w5.heap.size w5 w6) (hp : p = w5.heap.size) (h6 : p < w6.heap.size) (hT : w6.heap[p]? = some (rcpBox vi vs r.output)) (hb : Below w6.heap.size w6 x)
    (hown : x.ownsRow w6.heap.size e 4 (.slice (some ⟨g, 0, none⟩) (L.length + 1) c) (L.length + 1) (L.flatMap stpCells ++ [.int .i64 0, .slice (some ⟨f, 0, none⟩) 1 1, .string out, .bool false])) (hf : x.heap[f]? = some (.cells #[.string s] t9)) (hs : s.size ≤ 140737488355328) (ho : out.size ≤ 140737488355328) :
    TwS r (copyStep s out) vi p w5 (x.setCell ⟨p, 1, none⟩ (.slice (some ⟨g, 0, none⟩) (L.length + 1) c)) := by
  have hx : x.heap[p]? = some (rcpBox vi vs r.output) := heap_up hb hT
  have hfp : f ≠ p := by
    rintro rfl
    rw [hf] at hx
    simp at hx
  have hb5 : Below w5.heap.size w5 (x.setCell ⟨p, 1, none⟩ (.slice (some ⟨g, 0, none⟩) (L.length + 1) c)) := (below_trans h56 hb).setCell (by simp; omega) _
  refine ⟨⟨some ⟨g, 0, none⟩, L.length + 1, c, L ++ [(.slice (some ⟨f, 0, none⟩) 1 1, copyStep s out)], ?_, ?_⟩, hb5⟩
  · refine rcp_more (t := copyStep s out) (base := w6.heap.size) (e := e) hr hb5 (ownsRow_setCell_below hown (a := ⟨p, 1, none⟩) (by simp; omega) _) ?_ ho
    have hf2 : (x.setCell ⟨p, 1, none⟩ (.slice (some ⟨g, 0, none⟩) (L.length + 1) c)).heap[f]? = some (.cells #[.string s] t9) := by
      rw [Below.heap_setCell _ _ _ _ (by simpa using hfp)]; exact hf
    exact strs_made [s] hf2 rfl (by show (1 : Nat) ≤ _; decide) (fun y hy => by simp at hy; subst hy; exact hs)
  · simp [World.setCell, Array.getElem?_modify, hx]
end Go.Proofs.YtacgopankhpnbaaGreatDoor
/- The walk of ladinglaw33.BuildRefuses. -/
namespace Go.Proofs.YtacgopankhpnbaaGreatDoor
open Go.RowKit

abbrev lostB : ByteArray := ⟨#[110, 111, 115, 117, 99, 104, 126, 126, 126, 126]⟩
abbrev lostX : ByteArray := ⟨#[110, 111, 115, 117, 99, 104, 126, 126, 126, 126, 33]⟩
theorem lost_eq : ((((⟨#[110, 111, 32, 115, 117, 99, 104, 32, 102, 105, 108, 101]⟩ : ByteArray).extract 0 2 ++ (⟨#[110, 111, 32, 115, 117, 99, 104, 32, 102, 105, 108, 101]⟩ : ByteArray).extract 3 7) ++ (⟨#[126, 126, 126, 126]⟩ : ByteArray))) = lostB := by kernel_rfl
/-- Is a name neither of the two? -/
def freeN (lost : ByteArray) (x : ByteArray) : Bool := !decide (x = lost) && !decide (x = lost ++ ⟨#[33]⟩)
theorem freeN_eq (lost x : ByteArray) : freeN lost x = (!(x.toList == lost.toList) && !(x.toList == (lost ++ (⟨#[33]⟩ : ByteArray)).toList)) := by
  rw [beq_toList, beq_toList]; rfl
theorem toList_inj {a b : ByteArray} : a.toList = b.toList ↔ a = b := by
  rw [toList_eq, toList_eq]
  exact ⟨bytes_ext, fun h => by rw [h]⟩
theorem box3f {w : World} {k : Nat} {a b c : Value} {t : TypeId} (h : w.heap[k]? = some (.cells #[a, b, c] t)) : w.cell? ⟨k, 0, none⟩ = some a ∧ w.cell? ⟨k, 1, none⟩ = some b ∧ w.cell? ⟨k, 2, none⟩ = some c ∧ w.frozen? ⟨k, 0, none⟩ = false ∧ w.frozen? ⟨k, 1, none⟩ = false ∧ w.frozen? ⟨k, 2, none⟩ = false := by
  refine ⟨?_, ?_, ?_, ?_, ?_, ?_⟩ <;> simp [World.cell?, World.frozen?, h]
theorem grown_cast {w x : World} {r : Option Nat} {g : Nat} (h : w.grownBy x r) (e : r = some g) : w.grownBy x (some g) := e ▸ h
theorem lies_at {v : Value} {g gg n m : Nat} (h : v.ownBlock = some gg ∨ gg = n) (e : n = m) (ev : v.ownBlock = some g := by rfl) : gg = g ∨ gg = m := by
  rcases h with h | h
  · rw [ev] at h; exact .inl (Option.some.inj h).symm
  · exact .inr (h.trans e)
theorem own_cast {x : World} {base : Nat} {e : TypeId} {a : Option Addr} {m c : Nat} {l : List Value} (h : x.ownsRow base e 4 (.slice a (0 + m) c) (0 + m) ([] ++ l)) : x.ownsRow base e 4 (.slice a m c) m l := by
  rw [Nat.zero_add, List.nil_append] at h; exact h
def TrueBelow (w : World) (e : Ending) (w' : World) : Prop := e = .returned (.bool true) ∧ Below w.heap.size w w'

set_option maxRecDepth 100000 in
set_option maxHeartbeats 8000000 in
theorem refuses_any (r : Rcp) (L : List (Value × Stp)) (vi vs vc vo vn : Value) (clock order next : List Int) (kk : Int) (w : World) (h : RcpIn r L vi vs w) (hw : WldIn clock order next vc vo vn w) (hG : Glob w) :
    Calls Tryz.prog 10 #[rcpV vi vs r.output, .agg #[vc, vo, vn], .int .i64 kk] w (TrueBelow w) := by
  have HR := Lib.hid h
  have HW := Lib.hid hw
  have HG := Lib.hid hG
  obtain ⟨⟨a1, c1, rfl⟩, ⟨a2, c2, rfl⟩, ⟨a3, c3, rfl⟩⟩ := hw.slices
  obtain ⟨ai, ci, av, cv, rfl, rfl⟩ := h.slices
  have hlen := h.len
  have HLen := Lib.hid hlen
  clear h hw hG hlen
  have B1 := below_alloc w (rcpBox (.slice ai r.inputs.length ci) (.slice av L.length cv) r.output)
  have B2 := below_alloc (w.alloc (rcpBox (.slice ai r.inputs.length ci) (.slice av L.length cv) r.output)) (wldBox (.slice a1 clock.length c1) (.slice a2 order.length c2) (.slice a3 next.length c3))
  have HB0 := Lib.hid (below_trans B1 B2)
  have HRb := Lib.hid (heap_up B2 (alloc_self w (rcpBox (.slice ai r.inputs.length ci) (.slice av L.length cv) r.output)))
  have HWb := Lib.hid (show ((w.alloc (rcpBox (.slice ai r.inputs.length ci) (.slice av L.length cv) r.output)).alloc (wldBox (.slice a1 clock.length c1) (.slice a2 order.length c2) (.slice a3 next.length c3))).heap[w.heap.size + 1]? = some (wldBox (.slice a1 clock.length c1) (.slice a2 order.length c2) (.slice a3 next.length c3)) by
    have := alloc_self (w.alloc (rcpBox (.slice ai r.inputs.length ci) (.slice av L.length cv) r.output)) (wldBox (.slice a1 clock.length c1) (.slice a2 order.length c2) (.slice a3 next.length c3))
    simpa only [World.size_alloc] using this)
  clear B1 B2
  go_enter Tryz.func10, Tryz.ntmps10
  go_wp2_with fail
  refine (small33_any _ (HG.out.later HB0.out)).mono ?_
  rintro e w1 ⟨rfl, hb⟩
  replace HRb := Lib.hid (heap_up hb HRb.out)
  replace HWb := Lib.hid (heap_up hb HWb.out)
  replace HB0 := Lib.hid (below_trans HB0.out hb)
  clear hb
  obtain ⟨r0, r1, r2⟩ := box3 HRb.out
  go_wp2_with fail
  refine (few_any r L _ _ w1 (HR.out.later HB0.out)).mono ?_
  rintro e w2 ⟨q, rfl, hq, hb⟩
  replace HRb := Lib.hid (heap_up hb HRb.out)
  replace HWb := Lib.hid (heap_up hb HWb.out)
  replace HB0 := Lib.hid (below_trans HB0.out hb)
  clear hb r0 r1 r2
  cases q with
  | false =>
    clear hq
    go_wp2_with fail
    go_ret
    exact ⟨rfl, HB0.out⟩
  | true =>
    have HFew := Lib.hid (hq rfl)
    clear hq
    obtain ⟨x0, x1, x2⟩ := box3 HWb.out
    go_wp2_with fail
    refine (light_any _ _ _ _ _ _ _ _ _ w2).mono ?_
    rintro e w3 ⟨q, rfl, hb⟩
    replace HRb := Lib.hid (heap_up hb HRb.out)
    replace HWb := Lib.hid (heap_up hb HWb.out)
    replace HB0 := Lib.hid (below_trans HB0.out hb)
    clear hb x0 x1 x2
    cases q with
    | false =>
      go_wp2_with fail
      go_ret
      exact ⟨rfl, HB0.out⟩
    | true =>
      obtain ⟨r0, r1, r2⟩ := box3 HRb.out
      go_wp2_with fail
      refine (right_any r L _ _ w3 (HR.out.later HB0.out)).mono ?_
      rintro e w4 ⟨rfl, hb⟩
      replace HRb := Lib.hid (heap_up hb HRb.out)
      replace HWb := Lib.hid (heap_up hb HWb.out)
      replace HB0 := Lib.hid (below_trans HB0.out hb)
      clear hb r0 r1 r2
      by_cases he : inspectE r = 0
      · have HOk := Lib.hid (inspectE_ok he)
        rw [he]
        obtain ⟨r0, r1, r2⟩ := box3 HRb.out
        have hf1 : (r.inputs.length : Int) ≤ 5 := by have := HFew.out.1; omega
        have hf2 : (L.length : Int) ≤ 8 := by have := HFew.out.2; rw [HLen.out] at this; omega
        clear he
        go_wp2_with fail
        go_region
        go_wp2_with fail
        replace HRb := Lib.hid (show w4.drew.heap[w.heap.size]? = _ from HRb.out)
        replace HWb := Lib.hid (show w4.drew.heap[w.heap.size + 1]? = _ from HWb.out)
        replace HB0 := Lib.hid (HB0.out.drew)
        clear r0 r1 r2
        generalize w4.drew = w5 at HRb HWb HB0 ⊢
        generalize hLo : ((((⟨#[110, 111, 32, 115, 117, 99, 104, 32, 102, 105, 108, 101]⟩ : ByteArray).extract 0 2 ++ (⟨#[110, 111, 32, 115, 117, 99, 104, 32, 102, 105, 108, 101]⟩ : ByteArray).extract 3 7) ++ (⟨#[126, 126, 126, 126]⟩ : ByteArray))) = lost
        have HLo := Lib.hid (hLo.symm.trans lost_eq)
        clear hLo
        have HRi := Lib.hid (HR.out.later HB0.out)
        obtain ⟨r0, r1, r2⟩ := box3 HRb.out
        have hls : lost.size ≤ 100 := by rw [HLo.out]; decide
        go_loop [9, 10] (fun fr i => ∃ (k : Nat) (q : Bool), k ≤ r.inputs.length ∧ i = .int .i64 k ∧ fr = .bool q ∧ Hid (q = (r.inputs.take k).all fun f => freeN lost f.name)) (fun _ i => r.inputs.length - (intOf i).toNat)
        case atStart => exact ⟨0, true, Nat.zero_le _, rfl, rfl, Lib.hid rfl⟩
        case round =>
          obtain ⟨k, q, hk, rfl, rfl, HQ⟩ := hrel
          by_cases hlt : k < r.inputs.length
          · obtain ⟨f, hf, -⟩ := getElem?_of_lt hlt
            have HTk := Lib.hid (show (r.inputs.take (k + 1)).all (fun f => freeN lost f.name) = ((r.inputs.take k).all (fun f => freeN lost f.name) && freeN lost f.name) by rw [List.take_add_one, hf, List.all_append]; simp)
            rcases HRi.out.inp.cases with ⟨e, -⟩ | ⟨b, o, c, e, -, -, -, -, hc⟩
            · rw [e] at hlt; simp at hlt
            obtain ⟨rfl, rfl⟩ : ai = some ⟨b, o, none⟩ ∧ ci = c := by injection e with e1 e2 e3; exact ⟨e1, e3⟩
            obtain ⟨f0, -, -, -⟩ := hc k f hf
            clear hc e hf
            cases q with
            | false =>
              go_wp2_with fail
              go_round
              case rel => exact ⟨k + 1, false, by omega, by go_num, rfl, Lib.hid (by rw [HTk.out, ← HQ.out]; rfl)⟩
              case measure => simp [intOf]; omega
            | true =>
              have HF := Lib.hid (freeN_eq lost f.name)
              cases b1 : (f.name.toList == lost.toList) with
              | true =>
                have HF2 := Lib.hid (show freeN lost f.name = false by rw [HF.out, b1]; rfl)
                go_wp2_with fail
                go_round
                case rel => exact ⟨k + 1, false, by omega, by go_num, by first | rfl | simp [b1], Lib.hid (by rw [HTk.out, HF2.out, Bool.and_false])⟩
                case measure => simp [intOf]; omega
              | false =>
                have HF2 := Lib.hid (show freeN lost f.name = !(f.name.toList == (lost ++ (⟨#[33]⟩ : ByteArray)).toList) by rw [HF.out, b1]; rfl)
                go_wp2_with fail
                go_round
                case rel => exact ⟨k + 1, !(f.name.toList == (lost ++ (⟨#[33]⟩ : ByteArray)).toList), by omega, by go_num, by first | rfl | simp [b1], Lib.hid (by rw [HTk.out, ← HQ.out, HF2.out]; rfl)⟩
                case measure => simp [intOf]; omega
          · obtain rfl : k = r.inputs.length := by omega
            rw [List.take_length] at HQ
            go_wp2_with fail
            go_loop [9, 11] (fun fr i => ∃ (k : Nat) (q2 : Bool), k ≤ L.length ∧ i = .int .i64 k ∧ fr = .bool q2 ∧ Hid (q2 = (q && (L.take k).all fun y => freeN lost y.2.out))) (fun _ i => L.length - (intOf i).toNat)
            case atStart => exact ⟨0, q, Nat.zero_le _, rfl, rfl, Lib.hid (by simp)⟩
            case round =>
              obtain ⟨k, q2, hk, rfl, rfl, HQ2⟩ := hrel
              by_cases hlt : k < L.length
              · obtain ⟨y, hy, -⟩ := getElem?_of_lt hlt
                have HTk := Lib.hid (show (L.take (k + 1)).all (fun y => freeN lost y.2.out) = ((L.take k).all (fun y => freeN lost y.2.out) && freeN lost y.2.out) by rw [List.take_add_one, hy, List.all_append]; simp)
                rcases HRi.out.stp.cases with ⟨e, -⟩ | ⟨b, o, c, e, -, -, -, -, hc⟩
                · rw [e] at hlt; simp at hlt
                obtain ⟨rfl, rfl⟩ : av = some ⟨b, o, none⟩ ∧ cv = c := by injection e with e1 e2 e3; exact ⟨e1, e3⟩
                obtain ⟨-, -, f0, -, -, -⟩ := hc k y hy
                clear hc e hy
                obtain ⟨yv, kind, src, yo, sorted⟩ := y
                simp only at f0 HTk
                cases q2 with
                | false =>
                  go_wp2_with fail
                  go_round
                  case rel => exact ⟨k + 1, false, by omega, by go_num, rfl, Lib.hid (by rw [HTk.out, ← Bool.and_assoc, ← HQ2.out]; rfl)⟩
                  case measure => simp [intOf]; omega
                | true =>
                  have HF := Lib.hid (freeN_eq lost yo)
                  cases b1 : (yo.toList == lost.toList) with
                  | true =>
                    have HF2 := Lib.hid (show freeN lost yo = false by rw [HF.out, b1]; rfl)
                    go_wp2_with fail
                    go_round
                    case rel => exact ⟨k + 1, false, by omega, by go_num, by first | rfl | simp [b1], Lib.hid (by rw [HTk.out, HF2.out, Bool.and_false, Bool.and_false])⟩
                    case measure => simp [intOf]; omega
                  | false =>
                    have HF2 := Lib.hid (show freeN lost yo = !(yo.toList == (lost ++ (⟨#[33]⟩ : ByteArray)).toList) by rw [HF.out, b1]; rfl)
                    go_wp2_with fail
                    go_round
                    case rel => exact ⟨k + 1, !(yo.toList == (lost ++ (⟨#[33]⟩ : ByteArray)).toList), by omega, by go_num, by first | rfl | simp [b1], Lib.hid (by rw [HTk.out, ← Bool.and_assoc, ← HQ2.out, HF2.out]; rfl)⟩
                    case measure => simp [intOf]; omega
              · obtain rfl : k = L.length := by omega
                rw [List.take_length] at HQ2
                cases q2 with
                | false =>
                  go_wp2_with fail
                  go_ret
                  exact ⟨rfl, HB0.out⟩
                | true =>
                  by_cases hk0 : kk < 0
                  · go_wp2_with fail
                    go_ret
                    exact ⟨rfl, HB0.out⟩
                  · by_cases hk1 : (L.length : Int) ≤ kk
                    · go_wp2_with fail
                      go_ret
                      exact ⟨rfl, HB0.out⟩
                    · obtain ⟨k, rfl⟩ : ∃ k : Nat, kk = (k : Int) := ⟨kk.toNat, by omega⟩
                      go_wp2_with fail
                      obtain ⟨y, hy, hym⟩ := getElem?_of_lt (l := L) (k := k) (by omega)
                      rcases HRi.out.stp.cases with ⟨e, -⟩ | ⟨b, o, c, e, -, -, -, -, hc⟩
                      · rw [e] at hy; simp at hy
                      obtain ⟨rfl, rfl⟩ : av = some ⟨b, o, none⟩ ∧ cv = c := by injection e with e1 e2 e3; exact ⟨e1, e3⟩
                      obtain ⟨-, -, s2, -, -, hso⟩ := hc k y hy
                      have HQ' := Lib.hid (show ((r.inputs.all fun f => freeN lost f.name) && L.all fun y => freeN lost y.2.out) = true by rw [← HQ.out]; exact HQ2.out.symm)
                      have HYm := Lib.hid (show ∃ s, s ∈ r.steps ∧ s.out = y.2.out from ⟨y.2, by rw [← HR.out.map]; exact List.mem_map.2 ⟨y, hym, rfl⟩, rfl⟩)
                      have HTo := Lib.hid s2
                      have HSo := Lib.hid hso
                      generalize y.2.out = yo at HTo HSo HYm
                      clear hc e hy hym s2 hso HQ HQ2 r0 r1 r2
                      have B12 := below_alloc w5 (rcpBox (.slice ai r.inputs.length ci) (.slice (some ⟨b, o, none⟩) L.length cv) r.output)
                      have H56 := Lib.hid B12
                      have HT := Lib.hid (alloc_self w5 (rcpBox (.slice ai r.inputs.length ci) (.slice (some ⟨b, o, none⟩) L.length cv) r.output))
                      have hs6 : w5.heap.size < (w5.alloc (rcpBox (.slice ai r.inputs.length ci) (.slice (some ⟨b, o, none⟩) L.length cv) r.output)).heap.size := by simp
                      clear B12
                      generalize w5.alloc (rcpBox (.slice ai r.inputs.length ci) (.slice (some ⟨b, o, none⟩) L.length cv) r.output) = w6 at H56 HT hs6 ⊢
                      have hp12 : w.heap.size + 1 < w5.heap.size := (Array.getElem?_eq_some_iff.1 HWb.out).1
                      have hbo : b < w5.heap.size := cell_lt HTo.out
                      generalize hP : w5.heap.size = p12 at HT hp12 hbo hs6 ⊢
                      have HP := Lib.hid hP.symm
                      clear hP
                      go_cut [142] from 123 (fun b142 wx => Hid (TwS r (copyStep yo yo) (.slice ai r.inputs.length ci) p12 w5 wx))
                      case first =>
                        have HR6 := Lib.hid (HRi.out.later H56.out)
                        have s2 := cell_later H56.out HTo.out
                        obtain ⟨r0, r1, r2⟩ := box3 (heap_up H56.out HRb.out)
                        have HNw := Lib.hid (stps_news HR6.out.stp)
                        have H1c := Lib.hid (stpCells_one HR6.out.stp)
                        have hnl := stpCells_len L
                        generalize hNe : L.flatMap stpCells = news at HNw H1c hnl
                        have HNe := Lib.hid hNe
                        obtain ⟨i0, hi0, hz0, hz1, hz2⟩ := info_parts stpInfo
                        have hbk0 : (0 : Int) ≤ (k : Int) := by omega
                        have hbk1 : (k : Int) < (L.length : Int) := by omega
                        have hLpos : 0 < L.length := by omega
                        have HNl := Lib.hid hnl
                        clear hnl hNe
                        go_region_held3 (fun W => W.cell? ⟨w.heap.size, 1, none⟩ = some (.slice (some ⟨b, o, none⟩) L.length cv) ∧ W.cell? ⟨b, o + k * 4 + 2, none⟩ = some (.string yo))
                          (first | (with_reducible exact ⟨r1, s2⟩) | exact ⟨cell_later (below_alloc _ _) r1, cell_later (below_alloc _ _) s2⟩ | exact ⟨cell_later (below_trans (below_alloc _ _) (below_alloc _ _)) r1, cell_later (below_trans (below_alloc _ _) (below_alloc _ _)) s2⟩ | exact ⟨cell_later (below_trans (below_trans (below_alloc _ _) (below_alloc _ _)) (below_alloc _ _)) r1, cell_later (below_trans (below_trans (below_alloc _ _) (below_alloc _ _)) (below_alloc _ _)) s2⟩ | exact ⟨l1, l2⟩ | exact ⟨cell_later (below_alloc _ _) l1, cell_later (below_alloc _ _) l2⟩ | exact ⟨cell_later (below_trans (below_alloc _ _) (below_alloc _ _)) l1, cell_later (below_trans (below_alloc _ _) (below_alloc _ _)) l2⟩ | exact ⟨m1, m2⟩ | exact ⟨cell_set (by omega) m1, cell_set (by omega) m2⟩ | go_keep)
                          (first | (show (if _ then _ else _); refine step_append_lies (World.drew (w6.alloc (.cells #[] 24))) rfl (.tmp 123) (.tmp 125) 49 rfl w6.heap.size 24 i0 (.agg #[.int .i64 0, .slice none 0 0, .string ByteArray.empty, .bool false]) 4 56 Tryz.underlying49 hi0 hz0 hz1 hz2 rfl (Nat.succ_pos 3) (.slice (some ⟨w6.heap.size, 0, none⟩) 0 0) 0 [] (by rfl) (own_empty (t := 24) (alloc_self _ _) (by omega)) ⟨b, o, none⟩ L.length cv news (by rfl) HNl.out (HNw.out.later (below_alloc _ _).drew) H1c.out hLpos (by unfold maxLen; omega) (by omega) (below_alloc _ _).drew.size _ rfl ?_; go_must (intro gg cap1 x1 hown1 hgrow1 hat1 hlt1); go_must (have hgr := grown_cast (g := w6.heap.size) hgrow1 rfl); go_must (have HB1 : Hid (Below w6.heap.size w6 x1) := Lib.hid (grown_new (below_alloc _ _).drew hgr (by omega))); go_must (have l1 := cell_later HB1.out r1); go_must (have l2 := cell_later HB1.out s2); go_must (have HA1 : Hid (gg = w6.heap.size ∨ gg = w6.heap.size + 1) := Lib.hid (lies_at hat1 (by simp [World.drew]))); have HN1 := HA1; go_must (have HO1 : Hid (x1.ownsRow w6.heap.size 24 4 (.slice (some ⟨gg, 0, none⟩) L.length cap1) L.length news) := Lib.hid (own_cast hown1)); have HL1 := Lib.hid hlt1; have hz1' := HB1.out.size; clear hown1 hgrow1 hgr hat1 hlt1; (try simp only [Nat.zero_add])) | (show (if _ then _ else _); refine step_append_lies (World.drew ((w6.alloc (.cells #[] 24)).alloc (.cells #[.string yo] 9))) rfl (.tmp 123) (.tmp 125) 49 rfl w6.heap.size 24 i0 (.agg #[.int .i64 0, .slice none 0 0, .string ByteArray.empty, .bool false]) 4 56 Tryz.underlying49 hi0 hz0 hz1 hz2 rfl (Nat.succ_pos 3) (.slice (some ⟨w6.heap.size, 0, none⟩) 0 0) 0 [] (by rfl) (own_empty (t := 24) (alloc_up1 (alloc_self _ _)) (by omega)) ⟨b, o, none⟩ L.length cv news (by rfl) HNl.out (HNw.out.later (below_trans (below_alloc _ _) (below_alloc _ _)).drew) H1c.out hLpos (by unfold maxLen; omega) (by omega) (below_trans (below_alloc _ _) (below_alloc _ _)).drew.size _ rfl ?_; go_must (intro gg cap1 x1 hown1 hgrow1 hat1 hlt1); go_must (have hgr := grown_cast (g := w6.heap.size) hgrow1 rfl); go_must (have HB1 : Hid (Below w6.heap.size w6 x1) := Lib.hid (grown_new (below_trans (below_alloc _ _) (below_alloc _ _)).drew hgr (by omega))); go_must (have l1 := cell_later HB1.out r1); go_must (have l2 := cell_later HB1.out s2); go_must (have HA1 : Hid (gg = w6.heap.size ∨ gg = w6.heap.size + 2) := Lib.hid (lies_at hat1 (by simp [World.drew]))); go_must (have HF2 : Hid (x1.heap[w6.heap.size + 1]? = some (.cells #[.string yo] 9)) := Lib.hid ((hgr.block _ (by simp [World.drew]; try omega) (by intro e; injection e with e; omega)).trans (alloc_at1 _ _ _))); have HT2 := HA1; go_must (have HO1 : Hid (x1.ownsRow w6.heap.size 24 4 (.slice (some ⟨gg, 0, none⟩) L.length cap1) L.length news) := Lib.hid (own_cast hown1)); have HL1 := Lib.hid hlt1; have hz1' := HB1.out.size; clear hown1 hgrow1 hgr hat1 hlt1; (try simp only [Nat.zero_add])) | (show (if _ then _ else _); refine step_append_lies (World.drew ((w6.alloc (.cells #[.string yo] 9)).alloc (.cells #[] 24))) rfl (.tmp 123) (.tmp 125) 49 rfl w6.heap.size 24 i0 (.agg #[.int .i64 0, .slice none 0 0, .string ByteArray.empty, .bool false]) 4 56 Tryz.underlying49 hi0 hz0 hz1 hz2 rfl (Nat.succ_pos 3) (.slice (some ⟨w6.heap.size + 1, 0, none⟩) 0 0) 0 [] (by rfl) (own_empty (t := 24) (alloc_at1 _ _ _) (by omega)) ⟨b, o, none⟩ L.length cv news (by rfl) HNl.out (HNw.out.later (below_trans (below_alloc _ _) (below_alloc _ _)).drew) H1c.out hLpos (by unfold maxLen; omega) (by omega) (below_trans (below_alloc _ _) (below_alloc _ _)).drew.size _ rfl ?_; go_must (intro gg cap1 x1 hown1 hgrow1 hat1 hlt1); go_must (have hgr := grown_cast (g := w6.heap.size + 1) hgrow1 rfl); go_must (have HB1 : Hid (Below w6.heap.size w6 x1) := Lib.hid (grown_new (below_trans (below_alloc _ _) (below_alloc _ _)).drew hgr (by omega))); go_must (have l1 := cell_later HB1.out r1); go_must (have l2 := cell_later HB1.out s2); go_must (have HA1 : Hid (gg = w6.heap.size + 1 ∨ gg = w6.heap.size + 2) := Lib.hid (lies_at hat1 (by simp [World.drew]))); go_must (have HF3 : Hid (x1.heap[w6.heap.size]? = some (.cells #[.string yo] 9)) := Lib.hid ((hgr.block _ (by simp [World.drew]; try omega) (by intro e; injection e with e; omega)).trans (alloc_up1 (alloc_self _ _)))); have HT3 := HA1; go_must (have HO1 : Hid (x1.ownsRow w6.heap.size 24 4 (.slice (some ⟨gg, 0, none⟩) L.length cap1) L.length news) := Lib.hid (own_cast hown1)); have HL1 := Lib.hid hlt1; have hz1' := HB1.out.size; clear hown1 hgrow1 hgr hat1 hlt1; (try simp only [Nat.zero_add])) | (show (if _ then _ else _); refine step_append_lies (World.drew (((w6.alloc (.cells #[] 24)).alloc (.cells #[.string yo] 9)).alloc (.cells #[.int .i64 0, .slice (some ⟨w6.heap.size + 1, 0, none⟩) 1 1, .string yo, .bool false] 24))) rfl (.tmp 123) (.tmp 125) 49 rfl w6.heap.size 24 i0 (.agg #[.int .i64 0, .slice none 0 0, .string ByteArray.empty, .bool false]) 4 56 Tryz.underlying49 hi0 hz0 hz1 hz2 rfl (Nat.succ_pos 3) (.slice (some ⟨w6.heap.size, 0, none⟩) 0 0) 0 [] (by rfl) (own_empty (t := 24) (alloc_up1 (alloc_up1 (alloc_self _ _))) (by omega)) ⟨b, o, none⟩ L.length cv news (by rfl) HNl.out (HNw.out.later (below_trans (below_trans (below_alloc _ _) (below_alloc _ _)) (below_alloc _ _)).drew) H1c.out hLpos (by unfold maxLen; omega) (by omega) (below_trans (below_trans (below_alloc _ _) (below_alloc _ _)) (below_alloc _ _)).drew.size _ rfl ?_; go_must (intro gg cap1 x1 hown1 hgrow1 hat1 hlt1); go_must (have hgr := grown_cast (g := w6.heap.size) hgrow1 rfl); go_must (have HB1 : Hid (Below w6.heap.size w6 x1) := Lib.hid (grown_new (below_trans (below_trans (below_alloc _ _) (below_alloc _ _)) (below_alloc _ _)).drew hgr (by omega))); go_must (have l1 := cell_later HB1.out r1); go_must (have l2 := cell_later HB1.out s2); go_must (have HA1 : Hid (gg = w6.heap.size ∨ gg = w6.heap.size + 3) := Lib.hid (lies_at hat1 (by simp [World.drew]))); go_must (have HF4 : Hid (x1.heap[w6.heap.size + 1]? = some (.cells #[.string yo] 9)) := Lib.hid ((hgr.block _ (by simp [World.drew]; try omega) (by intro e; injection e with e; omega)).trans (alloc_up1 (alloc_at1 _ _ _)))); go_must (have HS4 : Hid (x1.heap[w6.heap.size + 1 + 1]? = some (.cells #[.int .i64 0, .slice (some ⟨w6.heap.size + 1, 0, none⟩) 1 1, .string yo, .bool false] 24)) := Lib.hid ((hgr.block _ (by simp [World.drew]; try omega) (by intro e; injection e with e; omega)).trans (alloc_at2 _ _ _ _))); go_must (have HO1 : Hid (x1.ownsRow w6.heap.size 24 4 (.slice (some ⟨gg, 0, none⟩) L.length cap1) L.length news) := Lib.hid (own_cast hown1)); have HL1 := Lib.hid hlt1; have hz1' := HB1.out.size; clear hown1 hgrow1 hgr hat1 hlt1; (try simp only [Nat.zero_add])) | (show (if _ then _ else _); refine step_append_lies (World.drew (((w6.alloc (.cells #[.string yo] 9)).alloc (.cells #[] 24)).alloc (.cells #[.int .i64 0, .slice (some ⟨w6.heap.size, 0, none⟩) 1 1, .string yo, .bool false] 24))) rfl (.tmp 123) (.tmp 125) 49 rfl w6.heap.size 24 i0 (.agg #[.int .i64 0, .slice none 0 0, .string ByteArray.empty, .bool false]) 4 56 Tryz.underlying49 hi0 hz0 hz1 hz2 rfl (Nat.succ_pos 3) (.slice (some ⟨w6.heap.size + 1, 0, none⟩) 0 0) 0 [] (by rfl) (own_empty (t := 24) (alloc_up1 (alloc_at1 _ _ _)) (by omega)) ⟨b, o, none⟩ L.length cv news (by rfl) HNl.out (HNw.out.later (below_trans (below_trans (below_alloc _ _) (below_alloc _ _)) (below_alloc _ _)).drew) H1c.out hLpos (by unfold maxLen; omega) (by omega) (below_trans (below_trans (below_alloc _ _) (below_alloc _ _)) (below_alloc _ _)).drew.size _ rfl ?_; go_must (intro gg cap1 x1 hown1 hgrow1 hat1 hlt1); go_must (have hgr := grown_cast (g := w6.heap.size + 1) hgrow1 rfl); go_must (have HB1 : Hid (Below w6.heap.size w6 x1) := Lib.hid (grown_new (below_trans (below_trans (below_alloc _ _) (below_alloc _ _)) (below_alloc _ _)).drew hgr (by omega))); go_must (have l1 := cell_later HB1.out r1); go_must (have l2 := cell_later HB1.out s2); go_must (have HA1 : Hid (gg = w6.heap.size + 1 ∨ gg = w6.heap.size + 3) := Lib.hid (lies_at hat1 (by simp [World.drew]))); go_must (have HF5 : Hid (x1.heap[w6.heap.size]? = some (.cells #[.string yo] 9)) := Lib.hid ((hgr.block _ (by simp [World.drew]; try omega) (by intro e; injection e with e; omega)).trans (alloc_up1 (alloc_up1 (alloc_self _ _))))); go_must (have HS5 : Hid (x1.heap[w6.heap.size + 1 + 1]? = some (.cells #[.int .i64 0, .slice (some ⟨w6.heap.size, 0, none⟩) 1 1, .string yo, .bool false] 24)) := Lib.hid ((hgr.block _ (by simp [World.drew]; try omega) (by intro e; injection e with e; omega)).trans (alloc_at2 _ _ _ _))); go_must (have HO1 : Hid (x1.ownsRow w6.heap.size 24 4 (.slice (some ⟨gg, 0, none⟩) L.length cap1) L.length news) := Lib.hid (own_cast hown1)); have HL1 := Lib.hid hlt1; have hz1' := HB1.out.size; clear hown1 hgrow1 hgr hat1 hlt1; (try simp only [Nat.zero_add])) | (show (if _ then _ else _); refine step_append_lies (World.drew (((w6.alloc (.cells #[.string yo] 9)).alloc (.cells #[.int .i64 0, .slice (some ⟨w6.heap.size, 0, none⟩) 1 1, .string yo, .bool false] 24)).alloc (.cells #[] 24))) rfl (.tmp 123) (.tmp 125) 49 rfl w6.heap.size 24 i0 (.agg #[.int .i64 0, .slice none 0 0, .string ByteArray.empty, .bool false]) 4 56 Tryz.underlying49 hi0 hz0 hz1 hz2 rfl (Nat.succ_pos 3) (.slice (some ⟨w6.heap.size + 1 + 1, 0, none⟩) 0 0) 0 [] (by rfl) (own_empty (t := 24) (alloc_at2 _ _ _ _) (by omega)) ⟨b, o, none⟩ L.length cv news (by rfl) HNl.out (HNw.out.later (below_trans (below_trans (below_alloc _ _) (below_alloc _ _)) (below_alloc _ _)).drew) H1c.out hLpos (by unfold maxLen; omega) (by omega) (below_trans (below_trans (below_alloc _ _) (below_alloc _ _)) (below_alloc _ _)).drew.size _ rfl ?_; go_must (intro gg cap1 x1 hown1 hgrow1 hat1 hlt1); go_must (have hgr := grown_cast (g := w6.heap.size + 1 + 1) hgrow1 rfl); go_must (have HB1 : Hid (Below w6.heap.size w6 x1) := Lib.hid (grown_new (below_trans (below_trans (below_alloc _ _) (below_alloc _ _)) (below_alloc _ _)).drew hgr (by omega))); go_must (have l1 := cell_later HB1.out r1); go_must (have l2 := cell_later HB1.out s2); go_must (have HA1 : Hid (gg = w6.heap.size + 1 + 1 ∨ gg = w6.heap.size + 3) := Lib.hid (lies_at hat1 (by simp [World.drew]))); go_must (have HF6 : Hid (x1.heap[w6.heap.size]? = some (.cells #[.string yo] 9)) := Lib.hid ((hgr.block _ (by simp [World.drew]; try omega) (by intro e; injection e with e; omega)).trans (alloc_up1 (alloc_up1 (alloc_self _ _))))); go_must (have HS6 : Hid (x1.heap[w6.heap.size + 1]? = some (.cells #[.int .i64 0, .slice (some ⟨w6.heap.size, 0, none⟩) 1 1, .string yo, .bool false] 24)) := Lib.hid ((hgr.block _ (by simp [World.drew]; try omega) (by intro e; injection e with e; omega)).trans (alloc_up1 (alloc_at1 _ _ _)))); go_must (have HO1 : Hid (x1.ownsRow w6.heap.size 24 4 (.slice (some ⟨gg, 0, none⟩) L.length cap1) L.length news) := Lib.hid (own_cast hown1)); have HL1 := Lib.hid hlt1; have hz1' := HB1.out.size; clear hown1 hgrow1 hgr hat1 hlt1; (try simp only [Nat.zero_add])) | (have _g := HN1; show (if _ then _ else _); refine step_append_lies ((x1.alloc (.cells #[.string yo] 9)).alloc (.cells #[.int .i64 0, .slice (some ⟨x1.heap.size, 0, none⟩) 1 1, .string yo, .bool false] 24)) rfl (.tmp 126) (.tmp 141) 49 rfl w6.heap.size 24 i0 (.agg #[.int .i64 0, .slice none 0 0, .string ByteArray.empty, .bool false]) 4 56 Tryz.underlying49 hi0 hz0 hz1 hz2 rfl (Nat.succ_pos 3) (.slice (some ⟨gg, 0, none⟩) L.length cap1) L.length news (by rfl) ((HO1.out.alloc _).alloc _) ⟨x1.heap.size + 1, 0, none⟩ 1 1 [.int .i64 0, .slice (some ⟨x1.heap.size, 0, none⟩) 1 1, .string yo, .bool false] (by rfl) rfl (World.news_of_block (alloc_at1 _ _ _)) (by simp [Value.oneCell']) (Nat.succ_pos 0) (by unfold maxLen; omega) (by omega) (below_trans HB1.out (below_trans (below_alloc _ _) (below_alloc _ _))).size _ rfl ?_; go_must (intro g2 cap2 x2 hown2 hgrow2 hat2 hlt2); go_must (have hgr := grown_cast (g := gg) hgrow2 rfl); go_must (have hgb := (HO1.out.lt gg rfl).1); go_must (have HB2 : Hid (Below w6.heap.size w6 x2) := Lib.hid (grown_new (below_trans HB1.out (below_trans (below_alloc _ _) (below_alloc _ _))) hgr hgb)); go_must (have m1 := cell_later HB2.out r1); go_must (have m2 := cell_later HB2.out s2); go_must (obtain ⟨t0, t1, t2, f0, f1, f2⟩ := box3f (heap_up HB2.out HT.out)); go_must (have hne : gg ≠ x1.heap.size := by have := HL1.out; omega); go_must (have hflt : x1.heap.size < (((x1.alloc (.cells #[.string yo] 9)).alloc (.cells #[.int .i64 0, .slice (some ⟨x1.heap.size, 0, none⟩) 1 1, .string yo, .bool false] 24))).heap.size := by simp only [World.size_alloc]; omega); go_must (have HFin : Hid (∃ f, x2.ownsRow w6.heap.size 24 4 (.slice (some ⟨g2, 0, none⟩) (L.length + 1) cap2) (L.length + 1) (news ++ [.int .i64 0, .slice (some ⟨f, 0, none⟩) 1 1, .string yo, .bool false]) ∧ x2.heap[f]? = some (.cells #[.string yo] 9)) := Lib.hid ⟨x1.heap.size, hown2, (hgr.block (x1.heap.size) hflt (fun e => hne (Option.some.inj e).symm)).trans (alloc_up1 (alloc_self _ _))⟩); clear hown2 hgrow2 hgr hat2 hne hflt) | (have _g := HT2; show (if _ then _ else _); refine step_append_lies (x1.alloc (.cells #[.int .i64 0, .slice (some ⟨w6.heap.size + 1, 0, none⟩) 1 1, .string yo, .bool false] 24)) rfl (.tmp 126) (.tmp 141) 49 rfl w6.heap.size 24 i0 (.agg #[.int .i64 0, .slice none 0 0, .string ByteArray.empty, .bool false]) 4 56 Tryz.underlying49 hi0 hz0 hz1 hz2 rfl (Nat.succ_pos 3) (.slice (some ⟨gg, 0, none⟩) L.length cap1) L.length news (by rfl) (HO1.out.alloc _) ⟨x1.heap.size, 0, none⟩ 1 1 [.int .i64 0, .slice (some ⟨w6.heap.size + 1, 0, none⟩) 1 1, .string yo, .bool false] (by rfl) rfl (World.news_of_block (alloc_self _ _)) (by simp [Value.oneCell']) (Nat.succ_pos 0) (by unfold maxLen; omega) (by omega) (below_trans HB1.out (below_alloc _ _)).size _ rfl ?_; go_must (intro g2 cap2 x2 hown2 hgrow2 hat2 hlt2); go_must (have hgr := grown_cast (g := gg) hgrow2 rfl); go_must (have hgb := (HO1.out.lt gg rfl).1); go_must (have HB2 : Hid (Below w6.heap.size w6 x2) := Lib.hid (grown_new (below_trans HB1.out (below_alloc _ _)) hgr hgb)); go_must (have m1 := cell_later HB2.out r1); go_must (have m2 := cell_later HB2.out s2); go_must (obtain ⟨t0, t1, t2, f0, f1, f2⟩ := box3f (heap_up HB2.out HT.out)); go_must (have hne : gg ≠ w6.heap.size + 1 := by have h1 := HA1.out; have h2 := heap_lt HF2.out; omega); go_must (have hflt : w6.heap.size + 1 < ((x1.alloc (.cells #[.int .i64 0, .slice (some ⟨w6.heap.size + 1, 0, none⟩) 1 1, .string yo, .bool false] 24))).heap.size := by have := heap_lt HF2.out; simp only [World.size_alloc]; omega); go_must (have HFin : Hid (∃ f, x2.ownsRow w6.heap.size 24 4 (.slice (some ⟨g2, 0, none⟩) (L.length + 1) cap2) (L.length + 1) (news ++ [.int .i64 0, .slice (some ⟨f, 0, none⟩) 1 1, .string yo, .bool false]) ∧ x2.heap[f]? = some (.cells #[.string yo] 9)) := Lib.hid ⟨w6.heap.size + 1, hown2, (hgr.block (w6.heap.size + 1) hflt (fun e => hne (Option.some.inj e).symm)).trans (alloc_up1 (HF2.out))⟩); clear hown2 hgrow2 hgr hat2 hne hflt) | (have _g := HT3; show (if _ then _ else _); refine step_append_lies (x1.alloc (.cells #[.int .i64 0, .slice (some ⟨w6.heap.size, 0, none⟩) 1 1, .string yo, .bool false] 24)) rfl (.tmp 126) (.tmp 141) 49 rfl w6.heap.size 24 i0 (.agg #[.int .i64 0, .slice none 0 0, .string ByteArray.empty, .bool false]) 4 56 Tryz.underlying49 hi0 hz0 hz1 hz2 rfl (Nat.succ_pos 3) (.slice (some ⟨gg, 0, none⟩) L.length cap1) L.length news (by rfl) (HO1.out.alloc _) ⟨x1.heap.size, 0, none⟩ 1 1 [.int .i64 0, .slice (some ⟨w6.heap.size, 0, none⟩) 1 1, .string yo, .bool false] (by rfl) rfl (World.news_of_block (alloc_self _ _)) (by simp [Value.oneCell']) (Nat.succ_pos 0) (by unfold maxLen; omega) (by omega) (below_trans HB1.out (below_alloc _ _)).size _ rfl ?_; go_must (intro g2 cap2 x2 hown2 hgrow2 hat2 hlt2); go_must (have hgr := grown_cast (g := gg) hgrow2 rfl); go_must (have hgb := (HO1.out.lt gg rfl).1); go_must (have HB2 : Hid (Below w6.heap.size w6 x2) := Lib.hid (grown_new (below_trans HB1.out (below_alloc _ _)) hgr hgb)); go_must (have m1 := cell_later HB2.out r1); go_must (have m2 := cell_later HB2.out s2); go_must (obtain ⟨t0, t1, t2, f0, f1, f2⟩ := box3f (heap_up HB2.out HT.out)); go_must (have hne : gg ≠ w6.heap.size := by have h1 := HA1.out; have h2 := heap_lt HF3.out; omega); go_must (have hflt : w6.heap.size < ((x1.alloc (.cells #[.int .i64 0, .slice (some ⟨w6.heap.size, 0, none⟩) 1 1, .string yo, .bool false] 24))).heap.size := by have := heap_lt HF3.out; simp only [World.size_alloc]; omega); go_must (have HFin : Hid (∃ f, x2.ownsRow w6.heap.size 24 4 (.slice (some ⟨g2, 0, none⟩) (L.length + 1) cap2) (L.length + 1) (news ++ [.int .i64 0, .slice (some ⟨f, 0, none⟩) 1 1, .string yo, .bool false]) ∧ x2.heap[f]? = some (.cells #[.string yo] 9)) := Lib.hid ⟨w6.heap.size, hown2, (hgr.block (w6.heap.size) hflt (fun e => hne (Option.some.inj e).symm)).trans (alloc_up1 (HF3.out))⟩); clear hown2 hgrow2 hgr hat2 hne hflt) | (have _g := HS4; show (if _ then _ else _); refine step_append_lies x1 rfl (.tmp 126) (.tmp 141) 49 rfl w6.heap.size 24 i0 (.agg #[.int .i64 0, .slice none 0 0, .string ByteArray.empty, .bool false]) 4 56 Tryz.underlying49 hi0 hz0 hz1 hz2 rfl (Nat.succ_pos 3) (.slice (some ⟨gg, 0, none⟩) L.length cap1) L.length news (by rfl) (HO1.out) ⟨w6.heap.size + 1 + 1, 0, none⟩ 1 1 [.int .i64 0, .slice (some ⟨w6.heap.size + 1, 0, none⟩) 1 1, .string yo, .bool false] (by rfl) rfl (World.news_of_block HS4.out) (by simp [Value.oneCell']) (Nat.succ_pos 0) (by unfold maxLen; omega) (by omega) (HB1.out).size _ rfl ?_; go_must (intro g2 cap2 x2 hown2 hgrow2 hat2 hlt2); go_must (have hgr := grown_cast (g := gg) hgrow2 rfl); go_must (have hgb := (HO1.out.lt gg rfl).1); go_must (have HB2 : Hid (Below w6.heap.size w6 x2) := Lib.hid (grown_new (HB1.out) hgr hgb)); go_must (have m1 := cell_later HB2.out r1); go_must (have m2 := cell_later HB2.out s2); go_must (obtain ⟨t0, t1, t2, f0, f1, f2⟩ := box3f (heap_up HB2.out HT.out)); go_must (have hne : gg ≠ w6.heap.size + 1 := by have h1 := HA1.out; have h2 := heap_lt HF4.out; omega); go_must (have hflt : w6.heap.size + 1 < (x1).heap.size := heap_lt HF4.out); go_must (have HFin : Hid (∃ f, x2.ownsRow w6.heap.size 24 4 (.slice (some ⟨g2, 0, none⟩) (L.length + 1) cap2) (L.length + 1) (news ++ [.int .i64 0, .slice (some ⟨f, 0, none⟩) 1 1, .string yo, .bool false]) ∧ x2.heap[f]? = some (.cells #[.string yo] 9)) := Lib.hid ⟨w6.heap.size + 1, hown2, (hgr.block (w6.heap.size + 1) hflt (fun e => hne (Option.some.inj e).symm)).trans (HF4.out)⟩); clear hown2 hgrow2 hgr hat2 hne hflt) | (have _g := HS5; show (if _ then _ else _); refine step_append_lies x1 rfl (.tmp 126) (.tmp 141) 49 rfl w6.heap.size 24 i0 (.agg #[.int .i64 0, .slice none 0 0, .string ByteArray.empty, .bool false]) 4 56 Tryz.underlying49 hi0 hz0 hz1 hz2 rfl (Nat.succ_pos 3) (.slice (some ⟨gg, 0, none⟩) L.length cap1) L.length news (by rfl) (HO1.out) ⟨w6.heap.size + 1 + 1, 0, none⟩ 1 1 [.int .i64 0, .slice (some ⟨w6.heap.size, 0, none⟩) 1 1, .string yo, .bool false] (by rfl) rfl (World.news_of_block HS5.out) (by simp [Value.oneCell']) (Nat.succ_pos 0) (by unfold maxLen; omega) (by omega) (HB1.out).size _ rfl ?_; go_must (intro g2 cap2 x2 hown2 hgrow2 hat2 hlt2); go_must (have hgr := grown_cast (g := gg) hgrow2 rfl); go_must (have hgb := (HO1.out.lt gg rfl).1); go_must (have HB2 : Hid (Below w6.heap.size w6 x2) := Lib.hid (grown_new (HB1.out) hgr hgb)); go_must (have m1 := cell_later HB2.out r1); go_must (have m2 := cell_later HB2.out s2); go_must (obtain ⟨t0, t1, t2, f0, f1, f2⟩ := box3f (heap_up HB2.out HT.out)); go_must (have hne : gg ≠ w6.heap.size := by have h1 := HA1.out; have h2 := heap_lt HF5.out; omega); go_must (have hflt : w6.heap.size < (x1).heap.size := heap_lt HF5.out); go_must (have HFin : Hid (∃ f, x2.ownsRow w6.heap.size 24 4 (.slice (some ⟨g2, 0, none⟩) (L.length + 1) cap2) (L.length + 1) (news ++ [.int .i64 0, .slice (some ⟨f, 0, none⟩) 1 1, .string yo, .bool false]) ∧ x2.heap[f]? = some (.cells #[.string yo] 9)) := Lib.hid ⟨w6.heap.size, hown2, (hgr.block (w6.heap.size) hflt (fun e => hne (Option.some.inj e).symm)).trans (HF5.out)⟩); clear hown2 hgrow2 hgr hat2 hne hflt) | (have _g := HS6; show (if _ then _ else _); refine step_append_lies x1 rfl (.tmp 126) (.tmp 141) 49 rfl w6.heap.size 24 i0 (.agg #[.int .i64 0, .slice none 0 0, .string ByteArray.empty, .bool false]) 4 56 Tryz.underlying49 hi0 hz0 hz1 hz2 rfl (Nat.succ_pos 3) (.slice (some ⟨gg, 0, none⟩) L.length cap1) L.length news (by rfl) (HO1.out) ⟨w6.heap.size + 1, 0, none⟩ 1 1 [.int .i64 0, .slice (some ⟨w6.heap.size, 0, none⟩) 1 1, .string yo, .bool false] (by rfl) rfl (World.news_of_block HS6.out) (by simp [Value.oneCell']) (Nat.succ_pos 0) (by unfold maxLen; omega) (by omega) (HB1.out).size _ rfl ?_; go_must (intro g2 cap2 x2 hown2 hgrow2 hat2 hlt2); go_must (have hgr := grown_cast (g := gg) hgrow2 rfl); go_must (have hgb := (HO1.out.lt gg rfl).1); go_must (have HB2 : Hid (Below w6.heap.size w6 x2) := Lib.hid (grown_new (HB1.out) hgr hgb)); go_must (have m1 := cell_later HB2.out r1); go_must (have m2 := cell_later HB2.out s2); go_must (obtain ⟨t0, t1, t2, f0, f1, f2⟩ := box3f (heap_up HB2.out HT.out)); go_must (have hne : gg ≠ w6.heap.size := by have h1 := HA1.out; have h2 := heap_lt HF6.out; omega); go_must (have hflt : w6.heap.size < (x1).heap.size := heap_lt HF6.out); go_must (have HFin : Hid (∃ f, x2.ownsRow w6.heap.size 24 4 (.slice (some ⟨g2, 0, none⟩) (L.length + 1) cap2) (L.length + 1) (news ++ [.int .i64 0, .slice (some ⟨f, 0, none⟩) 1 1, .string yo, .bool false]) ∧ x2.heap[f]? = some (.cells #[.string yo] 9)) := Lib.hid ⟨w6.heap.size, hown2, (hgr.block (w6.heap.size) hflt (fun e => hne (Option.some.inj e).symm)).trans (HF6.out)⟩); clear hown2 hgrow2 hgr hat2 hne hflt))
                        all_goals
                          go_wp2_with fail
                          go_meet
                          obtain ⟨f, hf1, hf2⟩ := HFin.out
                          rw [← HNe.out] at hf1
                          exact Lib.hid (tw_made HRi.out H56.out HP.out hs6 HT.out HB2.out hf1 hf2 HSo.out HSo.out)
                      case rest =>
                        rename World => wx
                        obtain ⟨⟨ta, tn, tc, LT, hRT, hBT⟩, hbT⟩ := hcut.out
                        have HRT := Lib.hid hRT
                        have HBT := Lib.hid hBT
                        have HbWwx := Lib.hid hbT
                        clear hRT hBT hbT hcut
                        obtain ⟨i0, hi0, hz0, hz1, hz2⟩ := info_parts stpInfo
                        have hLpos : 0 < L.length := by omega
                        have H1c := Lib.hid (stpCells_one HRi.out.stp)
                        have hlo : lost.size ≤ 140737488355328 := by omega
                        have hlx : (lost ++ (⟨#[33]⟩ : ByteArray)).size ≤ 140737488355328 := by rw [ByteArray.size_append]; have : (⟨#[33]⟩ : ByteArray).size = 1 := rfl; omega
                        have HRn := Lib.hid (HRi.out.later HbWwx.out)
                        obtain ⟨r0, r1, r2⟩ := box3 (heap_up HbWwx.out HRb.out)
                        have hltn : w.heap.size + 1 < wx.heap.size := Nat.lt_of_lt_of_le (Array.getElem?_eq_some_iff.1 HWb.out).1 HbWwx.out.size
                        have H5n := Lib.hid (below_alloc wx (rcpBox (.slice ai r.inputs.length ci) (.slice (some ⟨b, o, none⟩) L.length cv) r.output))
                        have HTn := Lib.hid (alloc_self wx (rcpBox (.slice ai r.inputs.length ci) (.slice (some ⟨b, o, none⟩) L.length cv) r.output))
                        have q1 := cell_later H5n.out r1
                        have q2 := cell_later (below_alloc (wx.alloc (rcpBox (.slice ai r.inputs.length ci) (.slice (some ⟨b, o, none⟩) L.length cv) r.output)) (.cells #[] 24)) q1
                        have HNn := Lib.hid (stps_news (HRn.out.later H5n.out).stp)
                        have hzn : wx.heap.size < (wx.alloc (rcpBox (.slice ai r.inputs.length ci) (.slice (some ⟨b, o, none⟩) L.length cv) r.output)).heap.size := by simp
                        go_wp2_with (at_builtin; refine wpList_append_lies _ rfl (.tmp 145) (.tmp 147) 49 rfl (wx.heap.size + 1) 24 i0 (.agg #[.int .i64 0, .slice none 0 0, .string ByteArray.empty, .bool false]) 4 56 Tryz.underlying49 hi0 hz0 hz1 hz2 rfl (by omega) (.slice (some ⟨wx.heap.size + 1, 0, none⟩) 0 0) 0 [] (by rfl) (own_empty (t := 24) (alloc_at1 _ _ _) (by omega)) ⟨b, o, none⟩ L.length cv (L.flatMap stpCells) (by rfl) (stpCells_len L) (HNn.out.later (below_alloc _ _)) H1c.out hLpos (by unfold maxLen; omega) (by omega) (by simp) (wx.heap.size + 1 + 1) (by simp) ?_)
                        intro gn capn xn hown hgrow hat hlt
                        have HOn := Lib.hid hown
                        have HBn : Hid (Below (wx.alloc (rcpBox (.slice ai r.inputs.length ci) (.slice (some ⟨b, o, none⟩) L.length cv) r.output)).heap.size (wx.alloc (rcpBox (.slice ai r.inputs.length ci) (.slice (some ⟨b, o, none⟩) L.length cv) r.output)) xn) := Lib.hid (grown_new (below_alloc _ _) (grown_cast (g := wx.heap.size + 1) hgrow rfl) (by simp))
                        have hln : gn < xn.heap.size := hlt
                        have hsn : wx.heap.size + 1 ≤ xn.heap.size := by have := HBn.out.size; simpa using this
                        clear hown hgrow hat hlt q1 q2
                        go_wp2_with (at_builtin; refine wpList_append_lies _ rfl (.tmp 148) (.tmp 154) 49 rfl (wx.heap.size + 1) 24 i0 (.agg #[.int .i64 0, .slice none 0 0, .string ByteArray.empty, .bool false]) 4 56 Tryz.underlying49 hi0 hz0 hz1 hz2 rfl (by omega) (.slice (some ⟨gn, 0, none⟩) L.length capn) L.length (L.flatMap stpCells) (by first | rfl | simp) ((HOn.out.alloc _).alloc _) ⟨xn.heap.size + 1, 0, none⟩ 1 1 [.int .i64 0, .slice (some ⟨xn.heap.size, 0, none⟩) 1 1, .string (lost ++ ⟨#[33]⟩), .bool false] (by rfl) rfl (World.news_of_block (alloc_at1 _ _ _)) (by simp [Value.oneCell']) (by omega) (by unfold maxLen; omega) (by omega) (by simp; omega) (xn.heap.size + 1 + 1) (by simp) ?_)
                        intro kn dapn yn hown hgrow hat hlt
                        have hgb := (HOn.out.lt gn rfl).1
                        have hgr := grown_cast (g := gn) hgrow rfl
                        have HCn : Hid (Below (wx.alloc (rcpBox (.slice ai r.inputs.length ci) (.slice (some ⟨b, o, none⟩) L.length cv) r.output)).heap.size (wx.alloc (rcpBox (.slice ai r.inputs.length ci) (.slice (some ⟨b, o, none⟩) L.length cv) r.output)) yn) := Lib.hid (grown_new (below_trans HBn.out (below_trans (below_alloc _ _) (below_alloc _ _))) hgr (by simpa using hgb))
                        have HFn : Hid (yn.heap[xn.heap.size]? = some (.cells #[.string lost] 9)) := Lib.hid ((hgr.block xn.heap.size (by simp only [World.size_alloc]; omega) (by intro e; injection e with e; omega)).trans (alloc_up1 (alloc_self _ _)))
                        have HWn := Lib.hid (tw_made (s := lost) (out := (lost ++ ⟨#[33]⟩)) HRn.out H5n.out rfl hzn HTn.out HCn.out (by simpa using hown) HFn.out hlo hlx)
                        obtain ⟨t0, t1, t2, f0, f1, f2⟩ := box3f (heap_up HCn.out HTn.out)
                        clear hown hgrow hat hlt hgb hgr r0 r1 r2
                        go_upto_region 21 with (fail)
                        clear t0 t1 t2 f0 f1 f2 HCn HFn HBn HOn HNn HTn H5n HRn
                        generalize (yn.setCell ⟨wx.heap.size, 1, none⟩ (.slice (some ⟨kn, 0, none⟩) (L.length + 1) dapn)) = wn at HWn ⊢
                        generalize wx.heap.size = p13 at HWn ⊢
                        obtain ⟨⟨na, nn, nc, LN, hRN, hBN⟩, hbN⟩ := HWn.out
                        have HRN := Lib.hid hRN
                        have HBN := Lib.hid hBN
                        have HbN := Lib.hid hbN
                        have HbWwn := Lib.hid (below_trans HbWwx.out hbN)
                        clear hRN hBN hbN HWn
                        have HRm := Lib.hid (HRi.out.later HbWwn.out)
                        obtain ⟨r0, r1, r2⟩ := box3 (heap_up HbWwn.out HRb.out)
                        have hltm : w.heap.size + 1 < wn.heap.size := Nat.lt_of_lt_of_le (Array.getElem?_eq_some_iff.1 HWb.out).1 HbWwn.out.size
                        have H5m := Lib.hid (below_alloc wn (rcpBox (.slice ai r.inputs.length ci) (.slice (some ⟨b, o, none⟩) L.length cv) r.output))
                        have HTm := Lib.hid (alloc_self wn (rcpBox (.slice ai r.inputs.length ci) (.slice (some ⟨b, o, none⟩) L.length cv) r.output))
                        have q1 := cell_later H5m.out r1
                        have q2 := cell_later (below_alloc (wn.alloc (rcpBox (.slice ai r.inputs.length ci) (.slice (some ⟨b, o, none⟩) L.length cv) r.output)) (.cells #[] 24)) q1
                        have HNm := Lib.hid (stps_news (HRm.out.later H5m.out).stp)
                        have hzm : wn.heap.size < (wn.alloc (rcpBox (.slice ai r.inputs.length ci) (.slice (some ⟨b, o, none⟩) L.length cv) r.output)).heap.size := by simp
                        go_wp2_with (at_builtin; refine wpList_append_lies _ rfl (.tmp 158) (.tmp 160) 49 rfl (wn.heap.size + 1) 24 i0 (.agg #[.int .i64 0, .slice none 0 0, .string ByteArray.empty, .bool false]) 4 56 Tryz.underlying49 hi0 hz0 hz1 hz2 rfl (by omega) (.slice (some ⟨wn.heap.size + 1, 0, none⟩) 0 0) 0 [] (by rfl) (own_empty (t := 24) (alloc_at1 _ _ _) (by omega)) ⟨b, o, none⟩ L.length cv (L.flatMap stpCells) (by rfl) (stpCells_len L) (HNm.out.later (below_alloc _ _)) H1c.out hLpos (by unfold maxLen; omega) (by omega) (by simp) (wn.heap.size + 1 + 1) (by simp) ?_)
                        intro gm capm xm hown hgrow hat hlt
                        have HOm := Lib.hid hown
                        have HBm : Hid (Below (wn.alloc (rcpBox (.slice ai r.inputs.length ci) (.slice (some ⟨b, o, none⟩) L.length cv) r.output)).heap.size (wn.alloc (rcpBox (.slice ai r.inputs.length ci) (.slice (some ⟨b, o, none⟩) L.length cv) r.output)) xm) := Lib.hid (grown_new (below_alloc _ _) (grown_cast (g := wn.heap.size + 1) hgrow rfl) (by simp))
                        have hlm : gm < xm.heap.size := hlt
                        have hsm : wn.heap.size + 1 ≤ xm.heap.size := by have := HBm.out.size; simpa using this
                        clear hown hgrow hat hlt q1 q2
                        go_wp2_with (at_builtin; refine wpList_append_lies _ rfl (.tmp 161) (.tmp 166) 49 rfl (wn.heap.size + 1) 24 i0 (.agg #[.int .i64 0, .slice none 0 0, .string ByteArray.empty, .bool false]) 4 56 Tryz.underlying49 hi0 hz0 hz1 hz2 rfl (by omega) (.slice (some ⟨gm, 0, none⟩) L.length capm) L.length (L.flatMap stpCells) (by first | rfl | simp) ((HOm.out.alloc _).alloc _) ⟨xm.heap.size + 1, 0, none⟩ 1 1 [.int .i64 0, .slice (some ⟨xm.heap.size, 0, none⟩) 1 1, .string lost, .bool false] (by rfl) rfl (World.news_of_block (alloc_at1 _ _ _)) (by simp [Value.oneCell']) (by omega) (by unfold maxLen; omega) (by omega) (by simp; omega) (xm.heap.size + 1 + 1) (by simp) ?_)
                        intro km dapm ym hown hgrow hat hlt
                        have hgb := (HOm.out.lt gm rfl).1
                        have hgr := grown_cast (g := gm) hgrow rfl
                        have HCm : Hid (Below (wn.alloc (rcpBox (.slice ai r.inputs.length ci) (.slice (some ⟨b, o, none⟩) L.length cv) r.output)).heap.size (wn.alloc (rcpBox (.slice ai r.inputs.length ci) (.slice (some ⟨b, o, none⟩) L.length cv) r.output)) ym) := Lib.hid (grown_new (below_trans HBm.out (below_trans (below_alloc _ _) (below_alloc _ _))) hgr (by simpa using hgb))
                        have HFm : Hid (ym.heap[xm.heap.size]? = some (.cells #[.string lost] 9)) := Lib.hid ((hgr.block xm.heap.size (by simp only [World.size_alloc]; omega) (by intro e; injection e with e; omega)).trans (alloc_up1 (alloc_self _ _)))
                        have HWm := Lib.hid (tw_made (s := lost) (out := lost) HRm.out H5m.out rfl hzm HTm.out HCm.out (by simpa using hown) HFm.out hlo hlo)
                        obtain ⟨t0, t1, t2, f0, f1, f2⟩ := box3f (heap_up HCm.out HTm.out)
                        clear hown hgrow hat hlt hgb hgr r0 r1 r2
                        go_upto_region 23 with (fail)
                        clear t0 t1 t2 f0 f1 f2 HCm HFm HBm HOm HNm HTm H5m HRm
                        generalize (ym.setCell ⟨wn.heap.size, 1, none⟩ (.slice (some ⟨km, 0, none⟩) (L.length + 1) dapm)) = wm at HWm ⊢
                        generalize wn.heap.size = p14 at HWm ⊢
                        obtain ⟨⟨ma, mn, mc, LM, hRM, hBM⟩, hbM⟩ := HWm.out
                        have HRM := Lib.hid hRM
                        have HBM := Lib.hid hBM
                        have HbWwm := Lib.hid (below_trans HbWwn.out hbM)
                        have HbM := Lib.hid hbM
                        clear hRM hBM hbM HWm
                        obtain ⟨r0, r1, r2⟩ := box3 (heap_up HbWwm.out HRb.out)
                        have hltq : w.heap.size + 1 < wm.heap.size := Nat.lt_of_lt_of_le (Array.getElem?_eq_some_iff.1 HWb.out).1 HbWwm.out.size
                        have HbQ := Lib.hid (below_alloc wm (rcpBox (.slice ai r.inputs.length ci) (.slice (some ⟨b, o, none⟩) L.length cv) lost))
                        have HBQ := Lib.hid (alloc_self wm (rcpBox (.slice ai r.inputs.length ci) (.slice (some ⟨b, o, none⟩) L.length cv) lost))
                        go_upto_region 25 with (fail)
                        clear r0 r1 r2
                        generalize wm.alloc (rcpBox (.slice ai r.inputs.length ci) (.slice (some ⟨b, o, none⟩) L.length cv) lost) = wq at HbQ HBQ ⊢
                        generalize wm.heap.size = p15 at HBQ ⊢
                        -- the four recipes in this world
                        have HbMq := Lib.hid (below_trans HbM.out HbQ.out)
                        have HbNq := Lib.hid (below_trans HbN.out HbMq.out)
                        have HbWq := Lib.hid (below_trans HbWwm.out HbQ.out)
                        have HT2 := Lib.hid (HRT.out.later HbNq.out)
                        have HN2 := Lib.hid (HRN.out.later HbMq.out)
                        have HM2 := Lib.hid (HRM.out.later HbQ.out)
                        have HO2 : Hid (RcpIn { r with output := lost } L (.slice ai r.inputs.length ci) (.slice (some ⟨b, o, none⟩) L.length cv) wq) := Lib.hid (let h := HRi.out.later HbWq.out; ⟨h.inp, h.stp, h.map, hlo⟩)
                        replace HBT := Lib.hid (heap_up HbNq.out HBT.out)
                        replace HBN := Lib.hid (heap_up HbMq.out HBN.out)
                        replace HBM := Lib.hid (heap_up HbQ.out HBM.out)
                        have HWq := Lib.hid ((HW.out.later HB0.out).later HbWq.out)
                        have HWbq := Lib.hid (heap_up HbWq.out HWb.out)
                        have HBq := Lib.hid (below_trans HB0.out HbWq.out)
                        clear HRT HRN HRM HbM HbN HbQ HbMq HbNq HbWq HbWwx HbWwn HbWwm H1c
                        -- what is refused
                        have hfree := HQ'.out
                        rw [Bool.and_eq_true] at hfree
                        have hkn : ∀ x, (∀ z, freeN lost z = true → z ≠ x) → known r x = false := fun x hx => by
                          unfold known
                          rw [Bool.or_eq_false_iff]
                          constructor
                          · cases hwr : writerOf r.steps x with
                            | none => rfl
                            | some i =>
                              exfalso
                              obtain ⟨hi, hp, -⟩ := List.findIdx?_eq_some_iff_getElem.1 hwr
                              have hm : r.steps[i] ∈ L.map (·.2) := by rw [HR.out.map]; exact List.getElem_mem hi
                              obtain ⟨y, hyL, hy2⟩ := List.mem_map.1 hm
                              exact hx _ (List.all_eq_true.1 hfree.2 y hyL) (by rw [hy2]; simpa using hp)
                          · unfold isInput
                            rw [List.any_eq_false]
                            intro f hf
                            have := hx _ (List.all_eq_true.1 hfree.1 f hf)
                            simpa using this
                        have hk1 : known r lost = false := hkn lost (fun z hz e => by subst e; unfold freeN at hz; simp at hz)
                        have hk2 : known r (lost ++ ⟨#[33]⟩) = false := hkn _ (fun z hz e => by subst e; unfold freeN at hz; simp at hz)
                        have hn1 : isName lost = true := by rw [HLo.out]; kernel_rfl
                        have hn2 : isName (lost ++ ⟨#[33]⟩) = true := by rw [HLo.out]; kernel_rfl
                        have hne : lost ++ ⟨#[33]⟩ ≠ lost := fun e => by
                          have := congrArg ByteArray.size e
                          rw [ByteArray.size_append] at this
                          have h1 : (⟨#[33]⟩ : ByteArray).size = 1 := rfl
                          omega
                        have h59 : r.inputs.length + r.steps.length < 60 := by have := HFew.out; omega
                        obtain ⟨sk, hsk, hsy⟩ := HYm.out
                        have E5 := Lib.hid (refuse_twice HOk.out h59 hsk)
                        rw [hsy] at E5
                        have E4 := Lib.hid (refuse_none HOk.out h59 hn1 hn2 hk1 hk2 hne)
                        have E15 := Lib.hid (refuse_round HOk.out h59 hn1 hk1)
                        have E4b := Lib.hid (refuse_output HOk.out hk1)
                        clear hfree hkn hk1 hk2 hn1 hn2 hne h59 hsk hsy
                        have HRun := Lib.hid (run_bad C0 (more r (copyStep lost lost)) LM _ _ _ _ _ clock order next wq HM2.out HWq.out (by rw [E15.out]; decide))
                        rw [show runL C0 (more r (copyStep lost lost)) clock order next = .error 15 by unfold runL; rw [if_pos (by rw [E15.out]; decide), E15.out]] at HRun
                        obtain ⟨m0, m1, m2⟩ := box3 HBM.out
                        obtain ⟨x0, x1, x2⟩ := box3 HWbq.out
                        go_wp2_with fail
                        refine HRun.out.mono ?_
                        rintro e v1 ⟨hb, rfl⟩
                        have HV1 := Lib.hid hb
                        clear hb m0 m1 m2 x0 x1 x2
                        obtain ⟨t0, t1, t2⟩ := box3 (heap_up HV1.out HBT.out)
                        go_wp2_with fail
                        refine (right_any _ LT _ _ v1 (HT2.out.later HV1.out)).mono ?_
                        rw [E5.out]
                        rintro e v2 ⟨rfl, hb⟩
                        have HV2 := Lib.hid (below_trans HV1.out hb)
                        clear hb t0 t1 t2
                        obtain ⟨t0, t1, t2⟩ := box3 (heap_up HV2.out HBN.out)
                        go_wp2_with fail
                        refine (right_any _ LN _ _ v2 (HN2.out.later HV2.out)).mono ?_
                        rw [E4.out]
                        rintro e v3 ⟨rfl, hb⟩
                        have HV3 := Lib.hid (below_trans HV2.out hb)
                        clear hb t0 t1 t2
                        obtain ⟨t0, t1, t2⟩ := box3 (heap_up HV3.out HBM.out)
                        go_wp2_with fail
                        refine (right_any _ LM _ _ v3 (HM2.out.later HV3.out)).mono ?_
                        rw [E15.out]
                        rintro e v4 ⟨rfl, hb⟩
                        have HV4 := Lib.hid (below_trans HV3.out hb)
                        clear hb t0 t1 t2
                        obtain ⟨t0, t1, t2⟩ := box3 (heap_up HV4.out HBQ.out)
                        go_wp2_with fail
                        refine (right_any { r with output := lost } L _ _ v4 (HO2.out.later HV4.out)).mono ?_
                        rw [E4b.out]
                        rintro e v5 ⟨rfl, hb⟩
                        have HV5 := Lib.hid (below_trans HV4.out hb)
                        clear hb t0 t1 t2
                        obtain ⟨t0, t1, t2⟩ := box3 (heap_up HV5.out HBM.out)
                        go_wp2_with fail
                        refine (order_bad _ LM _ _ v5 (HM2.out.later HV5.out) (by rw [E15.out]; decide)).mono ?_
                        rintro e v6 ⟨rfl, hb⟩
                        have HV6 := Lib.hid (below_trans HV5.out hb)
                        clear hb t0 t1 t2
                        obtain ⟨t0, t1, t2⟩ := box3 (heap_up HV6.out HBT.out)
                        go_wp2_with fail
                        refine (slice_bad _ LT _ _ v6 (HT2.out.later HV6.out) (by rw [E5.out]; decide)).mono ?_
                        rintro e v7 ⟨rfl, hb⟩
                        have HV7 := Lib.hid (below_trans HV6.out hb)
                        clear hb t0 t1 t2
                        obtain ⟨t0, t1, t2⟩ := box3 (heap_up HV7.out HBN.out)
                        go_wp2_with fail
                        refine (pure_bad _ LN _ _ v7 (HN2.out.later HV7.out) (by rw [E4.out]; decide)).mono ?_
                        rintro e v8 ⟨rfl, hb⟩
                        have HV8 := Lib.hid (below_trans HV7.out hb)
                        clear hb t0 t1 t2
                        go_wp2_with fail
                        go_ret
                        exact ⟨rfl, below_trans HBq.out HV8.out⟩
      · have h0 : (inspectE r == 0) = false := beq_eq_false_iff_ne.2 he
        have h1 : (inspectE r != 0) = true := by rw [bne_iff_ne]; exact he
        generalize inspectE r = q at h0 h1 ⊢
        clear he
        go_wp2_with fail
        go_ret
        exact ⟨rfl, HB0.out⟩
end Go.Proofs.YtacgopankhpnbaaGreatDoor
