/- slices.AppendSeq, Collect and Sorted at strings, over slices.Values. -/
import Derived.Test.YtacgopankhpnbaaGreatDoorSeq
namespace Go.Proofs.YtacgopankhpnbaaGreatDoor
open Go.RowKit Go.Shelf

attribute [local go_sem] Oper.semAt_some

theorem strInfo : (Tryz.prog.info? 9).map (fun i => (i.zero, i.size, i.bytes)) = some (some (.string ByteArray.empty), 1, 16) := by kernel_rfl

set_option maxRecDepth 100000 in
set_option maxHeartbeats 2000000 in
theorem appendSeq_any (Bs : Nat) (sv : Value) (zs : List ByteArray) (w : World) (hc : w.cell? ⟨Bs, 0, none⟩ = some sv) (hI : Strs w sv zs) (hz : zs.length * 16 ≤ 140737488355328) :
    Calls Tryz.prog 201 #[.slice none 0 0, .func (.func 160) #[] #[.pointer (some ⟨Bs, 0, none⟩)]] w fun e w' => ∃ v, e = .returned v ∧
      w'.ownsRow w.heap.size 9 1 v zs.length (zs.map Value.string) ∧ Below w.heap.size w w' := by
  obtain ⟨i0, hi, hz0, hz1, hz2⟩ := info_parts strInfo
  have hBs := cell_lt hc
  refine (callsIn_wide (n := 6)).1 ?_
  refine callsIn_of_wp_marks Tryz.func201 rfl trivial ?_ rfl
  simp only [Tryz.ntmps201, List.size_toArray, List.length_cons, List.length_nil, Nat.reduceAdd, Nat.reduceSub, Array.replicate_succ, Array.replicate_zero, List.push_toArray, List.append_toArray, List.nil_append, List.cons_append]
  gi_wp2
  have bO := Boxed.new w 22 (.slice none 0 0)
  have hB0 : Below w.heap.size w (w.alloc (.cells #[.slice none 0 0] 22)) := below_alloc w _
  refine wpIn_rangeFunc_ownG rfl (by decide) (gf := 160) (lb := #[.pointer (some ⟨Bs, 0, none⟩)]) rfl trivial (enters_of Tryz.func160 (by kernel_rfl) rfl)
    (values_stops 5 (by omega) Bs w.heap.size sv zs _ (by simp; omega) (by simp) (cell_later hB0 hc) w hI rfl hB0) belowK_t (belowK_b (by simp)) (Below.refl _ _) (fun _ => rfl)
    (fun pre W => (∃ v, Boxed W w.heap.size 22 v ∧ W.ownsRow w.heap.size 9 1 v pre.length (pre.map Value.string) ∧ (v = .slice none 0 0 ↔ pre = [])) ∧ Below w.heap.size w W)
    (fun _ _ _ => False)
    (OwnFrom.and (Own.from (holdsRow_own w.heap.size w.heap.size 22 9 1 (fun pre => pre.length) (fun pre => pre.map Value.string) (fun pre v => v = .slice none 0 0 ↔ pre = [])) _) (ownFrom_below (Nat.le_refl _) (by simp)))
    (fun _ _ _ _ _ hs _ _ => hs)
    ⟨⟨_, bO, World.ownsRow_nil _ _ _ _, by simp⟩, hB0⟩
    (fun x => { tmps := #[.slice none 0 0, .func (.func 160) #[] #[.pointer (some ⟨Bs, 0, none⟩)], .pointer (some ⟨w.heap.size, 0, none⟩), undef, .slice none 0 0, .string x, .func (.func 160) #[] #[.pointer (some ⟨Bs, 0, none⟩)], .string x, undef, undef, undef, undef, undef], defers := [] }) ?assign ?body ?done ?stop
  case assign =>
    intro l x W K hK
    gi_wp2
    exact hK
  case body =>
    rintro l pre x W ⟨⟨v, hv, hrow, hnil⟩, hB⟩ hlt
    have hcc := hv.cell
    gi_wp2_with (gi_at_builtin; refine wpListIn_append_own _ rfl _ _ 22 rfl w.heap.size 9 i0 (.string ByteArray.empty) 1 16 Tryz.underlying22 hi hz0 hz1 hz2 rfl (by decide) _ _ _ rfl (hrow.alloc _) ⟨W.heap.size, 0, none⟩ 1 1 [.string x] rfl rfl (cell_one_new _ _ _) (by simp [Value.oneCell']) (by unfold maxLen; omega) (by omega) (by have := hB.size; simp; omega) ?_; intro v' w1 hown' hgrow _; obtain ⟨g', cap', rfl⟩ := ownsRow_succ hown'; obtain ⟨hv1, hv2, hr2, hk2, hb2⟩ := hv.appended (by decide) hrow hB.size (Nat.le_refl _) hown' hgrow; have hc1 := hv1.cell; have hf1 := hv1.frozen)
    exact ⟨hk2.from _, hb2, ⟨_, hv2, by simpa using hr2, by simp⟩, hB.trans hb2⟩
  case done =>
    rintro D ys W hD rfl ⟨⟨v, hv, hrow, hnil⟩, hB⟩ hK
    have hcc := hv.cell
    gi_wp2
    refine ⟨by simp, .inl ⟨_, _, rfl, run_takeDeferred hK, ?_⟩⟩
    exact ⟨_, results_tmp rfl _ _ _, v, rfl, ownsRow_putObj hrow _ hK rfl, hB.trans (belowK_b (w := w) (Nat.le_refl _) W D _ _ (by simp at hD; omega) hK rfl rfl)⟩
  case stop =>
    rintro D c pre W _ _ h _
    exact h.elim

/-- A slice of strings in a block from B on, that may be written. -/
def OwnStrs (B : Nat) (w : World) (v : Value) (l : List ByteArray) : Prop :=
  (l = [] ∧ v = .slice none 0 0) ∨ ∃ g o c, v = .slice (some ⟨g, o, none⟩) l.length c ∧ B ≤ g ∧ g < w.heap.size ∧ l.length ≤ c ∧ c ≤ 9223372036854775807 ∧
    ∀ i x, l[i]? = some x → w.cell? ⟨g, o + i, none⟩ = some (.string x) ∧ w.frozen? ⟨g, o + i, none⟩ = false ∧ x.size ≤ 140737488355328
theorem OwnStrs.strs {B : Nat} {w : World} {v : Value} {l : List ByteArray} (h : OwnStrs B w v l) : Strs w v l := by
  rcases h with ⟨rfl, rfl⟩ | ⟨g, o, c, rfl, -, -, h1, h2, hc⟩
  · exact ⟨none, 0, rfl, by simp, by simp, fun h => absurd rfl h⟩
  · refine ⟨_, c, rfl, h1, h2, fun _ => ⟨g, o, rfl, fun i x hx => ⟨[.string x], ⟨rfl, (hc i x hx).2.2⟩, rfl, fun j u hu => ?_⟩⟩⟩
    match j, hu with
    | 0, hu => cases hu; simpa using (hc i x hx).1

theorem OwnStrs.block {B B' : Nat} {w : World} {v : Value} {l : List ByteArray} (h : OwnStrs B w v l) (hB : B' ≤ B) : ∀ a n c, v = .slice (some a) n c → B' ≤ a.block := by
  intro a n c e
  rcases h with ⟨_, rfl⟩ | ⟨g, o, c', rfl, hg, _⟩
  · cases e
  · cases e; exact Nat.le_trans hB hg
theorem collect_any (Bs : Nat) (sv : Value) (zs : List ByteArray) (w : World) (hc : w.cell? ⟨Bs, 0, none⟩ = some sv) (hI : Strs w sv zs) (hz : zs.length * 16 ≤ 140737488355328) :
    Calls Tryz.prog 159 #[.func (.func 160) #[] #[.pointer (some ⟨Bs, 0, none⟩)]] w fun e w' => ∃ v, e = .returned v ∧
      w'.ownsRow w.heap.size 9 1 v zs.length (zs.map Value.string) ∧ Below w.heap.size w w' := by
  have HA := Lib.hid (appendSeq_any Bs sv zs w hc hI hz)
  clear hc hI
  go_enter Tryz.func159, Tryz.ntmps159
  go_wp2_with fail
  refine HA.out.mono ?_
  rintro e w' ⟨v, rfl, hrow, hb⟩
  have HR := Lib.hid hrow; clear hrow
  go_wp2_with fail
  go_ret
  exact ⟨v, rfl, HR.out, hb⟩

set_option maxHeartbeats 1000000 in
theorem sortedSeq_any (Bs : Nat) (sv : Value) (zs : List ByteArray) (w : World) (hc : w.cell? ⟨Bs, 0, none⟩ = some sv) (hI : Strs w sv zs) (hz : zs.length * 16 ≤ 140737488355328) :
    Calls Tryz.prog 116 #[.func (.func 160) #[] #[.pointer (some ⟨Bs, 0, none⟩)]] w fun e w' => ∃ v, e = .returned v ∧ OwnStrs w.heap.size w' v (sortB zs) ∧ Below w.heap.size w w' := by
  have HA := Lib.hid (collect_any Bs sv zs w hc hI hz)
  have HZ := Lib.hid (fun x (hx : x ∈ zs) => strs_size hI hx)
  clear hc hI
  go_enter Tryz.func116, Tryz.ntmps116
  go_wp2_with fail
  refine HA.out.mono ?_
  rintro e w' ⟨v, rfl, hrow, hb⟩
  rcases hrow.2 with ⟨rfl, h0⟩ | ⟨g, cap, cur, rfl, hbase, hgb, r1, r2, r3, r4⟩
  · have HE : Hid (zs = []) := Lib.hid (List.eq_nil_of_length_eq_zero h0)
    clear hrow h0
    have HS := Lib.hid (Tryz.slices_Sort_string_none none 0 w')
    go_wp2_with fail
    refine HS.out.mono ?_
    rintro e w2 ⟨rfl, rfl⟩
    go_wp2_with fail
    go_ret
    exact ⟨_, rfl, .inl ⟨by rw [HE.out]; simp [sortB], rfl⟩, hb⟩
  · have hgl : g < w'.heap.size := (Array.getElem?_eq_some_iff.1 hgb).1
    have hcl : ∀ i x, zs[i]? = some x → w'.cell? ⟨g, 0 + i, none⟩ = some (.string x) ∧ w'.frozen? ⟨g, 0 + i, none⟩ = false := by
      intro i x hx
      rw [Nat.zero_add]
      have hx' : cur[i]? = some (.string x) := by
        have := congrArg (fun t : List Value => t[i]?) r4
        rw [Nat.mul_one, List.getElem?_take] at this
        obtain ⟨hi, rfl⟩ := List.getElem?_eq_some_iff.1 hx
        simpa [hi] using this
      exact ⟨by simp [World.cell?, hgb, hx'], by simp [World.frozen?, hgb]⟩
    have HS := Lib.hid (sort_str w.heap.size g 0 cap zs w' hcl hgl hbase (by omega))
    have hcap : cap ≤ 9223372036854775807 := r2
    have hzc : zs.length ≤ cap := r1
    clear hrow hcl hgb r1 r2 r3 r4
    go_wp2_with fail
    refine HS.out.mono ?_
    rintro e w2 ⟨rfl, hb2, hc2⟩
    have HC2 := Lib.hid hc2; clear hc2
    go_wp2_with fail
    go_ret
    exact ⟨_, rfl, .inr ⟨g, 0, cap, by rw [sortB_length]; rfl, hbase, Nat.lt_of_lt_of_le hgl hb2.size, by rw [sortB_length]; exact hzc, hcap, fun i x hx => ⟨(HC2.out i x hx).1, (HC2.out i x hx).2, HZ.out x (mem_sortB (List.mem_of_getElem? hx))⟩⟩, hb.trans hb2⟩
end Go.Proofs.YtacgopankhpnbaaGreatDoor
