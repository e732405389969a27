/- Texts of this seat, joined: Seq, SeqB, StepG, StepH, BuildB, BuildC, VisitLaw, BuildD, BuildE, BuildF, Clone, BuildG, BuildH. -/
import Derived.Test.YtacgopankhpnbaaGreatDoorJRefusesTopC
import Derived.RangeFuncNested
import Derived.RangeFuncBound
import Derived.RangeFuncCalls
import Derived.RangeFuncBox
import Derived.RangeFuncLeaves
import Derived.OwnWalkIn
import Derived.TacticsInMore
import Derived.LoopNIn
import Derived.LoopIn
import Derived.Maps.AppendAt
import Derived.OpenShut
import Derived.Deep.RegionHeld3
import Derived.Laws.EntriesVeiled
import Derived.Test.YtacgopankhpnbaaGreatDoorShelf
/- slices.Values, Collect, AppendSeq and Sorted at strings: 'slices.Sorted(slices.Values(l))'. After the guide's worked texts on ranges over a function. -/
namespace Go.Proofs.YtacgopankhpnbaaGreatDoor
open Go.RowKit Go.Shelf

attribute [local go_sem] Oper.semAt_some

set_option maxRecDepth 100000 in
set_option maxHeartbeats 2000000 in
theorem values1_in (n : Nat) (hn : 1 ≤ n) (l Bs n₀ b off cap : Nat) (zs : List ByteArray) (hreach : zs.length ≤ 9223372036854775807) (hb : b < n₀) (J Jx : List ByteArray → World → Prop)
    (hY : ∀ pre x W, J pre W → pre.length < zs.length → YieldAt Fence.wide (n - 1) Tryz.prog l #[.string x] W fun e W' =>
      (e = .returned (.bool true) ∧ J (pre ++ [x]) W' ∧ Below n₀ W W') ∨ (e = .returned (.bool false) ∧ Jx (pre ++ [x]) W'))
    (W : World) (hBs : W.cell? ⟨Bs, 0, none⟩ = some (.slice (some ⟨b, off, none⟩) zs.length cap)) (hc : ∀ j x, zs[j]? = some x → W.cell? ⟨b, off + j, none⟩ = some (.string x)) (h0 : J [] W) :
    CallsIn Fence.wide n Tryz.prog 160 #[.func (.yield l) #[] #[], .pointer (some ⟨Bs, 0, none⟩)] W fun e W' => (∃ v, e = .returned v) ∧
      (J zs W' ∨ (∃ pre, pre <+: zs ∧ Jx pre W')) := by
  refine callsIn_of_wp Tryz.func160 rfl trivial ?_ rfl
  simp only [Tryz.ntmps160, List.size_toArray, List.length_cons, List.length_nil, Nat.reduceAdd, Nat.reduceSub, Array.replicate_succ, Array.replicate_zero, List.push_toArray, List.append_toArray, List.nil_append, List.cons_append]
  gi_wp2
  have HC := Lib.hid hc; clear hc
  gi_loopw [7] (fun i wr => ∃ k : Nat, k ≤ zs.length ∧ i = .int .i64 k ∧ J (zs.take k) wr ∧ Below n₀ W wr)
    (fun i _ => zs.length - (intOf i).toNat)
  case atStart => exact ⟨0, Nat.zero_le _, rfl, h0, Below.refl _ _⟩
  case round =>
    obtain ⟨k, hk, rfl, hJs, hnx⟩ := hrel
    by_cases hlt : k < zs.length
    · obtain ⟨x, hx, -⟩ := getElem?_of_lt hlt
      have hcx' : wr.cell? ⟨b, off + k, none⟩ = some (.string x) := (hnx.cell (p := ⟨b, off + k, none⟩) hb).trans (HC.out k x hx)
      obtain ⟨fn, tmps, assign, body, hy, hR⟩ := hY _ x wr hJs (by simp; omega)
      have HX := Lib.hid (show zs.take (k + 1) = zs.take k ++ [x] by rw [List.take_add_one, hx]; rfl)
      clear hx
      gi_wp2
      refine hR.mono ?_
      rintro e W3 (⟨rfl, hJ3, hk3⟩ | ⟨rfl, hJx3⟩)
      · gi_wp2
        go_roundw
        case rel => exact ⟨k + 1, by omega, by simp, by rw [HX.out]; exact hJ3, hnx.trans hk3⟩
        case measure => simp [intOf]; omega
      · gi_wp2
        refine bodyPost_ret (results_none rfl _ _ _) rfl ?_
        exact ⟨⟨_, rfl⟩, .inr ⟨_, by rw [← HX.out]; exact List.take_prefix _ _, hJx3⟩⟩
    · have hz : zs.take k = zs := List.take_of_length_le (by omega)
      rw [hz] at hJs
      clear hz
      gi_wp2
      go_end0
      exact ⟨⟨_, rfl⟩, .inl hJs⟩

set_option maxRecDepth 100000 in
set_option maxHeartbeats 1000000 in
theorem values1_nil_in (n : Nat) (l Bs : Nat) (a : Option Addr) (c : Nat) (J : List ByteArray → World → Prop) (W : World) (hBs : W.cell? ⟨Bs, 0, none⟩ = some (.slice a 0 c)) (h0 : J [] W) :
    CallsIn Fence.wide n Tryz.prog 160 #[.func (.yield l) #[] #[], .pointer (some ⟨Bs, 0, none⟩)] W fun e W' => (∃ v, e = .returned v) ∧ J [] W' := by
  refine callsIn_of_wp Tryz.func160 rfl trivial ?_ rfl
  simp only [Tryz.ntmps160, List.size_toArray, List.length_cons, List.length_nil, Nat.reduceAdd, Nat.reduceSub, Array.replicate_succ, Array.replicate_zero, List.push_toArray, List.append_toArray, List.nil_append, List.cons_append]
  gi_wp2
  gi_loopw [7] (fun i wr => i = .int .i64 0 ∧ J [] wr) (fun _ _ => 0)
  case atStart => exact ⟨rfl, h0⟩
  case round =>
    obtain ⟨rfl, hJs⟩ := hrel
    gi_wp2
    go_end0
    exact ⟨⟨_, rfl⟩, hJs⟩

theorem values_stops (n : Nat) (hn : 1 ≤ n) (Bs n₀ : Nat) (sv : Value) (zs : List ByteArray) (w : World) (hBs : Bs < w.heap.size) (hn₀ : n₀ ≤ w.heap.size)
    (hc : w.cell? ⟨Bs, 0, none⟩ = some sv) (w0 : World) (hI : Strs w0 sv zs) (h0 : w0.heap.size = n₀) (hw0 : Below n₀ w0 w) :
    SeqStopsK Fence.wide n Tryz.prog 160 #[.pointer (some ⟨Bs, 0, none⟩)] (fun x : ByteArray => #[Value.string x]) (Below n₀) (fun ys => ys = zs) (fun pre => pre <+: zs) zs.length w := fun l J Jx W hW _ _ hY hj0 => by
  have hc' := (hW.cell (p := ⟨Bs, 0, none⟩) hBs).trans hc
  have hb0 : Below w0.heap.size w0 W := by rw [h0]; exact hw0.trans (hW.mono hn₀)
  rcases hI.cases with ⟨rfl, a, c, rfl⟩ | ⟨b, o, c, rfl, hl0, hl1, hl2, hlb, hcs⟩
  · exact (values1_nil_in n l Bs a c J W hc' hj0).mono fun e W' ⟨he, hj⟩ => ⟨he, .inl ⟨_, rfl, hj⟩⟩
  · refine (values1_in n hn l Bs n₀ b o c zs (by omega) (by omega) J Jx hY W hc' (fun j x hx => cell_later hb0 (hcs j x hx).1) hj0).mono ?_
    rintro e W' ⟨he, hj | ⟨pre, hp, hj⟩⟩
    · exact ⟨he, .inl ⟨_, rfl, hj⟩⟩
    · exact ⟨he, .inr ⟨_, hp, hj⟩⟩

theorem values_any (a : Option Addr) (len cap : Nat) (w : World) :
    Calls Tryz.prog 117 #[.slice a len cap] w fun e w' => e = .returned (.func (.func 160) #[] #[.pointer (some ⟨w.heap.size, 0, none⟩)]) ∧ w' = w.alloc (.cells #[.slice a len cap] 22) := by
  go_enter Tryz.func117, Tryz.ntmps117
  go_wp2_with fail
  go_ret
  exact ⟨rfl, rfl⟩
end Go.Proofs.YtacgopankhpnbaaGreatDoor
/- slices.AppendSeq, Collect and Sorted at strings, over slices.Values. -/
namespace Go.Proofs.YtacgopankhpnbaaGreatDoor
open Go.RowKit Go.Shelf

attribute [local go_sem] Oper.semAt_some

theorem strInfo : (Tryz.prog.info? 9).map (fun i => (i.zero, i.size, i.bytes)) = some (some (.string ByteArray.empty), 1, 16) := by kernel_rfl

set_option maxRecDepth 100000 in
set_option maxHeartbeats 2000000 in
theorem appendSeq_any (Bs : Nat) (sv : Value) (zs : List ByteArray) (w : World) (hc : w.cell? ⟨Bs, 0, none⟩ = some sv) (hI : Strs w sv zs) (hz : zs.length * 16 ≤ 140737488355328) :
    Calls Tryz.prog 201 #[.slice none 0 0, .func (.func 160) #[] #[.pointer (some ⟨Bs, 0, none⟩)]] w fun e w' => ∃ v, e = .returned v ∧
      w'.ownsRow w.heap.size 9 1 v zs.length (zs.map Value.string) ∧ Below w.heap.size w w' := by
  obtain ⟨i0, hi, hz0, hz1, hz2⟩ := info_parts strInfo
  have hBs := cell_lt hc
  refine (callsIn_wide (n := 6)).1 ?_
  refine callsIn_of_wp_marks Tryz.func201 rfl trivial ?_ rfl
  simp only [Tryz.ntmps201, List.size_toArray, List.length_cons, List.length_nil, Nat.reduceAdd, Nat.reduceSub, Array.replicate_succ, Array.replicate_zero, List.push_toArray, List.append_toArray, List.nil_append, List.cons_append]
  gi_wp2
  have bO := Boxed.new w 22 (.slice none 0 0)
  have hB0 : Below w.heap.size w (w.alloc (.cells #[.slice none 0 0] 22)) := below_alloc w _
  refine wpIn_rangeFunc_ownG rfl (by decide) (gf := 160) (lb := #[.pointer (some ⟨Bs, 0, none⟩)]) rfl trivial (enters_of Tryz.func160 (by kernel_rfl) rfl)
    (values_stops 5 (by omega) Bs w.heap.size sv zs _ (by simp; omega) (by simp) (cell_later hB0 hc) w hI rfl hB0) belowK_t (belowK_b (by simp)) (Below.refl _ _) (fun _ => rfl)
    (fun pre W => (∃ v, Boxed W w.heap.size 22 v ∧ W.ownsRow w.heap.size 9 1 v pre.length (pre.map Value.string) ∧ (v = .slice none 0 0 ↔ pre = [])) ∧ Below w.heap.size w W)
    (fun _ _ _ => False)
    (OwnFrom.and (Own.from (holdsRow_own w.heap.size w.heap.size 22 9 1 (fun pre => pre.length) (fun pre => pre.map Value.string) (fun pre v => v = .slice none 0 0 ↔ pre = [])) _) (ownFrom_below (Nat.le_refl _) (by simp)))
    (fun _ _ _ _ _ hs _ _ => hs)
    ⟨⟨_, bO, World.ownsRow_nil _ _ _ _, by simp⟩, hB0⟩
    (fun x => { tmps := #[.slice none 0 0, .func (.func 160) #[] #[.pointer (some ⟨Bs, 0, none⟩)], .pointer (some ⟨w.heap.size, 0, none⟩), undef, .slice none 0 0, .string x, .func (.func 160) #[] #[.pointer (some ⟨Bs, 0, none⟩)], .string x, undef, undef, undef, undef, undef], defers := [] }) ?assign ?body ?done ?stop
  case assign =>
    intro l x W K hK
    gi_wp2
    exact hK
  case body =>
    rintro l pre x W ⟨⟨v, hv, hrow, hnil⟩, hB⟩ hlt
    have hcc := hv.cell
    gi_wp2_with (gi_at_builtin; refine wpListIn_append_own _ rfl _ _ 22 rfl w.heap.size 9 i0 (.string ByteArray.empty) 1 16 Tryz.underlying22 hi hz0 hz1 hz2 rfl (by decide) _ _ _ rfl (hrow.alloc _) ⟨W.heap.size, 0, none⟩ 1 1 [.string x] rfl rfl (cell_one_new _ _ _) (by simp [Value.oneCell']) (by unfold maxLen; omega) (by omega) (by have := hB.size; simp; omega) ?_; intro v' w1 hown' hgrow _; obtain ⟨g', cap', rfl⟩ := ownsRow_succ hown'; obtain ⟨hv1, hv2, hr2, hk2, hb2⟩ := hv.appended (by decide) hrow hB.size (Nat.le_refl _) hown' hgrow; have hc1 := hv1.cell; have hf1 := hv1.frozen)
    exact ⟨hk2.from _, hb2, ⟨_, hv2, by simpa using hr2, by simp⟩, hB.trans hb2⟩
  case done =>
    rintro D ys W hD rfl ⟨⟨v, hv, hrow, hnil⟩, hB⟩ hK
    have hcc := hv.cell
    gi_wp2
    refine ⟨by simp, .inl ⟨_, _, rfl, run_takeDeferred hK, ?_⟩⟩
    exact ⟨_, results_tmp rfl _ _ _, v, rfl, ownsRow_putObj hrow _ hK rfl, hB.trans (belowK_b (w := w) (Nat.le_refl _) W D _ _ (by simp at hD; omega) hK rfl rfl)⟩
  case stop =>
    rintro D c pre W _ _ h _
    exact h.elim

/-- A slice of strings in a block from B on, that may be written. -/
def OwnStrs (B : Nat) (w : World) (v : Value) (l : List ByteArray) : Prop :=
  (l = [] ∧ v = .slice none 0 0) ∨ ∃ g o c, v = .slice (some ⟨g, o, none⟩) l.length c ∧ B ≤ g ∧ g < w.heap.size ∧ l.length ≤ c ∧ c ≤ 9223372036854775807 ∧
    ∀ i x, l[i]? = some x → w.cell? ⟨g, o + i, none⟩ = some (.string x) ∧ w.frozen? ⟨g, o + i, none⟩ = false ∧ x.size ≤ 140737488355328
theorem OwnStrs.strs {B : Nat} {w : World} {v : Value} {l : List ByteArray} (h : OwnStrs B w v l) : Strs w v l := by
  rcases h with ⟨rfl, rfl⟩ | ⟨g, o, c, rfl, -, -, h1, h2, hc⟩
  · exact ⟨none, 0, rfl, by simp, by simp, fun h => absurd rfl h⟩
  · refine ⟨_, c, rfl, h1, h2, fun _ => ⟨g, o, rfl, fun i x hx => ⟨[.string x], ⟨rfl, (hc i x hx).2.2⟩, rfl, fun j u hu => ?_⟩⟩⟩
    match j, hu with
    | 0, hu => cases hu; simpa using (hc i x hx).1

theorem OwnStrs.block {B B' : Nat} {w : World} {v : Value} {l : List ByteArray} (h : OwnStrs B w v l) (hB : B' ≤ B) : ∀ a n c, v = .slice (some a) n c → B' ≤ a.block := by
  intro a n c e
  rcases h with ⟨_, rfl⟩ | ⟨g, o, c', rfl, hg, _⟩
  · cases e
  · cases e; exact Nat.le_trans hB hg
theorem collect_any (Bs : Nat) (sv : Value) (zs : List ByteArray) (w : World) (hc : w.cell? ⟨Bs, 0, none⟩ = some sv) (hI : Strs w sv zs) (hz : zs.length * 16 ≤ 140737488355328) :
    Calls Tryz.prog 159 #[.func (.func 160) #[] #[.pointer (some ⟨Bs, 0, none⟩)]] w fun e w' => ∃ v, e = .returned v ∧
      w'.ownsRow w.heap.size 9 1 v zs.length (zs.map Value.string) ∧ Below w.heap.size w w' := by
  have HA := Lib.hid (appendSeq_any Bs sv zs w hc hI hz)
  clear hc hI
  go_enter Tryz.func159, Tryz.ntmps159
  go_wp2_with fail
  refine HA.out.mono ?_
  rintro e w' ⟨v, rfl, hrow, hb⟩
  have HR := Lib.hid hrow; clear hrow
  go_wp2_with fail
  go_ret
  exact ⟨v, rfl, HR.out, hb⟩

set_option maxHeartbeats 1000000 in
theorem sortedSeq_any (Bs : Nat) (sv : Value) (zs : List ByteArray) (w : World) (hc : w.cell? ⟨Bs, 0, none⟩ = some sv) (hI : Strs w sv zs) (hz : zs.length * 16 ≤ 140737488355328) :
    Calls Tryz.prog 116 #[.func (.func 160) #[] #[.pointer (some ⟨Bs, 0, none⟩)]] w fun e w' => ∃ v, e = .returned v ∧ OwnStrs w.heap.size w' v (sortB zs) ∧ Below w.heap.size w w' := by
  have HA := Lib.hid (collect_any Bs sv zs w hc hI hz)
  have HZ := Lib.hid (fun x (hx : x ∈ zs) => strs_size hI hx)
  clear hc hI
  go_enter Tryz.func116, Tryz.ntmps116
  go_wp2_with fail
  refine HA.out.mono ?_
  rintro e w' ⟨v, rfl, hrow, hb⟩
  rcases hrow.2 with ⟨rfl, h0⟩ | ⟨g, cap, cur, rfl, hbase, hgb, r1, r2, r3, r4⟩
  · have HE : Hid (zs = []) := Lib.hid (List.eq_nil_of_length_eq_zero h0)
    clear hrow h0
    have HS := Lib.hid (Tryz.slices_Sort_string_none none 0 w')
    go_wp2_with fail
    refine HS.out.mono ?_
    rintro e w2 ⟨rfl, rfl⟩
    go_wp2_with fail
    go_ret
    exact ⟨_, rfl, .inl ⟨by rw [HE.out]; simp [sortB], rfl⟩, hb⟩
  · have hgl : g < w'.heap.size := (Array.getElem?_eq_some_iff.1 hgb).1
    have hcl : ∀ i x, zs[i]? = some x → w'.cell? ⟨g, 0 + i, none⟩ = some (.string x) ∧ w'.frozen? ⟨g, 0 + i, none⟩ = false := by
      intro i x hx
      rw [Nat.zero_add]
      have hx' : cur[i]? = some (.string x) := by
        have := congrArg (fun t : List Value => t[i]?) r4
        rw [Nat.mul_one, List.getElem?_take] at this
        obtain ⟨hi, rfl⟩ := List.getElem?_eq_some_iff.1 hx
        simpa [hi] using this
      exact ⟨by simp [World.cell?, hgb, hx'], by simp [World.frozen?, hgb]⟩
    have HS := Lib.hid (sort_str w.heap.size g 0 cap zs w' hcl hgl hbase (by omega))
    have hcap : cap ≤ 9223372036854775807 := r2
    have hzc : zs.length ≤ cap := r1
    clear hrow hcl hgb r1 r2 r3 r4
    go_wp2_with fail
    refine HS.out.mono ?_
    rintro e w2 ⟨rfl, hb2, hc2⟩
    have HC2 := Lib.hid hc2; clear hc2
    go_wp2_with fail
    go_ret
    exact ⟨_, rfl, .inr ⟨g, 0, cap, by rw [sortB_length]; rfl, hbase, Nat.lt_of_lt_of_le hgl hb2.size, by rw [sortB_length]; exact hzc, hcap, fun i x hx => ⟨(HC2.out i x hx).1, (HC2.out i x hx).2, HZ.out x (mem_sortB (List.mem_of_getElem? hx))⟩⟩, hb.trans hb2⟩
end Go.Proofs.YtacgopankhpnbaaGreatDoor
/- Walks of package step: the sandbox's list. -/
namespace Go.Proofs.YtacgopankhpnbaaGreatDoor
open Go.RowKit

theorem only_setCells (b : Nat) : ∀ (vs : List Value) (o : Nat) (w : World), Only b w (w.setCells b o vs)
  | [], _, w => Only.refl b w
  | v :: r, o, w => (Only.setCell w).trans (only_setCells b r (o + 1) (w.setCell ⟨b, o, none⟩ v))
theorem Only.drewN {b : Nat} {w : World} (n : Nat) : Only b w (w.drewN n) := ⟨rfl, rfl, rfl, Nat.le_refl _, fun _ _ _ => rfl⟩

theorem strsOf_getD (l : List ByteArray) : Lib.strsOf (fun j => l.getD j ByteArray.empty) l.length = l.map (·.data.toList) := by
  apply List.ext_getElem
  · simp [Lib.strsOf]
  · intro i h1 h2
    have hi : i < l.length := by simpa [Lib.strsOf] using h1
    simp [Lib.strsOf, hi]

theorem delete_at (g o c : Nat) (l : List ByteArray) (i : Nat) (w : World) (hc : ∀ j x, l[j]? = some x → w.cell? ⟨g, o + j, none⟩ = some (.string x) ∧ w.frozen? ⟨g, o + j, none⟩ = false)
    (hi : i < l.length) (hcap : l.length ≤ c) (hm : c ≤ 9223372036854775807) :
    Calls Tryz.prog 118 #[.slice (some ⟨g, o, none⟩) l.length c, .int .i64 i, .int .i64 ((i : Int) + 1)] w fun e w' => e = .returned (.slice (some ⟨g, o, none⟩) (l.eraseIdx i).length c) ∧ Only g w w' ∧
      ∀ j x, (l.eraseIdx i)[j]? = some x → w'.cell? ⟨g, o + j, none⟩ = some (.string x) ∧ w'.frozen? ⟨g, o + j, none⟩ = false := by
  have hcell : ∀ j, j < l.length → w.cell? ⟨g, o + j, none⟩ = some (.string (l.getD j ByteArray.empty)) := fun j hj => by
    rw [List.getD_eq_getElem?_getD, List.getElem?_eq_getElem hj]; exact (hc j _ (List.getElem?_eq_getElem hj)).1
  have h := Tryz.slices_Delete_string_cells g o l.length c i (i + 1) (fun j => l.getD j ByteArray.empty) w hcap hm (by omega) (by omega) hcell (fun j hj => (hc j _ (List.getElem?_eq_getElem hj)).2)
  rw [strsOf_getD, show i + 1 - i = 1 by omega] at h
  have e1 : (((i + 1 : Nat) : Int)) = (i : Int) + 1 := by omega
  rw [e1] at h
  refine h.mono ?_
  rintro e w' ⟨rfl, q, rfl⟩
  have hlen : (l.eraseIdx i).length = l.length - 1 := by rw [List.length_eraseIdx]; simp [hi]
  refine ⟨by rw [hlen], (Only.drewN q).trans (only_setCells g _ o _), fun j x hx => ?_⟩
  have hj : j < (l.eraseIdx i).length := (List.getElem?_eq_some_iff.1 hx).1
  rw [World.frozen?_setCells]
  have hvs : ((List.take i (List.map (fun x : ByteArray => x.data.toList) l) ++ List.drop (i + 1) (List.map (fun x : ByteArray => x.data.toList) l) ++ List.replicate 1 []).map encStr)[j]? = some (.string x) := by
    have : (List.take i (List.map (fun x : ByteArray => x.data.toList) l) ++ List.drop (i + 1) (List.map (fun x : ByteArray => x.data.toList) l)) = List.map (fun x : ByteArray => x.data.toList) (l.eraseIdx i) := by
      rw [List.eraseIdx_eq_take_drop_succ, List.map_append, List.map_take, List.map_drop]
    rw [this, List.map_append, List.getElem?_append_left (by simpa using hj)]
    simp [hx]
  obtain ⟨hj2, hxe⟩ := List.getElem?_eq_some_iff.1 hvs
  refine ⟨?_, (hc j _ (List.getElem?_eq_getElem (by omega))).2⟩
  rw [World.cell?_setCells_in g _ o _ (fun j' hj' => ?_) j hj2, hxe]
  have : j' < l.length := by simp at hj'; omega
  have := (hc j' _ (List.getElem?_eq_getElem this)).1
  show (w.cell? _).isSome = true
  rw [this]; rfl
end Go.Proofs.YtacgopankhpnbaaGreatDoor
/- Walks of package step: the sandbox's list. -/
namespace Go.Proofs.YtacgopankhpnbaaGreatDoor
open Go.RowKit

set_option maxHeartbeats 1000000 in
theorem list_sorted (b : Nat) (names : List ByteArray) (vn : Value) (w : World) (hn : Strs w vn names) (hz : names.length * 16 ≤ 140737488355328) :
    Calls Tryz.prog 87 #[.pointer (some ⟨b, 0, none⟩), vn, .bool true] w fun e w' => ∃ v, e = .returned v ∧ Strs w' v (sortB names) ∧ (∀ a n c, v = .slice (some a) n c → w.heap.size ≤ a.block) ∧ Below w.heap.size w w' := by
  obtain ⟨a, c, hv, -⟩ := id hn
  subst hv
  have HS : Hid (∀ W, Below w.heap.size w W → W.cell? ⟨w.heap.size, 0, none⟩ = some (.slice a names.length c) → Calls Tryz.prog 116 #[.func (.func 160) #[] #[.pointer (some ⟨w.heap.size, 0, none⟩)]] W fun e w' => ∃ v, e = .returned v ∧ OwnStrs W.heap.size w' v (sortB names) ∧ Below W.heap.size W w') :=
    Lib.hid fun W hb hc => sortedSeq_any _ _ names W hc (hn.later hb) hz
  clear hn
  go_enter Tryz.func87, Tryz.ntmps87
  go_wp2_with fail
  refine (values_any _ _ _ _).mono ?_
  rintro e w1 ⟨rfl, rfl⟩
  go_wp2_with fail
  refine (HS.out _ (below_alloc _ _) (by simp)).mono ?_
  rintro e w2 ⟨v, rfl, hO, hb⟩
  obtain ⟨a2, c2, hv2, -⟩ := id hO.strs
  subst hv2
  have HO := Lib.hid hO; clear hO
  go_wp2_with fail
  go_ret
  exact ⟨_, rfl, HO.out.strs, HO.out.block (by simp), below_trans (below_alloc _ _) hb⟩

theorem i64_bounds {n : Int} (h : (Lit.int .i64 n).wf = true) : -9223372036854775808 ≤ n ∧ n ≤ 9223372036854775807 := by
  simp [Lit.wf, IntKind.min, IntKind.max, IntKind.signed, IntKind.bits] at h
  omega
theorem tmod_cases (x : Int) (n : Nat) (h : 0 < n) : (x.tmod n < 0 ∧ x.tmod n + n = (pickIdx x n : Int) ∨ 0 ≤ x.tmod n ∧ x.tmod n = (pickIdx x n : Int)) ∧ pickIdx x n < n := by
  have hn : (n : Int) ≠ 0 := by omega
  have h1 := Int.emod_nonneg x hn
  have h2 := Int.emod_lt_of_pos x (show (0 : Int) < n by omega)
  have h3 := Int.tmod_eq_emod (a := x) (b := n)
  unfold pickIdx
  by_cases hc : 0 ≤ x ∨ (n : Int) ∣ x
  · rw [if_pos hc] at h3
    exact ⟨.inr ⟨by omega, by omega⟩, by omega⟩
  · rw [if_neg hc] at h3
    have : ((n : Int).natAbs : Int) = n := by omega
    rw [this] at h3
    exact ⟨.inl ⟨by omega, by omega⟩, by omega⟩
theorem pickAll_step {order : List Int} {l out : List ByteArray} {u : Nat} {x : ByteArray} (h : 0 < l.length) (hx : l[pickIdx (order.getD (u + out.length) 0) l.length]? = some x) :
    out ++ pickAll order l.length (u + out.length) l = (out ++ [x]) ++ pickAll order (l.eraseIdx (pickIdx (order.getD (u + out.length) 0) l.length)).length (u + (out ++ [x]).length) (l.eraseIdx (pickIdx (order.getD (u + out.length) 0) l.length)) := by
  obtain ⟨n, hn⟩ : ∃ n, l.length = n + 1 := ⟨l.length - 1, by omega⟩
  have hi := (List.getElem?_eq_some_iff.1 hx).1
  have e : (l.eraseIdx (pickIdx (order.getD (u + out.length) 0) l.length)).length = n := by rw [List.length_eraseIdx, if_pos hi]; omega
  rw [e]
  have e2 : pickAll order l.length (u + out.length) l = x :: pickAll order n (u + out.length + 1) (l.eraseIdx (pickIdx (order.getD (u + out.length) 0) l.length)) := by
    conv => lhs; arg 2; rw [hn]
    rw [pickAll, hx]
  rw [e2]
  simp [Nat.add_assoc]
def sliceLen : Value → Nat | .slice _ n _ => n | _ => 0
theorem ownsRow_only {w w' : World} {b base : Nat} {e : TypeId} {size : Nat} {v : Value} {n : Nat} {xs : List Value} (h : w.ownsRow base e size v n xs) (ho : Only b w w') (hb : b < base) : w'.ownsRow base e size v n xs :=
  h.kept (row := some b) ⟨ho.os, ho.tape, ho.output, ho.size, fun k hk hne => ho.block k hk (fun e => hne (by rw [e]))⟩ (by
    rcases h.2 with ⟨rfl, _⟩ | ⟨g, cap, cur, rfl, hg, _⟩
    · exact .inl rfl
    · exact .inr (by simp [Value.ownBlock]; omega))
theorem ownsRow_at {w w' : World} {b base g c : Nat} {e : TypeId} {size : Nat} {n : Nat} {xs : List Value} (h : w.ownsRow base e size (.slice (some ⟨g, 0, none⟩) n c) n xs) (ho : Only b w w') (hb : g ≠ b) : w'.ownsRow base e size (.slice (some ⟨g, 0, none⟩) n c) n xs :=
  h.kept (row := some b) ⟨ho.os, ho.tape, ho.output, ho.size, fun k hk hne => ho.block k hk (fun e => hne (by rw [e]))⟩ (.inr (by simp [Value.ownBlock]; exact hb))
theorem ownsRow_form {w : World} {base : Nat} {e : TypeId} {size : Nat} {v : Value} {n : Nat} {xs : List Value} (h : w.ownsRow base e size v n xs) : ∃ a m c, v = .slice a m c := by
  rcases h.2 with ⟨rfl, _⟩ | ⟨g, cap, cur, rfl, _⟩
  · exact ⟨_, _, _, rfl⟩
  · exact ⟨_, _, _, rfl⟩
theorem strs_of_owns {w : World} {base : Nat} {e : TypeId} {v : Value} {l : List ByteArray} (h : w.ownsRow base e 1 v l.length (l.map Value.string)) (hz : ∀ x, x ∈ l → x.size ≤ 140737488355328) : Strs w v l := by
  rcases h.2 with ⟨rfl, h0⟩ | ⟨g, cap, cur, rfl, hg, hgb, r1, r2, r3, r4⟩
  · have := List.eq_nil_of_length_eq_zero h0
    subst this
    exact ⟨none, 0, rfl, by simp, by simp, fun h => absurd rfl h⟩
  · refine ⟨_, cap, rfl, r1, r2, fun _ => ⟨g, 0, rfl, fun i x hx => ⟨[.string x], ⟨rfl, hz x (List.mem_of_getElem? hx)⟩, rfl, fun j u hu => ?_⟩⟩⟩
    match j, hu with
    | 0, hu =>
      cases hu
      have := congrArg (fun t : List Value => t[i]?) r4
      rw [Nat.mul_one, List.getElem?_take] at this
      obtain ⟨hi, rfl⟩ := List.getElem?_eq_some_iff.1 hx
      have h2 : cur[i]? = some (.string l[i]) := by simpa [hi] using this
      simp [World.cell?, hgb, h2]
theorem pickAll_mem {order : List Int} {x : ByteArray} : ∀ {f u : Nat} {l : List ByteArray}, x ∈ pickAll order f u l → x ∈ l
  | 0, _, _, h => by simp [pickAll] at h
  | f + 1, u, l, h => by
    rw [pickAll] at h
    split at h
    · simp at h
    · rename_i y hy
      rw [List.mem_cons] at h
      rcases h with rfl | h
      · exact List.mem_of_getElem? hy
      · exact List.mem_of_mem_eraseIdx (pickAll_mem h)
theorem owns_block {w : World} {base B : Nat} {e : TypeId} {size : Nat} {v : Value} {n : Nat} {xs : List Value} (h : w.ownsRow base e size v n xs) (hB : B ≤ base) : ∀ a n c, v = .slice (some a) n c → B ≤ a.block := by
  intro a n' c e
  rcases h.2 with ⟨rfl, _⟩ | ⟨g, cap, cur, rfl, hg, _⟩
  · cases e
  · cases e; exact Nat.le_trans hB hg
/-- What is known in the loop of list. -/
structure ListAt (w wr : World) (b : Nat) (saw clk nxt vo : Value) (u0 : Int) (u : Nat) (g o c : Nat) (left out : List ByteArray) (v8 : Value) : Prop where
  sbx : Sbx wr b saw clk vo nxt u0 u
  gw : w.heap.size ≤ g
  gl : g < wr.heap.size
  cap : left.length ≤ c
  max : c ≤ 9223372036854775807
  cells : ∀ i x, left[i]? = some x → wr.cell? ⟨g, o + i, none⟩ = some (.string x) ∧ wr.frozen? ⟨g, o + i, none⟩ = false
  own : wr.ownsRow (g + 1) 9 1 v8 out.length (out.map Value.string)
  only : Only b w wr

set_option maxRecDepth 100000 in
set_option maxHeartbeats 2000000 in
theorem list_picks (b : Nat) (saw clk nxt vo : Value) (u0 : Int) (u : Nat) (order : List Int) (names : List ByteArray) (vn : Value) (w : World) (hs : Sbx w b saw clk vo nxt u0 u) (ho : ∀ W, Only b w W → Ints W vo order)
    (hn : Strs w vn names) (hz : names.length ≤ 1000000) (hu : u ≤ 4611686018426387904) (hw : ∀ x, x ∈ order → (Lit.int .i64 x).wf = true) :
    Calls Tryz.prog 87 #[.pointer (some ⟨b, 0, none⟩), vn, .bool false] w fun e w' => ∃ v, e = .returned v ∧ Strs w' v (pickAll order names.length u (sortB names)) ∧ (∀ a n c, v = .slice (some a) n c → w.heap.size ≤ a.block) ∧
      Sbx w' b saw clk vo nxt u0 ((u + names.length : Nat) : Int) ∧ Only b w w' := by
  obtain ⟨i0, hi, hz0, hz1, hz2⟩ := info_parts strInfo
  obtain ⟨a, c, hv, -⟩ := id hn
  subst hv
  have HS : Hid (∀ W, Below w.heap.size w W → W.cell? ⟨w.heap.size, 0, none⟩ = some (.slice a names.length c) → Calls Tryz.prog 116 #[.func (.func 160) #[] #[.pointer (some ⟨w.heap.size, 0, none⟩)]] W fun e w' => ∃ v, e = .returned v ∧ OwnStrs W.heap.size w' v (sortB names) ∧ Below W.heap.size W w') :=
    Lib.hid fun W hb hc => sortedSeq_any _ _ names W hc (hn.later hb) (by omega)
  have hbw := hs.lt
  have HB := Lib.hid hs; clear hs
  have HN := Lib.hid hn; clear hn
  have HW := Lib.hid hw; clear hw
  have HO := Lib.hid ho; clear ho
  go_enter Tryz.func87, Tryz.ntmps87
  go_wp2_with fail
  refine (values_any _ _ _ _).mono ?_
  rintro e w1 ⟨rfl, rfl⟩
  go_wp2_with fail
  refine (HS.out _ (below_alloc _ _) (by simp)).mono ?_
  rintro e w2 ⟨v, rfl, hO, hb⟩
  rcases hO with ⟨h0, rfl⟩ | ⟨g, o, c2, rfl, hg, hgl, hcap, hmax, hcl⟩
  · have HE : Hid (names = []) := Lib.hid (List.eq_nil_of_length_eq_zero (by rw [← sortB_length, h0]; rfl))
    clear h0
    go_wp2_with fail
    go_loop [7, 8] (fun l i => l = .slice none 0 0 ∧ i = .slice none 0 0) (fun _ i => 0)
    case atStart => exact ⟨rfl, rfl⟩
    case round =>
      obtain ⟨rfl, rfl⟩ := hrel
      go_wp2_with fail
      go_ret
      have hbb := below_trans (below_alloc _ _) hb
      exact ⟨_, rfl, by rw [HE.out]; show Strs _ _ []; exact ⟨none, 0, rfl, by simp, by simp, fun h => absurd rfl h⟩, fun a n c e => by simp at e, by rw [HE.out]; exact HB.out.later hbb, Only.of_below hbb⟩
  · have hbb := below_trans (below_alloc _ _) hb
    have hgw : w.heap.size ≤ g := by simp at hg; omega
    have hl0 : ListAt w w2 b saw clk nxt vo u0 u g o c2 (sortB names) [] (.slice none 0 0) :=
      ⟨HB.out.later hbb, hgw, hgl, hcap, hmax, fun i x hx => ⟨(hcl i x hx).1, (hcl i x hx).2.1⟩, World.ownsRow_nil _ _ _ _, Only.of_below hbb⟩
    have HL0 := Lib.hid hl0
    have HSZ := Lib.hid (fun x (hx : x ∈ names) => strs_size HN.out hx)
    clear hl0 hcl hb hbb HS HB hg hgl hcap hmax
    go_wp2_with fail
    go_loopw [7, 8] (fun v7 v8 wr => ∃ (left out : List ByteArray), v7 = .slice (some ⟨g, o, none⟩) left.length c2 ∧ pickAll order names.length u (sortB names) = out ++ pickAll order left.length (u + out.length) left ∧ out.length + left.length = names.length ∧
      ListAt w wr b saw clk nxt vo u0 ((u + out.length : Nat)) g o c2 left out v8) (fun v7 _ _ => sliceLen v7)
    case atStart => exact ⟨sortB names, [], rfl, by rw [sortB_length]; rfl, by rw [sortB_length]; simp, HL0.out⟩
    case round =>
      clear HL0
      obtain ⟨left, out, rfl, hp, hlen, hA⟩ := hrel
      generalize hv8 : u8 = v8 at *
      clear hv8
      have HP := Lib.hid hp
      have HLen := Lib.hid hlen
      have hA' := id hA
      obtain ⟨hsb, hgw', hgl, hcap, hmax, hcl, hown, hon⟩ := hA
      have HA := Lib.hid hA'
      have cOrd := hsb.cell 2
      simp only [List.getElem?_toArray, List.getElem?_cons_succ, List.getElem?_cons_zero] at cOrd
      have HSB := Lib.hid hsb; have HCL := Lib.hid hcl; have HOWN := Lib.hid hown
      have HAP : Hid (v8.ownBlock ≠ some g) := Lib.hid (fun e => by have := (HOWN.out.lt g e).1; omega)
      clear hsb hcl hown hp hA'
      by_cases hlt : 0 < left.length
      · have hle : out.length + left.length ≤ 1000000 := by omega
        clear hlen
        have hwx : (Lit.int .i64 (order.getD (u + out.length) 0)).wf = true := by
          rw [List.getD_eq_getElem?_getD]
          cases hh : order[u + out.length]? with
          | none => rfl
          | some y => exact HW.out y (List.mem_of_getElem? hh)
        have HNX := Lib.hid (next1_any b saw clk vo nxt u0 ((u + out.length : Nat) : Int) order vo wr HSB.out (HO.out wr hon) (by omega) (by omega))
        rw [Int.toNat_natCast] at HNX
        generalize hX : order.getD (u + out.length) 0 = X at HNX hwx
        have HX := Lib.hid hX; clear hX
        have hbd := i64_bounds hwx
        obtain ⟨hx0, hx1⟩ := hbd
        go_wp2_with fail
        refine HNX.out.mono ?_
        rintro e w3 ⟨rfl, hsb3, hon3⟩
        have HSB3 := Lib.hid hsb3; clear hsb3
        obtain ⟨hT, hk⟩ := tmod_cases X left.length hlt
        generalize hK : pickIdx X left.length = k at hT hk
        have HK := Lib.hid hK; clear hK
        obtain ⟨x, hx, hxm⟩ := getElem?_of_lt hk
        have hbg : g ≠ b := by omega
        have hcell : w3.cell? ⟨g, o + k, none⟩ = some (.string x) := hon3.cell hbg (HCL.out k x hx).1
        have HXX := Lib.hid hx; clear hx hxm
        have HON3 := Lib.hid hon3
        have hs3 := hon3.size
        have hown3 : Hid (w3.ownsRow (g + 1) 9 1 v8 out.length (out.map Value.string)) := Lib.hid (ownsRow_only HOWN.out hon3 (by omega))
        clear hon3
        have hle2 : out.length + 1 ≤ 1000000 := by omega
        have HFin := Lib.hid (pickAll_step (order := order) (l := left) (u := u) (out := out) (x := x) hlt (by rw [HX.out, HK.out]; exact HXX.out))
        rw [HX.out, HK.out] at HFin
        have hTe : (X.tmod left.length < 0 ∧ X.tmod left.length = (k : Int) - left.length) ∨ (0 ≤ X.tmod left.length ∧ X.tmod left.length = (k : Int)) := by omega
        clear hT
        rcases hTe with ⟨hneg, hTe⟩ | ⟨hneg, hTe⟩
        all_goals
          go_wp2_with (at_builtin; refine wpList_append_own _ rfl _ _ 22 rfl (g + 1) 9 i0 (.string ByteArray.empty) 1 16 Tryz.underlying22 hi hz0 hz1 hz2 rfl (by decide) _ _ _ rfl (hown3.out.alloc _) ⟨w3.heap.size, 0, none⟩ 1 1 [.string x] rfl rfl (cell_one_new _ _ _) (by simp [Value.oneCell']) (by unfold maxLen; omega) (by omega) (by simp; omega) ?_)
          intro v' w4 hown4 hgrow _
          have hcl4 : ∀ i y, left[i]? = some y → w4.cell? ⟨g, o + i, none⟩ = some (.string y) ∧ w4.frozen? ⟨g, o + i, none⟩ = false := fun i y hy => by
            have h1 := HCL.out i y hy
            have e1 : w4.heap[g]? = wr.heap[g]? := by
              rw [hgrow.block g (by simp; omega) (fun e => HAP.out e.symm), Below.heap_alloc _ _ _ (by omega)]
              exact HON3.out.block g (by omega) hbg
            exact ⟨(World.cell?_of_block (w := wr) e1).trans h1.1, (World.frozen?_of_block (w := wr) e1).trans h1.2⟩
          have HD := Lib.hid (delete_at g o c2 left k w4 hcl4 hk hcap hmax)
          have hsb4 : Hid (Sbx w4 b saw clk vo nxt u0 ((u + out.length : Nat) + 1 : Int)) := Lib.hid (HSB3.out.of_block (by
            rw [hgrow.block b (by simp; omega) (fun e => by have := (hown3.out.lt b e.symm).1; omega), Below.heap_alloc _ _ _ (by omega)]))
          have hon4 : Hid (Only b w w4) := Lib.hid (by
            have h03 := hon.trans HON3.out
            refine ⟨hgrow.os.trans h03.os, hgrow.tape.trans h03.tape, hgrow.output.trans h03.output, by have := hgrow.size; have := h03.size; simp at *; omega, fun i hi' hne => ?_⟩
            have hsz3 := h03.size
            rw [hgrow.block i (by simp; omega) (fun e => by have := (hown3.out.lt i e.symm).1; omega), Below.heap_alloc _ _ _ (by omega)]
            exact h03.block i hi' hne)
          have hs4 : w3.heap.size + 1 ≤ w4.heap.size := by have := hgrow.size; simpa using this
          obtain ⟨g', cap', rfl⟩ := ownsRow_succ hown4
          have hne4 : g' ≠ g := by have := (hown4.lt g' rfl).1; omega
          have hg4 : g' < w4.heap.size := (hown4.lt g' rfl).2
          have HOWN4 := Lib.hid hown4
          clear hown4 hgrow hcl4
          go_wp2_with fail
          refine HD.out.mono ?_
          rintro e w5 ⟨rfl, hon5, hc5⟩
          have HON5 := Lib.hid hon5; have HC5 := Lib.hid hc5
          clear hon5 hc5
          go_wp2_with fail
          go_roundw
          case rel =>
            have hlen2 : (left.eraseIdx k).length = left.length - 1 := by rw [List.length_eraseIdx, if_pos hk]
            have hs5 := HON5.out.size
            refine ⟨left.eraseIdx k, out ++ [x], rfl, HP.out.trans HFin.out, by have := HLen.out; simp; omega, ?_⟩
            refine ⟨?_, hgw', by omega, by omega, hmax, HC5.out, ?_, ?_⟩
            · refine (hsb4.out.of_block (HON5.out.block b (by omega) (by omega))).cast ?_
              simp; omega
            · have := ownsRow_at HOWN4.out HON5.out hne4
              simpa using this
            · exact ⟨HON5.out.os.trans hon4.out.os, HON5.out.tape.trans hon4.out.tape, HON5.out.output.trans hon4.out.output, by have := hon4.out.size; omega, fun i hi' hne => (HON5.out.block i (by have := hon4.out.size; omega) (by omega)).trans (hon4.out.block i hi' hne)⟩
          case measure => simp only [sliceLen, List.length_eraseIdx, if_pos hk]; omega
      · have hl0 : left = [] := List.eq_nil_of_length_eq_zero (by omega)
        have HL := Lib.hid hl0
        subst hl0
        clear hlt
        obtain ⟨a8, n8, c8, hv8⟩ := ownsRow_form HOWN.out
        subst hv8
        go_wp2_with fail
        go_ret
        have hln := HLen.out
        refine ⟨_, rfl, ?_, owns_block HOWN.out (by omega), ?_, hon⟩
        · rw [HP.out]
          simp only [List.length_nil, pickAll, List.append_nil]
          exact strs_of_owns HOWN.out (fun y hy => HSZ.out y (mem_sortB (pickAll_mem (by rw [HP.out]; simp [pickAll]; exact hy))))
        · refine HSB.out.cast ?_
          simp at hln
          omega
end Go.Proofs.YtacgopankhpnbaaGreatDoor
/- Walks of package build: known, needs, the closures of inspect. -/
namespace Go.Proofs.YtacgopankhpnbaaGreatDoor
open Go.RowKit

theorem zero_int (w : World) : (zeroValue 3).run Tryz.prog w = .ok (.int .i64 0) w := by kernel_rfl
noncomputable def vInt : ValC Tryz.prog 3 Int := intVal Tryz.underlying3 zero_int
noncomputable def kInt : KeyC Tryz.prog 3 Int := intKey Tryz.underlying3
theorem intInfo : (Tryz.prog.info? 3).map (fun i => (i.zero, i.size, i.bytes)) = some (some (.int .i64 0), 1, 8) := by kernel_rfl

/-- A graph as a value. -/
abbrev grfV (vi vs : Value) (out : ByteArray) (bw bi : Nat) : Value := .agg #[vi, vs, .string out, .map (some bw), .map (some bi)]
abbrev grfBox (vi vs : Value) (out : ByteArray) (bw bi : Nat) : Obj := .cells #[vi, vs, .string out, .map (some bw), .map (some bi)] 101

set_option maxRecDepth 100000 in
theorem known_any (vi vs : Value) (out x : ByteArray) (bw bi nw ni : Nat) (mw : ByteArray → Option Int) (mi : ByteArray → Option Bool) (w : World) (hw : MapIs kStr vInt w bw nw mw) (hi : MapIs kStr vBool w bi ni mi) (hx : x.size ≤ 140737488355328) :
    Calls Tryz.prog 92 #[grfV vi vs out bw bi, .string x] w fun e w' => e = .returned (.bool ((mw x).isSome || (mi x).getD false)) ∧ Below w.heap.size w w' := by
  have hxm : x.size ≤ maxLen := Nat.le_trans hx maxLen_val
  have l1 : (Instr.lookup 98 (.map (some bw)) (.string x) true).run Tryz.prog (w.alloc (grfBox vi vs out bw bi)) = .ok (.tuple #[.int .i64 ((mw x).getD 0), .bool (mw x).isSome]) (w.alloc (grfBox vi vs out bw bi)) := (hw.alloc (grfBox vi vs out bw bi)).look2 Tryz.underlying98 hxm
  have l2 : (Instr.lookup 99 (.map (some bi)) (.string x) false).run Tryz.prog (w.alloc (grfBox vi vs out bw bi)) = .ok (.bool ((mi x).getD false)) (w.alloc (grfBox vi vs out bw bi)) := (hi.alloc (grfBox vi vs out bw bi)).look Tryz.underlying99 hxm
  clear hw hi hxm
  generalize (mw x).getD 0 = a at l1
  cases hs : (mw x).isSome with
  | true =>
    rw [hs] at l1
    clear hs
    go_enter Tryz.func92, Tryz.ntmps92
    go_wp2_with fail
    go_ret
    exact ⟨rfl, below_alloc _ _⟩
  | false =>
    rw [hs] at l1
    clear hs
    generalize (mi x).getD false = q at l2
    go_enter Tryz.func92, Tryz.ntmps92
    go_wp2_with fail
    go_ret
    exact ⟨rfl, below_alloc _ _⟩

/- inspect: the first closure. -/
set_option maxRecDepth 100000 in
theorem inspect1_any (y : Value × Stp) (w : World) (hs : Strs w y.1 y.2.src) (ho : y.2.out.size ≤ 140737488355328) :
    Calls Tryz.prog 91 #[stepV y] w fun e w' => e = .returned (.bool (!stepRight y.2)) ∧ Below w.heap.size w w' := by
  have HR := Lib.hid (stepRight_any y.2 y.1 (w.alloc (.cells #[.int .i64 y.2.kind, y.1, .string y.2.out, .bool y.2.sorted] 24)) (hs.later (below_alloc _ _)) ho)
  obtain ⟨v, kind, src, out, sorted⟩ := y
  generalize stepRight ⟨kind, src, out, sorted⟩ = r at HR ⊢
  clear hs
  go_enter Tryz.func91, Tryz.ntmps91
  go_wp2_with fail
  refine HR.out.mono ?_
  rintro e w' ⟨rfl, hb⟩
  go_wp2_with fail
  go_ret
  exact ⟨rfl, below_trans (below_alloc _ _) hb⟩

/-- The five cells of a graph's box. -/
theorem box5 {w : World} {k : Nat} {a b c d e : Value} {t : TypeId} {fr : Nat × Nat} (h : w.heap[k]? = some (.cells #[a, b, c, d, e] t fr)) :
    w.cell? ⟨k, 0, none⟩ = some a ∧ w.cell? ⟨k, 1, none⟩ = some b ∧ w.cell? ⟨k, 2, none⟩ = some c ∧ w.cell? ⟨k, 3, none⟩ = some d ∧ w.cell? ⟨k, 4, none⟩ = some e := by
  simp only [World.cell?, h]; simp

/- inspect: the second closure. -/
set_option maxRecDepth 100000 in
theorem inspect2_any (vi vs : Value) (out x : ByteArray) (g bw bi nw ni : Nat) (mw : ByteArray → Option Int) (mi : ByteArray → Option Bool) (w : World) (hg : w.heap[g]? = some (grfBox vi vs out bw bi)) (hw : MapIs kStr vInt w bw nw mw) (hi : MapIs kStr vBool w bi ni mi) (hx : x.size ≤ 140737488355328) :
    Calls Tryz.prog 93 #[.string x, .pointer (some ⟨g, 0, none⟩)] w fun e w' => e = .returned (.bool (!((mw x).isSome || (mi x).getD false))) ∧ Below w.heap.size w w' := by
  have HK := Lib.hid (known_any vi vs out x bw bi nw ni mw mi w hw hi hx)
  obtain ⟨c0, c1, c2, c3, c4⟩ := box5 hg
  generalize ((mw x).isSome || (mi x).getD false) = r at HK ⊢
  clear hg hw hi
  go_enter Tryz.func93, Tryz.ntmps93
  go_wp2_with fail
  refine HK.out.mono ?_
  rintro e w' ⟨rfl, hb⟩
  go_wp2_with fail
  go_ret
  exact ⟨rfl, hb⟩
theorem enters_inspect1 (args : Array Value) (w : World) : (callFunc 91 args).run Tryz.prog w = .ok (.enter 91 args) w := by kernel_rfl
theorem enters_inspect2 (args : Array Value) (w : World) : (callFunc 93 args).run Tryz.prog w = .ok (.enter 93 args) w := by kernel_rfl
theorem enters_inspect3 (args : Array Value) (w : World) : (callFunc 94 args).run Tryz.prog w = .ok (.enter 94 args) w := by kernel_rfl

/-- What the closures of inspect see: the graph's box g, the closure's box u, the two maps. -/
structure Insp (vi vs : Value) (out : ByteArray) (g u bw bi nw ni : Nat) (mw : ByteArray → Option Int) (mi : ByteArray → Option Bool) (w : World) : Prop where
  box : w.heap[g]? = some (grfBox vi vs out bw bi)
  fn : w.heap[u]? = some (.cells #[.func (.func 93) #[] #[.pointer (some ⟨g, 0, none⟩)]] 92)
  wr : MapIs kStr vInt w bw nw mw
  inp : MapIs kStr vBool w bi ni mi
theorem Insp.later {vi vs : Value} {out : ByteArray} {g u bw bi nw ni : Nat} {mw : ByteArray → Option Int} {mi : ByteArray → Option Bool} {w w' : World} (h : Insp vi vs out g u bw bi nw ni mw mi w) (hb : Below w.heap.size w w') : Insp vi vs out g u bw bi nw ni mw mi w' :=
  ⟨(hb.block _ (Array.getElem?_eq_some_iff.1 h.box).1).trans h.box, (hb.block _ (Array.getElem?_eq_some_iff.1 h.fn).1).trans h.fn, h.wr.later hb, h.inp.later hb⟩
theorem box1 {w : World} {k : Nat} {a : Value} {t : TypeId} {fr : Nat × Nat} (h : w.heap[k]? = some (.cells #[a] t fr)) : w.cell? ⟨k, 0, none⟩ = some a := by
  simp only [World.cell?, h]; simp

set_option maxRecDepth 100000 in
/-- The third closure of inspect. -/
theorem inspect3_any (y : Value × Stp) (vi vs : Value) (out : ByteArray) (g u bw bi nw ni : Nat) (mw : ByteArray → Option Int) (mi : ByteArray → Option Bool) (w : World) (h : Insp vi vs out g u bw bi nw ni mw mi w) (hs : Strs w y.1 y.2.src) :
    Calls Tryz.prog 94 #[stepV y, .pointer (some ⟨u, 0, none⟩)] w fun e w' => e = .returned (.bool (y.2.src.any fun x => !((mw x).isSome || (mi x).getD false))) ∧ Below w.heap.size w w' := by
  have hlt := (Array.getElem?_eq_some_iff.1 h.fn).1
  have hu := box1 h.fn
  obtain ⟨v, kind, src, o, sorted⟩ := y
  have HC := Lib.hid (containsFunc_str 93 #[.pointer (some ⟨g, 0, none⟩)] (fun x => !((mw x).isSome || (mi x).getD false)) src v (w.alloc (.cells #[.int .i64 kind, v, .string o, .bool sorted] 24)) (hs.later (below_alloc _ _)) enters_inspect2
    (fun x hx W hb => inspect2_any vi vs out x g bw bi nw ni mw mi W ((h.later (below_alloc _ _)).later hb).box ((h.later (below_alloc _ _)).later hb).wr ((h.later (below_alloc _ _)).later hb).inp (strs_size hs hx)))
  generalize (src.any fun x => !((mw x).isSome || (mi x).getD false)) = r at HC ⊢
  clear hs h
  go_enter Tryz.func94, Tryz.ntmps94
  go_wp2_with fail
  refine HC.out.mono ?_
  rintro e w' ⟨rfl, hb⟩
  go_wp2_with fail
  go_ret
  exact ⟨rfl, below_trans (below_alloc _ _) hb⟩
end Go.Proofs.YtacgopankhpnbaaGreatDoor
/- Walks of package build: needs. -/
namespace Go.Proofs.YtacgopankhpnbaaGreatDoor
open Go.RowKit

/-- What the map of writers holds. -/
def wMap (steps : List Stp) (x : ByteArray) : Option Int := (writerOf steps x).map Int.ofNat
/-- Ints out of numbers. -/
abbrev natInts (l : List Nat) : List Int := l.map Int.ofNat
theorem ints_of_owns {w : World} {base : Nat} {e : TypeId} {v : Value} {l : List Int} (h : w.ownsRow base e 1 v l.length (l.map (Value.int .i64))) : Ints w v l := by
  rcases h.2 with ⟨rfl, h0⟩ | ⟨g, cap, cur, rfl, hg, hgb, r1, r2, r3, r4⟩
  · have := List.eq_nil_of_length_eq_zero h0
    subst this
    exact ⟨none, 0, rfl, by simp, by simp, fun h => absurd rfl h⟩
  · refine ⟨_, cap, rfl, r1, r2, fun _ => ⟨g, 0, rfl, fun i x hx => ⟨[.int .i64 x], rfl, rfl, fun j u hu => ?_⟩⟩⟩
    match j, hu with
    | 0, hu =>
      cases hu
      have := congrArg (fun t : List Value => t[i]?) r4
      rw [Nat.mul_one, List.getElem?_take] at this
      obtain ⟨hi, rfl⟩ := List.getElem?_eq_some_iff.1 hx
      have h2 : cur[i]? = some (.int .i64 l[i]) := by simpa [hi] using this
      simp [World.cell?, hgb, h2]
/-- What has been gathered behind k names. -/
structure NeedsRel (steps : List Stp) (src : List ByteArray) (W0 : World) (k : Nat) (v : Value) (wr : World) : Prop where
  own : wr.ownsRow W0.heap.size 3 1 v (needsOf steps ⟨0, src.take k, ByteArray.empty, false⟩).length ((natInts (needsOf steps ⟨0, src.take k, ByteArray.empty, false⟩)).map (Value.int .i64))
  below : Below W0.heap.size W0 wr
theorem needs_snoc {steps : List Stp} {src : List ByteArray} {k : Nat} {x : ByteArray} (hx : src[k]? = some x) :
    needsOf steps ⟨0, src.take (k + 1), ByteArray.empty, false⟩ = needsOf steps ⟨0, src.take k, ByteArray.empty, false⟩ ++ (writerOf steps x).toList := by
  obtain ⟨hk, rfl⟩ := List.getElem?_eq_some_iff.1 hx
  unfold needsOf
  simp only
  rw [List.take_succ_eq_append_getElem hk, List.filterMap_append]
  congr 1
theorem needs_len (steps : List Stp) (src : List ByteArray) (k : Nat) : (needsOf steps ⟨0, src.take k, ByteArray.empty, false⟩).length ≤ src.length := by
  unfold needsOf
  refine Nat.le_trans (List.length_filterMap_le _ _) ?_
  simp only [List.length_take]; omega
theorem NeedsRel.added {steps : List Stp} {src : List ByteArray} {W0 wr w3 : World} {k j : Nat} {v v' : Value} {x : ByteArray} {o : Obj} (h : NeedsRel steps src W0 k v wr) (hx : src[k]? = some x) (hj : writerOf steps x = some j)
    (hown : w3.ownsRow W0.heap.size 3 1 v' ((needsOf steps ⟨0, src.take k, ByteArray.empty, false⟩).length + 1) ((natInts (needsOf steps ⟨0, src.take k, ByteArray.empty, false⟩)).map (Value.int .i64) ++ [.int .i64 j])) (hg : (wr.alloc o).grownBy w3 v.ownBlock) : NeedsRel steps src W0 (k + 1) v' w3 := by
  have e := needs_snoc (steps := steps) hx
  rw [hj] at e
  have hz : wr.heap.size + 1 ≤ w3.heap.size := by have := hg.size; simpa using this
  have hbb := h.below
  refine ⟨?_, ?_⟩
  · rw [e]; simpa [natInts] using hown
  · refine ⟨hg.os.trans hbb.os, hg.tape.trans hbb.tape, hg.output.trans hbb.output, by have := hbb.size; omega, fun j hj => ?_⟩
    have := hbb.size
    rw [hg.block j (by simp; omega) (fun e => by have := (h.own.lt j e.symm).1; omega), Below.heap_alloc _ _ _ (by omega)]
    exact hbb.block j hj
theorem NeedsRel.kept {steps : List Stp} {src : List ByteArray} {W0 wr : World} {k : Nat} {v : Value} {x : ByteArray} (h : NeedsRel steps src W0 k v wr) (hx : src[k]? = some x) (hj : writerOf steps x = none) : NeedsRel steps src W0 (k + 1) v wr := by
  have e := needs_snoc (steps := steps) hx
  rw [hj, Option.toList_none, List.append_nil] at e
  exact ⟨by rw [e]; exact h.own, h.below⟩
/-- What needs comes to: a new list. -/
def NeedsPost (l : List Nat) (w : World) (e : Ending) (w' : World) : Prop := ∃ v, e = .returned v ∧ Ints w' v (natInts l) ∧ (∀ a n c, v = .slice (some a) n c → w.heap.size ≤ a.block) ∧ Below w.heap.size w w'
theorem NeedsRel.post {steps : List Stp} {s : Stp} {w w' : World} {o : Obj} {v : Value} (h : NeedsRel steps s.src (w.alloc o) s.src.length v w') : NeedsPost (needsOf steps s) w (.returned v) w' := by
  obtain ⟨h1, h2⟩ := h
  rw [List.take_length] at h1
  have e : needsOf steps ⟨0, s.src, ByteArray.empty, false⟩ = needsOf steps s := rfl
  rw [e] at h1
  refine ⟨v, rfl, ints_of_owns (by simpa [natInts] using h1), fun a n c e => ?_, ?_⟩
  · subst e
    have := (h1.lt a.block rfl).1
    simp at this; omega
  · exact (below_alloc w o).trans (h2.mono (by simp))
theorem int_wf {steps : List Stp} {x : ByteArray} {j : Nat} (h : writerOf steps x = some j) : j < steps.length := by
  unfold writerOf at h
  exact (List.findIdx?_eq_some_iff_getElem.1 h).1

set_option maxRecDepth 100000 in
set_option maxHeartbeats 1000000 in
theorem needs_any (steps : List Stp) (vi vs : Value) (out : ByteArray) (bw bi n : Nat) (L : List (Value × Stp)) (i : Nat) (y : Value × Stp) (w : World) (hS : Stps w vs L) (hy : L[i]? = some y) (hM : MapIs kStr vInt w bw n (wMap steps)) (hlen : y.2.src.length ≤ 1000000) :
    Calls Tryz.prog 67 #[grfV vi vs out bw bi, .int .i64 i] w (NeedsPost (needsOf steps y.2) w) := by
  rcases hS.cases with ⟨rfl, -⟩ | ⟨b, o, c, rfl, h0, h1, h2, hb, hc⟩
  · simp at hy
  have hi : i < L.length := (List.getElem?_eq_some_iff.1 hy).1
  obtain ⟨-, c1, -, -, hs, -⟩ := hc i y hy
  obtain ⟨i0, hi0, hz0, hz1, hz2⟩ := info_parts intInfo
  obtain ⟨v, kind, src, o1, sorted⟩ := y
  simp only at hs c1 hlen
  have HM := Lib.hid hM
  have HS := Lib.hid hs
  clear hS hy hc hM
  rcases hs.cases with ⟨rfl, a, ca, rfl⟩ | ⟨bs, os, cs, rfl, hp, hp1, hp2, hbs, hcs⟩
  · clear hs HS HM
    go_enter Tryz.func67, Tryz.ntmps67
    go_wp2_with fail
    go_loop [5, 18] (fun v i => v = .slice none 0 0 ∧ i = .int .i64 0) (fun _ i => 0)
    case atStart => exact ⟨rfl, rfl⟩
    case round =>
      obtain ⟨rfl, rfl⟩ := hrel
      go_wp2_with fail
      go_ret
      exact NeedsRel.post (s := ⟨kind, [], o1, sorted⟩) ⟨by simpa [needsOf] using World.ownsRow_nil _ _ _ _, Below.refl _ _⟩
  · clear hs HS
    have HC := Lib.hid hcs; clear hcs
    go_enter Tryz.func67, Tryz.ntmps67
    go_wp2_with fail
    go_loopw [5, 18] (fun v i wr => ∃ k : Nat, k ≤ src.length ∧ i = .int .i64 k ∧ Hid (NeedsRel steps src (w.alloc (grfBox vi (.slice (some ⟨b, o, none⟩) L.length c) out bw bi)) k v wr)) (fun _ i _ => src.length - (intOf i).toNat)
    case atStart => exact ⟨0, Nat.zero_le _, rfl, Lib.hid ⟨by simpa [needsOf] using World.ownsRow_nil _ _ _ _, Below.refl _ _⟩⟩
    case round =>
      obtain ⟨k, hk, rfl, HR⟩ := hrel
      rename World => wr
      rename Value => vo
      by_cases hlt : k < src.length
      · obtain ⟨x, hx, hxm⟩ := getElem?_of_lt hlt
        obtain ⟨hcx, hxs⟩ := HC.out k x hx
        have hc' : wr.cell? ⟨bs, os + k, none⟩ = some (.string x) := cell_later HR.out.below (cell_later (below_alloc _ _) hcx)
        have hbox := (HR.out.below.block w.heap.size (by simp)).trans (alloc_self w _)
        obtain ⟨-, -, -, b3, -⟩ := box5 hbox
        have HX := Lib.hid hx
        have hbz : w.heap.size + 1 ≤ wr.heap.size := by have := HR.out.below.size; simpa using this
        have hnl := needs_len steps src k
        have hl := ((HM.out.alloc (grfBox vi (.slice (some ⟨b, o, none⟩) L.length c) out bw bi)).later HR.out.below).look2 Tryz.underlying98 (x := x) (Nat.le_trans hxs maxLen_val)
        clear hx hxm hcx hbox
        cases hj : writerOf steps x with
        | none =>
          have hl' : (Instr.lookup 98 (.map (some bw)) (.string x) true).run Tryz.prog wr = .ok (.tuple #[.int .i64 0, .bool false]) wr := by
            rw [show wMap steps x = none by unfold wMap; rw [hj]; rfl] at hl; exact hl
          have HJ := Lib.hid hj
          clear hl hj
          go_wp2_with fail
          go_roundw
          case rel => exact ⟨k + 1, by omega, by go_num, Lib.hid (HR.out.kept HX.out HJ.out)⟩
          case measure => simp [intOf]; omega
        | some j =>
          have hl' : (Instr.lookup 98 (.map (some bw)) (.string x) true).run Tryz.prog wr = .ok (.tuple #[.int .i64 j, .bool true]) wr := by
            rw [show wMap steps x = some (j : Int) by unfold wMap; rw [hj]; rfl] at hl; exact hl
          have HJ := Lib.hid hj
          clear hl hj
          go_wp2_with (at_builtin; refine wpList_append_own _ rfl _ _ 26 rfl (w.alloc (grfBox vi (.slice (some ⟨b, o, none⟩) L.length c) out bw bi)).heap.size 3 i0 (.int .i64 0) 1 8 Tryz.underlying26 hi0 hz0 hz1 hz2 rfl (by decide) _ _ _ rfl (HR.out.own.alloc _) ⟨wr.heap.size, 0, none⟩ 1 1 [.int .i64 j] rfl rfl (cell_one_new _ _ _) (by simp [Value.oneCell']) (by unfold maxLen; omega) (by omega) (by simp; omega) ?_)
          intro v' w3 hown hgrow _
          have HNew := Lib.hid (HR.out.added HX.out HJ.out (by simpa [natInts] using hown) hgrow)
          clear hown hgrow
          go_wp2_with fail
          go_roundw
          case rel => exact ⟨k + 1, by omega, by go_num, HNew⟩
          case measure => simp [intOf]; omega
      · obtain rfl : k = src.length := by omega
        go_wp2_with fail
        go_ret
        exact NeedsRel.post (s := ⟨kind, src, o1, sorted⟩) HR.out
end Go.Proofs.YtacgopankhpnbaaGreatDoor
/- circle's walk over the marks: what it keeps, how deep it goes. No program in sight. -/
namespace Go.Proofs.YtacgopankhpnbaaGreatDoor

theorem mark_same (st : Marks) (i : Nat) (x : Int) : mark st i x i = x := by simp [mark]
theorem mark_other (st : Marks) {i j : Nat} (x : Int) (h : j ≠ i) : mark st i x j = st j := by simp [mark, h]

theorem anyV_keeps {g : Marks → Nat → Marks × Bool} (hg : ∀ st k j, st j ≠ 0 → (g st k).1 j = st j) : ∀ (l : List Nat) (st : Marks) (j : Nat), st j ≠ 0 → (anyV g st l).1 j = st j
  | [], _, _, _ => rfl
  | k :: r, st, j, h => by
    rw [anyV]
    have h1 := hg st k j h
    split
    · exact h1
    · rw [anyV_keeps hg r _ j (by rw [h1]; exact h), h1]
theorem visit_keeps (needs : Nat → List Nat) : ∀ (f : Nat) (st : Marks) (i j : Nat), st j ≠ 0 → (visit needs f st i).1 j = st j
  | 0, _, _, _, _ => rfl
  | f + 1, st, i, j, h => by
    rw [visit]
    split
    · rfl
    · rename_i hi
      have hij : j ≠ i := fun e => hi (e ▸ h)
      have h1 : mark st i 1 j = st j := mark_other st 1 hij
      have h2 := anyV_keeps (visit_keeps needs f) (needs i) (mark st i 1) j (by rw [h1]; exact h)
      split
      · rw [h2, h1]
      · show mark _ i 2 j = st j
        rw [mark_other _ _ hij, h2, h1]

/-- How many of the first n are new. -/
def zeros (st : Marks) : Nat → Nat
  | 0 => 0
  | n + 1 => zeros st n + if st n = 0 then 1 else 0
/-- How many stores there may be yet. -/
def pot (st : Marks) : Nat → Nat
  | 0 => 0
  | n + 1 => pot st n + if st n = 0 then 2 else if st n = 1 then 1 else 0
theorem zeros_le {st st' : Marks} (h : ∀ j, st j ≠ 0 → st' j ≠ 0) : ∀ n, zeros st' n ≤ zeros st n
  | 0 => Nat.le_refl _
  | n + 1 => by
    have := zeros_le h n
    rw [zeros, zeros]
    by_cases e : st n = 0
    · rw [if_pos e]; split <;> omega
    · rw [if_neg e, if_neg (h n e)]; omega
theorem zeros_out (st : Marks) {i : Nat} (x : Int) : ∀ n, n ≤ i → zeros (mark st i x) n = zeros st n
  | 0, _ => rfl
  | n + 1, h => by rw [zeros, zeros, zeros_out st x n (by omega), mark_other st x (by omega)]
theorem zeros_mark {st : Marks} {i : Nat} (h0 : st i = 0) : ∀ n, i < n → zeros (mark st i 1) n + 1 = zeros st n
  | 0, h => absurd h (by omega)
  | n + 1, h => by
    rw [zeros, zeros]
    by_cases e : i = n
    · subst e
      rw [zeros_out st 1 i (Nat.le_refl _), mark_same, h0]; simp
    · have := zeros_mark h0 n (by omega)
      rw [mark_other st 1 (by omega)]
      split <;> omega
theorem pot_out (st : Marks) {i : Nat} (x : Int) : ∀ n, n ≤ i → pot (mark st i x) n = pot st n
  | 0, _ => rfl
  | n + 1, h => by rw [pot, pot, pot_out st x n (by omega), mark_other st x (by omega)]
theorem pot_mark {st : Marks} {i : Nat} {x : Int} (h : (st i = 0 ∧ x = 1) ∨ (st i = 1 ∧ x = 2)) : ∀ n, i < n → pot (mark st i x) n + 1 = pot st n
  | 0, h => absurd h (by omega)
  | n + 1, hn => by
    rw [pot, pot]
    by_cases e : i = n
    · subst e
      rw [pot_out st x i (Nat.le_refl _), mark_same]
      rcases h with ⟨h, rfl⟩ | ⟨h, rfl⟩ <;> rw [h] <;> simp
    · have := pot_mark h n (by omega)
      rw [mark_other st x (by omega)]
      split
      · omega
      · split <;> omega
theorem pot_new : ∀ n, pot (fun _ => 0) n = 2 * n
  | 0 => rfl
  | n + 1 => by rw [pot, pot_new n]; simp; omega
theorem zeros_new : ∀ n, zeros (fun _ => 0) n = n
  | 0 => rfl
  | n + 1 => by rw [zeros, zeros_new n]; simp
theorem visit_zeros (needs : Nat → List Nat) (f : Nat) (st : Marks) (i n : Nat) : zeros (visit needs f st i).1 n ≤ zeros st n :=
  zeros_le (fun j h => by rw [visit_keeps needs f st i j h]; exact h) n
theorem needsOf_lt {steps : List Stp} {s : Stp} {j : Nat} (h : j ∈ needsOf steps s) : j < steps.length := by
  unfold needsOf at h
  obtain ⟨x, -, hx⟩ := List.mem_filterMap.1 h
  unfold writerOf at hx
  exact (List.findIdx?_eq_some_iff_getElem.1 hx).1
theorem needsAt_lt {steps : List Stp} {i j : Nat} (h : j ∈ needsAt steps i) : j < steps.length := by
  unfold needsAt at h
  split at h
  · exact needsOf_lt h
  · cases h
end Go.Proofs.YtacgopankhpnbaaGreatDoor
/- slices.IndexFunc and ContainsFunc at ints, with a function that keeps marks; what stays as it is where one map alone is written. -/
namespace Go.Proofs.YtacgopankhpnbaaGreatDoor
open Go.RowKit

/-- Block b is a map. -/
def IsMapAt (w : World) (b : Nat) : Prop := ∃ es c, w.heap[b]? = some (.map es c)
theorem IsMapAt.of {P : Program} {kt et : TypeId} {κ ν : Type} {K : KeyC P kt κ} {V : ValC P et ν} {w : World} {b n : Nat} {m : κ → Option ν} (h : MapIs K V w b n m) : IsMapAt w b := by
  obtain ⟨D, ⟨es, clock, h1, -⟩, -⟩ := h
  exact ⟨es, clock, h1⟩
theorem IsMapAt.ne {w : World} {b k o : Nat} {v : Value} (h : IsMapAt w b) (hc : w.cell? ⟨k, o, none⟩ = some v) : k ≠ b := by
  rintro rfl
  obtain ⟨es, c, h1⟩ := h
  simp [World.cell?, h1] at hc
theorem IsMapAt.cell {w w' : World} {b k o : Nat} {v : Value} (h : IsMapAt w b) (ho : Only b w w') (hc : w.cell? ⟨k, o, none⟩ = some v) : w'.cell? ⟨k, o, none⟩ = some v := ho.cell (h.ne hc) hc
theorem IsMapAt.box {w w' : World} {b k : Nat} {cs : Array Value} {t : TypeId} {fr : Nat × Nat} (h : IsMapAt w b) (ho : Only b w w') (hc : w.heap[k]? = some (.cells cs t fr)) : w'.heap[k]? = some (.cells cs t fr) := by
  obtain ⟨es, c, h1⟩ := h
  have hne : k ≠ b := by rintro rfl; rw [h1] at hc; cases hc
  exact (ho.block k (Array.getElem?_eq_some_iff.1 hc).1 hne).trans hc
theorem Row.onlyMap {α : Type} {k : Nat} {enc : World → α → List Value → Prop} {w w' : World} {v : Value} {l : List α} {b : Nat} (hm : IsMapAt w b) (ho : Only b w w')
    (he : ∀ x cs, enc w x cs → enc w' x cs) (h : Row k enc w v l) : Row k enc w' v l := by
  obtain ⟨a, c, hv, h1, h2, h3⟩ := h
  refine ⟨a, c, hv, h1, h2, fun hne => ?_⟩
  obtain ⟨b, o, ha, hc⟩ := h3 hne
  refine ⟨b, o, ha, fun i x hx => ?_⟩
  obtain ⟨cs, e, hl, hj⟩ := hc i x hx
  exact ⟨cs, he x cs e, hl, fun j u hu => hm.cell ho (hj j u hu)⟩
theorem Ints.onlyMap {w w' : World} {v : Value} {l : List Int} {b : Nat} (hm : IsMapAt w b) (ho : Only b w w') (h : Ints w v l) : Ints w' v l := Row.onlyMap hm ho (fun _ _ h => h) h
theorem Strs.onlyMap {w w' : World} {v : Value} {l : List ByteArray} {b : Nat} (hm : IsMapAt w b) (ho : Only b w w') (h : Strs w v l) : Strs w' v l := Row.onlyMap hm ho (fun _ _ h => h) h
theorem Fils.onlyMap {w w' : World} {v : Value} {l : List Fil} {b : Nat} (hm : IsMapAt w b) (ho : Only b w w') (h : Fils w v l) : Fils w' v l := Row.onlyMap hm ho (fun _ _ h => h) h
theorem Stps.onlyMap {w w' : World} {v : Value} {l : List (Value × Stp)} {b : Nat} (hm : IsMapAt w b) (ho : Only b w w') (h : Stps w v l) : Stps w' v l := Row.onlyMap hm ho (fun _ _ h => ⟨h.1, h.2.1.onlyMap hm ho, h.2.2⟩) h
theorem only_grown {b : Nat} {w w' : World} (h : w.grownBy w' (some b)) : Only b w w' := ⟨h.os, h.tape, h.output, h.size, fun k hk hne => h.block k hk (fun e => hne (by cases e; rfl))⟩

/-- What a search asks of a function that keeps marks. -/
structure Steady {σ : Type} (g : FuncId) (cap : Array Value) (f : σ → Nat → σ × Bool) (l : List Nat) (v : Value) (Inv : World → σ → Prop) : Prop where
  ints : ∀ W s, Inv W s → Ints W v (natInts l)
  enters : ∀ args w, (callFunc g args).run Tryz.prog w = .ok (.enter g args) w
  calls : ∀ x, x ∈ l → ∀ W s, Inv W s → Calls Tryz.prog g (#[.int .i64 (x : Int)] ++ cap) W fun e W' => e = .returned (.bool (f s x).2) ∧ Inv W' (f s x).1
theorem anyV_at {σ : Type} {f : σ → Nat → σ × Bool} {l : List Nat} {k x : Nat} (s : σ) (hx : l[k]? = some x) : anyV f s (l.drop k) = if (f s x).2 then ((f s x).1, true) else anyV f (f s x).1 (l.drop (k + 1)) := by
  obtain ⟨hk, rfl⟩ := List.getElem?_eq_some_iff.1 hx
  rw [List.drop_eq_getElem_cons hk, anyV]
/-- What IndexFunc comes to. -/
def FoundPost {σ : Type} (r : σ × Bool) (Inv : World → σ → Prop) (e : Ending) (w' : World) : Prop := ∃ k : Int, e = .returned (.int .i64 k) ∧ decide (0 ≤ k) = r.2 ∧ Inv w' r.1

set_option maxHeartbeats 400000 in
theorem indexFunc_int {σ : Type} (g : FuncId) (cap : Array Value) (f : σ → Nat → σ × Bool) (l : List Nat) (v : Value) (Inv : World → σ → Prop) (w : World) (s0 : σ) (h0 : Inv w s0) (H : Steady g cap f l v Inv) :
    Calls Tryz.prog 89 #[v, .func (.func g) #[] cap] w (FoundPost (anyV f s0 l) Inv) := by
  have hv := H.ints w s0 h0
  have eg := H.enters
  obtain ⟨a, c, hvv, hl1, hl2, -⟩ := id hv
  rw [show (natInts l).length = l.length by simp] at hvv hl1
  have hlb : l.length ≤ 9223372036854775807 := by omega
  clear hl1 hl2
  have HH := Lib.hid H; clear H
  have H0 := Lib.hid h0; clear h0 hv
  subst hvv
  go_enter Tryz.func89, Tryz.ntmps89
  go_wp2_with fail
  go_loopw [8] (fun i wr => ∃ (k : Nat) (s : σ), k ≤ l.length ∧ i = .int .i64 k ∧ Hid (anyV f s0 l = anyV f s (l.drop k)) ∧ Hid (Inv wr s)) (fun i _ => l.length - (intOf i).toNat)
  case atStart => exact ⟨0, s0, Nat.zero_le _, rfl, Lib.hid rfl, H0⟩
  case round =>
    obtain ⟨k, s, hk, rfl, HE, HI⟩ := hrel
    rename World => wr
    by_cases hlt : k < l.length
    · obtain ⟨x, hx, hxl⟩ := getElem?_of_lt hlt
      rcases (HH.out.ints wr s HI.out).cases with ⟨e, -⟩ | ⟨b, o, c', e, -, -, -, -, hc⟩
      · rw [natInts, List.map_eq_nil_iff] at e
        subst e; simp at hlt
      · obtain ⟨rfl, -, -⟩ : a = some ⟨b, o, none⟩ ∧ True ∧ True := by
          injection e with e1 e2 e3; exact ⟨e1, trivial, trivial⟩
        have hcell : wr.cell? ⟨b, o + k, none⟩ = some (.int .i64 x) := hc k x (by simp [natInts, hx])
        have HA := Lib.hid (anyV_at (f := f) s hx)
        have hcall := Lib.hid (HH.out.calls _ hxl _ _ HI.out)
        clear hx hxl hc e
        cases hq : (f s x).2 with
        | true =>
          rw [hq] at hcall HA
          clear hq
          go_wp2_with (go_at_fn g; refine (hcall.out).mono ?_; rintro e w' ⟨rfl, hb'⟩)
          go_ret
          exact ⟨k, rfl, by rw [HE.out, HA.out]; simp, by rw [HE.out, HA.out]; exact hb'⟩
        | false =>
          rw [hq] at hcall HA
          clear hq
          go_wp2_with (go_at_fn g; refine (hcall.out).mono ?_; rintro e w' ⟨rfl, hb'⟩)
          go_roundw
          case rel => exact ⟨k + 1, (f s x).1, by omega, by go_num, Lib.hid (by rw [HE.out, HA.out]; rfl), Lib.hid hb'⟩
          case measure => simp [intOf]; omega
    · have HD := Lib.hid (show l.drop k = [] from List.drop_eq_nil_of_le (by omega))
      go_wp2_with fail
      go_ret
      exact ⟨-1, rfl, by rw [HE.out, HD.out]; rfl, by rw [HE.out, HD.out]; exact HI.out⟩

theorem containsFunc_int {σ : Type} (g : FuncId) (cap : Array Value) (f : σ → Nat → σ × Bool) (l : List Nat) (v : Value) (Inv : World → σ → Prop) (w : World) (s0 : σ) (h0 : Inv w s0) (H : Steady g cap f l v Inv) :
    Calls Tryz.prog 61 #[v, .func (.func g) #[] cap] w fun e w' => e = .returned (.bool (anyV f s0 l).2) ∧ Inv w' (anyV f s0 l).1 := by
  have h := Lib.hid (indexFunc_int g cap f l v Inv w s0 h0 H)
  clear H h0
  generalize anyV f s0 l = r at h ⊢
  go_enter Tryz.func61, Tryz.ntmps61
  go_wp2_with fail
  refine h.out.mono ?_
  rintro e w' ⟨k, rfl, hk, hI⟩
  have HK := Lib.hid hk; have HI := Lib.hid hI
  clear hk hI
  go_wp2_with fail
  go_ret
  exact ⟨ret_bool HK.out, HI.out⟩
end Go.Proofs.YtacgopankhpnbaaGreatDoor
/- Walks of package build: circle. -/
namespace Go.Proofs.YtacgopankhpnbaaGreatDoor
open Go.RowKit

/-- The boxes that visit sees: the marks' variable, the graph, the closure. -/
structure Boxes (vi vs : Value) (out : ByteArray) (bw bi bm ps pg pv : Nat) (w : World) : Prop where
  st : w.heap[ps]? = some (.cells #[.map (some bm)] 192)
  gr : w.heap[pg]? = some (grfBox vi vs out bw bi)
  fn : w.heap[pv]? = some (.cells #[.func (.func 119) #[] #[.pointer (some ⟨ps, 0, none⟩), .pointer (some ⟨pg, 0, none⟩), .pointer (some ⟨pv, 0, none⟩)]] 97)
/-- What visit keeps: the marks st. -/
structure Circ (L : List (Value × Stp)) (vi vs : Value) (out : ByteArray) (bw bi bm ps pg pv nw : Nat) (w : World) (st : Marks) : Prop where
  boxes : Boxes vi vs out bw bi bm ps pg pv w
  stps : Stps w vs L
  wr : MapIs kStr vInt w bw nw (wMap (L.map (·.2)))
  ne : bw ≠ bm
  marks : ∃ n m, MapIs kInt vInt w bm n m ∧ n + pot st L.length ≤ 1000000 ∧ ∀ i : Nat, (m i).getD 0 = st i
section
variable {L : List (Value × Stp)} {vi vs : Value} {out : ByteArray} {bw bi bm ps pg pv nw : Nat} {w w' : World} {st st' : Marks}
theorem Circ.isMap (h : Circ L vi vs out bw bi bm ps pg pv nw w st) : IsMapAt w bm := by obtain ⟨n, m, h1, -⟩ := h.marks; exact IsMapAt.of h1
theorem Circ.later (h : Circ L vi vs out bw bi bm ps pg pv nw w st) (hb : Below w.heap.size w w') : Circ L vi vs out bw bi bm ps pg pv nw w' st := by
  obtain ⟨n, m, h1, h2, h3⟩ := h.marks
  have hx : ∀ {k : Nat} {o : Obj}, w.heap[k]? = some o → w'.heap[k]? = some o := fun hk => (hb.block _ (Array.getElem?_eq_some_iff.1 hk).1).trans hk
  exact ⟨⟨hx h.boxes.st, hx h.boxes.gr, hx h.boxes.fn⟩, h.stps.later hb, h.wr.later hb, h.ne, n, m, h1.later hb, h2, h3⟩
theorem Circ.cells (h : Circ L vi vs out bw bi bm ps pg pv nw w st) : w.cell? ⟨ps, 0, none⟩ = some (.map (some bm)) ∧
    (w.cell? ⟨pg, 0, none⟩ = some vi ∧ w.cell? ⟨pg, 1, none⟩ = some vs ∧ w.cell? ⟨pg, 2, none⟩ = some (.string out) ∧ w.cell? ⟨pg, 3, none⟩ = some (.map (some bw)) ∧ w.cell? ⟨pg, 4, none⟩ = some (.map (some bi))) ∧
    w.cell? ⟨pv, 0, none⟩ = some (.func (.func 119) #[] #[.pointer (some ⟨ps, 0, none⟩), .pointer (some ⟨pg, 0, none⟩), .pointer (some ⟨pv, 0, none⟩)]) :=
  ⟨box1 h.boxes.st, box5 h.boxes.gr, box1 h.boxes.fn⟩
theorem nat_wf {i : Nat} (h : i < 9223372036854775808) : (Lit.int .i64 (i : Int)).wf = true := by
  have : decide (IntKind.i64.min ≤ (i : Int)) = true ∧ decide ((i : Int) ≤ IntKind.i64.max) = true := ⟨decide_eq_true (by show (-9223372036854775808 : Int) ≤ _; omega), decide_eq_true (by show _ ≤ (9223372036854775807 : Int); omega)⟩
  simp only [Lit.wf, this.1, this.2, Bool.and_self]
theorem wf1 : (Lit.int .i64 1).wf = true := by decide
theorem wf2 : (Lit.int .i64 2).wf = true := by decide
/-- A look at a mark. -/
theorem Circ.look (h : Circ L vi vs out bw bi bm ps pg pv nw w st) {i : Nat} (hi : i < 9223372036854775808) : (Instr.lookup 192 (.map (some bm)) (.int .i64 i) false).run Tryz.prog w = .ok (.int .i64 (st i)) w := by
  obtain ⟨n, m, h1, -, h3⟩ := h.marks
  have := h1.look Tryz.underlying192 (x := (i : Int)) (nat_wf hi)
  rw [show (m i).getD vInt.zero = st i from h3 i] at this
  exact this
open Classical in
/-- A mark is set. -/
theorem Circ.set (h : Circ L vi vs out bw bi bm ps pg pv nw w st) {i : Nat} {x : Int} (hi : i < L.length) (hx : (st i = 0 ∧ x = 1) ∨ (st i = 1 ∧ x = 2)) (hl : L.length ≤ 1000000) :
    ∃ w', (Instr.mapUpdate 192 (.map (some bm)) (.int .i64 i) (.int .i64 x)).run Tryz.prog w = .ok () w' ∧ Circ L vi vs out bw bi bm ps pg pv nw w' (mark st i x) ∧ Only bm w w' := by
  obtain ⟨n, m, h1, h2, h3⟩ := h.marks
  have hp := pot_mark hx L.length hi
  obtain ⟨w', hrun, hm', hg⟩ := h1.store Tryz.underlying192 (by unfold maxLen; omega) (x := (i : Int)) (nat_wf (by omega)) (y := x) (by rcases hx with ⟨-, rfl⟩ | ⟨-, rfl⟩; exact wf1; exact wf2)
  have ho := only_grown hg
  have hM := h.isMap
  refine ⟨w', hrun, ⟨⟨hM.box ho h.boxes.st, hM.box ho h.boxes.gr, hM.box ho h.boxes.fn⟩, h.stps.onlyMap hM ho, h.wr.of_block (ho.block _ h.wr.lt h.ne), h.ne, n + 1, _, hm', by omega, fun j => ?_⟩, ho⟩
  by_cases hj : j = i
  · subst hj; simp [mark]
  · have : ¬ (j : Int) = i := by omega
    simp only [this, if_false, mark, hj]
    exact h3 j
/-- The captured pointers of visit. -/
abbrev visitCap (ps pg pv : Nat) : Array Value := #[.pointer (some ⟨ps, 0, none⟩), .pointer (some ⟨pg, 0, none⟩), .pointer (some ⟨pv, 0, none⟩)]
theorem enters_visit : ∀ args w, (callFunc 119 args).run Tryz.prog w = .ok (.enter 119 args) w := enters_of Tryz.func119 (by kernel_rfl) rfl
/-- What visit comes to. -/
def VisitPost (L : List (Value × Stp)) (vi vs : Value) (out : ByteArray) (bw bi bm ps pg pv nw : Nat) (w : World) (r : Marks × Bool) (e : Ending) (w' : World) : Prop :=
  e = .returned (.bool r.2) ∧ Circ L vi vs out bw bi bm ps pg pv nw w' r.1 ∧ Only bm w w'
/-- That visit does so, f levels deep. -/
def VisitOk (L : List (Value × Stp)) (vi vs : Value) (out : ByteArray) (bw bi bm ps pg pv nw f : Nat) : Prop :=
  ∀ (w : World) (st : Marks) (i : Nat), Circ L vi vs out bw bi bm ps pg pv nw w st → i < L.length → zeros st L.length < f →
    Calls Tryz.prog 119 #[.int .i64 i, .pointer (some ⟨ps, 0, none⟩), .pointer (some ⟨pg, 0, none⟩), .pointer (some ⟨pv, 0, none⟩)] w (VisitPost L vi vs out bw bi bm ps pg pv nw w (visit (needsAt (L.map (·.2))) f st i))
/-- The search among the needs. -/
theorem visit_search {f : Nat} (ih : VisitOk L vi vs out bw bi bm ps pg pv nw f) {l : List Nat} {v : Value} (hl : ∀ j, j ∈ l → j < L.length) (h : Circ L vi vs out bw bi bm ps pg pv nw w st) (hI : Ints w v (natInts l)) (hz : zeros st L.length < f) :
    Calls Tryz.prog 61 #[v, .func (.func 119) #[] (visitCap ps pg pv)] w (VisitPost L vi vs out bw bi bm ps pg pv nw w (anyV (visit (needsAt (L.map (·.2))) f) st l)) := by
  refine (containsFunc_int _ _ (visit (needsAt (L.map (·.2))) f) l v (fun W s => Circ L vi vs out bw bi bm ps pg pv nw W s ∧ Only bm w W ∧ zeros s L.length < f) w st ⟨h, Only.refl _ _, hz⟩ ⟨fun W s hs => hI.onlyMap h.isMap hs.2.1, enters_visit, fun x hx W s hs => ?_⟩).mono ?_
  · refine (ih W s x hs.1 (hl x hx) hs.2.2).mono ?_
    rintro e W' ⟨rfl, h1, h2⟩
    exact ⟨rfl, h1, hs.2.1.trans h2, Nat.lt_of_le_of_lt (visit_zeros _ _ _ _ _) hs.2.2⟩
  · rintro e W' ⟨rfl, h1, h2, -⟩
    exact ⟨rfl, h1, h2⟩
theorem needsAt_of {y : Value × Stp} {i : Nat} (hy : L[i]? = some y) : needsAt (L.map (·.2)) i = needsOf (L.map (·.2)) y.2 := by
  unfold needsAt
  rw [List.getElem?_map, hy]; rfl
theorem visit_seen {needs : Nat → List Nat} {f i : Nat} (h : st i ≠ 0) : visit needs (f + 1) st i = (st, decide (st i = 1)) := by rw [visit, if_pos h]
theorem visit_true {needs : Nat → List Nat} {f i : Nat} (h : st i = 0) (h2 : (anyV (visit needs f) (mark st i 1) (needs i)).2 = true) : visit needs (f + 1) st i = ((anyV (visit needs f) (mark st i 1) (needs i)).1, true) := by
  rw [visit, if_neg (by simp [h]), if_pos h2]
theorem visit_false {needs : Nat → List Nat} {f i : Nat} (h : st i = 0) (h2 : (anyV (visit needs f) (mark st i 1) (needs i)).2 = false) : visit needs (f + 1) st i = (mark (anyV (visit needs f) (mark st i 1) (needs i)).1 i 2, false) := by
  rw [visit, if_neg (by simp [h]), if_neg (by simp [h2])]
end

set_option maxRecDepth 100000 in
set_option maxHeartbeats 4000000 in
theorem visit_any (L : List (Value × Stp)) (vi vs : Value) (out : ByteArray) (bw bi bm ps pg pv nw : Nat) (hL : L.length ≤ 1000000) (hs : ∀ y, y ∈ L → y.2.src.length ≤ 1000000) : ∀ f, VisitOk L vi vs out bw bi bm ps pg pv nw f
  | 0 => fun w st i _ _ h => absurd h (by omega)
  | f + 1 => by
    have ih := Lib.hid (visit_any L vi vs out bw bi bm ps pg pv nw hL hs f)
    intro w st i h hi hz
    have hl := h.look (i := i) (by omega)
    obtain ⟨c0, -, -⟩ := h.cells
    by_cases h0 : st i = 0
    · obtain ⟨w1, hu, h1, ho1⟩ := h.set (i := i) (x := 1) hi (.inl ⟨h0, rfl⟩) hL
      obtain ⟨y, hy, hym⟩ := getElem?_of_lt hi
      have HM := Lib.hid (mark_same st i 1)
      have hz1 := zeros_mark h0 L.length hi
      have hz2 : zeros (mark st i 1) L.length < f := by omega
      have HZ := Lib.hid hz2
      have HV0 := Lib.hid h0
      have HN := Lib.hid (needs_any (L.map (·.2)) vi vs out bw bi nw L i y w1.drew (h1.later (Below.refl _ _).drew).stps hy (h1.later (Below.refl _ _).drew).wr (hs y hym))
      rw [← needsAt_of hy] at HN
      have HC1 := Lib.hid h1
      have HO1 := Lib.hid ho1
      rw [h0] at hl
      have HR : Hid (∀ v w2, Below w1.heap.size w1 w2 → Ints w2 v (natInts (needsAt (L.map (·.2)) i)) → Calls Tryz.prog 61 #[v, .func (.func 119) #[] (visitCap ps pg pv)] w2 (VisitPost L vi vs out bw bi bm ps pg pv nw w2 (anyV (visit (needsAt (L.map (·.2))) f) (mark st i 1) (needsAt (L.map (·.2)) i)))) :=
        Lib.hid fun v w2 hb hI => visit_search ih.out (fun j hj => by have := needsAt_lt hj; simpa using this) (HC1.out.later hb) hI HZ.out
      have HK := Lib.hid (anyV_keeps (visit_keeps (needsAt (L.map (·.2))) f) (needsAt (L.map (·.2)) i) (mark st i 1) i (by rw [HM.out]; decide))
      rw [HM.out] at HK
      have HT := Lib.hid (fun h2 => visit_true (needs := needsAt (L.map (·.2))) (f := f) HV0.out h2)
      have HF := Lib.hid (fun h2 => visit_false (needs := needsAt (L.map (·.2))) (f := f) HV0.out h2)
      generalize anyV (visit (needsAt (L.map (·.2))) f) (mark st i 1) (needsAt (L.map (·.2)) i) = r at HR HK HT HF
      obtain ⟨st2, q⟩ := r
      have HE := Lib.hid HC1.out.cells.2
      obtain ⟨⟨g0, g1, g2, g3, g4⟩, g5⟩ := HE.out
      generalize visit (needsAt (L.map (·.2))) (f + 1) st i = V at HT HF ⊢
      generalize needsAt (L.map (·.2)) i = l at HN HR
      clear h h0 hy hym h1 ho1 hz hz1 hz2 HM HV0 HZ ih hs
      cases q with
      | true =>
        have HV := Lib.hid (HT.out rfl)
        clear HT HF
        go_enter Tryz.func119, Tryz.ntmps119
        go_wp2_with fail
        clear hl hu c0
        go_region_held3 (fun W => (W.cell? ⟨pg, 0, none⟩ = some vi ∧ W.cell? ⟨pg, 1, none⟩ = some vs ∧ W.cell? ⟨pg, 2, none⟩ = some (.string out) ∧ W.cell? ⟨pg, 3, none⟩ = some (.map (some bw)) ∧ W.cell? ⟨pg, 4, none⟩ = some (.map (some bi))) ∧ W.cell? ⟨pv, 0, none⟩ = some (.func (.func 119) #[] #[.pointer (some ⟨ps, 0, none⟩), .pointer (some ⟨pg, 0, none⟩), .pointer (some ⟨pv, 0, none⟩)]))
          (first | (with_reducible exact HE.out) | (with_reducible exact HE2.out) | (with_reducible exact HE3.out) | go_keep)
          (first | (go_at_call 67; (with_reducible refine HN.out.mono ?_); rintro e w2 ⟨v, rfl, hI, -, hb⟩; have HB : Hid (Below w1.heap.size w1 w2) := Lib.hid ((Below.refl _ w1).drew.trans hb); have HE2 := Lib.hid (HC1.out.later HB.out).cells.2; have HI := Lib.hid hI; clear hI hb) | (have _g := HB; go_at_call 61; (with_reducible refine (HR.out v w2 HB.out HI.out).mono ?_); rintro e w3 ⟨rfl, hc3, ho3⟩; have HE3 := Lib.hid hc3.cells.2; have HC3 := Lib.hid hc3; have HO3 := Lib.hid ho3; clear hc3 ho3))
        all_goals
          go_wp2_with fail
          go_ret
          refine ⟨by rw [HV.out]; rfl, by rw [HV.out]; exact HC3.out, ?_⟩
          exact (HO1.out.trans (Only.of_below HB.out)).trans HO3.out
      | false =>
        have HV := Lib.hid (HF.out rfl)
        clear HT HF
        go_enter Tryz.func119, Tryz.ntmps119
        go_wp2_with fail
        clear hl hu c0
        go_region_held3 (fun W => (W.cell? ⟨pg, 0, none⟩ = some vi ∧ W.cell? ⟨pg, 1, none⟩ = some vs ∧ W.cell? ⟨pg, 2, none⟩ = some (.string out) ∧ W.cell? ⟨pg, 3, none⟩ = some (.map (some bw)) ∧ W.cell? ⟨pg, 4, none⟩ = some (.map (some bi))) ∧ W.cell? ⟨pv, 0, none⟩ = some (.func (.func 119) #[] #[.pointer (some ⟨ps, 0, none⟩), .pointer (some ⟨pg, 0, none⟩), .pointer (some ⟨pv, 0, none⟩)]))
          (first | (with_reducible exact HE.out) | (with_reducible exact HE2.out) | (with_reducible exact HE3.out) | go_keep)
          (first | (go_at_call 67; (with_reducible refine HN.out.mono ?_); rintro e w2 ⟨v, rfl, hI, -, hb⟩; have HB : Hid (Below w1.heap.size w1 w2) := Lib.hid ((Below.refl _ w1).drew.trans hb); have HE2 := Lib.hid (HC1.out.later HB.out).cells.2; have HI := Lib.hid hI; clear hI hb) | (have _g := HB; go_at_call 61; (with_reducible refine (HR.out v w2 HB.out HI.out).mono ?_); rintro e w3 ⟨rfl, hc3, ho3⟩; have HE3 := Lib.hid hc3.cells.2; have HC3 := Lib.hid hc3; have HO3 := Lib.hid ho3; clear hc3 ho3))
        all_goals
          obtain ⟨w4, hu4, h4, ho4⟩ := HC3.out.set (i := i) (x := 2) hi (.inr ⟨HK.out, rfl⟩) hL
          obtain ⟨d0, -, -⟩ := HC3.out.cells
          have HC4 := Lib.hid h4; have HO4 := Lib.hid ho4
          clear h4 ho4
          go_wp2_with fail
          go_ret
          refine ⟨by rw [HV.out]; rfl, by rw [HV.out]; exact HC4.out, ?_⟩
          exact ((HO1.out.trans (Only.of_below HB.out)).trans HO3.out).trans HO4.out
    · have HV := Lib.hid (visit_seen (needs := needsAt (L.map (·.2))) (f := f) h0)
      have HC := Lib.hid h
      have hb0 : (st i == 0) = false := beq_eq_false_iff_ne.2 h0
      have hb1 : (st i != 0) = true := by rw [bne_iff_ne]; exact h0
      rw [HV.out]
      unfold VisitPost
      generalize hx : st i = x at hl hb0 hb1 ⊢
      clear hx h h0 hz HV ih hs
      go_enter Tryz.func119, Tryz.ntmps119
      go_wp2_with fail
      go_ret
      exact ⟨ret_bool (by rw [Bool.eq_iff_iff]; simp), HC.out, Only.refl _ _⟩
end Go.Proofs.YtacgopankhpnbaaGreatDoor
/- Walks of package build: circle. -/
namespace Go.Proofs.YtacgopankhpnbaaGreatDoor
open Go.RowKit

/-- circle's loop. -/
structure CircRel (L : List (Value × Stp)) (vi vs : Value) (out : ByteArray) (bw bi bm ps pg pv nw : Nat) (w : World) (k : Nat) (st : Marks) (wr : World) : Prop where
  circ : Circ L vi vs out bw bi bm ps pg pv nw wr st
  below : Below w.heap.size w wr
  left : circle (L.map (·.2)) = circleFrom (needsAt (L.map (·.2))) (L.length + 1) k (L.length - k) st
theorem circleFrom_at {needs : Nat → List Nat} {f k len : Nat} {st : Marks} (h : k < len) : circleFrom needs f k (len - k) st = ((visit needs f st k).2 || circleFrom needs f (k + 1) (len - (k + 1)) (visit needs f st k).1) := by
  obtain ⟨n, hn⟩ : ∃ n, len - k = n + 1 := ⟨len - k - 1, by omega⟩
  rw [hn, circleFrom, show len - (k + 1) = n by omega]
theorem zeros_len (st : Marks) : ∀ n, zeros st n ≤ n
  | 0 => Nat.le_refl _
  | n + 1 => by rw [zeros]; have := zeros_len st n; split <;> omega
section
variable {L : List (Value × Stp)} {vi vs : Value} {out : ByteArray} {bw bi nw : Nat} {w : World}
/-- The world in which circle's loop begins. -/
abbrev circWorld (vi vs : Value) (out : ByteArray) (bw bi : Nat) (w : World) : World :=
  (((w.alloc (grfBox vi vs out bw bi)).alloc (.map #[] 0)).alloc (.cells #[.map (some (w.heap.size + 1))] 192)).alloc
    (.cells #[.func (.func 119) #[] #[.pointer (some ⟨w.heap.size + 1 + 1, 0, none⟩), .pointer (some ⟨w.heap.size, 0, none⟩), .pointer (some ⟨w.heap.size + 1 + 1 + 1, 0, none⟩)]] 97)
theorem CircRel.first (hS : Stps w vs L) (hM : MapIs kStr vInt w bw nw (wMap (L.map (·.2)))) (hL : L.length ≤ 60) :
    CircRel L vi vs out bw bi (w.heap.size + 1) (w.heap.size + 1 + 1) w.heap.size (w.heap.size + 1 + 1 + 1) nw w 0 (fun _ => 0) (circWorld vi vs out bw bi w) := by
  have B1 := below_alloc w (grfBox vi vs out bw bi)
  have B2 := below_alloc (w.alloc (grfBox vi vs out bw bi)) (.map #[] 0)
  have B3 := below_alloc ((w.alloc (grfBox vi vs out bw bi)).alloc (.map #[] 0)) (.cells #[.map (some (w.heap.size + 1))] 192)
  have B4 := below_alloc (((w.alloc (grfBox vi vs out bw bi)).alloc (.map #[] 0)).alloc (.cells #[.map (some (w.heap.size + 1))] 192)) (.cells #[.func (.func 119) #[] #[.pointer (some ⟨w.heap.size + 1 + 1, 0, none⟩), .pointer (some ⟨w.heap.size, 0, none⟩), .pointer (some ⟨w.heap.size + 1 + 1 + 1, 0, none⟩)]] 97)
  have B := below_trans (below_trans (below_trans B1 B2) B3) B4
  have hx : ∀ {a b : World} {k : Nat} {o : Obj}, Below a.heap.size a b → a.heap[k]? = some o → b.heap[k]? = some o := fun hb hk => (hb.block _ (Array.getElem?_eq_some_iff.1 hk).1).trans hk
  refine ⟨⟨⟨?_, ?_, ?_⟩, hS.later B, hM.later B, by have := hM.lt; omega, 0, fun _ => none, ?_, by rw [pot_new]; omega, fun _ => rfl⟩, B, by unfold circle; rw [List.length_map]; rfl⟩
  · have := hx B4 (alloc_self ((w.alloc (grfBox vi vs out bw bi)).alloc (.map #[] 0)) (.cells #[.map (some (w.heap.size + 1))] 192))
    simpa only [World.size_alloc] using this
  · exact hx (below_trans (below_trans B2 B3) B4) (alloc_self w _)
  · have := alloc_self (((w.alloc (grfBox vi vs out bw bi)).alloc (.map #[] 0)).alloc (.cells #[.map (some (w.heap.size + 1))] 192)) (.cells #[.func (.func 119) #[] #[.pointer (some ⟨w.heap.size + 1 + 1, 0, none⟩), .pointer (some ⟨w.heap.size, 0, none⟩), .pointer (some ⟨w.heap.size + 1 + 1 + 1, 0, none⟩)]] 97)
    simpa only [World.size_alloc] using this
  · have := (MapIs.made (K := kInt) (V := vInt) (w.alloc (grfBox vi vs out bw bi))).later (below_trans B3 B4)
    simpa only [World.size_alloc] using this
end

set_option maxRecDepth 100000 in
set_option maxHeartbeats 2000000 in
theorem circle_any (L : List (Value × Stp)) (vi vs : Value) (out : ByteArray) (bw bi nw : Nat) (w : World) (hS : Stps w vs L) (hM : MapIs kStr vInt w bw nw (wMap (L.map (·.2)))) (hL : L.length ≤ 60) (hs : ∀ y, y ∈ L → y.2.src.length ≤ 1000000) :
    Calls Tryz.prog 95 #[grfV vi vs out bw bi] w fun e w' => e = .returned (.bool (circle (L.map (·.2)))) ∧ Below w.heap.size w w' := by
  have HV := Lib.hid (visit_any L vi vs out bw bi (w.heap.size + 1) (w.heap.size + 1 + 1) w.heap.size (w.heap.size + 1 + 1 + 1) nw (by omega) hs (L.length + 1))
  have HF := Lib.hid (CircRel.first (vi := vi) (out := out) (bi := bi) hS hM hL)
  have hmm := @run_makeMap Tryz.prog
  have eg := enters_visit
  obtain ⟨a, c, hvs⟩ := stps_slice hS
  subst hvs
  clear hS hM hs
  go_enter Tryz.func95, Tryz.ntmps95
  go_wp2_with fail
  go_loopw [12] (fun i wr => ∃ (k : Nat) (st : Marks), k ≤ L.length ∧ i = .int .i64 k ∧ Hid (CircRel L vi (.slice a L.length c) out bw bi (w.heap.size + 1) (w.heap.size + 1 + 1) w.heap.size (w.heap.size + 1 + 1 + 1) nw w k st wr)) (fun i _ => L.length - (intOf i).toNat)
  case atStart => exact ⟨0, fun _ => 0, Nat.zero_le _, rfl, HF⟩
  case round =>
    obtain ⟨k, st, hk, rfl, HR⟩ := hrel
    rename World => wr
    clear HF hmm
    by_cases hlt : k < L.length
    · obtain ⟨-, -, d0⟩ := HR.out.circ.cells
      have HC := Lib.hid (HV.out wr st k HR.out.circ hlt (by have := zeros_len st L.length; omega))
      have HL := Lib.hid (HR.out.left.trans (circleFrom_at hlt))
      generalize visit (needsAt (L.map (·.2))) (L.length + 1) st k = r at HC HL
      obtain ⟨st2, q⟩ := r
      cases q with
      | true =>
        go_wp2_with (go_at_fn 119; (with_reducible refine HC.out.mono ?_); rintro e w2 ⟨rfl, h2, ho⟩)
        go_ret
        refine ⟨ret_bool (by rw [HL.out]; rfl), ho.below HR.out.below (by omega) HR.out.below.size⟩
      | false =>
        go_wp2_with (go_at_fn 119; (with_reducible refine HC.out.mono ?_); rintro e w2 ⟨rfl, h2, ho⟩)
        go_roundw
        case rel => exact ⟨k + 1, st2, by omega, by go_num, Lib.hid ⟨h2, ho.below HR.out.below (by omega) HR.out.below.size, HL.out⟩⟩
        case measure => simp [intOf]; omega
    · have HL := Lib.hid (show circle (L.map (·.2)) = false by rw [HR.out.left, show L.length - k = 0 by omega]; rfl)
      go_wp2_with fail
      go_ret
      exact ⟨ret_bool HL.out.symm, HR.out.below⟩
end Go.Proofs.YtacgopankhpnbaaGreatDoor
/- slices.Clone at files. -/
namespace Go.Proofs.YtacgopankhpnbaaGreatDoor
open Go.RowKit

theorem filInfo : (Tryz.prog.info? 40).map (fun i => (i.zero, i.size, i.bytes)) = some (some (.agg #[.string ByteArray.empty, .string ByteArray.empty]), 2, 32) := by kernel_rfl
/-- The cells of files. -/
def filCells (l : List Fil) : List Value := l.flatMap fun f => [.string f.name, .string f.text]

theorem filCells_length (l : List Fil) : (filCells l).length = l.length * 2 := by
  induction l with
  | nil => rfl
  | cons f l ih => rw [show filCells (f :: l) = [.string f.name, .string f.text] ++ filCells l from rfl, List.length_append, ih]; simp; omega
theorem filCells_get (l : List Fil) : ∀ (j : Nat) (u : Value), (filCells l)[j]? = some u → ∃ i f, l[i]? = some f ∧ (j = i * 2 ∧ u = .string f.name ∨ j = i * 2 + 1 ∧ u = .string f.text) := by
  induction l with
  | nil => intro j u h; simp [filCells] at h
  | cons f l ih =>
    intro j u h
    rw [show filCells (f :: l) = [.string f.name, .string f.text] ++ filCells l from rfl] at h
    match j, h with
    | 0, h => simp at h; exact ⟨0, f, rfl, .inl ⟨rfl, h.symm⟩⟩
    | 1, h => simp at h; exact ⟨0, f, rfl, .inr ⟨rfl, h.symm⟩⟩
    | j + 2, h =>
      obtain ⟨i, g, hg, hh⟩ := ih j u (by simpa using h)
      exact ⟨i + 1, g, by simpa using hg, by rcases hh with ⟨h1, h2⟩ | ⟨h1, h2⟩; exact .inl ⟨by omega, h2⟩; exact .inr ⟨by omega, h2⟩⟩
theorem filCells_at (l : List Fil) (i : Nat) (f : Fil) (h : l[i]? = some f) : (filCells l)[i * 2]? = some (.string f.name) ∧ (filCells l)[i * 2 + 1]? = some (.string f.text) := by
  induction l generalizing i with
  | nil => simp at h
  | cons g l ih =>
    rw [show filCells (g :: l) = .string g.name :: .string g.text :: filCells l from rfl]
    match i, h with
    | 0, h => simp at h; subst h; exact ⟨rfl, rfl⟩
    | i + 1, h =>
      have := ih i (by simpa using h)
      rw [show (i + 1) * 2 = i * 2 + 1 + 1 by omega]
      simpa using this
theorem filCells_one (l : List Fil) : ∀ u ∈ filCells l, u.oneCell' = true := by
  intro u hu
  simp only [filCells, List.mem_flatMap] at hu
  obtain ⟨f, -, hu⟩ := hu
  simp at hu
  rcases hu with rfl | rfl <;> rfl

set_option maxHeartbeats 1000000 in
/-- slices.Clone at files that are not nil. -/
theorem clone_some (ad : Addr) (c : Nat) (l : List Fil) (w : World) (hc : ∀ j u, (filCells l)[j]? = some u → w.cell? (ad.add j) = some u) (hl : l.length ≤ 1000000) :
    Calls Tryz.prog 53 #[.slice (some ad) l.length c] w fun e w' => ∃ v', e = .returned v' ∧ w'.ownsRow w.heap.size 40 2 v' l.length (filCells l) ∧ Below w.heap.size w w' := by
  obtain ⟨i0, hi, hz0, hz1, hz2⟩ := info_parts filInfo
  have HC := Lib.hid hc; clear hc
  have q22 : ∀ (w : World) (a : Option Addr) (n c n' c' : Nat), (binOp .eql 25 (.slice a n c) (.slice none n' c')).run Tryz.prog w = .ok (.bool a.isNone) w := fun w a n c n' c' => Lib.run_eql_slice_nil w _ _ a n c n' c' Tryz.underlying25
  go_enter Tryz.func53, Tryz.ntmps53
  go_wp2_with (at_builtin; refine wpList_append_own _ rfl _ _ 25 rfl w.heap.size 40 i0 (.agg #[.string ByteArray.empty, .string ByteArray.empty]) 2 32 Tryz.underlying25 hi hz0 hz1 hz2 rfl (by decide) _ _ _ rfl (World.ownsRow_made w #[] 0 (Nat.le_refl _) (Nat.zero_le _) (by simp)) ad l.length c (filCells l) rfl (filCells_length l) (fun j u hj => Lib.cell?_alloc_some _ (HC.out j u hj)) (filCells_one l) (by unfold maxLen; omega) (by omega) (by simp) ?_)
  intro v' w1 hown hgrow hnil
  have HO := Lib.hid hown; clear hown hnil
  have HGr := Lib.hid hgrow; clear hgrow
  go_wp2_with fail
  go_ret
  refine ⟨v', rfl, by simpa using HO.out, ?_⟩
  exact ((Below.refl _ w).alloc (Nat.le_refl _) _).grown HGr.out (by simp) (by intro k hk; simp [Value.ownBlock] at hk; omega)

theorem clone_nil (c : Nat) (w : World) :
    Calls Tryz.prog 53 #[.slice none 0 c] w fun e w' => ∃ v', e = .returned v' ∧ w'.ownsRow w.heap.size 40 2 v' 0 [] ∧ Below w.heap.size w w' := by
  have q22 : ∀ (w : World) (a : Option Addr) (n c n' c' : Nat), (binOp .eql 25 (.slice a n c) (.slice none n' c')).run Tryz.prog w = .ok (.bool a.isNone) w := fun w a n c n' c' => Lib.run_eql_slice_nil w _ _ a n c n' c' Tryz.underlying25
  go_enter Tryz.func53, Tryz.ntmps53
  go_wp2_with fail
  go_ret
  exact ⟨_, rfl, World.ownsRow_nil _ _ _ _, Below.refl _ _⟩

theorem clone_any (l : List Fil) (v : Value) (w : World) (hv : Fils w v l) (hl : l.length ≤ 1000000) :
    Calls Tryz.prog 53 #[v] w fun e w' => ∃ v', e = .returned v' ∧ w'.ownsRow w.heap.size 40 2 v' l.length (filCells l) ∧ Below w.heap.size w w' := by
  rcases hv.cases with ⟨rfl, a, c, rfl⟩ | ⟨b, o, c, rfl, h0, h1, h2, hb, hc⟩
  · cases a with
    | none => exact clone_nil c w
    | some a => exact clone_some a c [] w (fun j u h => by simp [filCells] at h) hl
  · refine clone_some _ c l w (fun j u h => ?_) hl
    obtain ⟨i, f, hf, hh⟩ := filCells_get l j u h
    obtain ⟨c1, c2, -⟩ := hc i f hf
    rw [Addr.add_lit]
    rcases hh with ⟨rfl, rfl⟩ | ⟨rfl, rfl⟩
    · exact c1
    · rw [← Nat.add_assoc]; exact c2
end Go.Proofs.YtacgopankhpnbaaGreatDoor
/- Walks of package build: what inspect holds while it goes. -/
namespace Go.Proofs.YtacgopankhpnbaaGreatDoor
open Go.RowKit

/-- A recipe as a value. -/
abbrev rcpV (vi vs : Value) (out : ByteArray) : Value := .agg #[vi, vs, .string out]
abbrev rcpBox (vi vs : Value) (out : ByteArray) : Obj := .cells #[vi, vs, .string out] 51
abbrev grfZero : Obj := .cells #[.slice none 0 0, .slice none 0 0, .string ⟨#[]⟩, .map none, .map none] 101
/-- What the map of inputs holds. -/
def iMap (inputs : List Fil) (x : ByteArray) : Option Bool := if isInput inputs x then some true else none
theorem iMap_getD (inputs : List Fil) (x : ByteArray) : (iMap inputs x).getD false = isInput inputs x := by
  unfold iMap; cases isInput inputs x <;> rfl
theorem wMap_isSome (steps : List Stp) (x : ByteArray) : (wMap steps x).isSome = (writerOf steps x).isSome := by
  unfold wMap; cases writerOf steps x <;> rfl

/-- What inspect holds: the recipe's box, the result's, the graph's, the two maps. -/
structure InspW (vi vs : Value) (out : ByteArray) (w : World) (nw ni : Nat) (mw : ByteArray → Option Int) (mi : ByteArray → Option Bool) (W : World) : Prop where
  br : W.heap[w.heap.size]? = some (rcpBox vi vs out)
  bres : W.heap[w.heap.size + 1]? = some grfZero
  bg : W.heap[w.heap.size + 1 + 1 + 1 + 1]? = some (grfBox vi vs out (w.heap.size + 1 + 1) (w.heap.size + 1 + 1 + 1))
  mw : MapIs kStr vInt W (w.heap.size + 1 + 1) nw mw
  mi : MapIs kStr vBool W (w.heap.size + 1 + 1 + 1) ni mi
  below : Below w.heap.size w W
section
variable {vi vs : Value} {out : ByteArray} {w W W' : World} {nw ni : Nat} {mw : ByteArray → Option Int} {mi : ByteArray → Option Bool}
theorem heap_up {a b : World} {k : Nat} {o : Obj} (hb : Below a.heap.size a b) (hk : a.heap[k]? = some o) : b.heap[k]? = some o := (hb.block _ (Array.getElem?_eq_some_iff.1 hk).1).trans hk
theorem InspW.later (h : InspW vi vs out w nw ni mw mi W) (hb : Below W.heap.size W W') : InspW vi vs out w nw ni mw mi W' :=
  ⟨heap_up hb h.br, heap_up hb h.bres, heap_up hb h.bg, h.mw.later hb, h.mi.later hb, below_trans h.below hb⟩
theorem InspW.setI {n' : Nat} {mi' : ByteArray → Option Bool} (h : InspW vi vs out w nw ni mw mi W) (hg : W.grownBy W' (some (w.heap.size + 1 + 1 + 1))) (hm : MapIs kStr vBool W' (w.heap.size + 1 + 1 + 1) n' mi') : InspW vi vs out w nw n' mw mi' W' := by
  have ho := only_grown hg
  have hM := IsMapAt.of h.mi
  exact ⟨hM.box ho h.br, hM.box ho h.bres, hM.box ho h.bg, h.mw.of_block (ho.block _ h.mw.lt (by omega)), hm, ho.below h.below (by omega) h.below.size⟩
theorem InspW.setW {n' : Nat} {mw' : ByteArray → Option Int} (h : InspW vi vs out w nw ni mw mi W) (hg : W.grownBy W' (some (w.heap.size + 1 + 1))) (hm : MapIs kStr vInt W' (w.heap.size + 1 + 1) n' mw') : InspW vi vs out w n' ni mw' mi W' := by
  have ho := only_grown hg
  have hM := IsMapAt.of h.mw
  exact ⟨hM.box ho h.br, hM.box ho h.bres, hM.box ho h.bg, hm, h.mi.of_block (ho.block _ h.mi.lt (by omega)), ho.below h.below (by omega) h.below.size⟩
theorem InspW.first (vi vs : Value) (out : ByteArray) (w : World) :
    InspW vi vs out w 0 0 (fun _ => none) (fun _ => none) (((((w.alloc (rcpBox vi vs out)).alloc grfZero).alloc (.map #[] 0)).alloc (.map #[] 0)).alloc (grfBox vi vs out (w.heap.size + 1 + 1) (w.heap.size + 1 + 1 + 1))) := by
  have B1 := below_alloc w (rcpBox vi vs out)
  have B2 := below_alloc (w.alloc (rcpBox vi vs out)) grfZero
  have B3 := below_alloc ((w.alloc (rcpBox vi vs out)).alloc grfZero) (.map #[] 0)
  have B4 := below_alloc (((w.alloc (rcpBox vi vs out)).alloc grfZero).alloc (.map #[] 0)) (.map #[] 0)
  have B5 := below_alloc ((((w.alloc (rcpBox vi vs out)).alloc grfZero).alloc (.map #[] 0)).alloc (.map #[] 0)) (grfBox vi vs out (w.heap.size + 1 + 1) (w.heap.size + 1 + 1 + 1))
  refine ⟨heap_up (below_trans (below_trans (below_trans B2 B3) B4) B5) (alloc_self w _), ?_, ?_, ?_, ?_, below_trans (below_trans (below_trans (below_trans B1 B2) B3) B4) B5⟩
  · have := heap_up (below_trans (below_trans B3 B4) B5) (alloc_self (w.alloc (rcpBox vi vs out)) grfZero)
    simpa only [World.size_alloc] using this
  · have := alloc_self ((((w.alloc (rcpBox vi vs out)).alloc grfZero).alloc (.map #[] 0)).alloc (.map #[] 0)) (grfBox vi vs out (w.heap.size + 1 + 1) (w.heap.size + 1 + 1 + 1))
    simpa only [World.size_alloc] using this
  · have := (MapIs.made (K := kStr) (V := vInt) ((w.alloc (rcpBox vi vs out)).alloc grfZero)).later (below_trans B4 B5)
    simpa only [World.size_alloc] using this
  · have := (MapIs.made (K := kStr) (V := vBool) (((w.alloc (rcpBox vi vs out)).alloc grfZero).alloc (.map #[] 0))).later B5
    simpa only [World.size_alloc] using this
theorem box3 {w : World} {k : Nat} {a b c : Value} {t : TypeId} {fr : Nat × Nat} (h : w.heap[k]? = some (.cells #[a, b, c] t fr)) :
    w.cell? ⟨k, 0, none⟩ = some a ∧ w.cell? ⟨k, 1, none⟩ = some b ∧ w.cell? ⟨k, 2, none⟩ = some c := by
  simp only [World.cell?, h]; simp
theorem box4' {w : World} {k : Nat} {a b c d : Value} {t : TypeId} {fr : Nat × Nat} (h : w.heap[k]? = some (.cells #[a, b, c, d] t fr)) :
    w.cell? ⟨k, 0, none⟩ = some a ∧ w.cell? ⟨k, 1, none⟩ = some b ∧ w.cell? ⟨k, 2, none⟩ = some c ∧ w.cell? ⟨k, 3, none⟩ = some d := by
  simp only [World.cell?, h]; simp
theorem InspW.rcells (h : InspW vi vs out w nw ni mw mi W) : W.cell? ⟨w.heap.size, 0, none⟩ = some vi ∧ W.cell? ⟨w.heap.size, 1, none⟩ = some vs ∧ W.cell? ⟨w.heap.size, 2, none⟩ = some (.string out) := box3 h.br
theorem InspW.gcells (h : InspW vi vs out w nw ni mw mi W) : W.cell? ⟨w.heap.size + 1 + 1 + 1 + 1, 0, none⟩ = some vi ∧ W.cell? ⟨w.heap.size + 1 + 1 + 1 + 1, 1, none⟩ = some vs ∧ W.cell? ⟨w.heap.size + 1 + 1 + 1 + 1, 2, none⟩ = some (.string out) ∧
    W.cell? ⟨w.heap.size + 1 + 1 + 1 + 1, 3, none⟩ = some (.map (some (w.heap.size + 1 + 1))) ∧ W.cell? ⟨w.heap.size + 1 + 1 + 1 + 1, 4, none⟩ = some (.map (some (w.heap.size + 1 + 1 + 1))) := box5 h.bg
theorem InspW.zcells (h : InspW vi vs out w nw ni mw mi W) : (W.cell? ⟨w.heap.size + 1, 0, none⟩ = some (.slice none 0 0) ∧ W.cell? ⟨w.heap.size + 1, 1, none⟩ = some (.slice none 0 0) ∧ W.cell? ⟨w.heap.size + 1, 2, none⟩ = some (.string ⟨#[]⟩) ∧
    W.cell? ⟨w.heap.size + 1, 3, none⟩ = some (.map none) ∧ W.cell? ⟨w.heap.size + 1, 4, none⟩ = some (.map none)) ∧ (W.frozen? ⟨w.heap.size + 1, 0, none⟩ = false ∧ W.frozen? ⟨w.heap.size + 1, 1, none⟩ = false ∧ W.frozen? ⟨w.heap.size + 1, 2, none⟩ = false ∧ W.frozen? ⟨w.heap.size + 1, 3, none⟩ = false ∧ W.frozen? ⟨w.heap.size + 1, 4, none⟩ = false) := by
  refine ⟨box5 h.bres, ?_⟩
  simp only [World.frozen?, h.bres]; simp
theorem set5 {W : World} {b : Nat} {x0 x1 x2 x3 x4 u0 u1 u2 u3 u4 : Value} {t : TypeId} {fr : Nat × Nat} (h : W.heap[b]? = some (.cells #[x0, x1, x2, x3, x4] t fr)) :
    (((((W.setCell ⟨b, 0, none⟩ u0).setCell ⟨b, 1, none⟩ u1).setCell ⟨b, 2, none⟩ u2).setCell ⟨b, 3, none⟩ u3).setCell ⟨b, 4, none⟩ u4).heap[b]? = some (.cells #[u0, u1, u2, u3, u4] t fr) := by
  simp [World.setCell, Array.getElem?_modify, h]
/-- What inspect comes to. -/
def InspPost (vi vs : Value) (out : ByteArray) (r : Rcp) (w : World) (e : Ending) (w' : World) : Prop :=
  e = .returned (.tuple #[grfV vi vs out (w.heap.size + 1 + 1) (w.heap.size + 1 + 1 + 1), .int .i64 (inspectE r)]) ∧ Below w.heap.size w w' ∧
  (inspectE r = 0 → ∃ nw ni, MapIs kStr vInt w' (w.heap.size + 1 + 1) nw (wMap r.steps) ∧ MapIs kStr vBool w' (w.heap.size + 1 + 1 + 1) ni (iMap r.inputs))
/-- The world behind the stores into the result. -/
abbrev inspEnd (vi vs : Value) (out : ByteArray) (w W : World) : World :=
  ((((W.setCell ⟨w.heap.size + 1, 0, none⟩ vi).setCell ⟨w.heap.size + 1, 1, none⟩ vs).setCell ⟨w.heap.size + 1, 2, none⟩ (.string out)).setCell ⟨w.heap.size + 1, 3, none⟩ (.map (some (w.heap.size + 1 + 1)))).setCell ⟨w.heap.size + 1, 4, none⟩ (.map (some (w.heap.size + 1 + 1 + 1)))
theorem insp_only (vi vs : Value) (out : ByteArray) (w W : World) : Only (w.heap.size + 1) W (inspEnd vi vs out w W) :=
  ((((Only.setCell _).trans (Only.setCell _)).trans (Only.setCell _)).trans (Only.setCell _)).trans (Only.setCell _)
/-- A return of inspect. -/
theorem InspW.ret {r : Rcp} {e : Int} {a : Act} (h : InspW vi vs out w nw ni mw mi W) (h2 : a.tmps[2]?.getD undef = .pointer (some ⟨w.heap.size + 1, 0, none⟩)) (h3 : a.tmps[3]?.getD undef = .int .i64 e) (hd : a.defers = []) (he : inspectE r = e)
    (hm : e = 0 → mw = wMap r.steps ∧ mi = iMap r.inputs) :
    bodyPost Tryz.prog Tryz.f63 (InspPost vi vs out r w) .ret a (inspEnd vi vs out w W) := by
  obtain ⟨c0, c1, c2, c3, c4⟩ := box5 (set5 (u0 := vi) (u1 := vs) (u2 := .string out) (u3 := .map (some (w.heap.size + 1 + 1))) (u4 := .map (some (w.heap.size + 1 + 1 + 1))) h.bres)
  subst he
  refine bodyPost_ret (v := .tuple #[grfV vi vs out (w.heap.size + 1 + 1) (w.heap.size + 1 + 1 + 1), .int .i64 (inspectE r)]) (by simp [results, Tryz.results63, go_sem, h2, h3, c0, c1, c2, c3, c4]) hd ⟨rfl, ?_, fun h0 => ?_⟩
  · exact (insp_only vi vs out w W).below h.below (by omega) h.below.size
  · obtain ⟨rfl, rfl⟩ := hm h0
    exact ⟨nw, ni, h.mw.of_block ((insp_only vi vs out w W).block _ h.mw.lt (by omega)), h.mi.of_block ((insp_only vi vs out w W).block _ h.mi.lt (by omega))⟩
end
end Go.Proofs.YtacgopankhpnbaaGreatDoor
/- Walks of package build: inspect. -/
namespace Go.Proofs.YtacgopankhpnbaaGreatDoor
open Go.RowKit

theorem iMap_snoc {inputs : List Fil} {k : Nat} {f : Fil} (hf : inputs[k]? = some f) (z : ByteArray) [Decidable (z = f.name)] : (if z = f.name then some true else iMap (inputs.take k) z) = iMap (inputs.take (k + 1)) z := by
  obtain ⟨hk, rfl⟩ := List.getElem?_eq_some_iff.1 hf
  unfold iMap isInput
  rw [List.take_succ_eq_append_getElem hk, List.any_append]
  by_cases h : z = inputs[k].name
  · subst h; simp
  · have : decide (inputs[k].name = z) = false := decide_eq_false (fun e => h e.symm)
    rw [if_neg h]; simp only [List.any_cons, List.any_nil, this, Bool.or_false]
theorem wMap_snoc {steps : List Stp} {k : Nat} {s : Stp} (hs : steps[k]? = some s) (hn : writerOf (steps.take k) s.out = none) (z : ByteArray) [Decidable (z = s.out)] : (if z = s.out then some (k : Int) else wMap (steps.take k) z) = wMap (steps.take (k + 1)) z := by
  obtain ⟨hk, rfl⟩ := List.getElem?_eq_some_iff.1 hs
  unfold wMap writerOf at *
  rw [List.take_succ_eq_append_getElem hk, List.findIdx?_append]
  by_cases h : z = steps[k].out
  · subst h
    rw [hn]
    have hl : (steps.take k).length = k := by simp; omega
    simp [List.findIdx?_cons, hl]
  · have : decide (steps[k].out = z) = false := decide_eq_false (fun e => h e.symm)
    rw [if_neg h]
    cases hh : List.findIdx? (fun s => decide (s.out = z)) (steps.take k) <;> simp [List.findIdx?_cons, this]
theorem twiceFrom_at {r : Rcp} {k len : Nat} {s : Stp} (h : k < len) (hs : r.steps[k]? = some s) : twiceFrom r k (len - k) = (knownTo r k s.out || twiceFrom r (k + 1) (len - (k + 1))) := by
  obtain ⟨n, hn⟩ : ∃ n, len - k = n + 1 := ⟨len - k - 1, by omega⟩
  rw [hn, twiceFrom, hs, show len - (k + 1) = n by omega]

set_option maxRecDepth 100000 in
set_option maxHeartbeats 4000000 in
/-- inspect, where the recipe's parts are not valid. -/
theorem inspect_arg (r : Rcp) (L : List (Value × Stp)) (vi vs : Value) (w : World) (hin : Fils w vi r.inputs) (hst : Stps w vs L) (hL : L.map (·.2) = r.steps)
    (hbad : rightFiles r.inputs = false ∨ 60 < L.length ∨ (L.any fun y => !stepRight y.2) = true) :
    Calls Tryz.prog 63 #[rcpV vi vs r.output] w (InspPost vi vs r.output r w) := by
  have HE : Hid (inspectE r = 1) := Lib.hid (by
    unfold inspectE
    rw [if_pos]
    rcases hbad with h | h | h
    · simp [h]
    · rw [← hL]; simp; exact .inl (.inr h)
    · rw [← hL, List.any_map]
      have : (L.any ((fun s => !stepRight s) ∘ fun x => x.snd)) = true := h
      simp only [this, Bool.or_true])
  obtain ⟨ai, ci, hvi, -⟩ := id hin
  obtain ⟨av, cv, hvs⟩ := stps_slice hst
  subst hvi hvs
  have HW := Lib.hid (InspW.first (.slice ai r.inputs.length ci) (.slice av L.length cv) r.output w)
  have HF := Lib.hid (rightFiles_any r.inputs _ _ (hin.later HW.out.below))
  have HC : Hid (∀ W, Below w.heap.size w W → Calls Tryz.prog 90 #[.slice av L.length cv, .func (.func 91) #[] #[]] W fun e w' => e = .returned (.bool (L.any fun y => !stepRight y.2)) ∧ Below W.heap.size W w') :=
    Lib.hid fun W hb => containsFunc_stp _ _ _ L _ W (hst.later hb) enters_inspect1 (fun y hy W' hb' => inspect1_any y W' ((hst.src hy).1.later (below_trans hb hb')) (hst.src hy).2)
  have hmm := @run_makeMap Tryz.prog
  generalize (L.any fun y => !stepRight y.2) = b3 at HC hbad
  generalize rightFiles r.inputs = b1 at HF hbad
  clear hin hst hL
  cases b1 with
  | false =>
    clear hbad HC
    go_enter Tryz.func63, Tryz.ntmps63
    go_wp2_with fail
    refine HF.out.mono ?_
    rintro e w2 ⟨rfl, hb⟩
    replace HW := Lib.hid (HW.out.later hb)
    obtain ⟨g0, g1, g2, g3, g4⟩ := HW.out.gcells
    obtain ⟨⟨z0, z1, z2, z3, z4⟩, f0, f1, f2, f3, f4⟩ := HW.out.zcells
    clear hmm hb
    go_wp2_with fail
    exact HW.out.ret rfl rfl rfl HE.out (fun h => absurd h (by decide))
  | true =>
    by_cases h60 : 60 < L.length
    · clear hbad HC
      go_enter Tryz.func63, Tryz.ntmps63
      go_wp2_with fail
      refine HF.out.mono ?_
      rintro e w2 ⟨rfl, hb⟩
      replace HW := Lib.hid (HW.out.later hb)
      obtain ⟨g0, g1, g2, g3, g4⟩ := HW.out.gcells
      obtain ⟨r0, r1, r2⟩ := HW.out.rcells
      obtain ⟨⟨z0, z1, z2, z3, z4⟩, f0, f1, f2, f3, f4⟩ := HW.out.zcells
      clear hmm hb
      go_wp2_with fail
      exact HW.out.ret rfl rfl rfl HE.out (fun h => absurd h (by decide))
    · obtain rfl : b3 = true := by
        rcases hbad with h | h | h
        · cases h
        · exact absurd h h60
        · exact h
      clear hbad
      go_enter Tryz.func63, Tryz.ntmps63
      go_wp2_with fail
      refine HF.out.mono ?_
      rintro e w2 ⟨rfl, hb⟩
      replace HW := Lib.hid (HW.out.later hb)
      obtain ⟨r0, r1, r2⟩ := HW.out.rcells
      clear hmm hb
      go_wp2_with fail
      refine (HC.out _ HW.out.below).mono ?_
      rintro e w3 ⟨rfl, hb⟩
      replace HW := Lib.hid (HW.out.later hb)
      clear r0 r1 r2
      obtain ⟨g0, g1, g2, g3, g4⟩ := HW.out.gcells
      obtain ⟨⟨z0, z1, z2, z3, z4⟩, f0, f1, f2, f3, f4⟩ := HW.out.zcells
      clear hb
      go_wp2_with fail
      exact HW.out.ret rfl rfl rfl HE.out (fun h => absurd h (by decide))
end Go.Proofs.YtacgopankhpnbaaGreatDoor
