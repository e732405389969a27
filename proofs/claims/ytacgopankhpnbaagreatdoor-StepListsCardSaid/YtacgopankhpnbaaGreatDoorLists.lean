/- The walk of ladinglaw32.StepLists. -/
import Derived.Test.YtacgopankhpnbaaGreatDoorListsA
import Derived.Deep.Cut
namespace Go.Proofs.YtacgopankhpnbaaGreatDoor
open Go.RowKit

set_option maxHeartbeats 4000000 in
set_option maxRecDepth 100000 in
theorem stepLists_any (names : List ByteArray) (order : List Int) (an ao : Option Addr) (bn on cn co : Nat) (w : World) (hG : Glob w) (hn : Strs w (.slice an names.length cn) names) (ho : Ints w (.slice ao order.length co) order) (hwf : WfInts order)
    (han : names ≠ [] → an = some ⟨bn, on, none⟩) (hnl : names.length ≤ 140737488355328) (hol : order.length ≤ 140737488355328) :
    Calls Tryz.prog 6 #[.slice an names.length cn, .slice ao order.length co] w fun e w' => e = .returned (.bool true) ∧ Below w.heap.size w w' := by
  have HG := Lib.hid hG; clear hG
  have HN := Lib.hid hn; clear hn
  have HO := Lib.hid ho; clear ho
  have HW := Lib.hid hwf; clear hwf
  have HA := Lib.hid han; clear han
  obtain ⟨i0, hi, hz0, hz1, hz2⟩ := info_parts filInfo
  by_cases h1 : 8 < names.length
  · go_enter Tryz.func6, Tryz.ntmps6
    go_wp2_with fail
    refine (small_any _ HG.out).mono ?_
    rintro e w1 ⟨rfl, hb⟩
    go_wp2_with fail
    go_ret
    exact ⟨rfl, hb⟩
  by_cases h2 : 20 < order.length
  · go_enter Tryz.func6, Tryz.ntmps6
    go_wp2_with fail
    refine (small_any _ HG.out).mono ?_
    rintro e w1 ⟨rfl, hb⟩
    go_wp2_with fail
    go_ret
    exact ⟨rfl, hb⟩
  go_enter Tryz.func6, Tryz.ntmps6
  go_wp2_with fail
  refine (small_any _ HG.out).mono ?_
  rintro e w1 ⟨rfl, hb⟩
  have HB := Lib.hid hb; clear hb
  go_wp2_with fail
  go_loopw [6, 7] (fun v i wr => ∃ k : Nat, k ≤ names.length ∧ i = .int .i64 k ∧ Hid (ListsRel w w1 names k v wr)) (fun _ i _ => names.length - (intOf i).toNat)
  case atStart => exact ⟨0, Nat.zero_le _, rfl, Lib.hid (ListsRel.first HB.out)⟩
  case round =>
    obtain ⟨k, hk, rfl, HR⟩ := hrel
    rename World => wr
    rename Value => v
    by_cases hlt : k < names.length
    · obtain rfl := HA.out (by intro e; rw [e] at hlt; simp at hlt)
      obtain ⟨x, hx, hxm⟩ := getElem?_of_lt hlt
      have HX := Lib.hid hx; clear hx
      have hc : wr.cell? ⟨bn, on + k, none⟩ = some (.string x) := strs_cell (HN.out.later HR.out.below) HX.out
      have hxs : x.size ≤ 140737488355328 := strs_size HN.out hxm
      clear hxm
      go_wp2_with fail
      refine (find_any (namesFiles (names.take k)) _ x _ HR.out.fils).mono ?_
      have hlen : (namesFiles (names.take k)).length ≤ 8 := by
        have := (filesOf_names (names.take k)).len
        have := List.length_take_le k names
        omega
      cases hf : findFile (namesFiles (names.take k)) x with
      | none =>
        have HFv := Lib.hid (show findV (namesFiles (names.take k)) x = .tuple #[.string ByteArray.empty, .bool false] by unfold findV; rw [hf])
        have HF := Lib.hid hf; clear hf
        rw [HFv.out]
        rintro e w2 ⟨rfl, hb2⟩
        have hc2 := cell_later hb2 hc
        have hsz2 : w1.heap.size ≤ w2.heap.size := Nat.le_trans HR.out.since hb2.size
        have HB2 := Lib.hid hb2
        have HOw := Lib.hid (HR.out.own_later hb2)
        clear hc hb2 HFv
        go_wp2_with (at_builtin; refine wpList_append_own _ rfl _ _ 25 rfl w1.heap.size 40 i0 (.agg #[.string ByteArray.empty, .string ByteArray.empty]) 2 32 Tryz.underlying25 hi hz0 hz1 hz2 rfl (by decide) _ _ _ rfl (HOw.out.alloc _) ⟨w2.heap.size, 0, none⟩ 1 1 [.string x, .string ⟨#[120]⟩] rfl rfl (World.news_of_block (cs := #[.string x, .string ⟨#[120]⟩]) (t := 40) (fr := (0, 0)) (heap_alloc_new w2 _)) (by simp [Value.oneCell']) (by unfold maxLen; omega) (by omega) (by simp; omega) ?_)
        any_goals (go_ret; exact ⟨rfl, below_trans HR.out.below HB2.out⟩)
        · intro v' w3 hown hgrow _
          have HNo := Lib.hid (no_of (x := x) (by assumption))
          have HNew := Lib.hid (HR.out.added HX.out HF.out HB2.out HNo.out HB.out hown hgrow)
          clear hown hgrow
          go_wp2_with fail
          go_roundw
          case rel => exact ⟨k + 1, by omega, by go_num, HNew⟩
          case measure => simp [intOf]; omega
      | some t =>
        have HFv := Lib.hid (show findV (namesFiles (names.take k)) x = .tuple #[.string t, .bool true] by unfold findV; rw [hf])
        have HF := Lib.hid hf; clear hf
        rw [HFv.out]
        rintro e w2 ⟨rfl, hb2⟩
        have hc2 := cell_later hb2 hc
        have HB2 := Lib.hid hb2
        clear hc hb2 HFv
        go_wp2_with fail
        any_goals (go_ret; exact ⟨rfl, below_trans HR.out.below HB2.out⟩)
        · have HNo := Lib.hid (no_of (x := x) (by assumption))
          go_roundw
          case rel => exact ⟨k + 1, by omega, by go_num, Lib.hid (HR.out.found HX.out HF.out HB2.out HNo.out)⟩
          case measure => simp [intOf]; omega
    · obtain rfl : k = names.length := by omega
      have HWh := Lib.hid HR.out.whole
      obtain ⟨pl, ql, hv⟩ := fils_slice HWh.out.1
      subst hv
      obtain ⟨n, hn⟩ : ∃ n, (namesFiles names).length = n := ⟨_, rfl⟩
      rw [hn] at HWh
      rw [hn]
      have hn8 : n ≤ 8 := by have := (filesOf_names names).len; omega
      have HNn := Lib.hid hn
      clear HR hn
      have HK0 := Lib.hid (KeptL.first (vl := .slice pl n ql) HG.out HWh.out.2.1 HN.out HO.out HWh.out.1)
      go_wp2_with fail
      refine (stepRight_any (listStp names false) _ _ HK0.out.src (by show toB.size ≤ _; decide)).mono ?_
      cases hr : stepRight (listStp names false) with
      | false =>
        rintro e w2 ⟨rfl, hb2⟩
        have HB2 := Lib.hid hb2; clear hb2
        go_wp2_with fail
        go_ret
        exact ⟨rfl, below_trans HK0.out.below HB2.out⟩
      | true =>
        have HL := Lib.hid (show ListsIn names from ⟨by omega, hr, HWh.out.2.2⟩)
        clear hr HWh
        rintro e w2 ⟨rfl, hb2⟩
        replace HK0 := Lib.hid (HK0.out.later hb2)
        clear hb2
        generalize wr.heap.size = bs at HK0 ⊢
        obtain ⟨b0, b1, b2, b3⟩ := HK0.out.cells
        go_wp2_with fail
        refine (list_call names n order _ _ _ _ HL.out HNn.out HK0.out.glob HK0.out.src HK0.out.fils HK0.out.ord HW.out).mono ?_
        rintro e d1 ⟨hd, p1, q1, x1, k1, y1, r1, rfl, HA1, HE1⟩
        have HB1 := Lib.hid (below_trans hd (below_alloc d1 (usedBox 0 names.length)))
        have HK1 := Lib.hid (HK0.out.later HB1.out)
        replace HA1 := Lib.hid (HA1.out.later (below_alloc d1 (usedBox 0 names.length)))
        have HU := Lib.hid (alloc_self d1 (usedBox 0 names.length))
        have hu1 : d1.heap.size ≠ bs := by have := HK0.out.lt; have := hd.size; omega
        clear b0 b1 b2 b3 hd HK0 HB1
        obtain ⟨b0, b1, b2, b3⟩ := HK1.out.cells
        go_wp2_with fail
        refine (list_call names n [] _ _ _ _ HL.out HNn.out HK1.out.glob HK1.out.src HK1.out.fils (ints_nil _) (by intro x h; cases h)).mono ?_
        rintro e d2 ⟨hd, p2, q2, x2, k2, y2, r2, rfl, HA2, HE2⟩
        have HB2 := Lib.hid (below_trans hd (below_alloc d2 (usedBox 0 names.length)))
        have HK2 := Lib.hid (HK1.out.later HB2.out)
        replace HA1 := Lib.hid (HA1.out.later HB2.out)
        replace HU := Lib.hid (heap_later HB2.out HU.out)
        replace HA2 := Lib.hid (HA2.out.later (below_alloc d2 (usedBox 0 names.length)))
        clear b0 b1 b2 b3 hd HK1 HB2
        obtain ⟨b0, b1, b2, b3⟩ := HK2.out.cells
        go_wp2_with fail
        have HBm := Lib.hid (below_alloc (d2.alloc (usedBox 0 names.length)) (.cells #[.int .i64 (-1)] 3))
        replace HK2 := Lib.hid (HK2.out.later HBm.out)
        replace HA1 := Lib.hid (HA1.out.later HBm.out)
        replace HA2 := Lib.hid (HA2.out.later HBm.out)
        replace HU := Lib.hid (heap_later HBm.out HU.out)
        have HIm := Lib.hid (ints_new1 d2 (usedBox 0 names.length) (-1))
        clear HBm b0 b1 b2 b3
        refine (list_call names n [-1] _ _ _ _ HL.out HNn.out HK2.out.glob HK2.out.src HK2.out.fils HIm.out (by intro x h; rw [List.mem_singleton.1 h]; decide)).mono ?_
        rintro e d3 ⟨hd, p3, q3, x3, k3, y3, r3, rfl, HA3, HE3⟩
        have HB3 := Lib.hid (below_trans hd (below_alloc d3 (usedBox 0 names.length)))
        have HK3 := Lib.hid (HK2.out.later HB3.out)
        replace HA1 := Lib.hid (HA1.out.later HB3.out)
        replace HA2 := Lib.hid (HA2.out.later HB3.out)
        replace HU := Lib.hid (heap_later HB3.out HU.out)
        replace HA3 := Lib.hid (HA3.out.later (below_alloc d3 (usedBox 0 names.length)))
        clear hd HK2 HB3 HIm
        obtain ⟨b0, b1, b2, b3⟩ := HK3.out.cells
        have f3 := HK3.out.free
        go_wp2_with fail
        replace HU := Lib.hid (heap_set_other (b := bs) (i := 3) (v := .bool true) HU.out hu1)
        replace HA1 := Lib.hid (Fils.setBool (x := .bool true) b3 HA1.out)
        replace HA2 := Lib.hid (Fils.setBool (x := .bool true) b3 HA2.out)
        replace HA3 := Lib.hid (Fils.setBool (x := .bool true) b3 HA3.out)
        replace HK3 := Lib.hid (HK3.out.set HG.out)
        clear b0 b1 b2 b3 f3
        refine (list_inOrder names n order _ _ _ _ HL.out HNn.out HK3.out.glob HK3.out.src HK3.out.fils HK3.out.ord HW.out).mono ?_
        rintro e d4 ⟨hd, p4, q4, x4, k4, y4, r4, rfl, HA4, HE4⟩
        have HB4 := Lib.hid (below_trans hd (below_alloc d4 (usedBox 0 0)))
        have HK4 := Lib.hid (HK3.out.later HB4.out)
        replace HA1 := Lib.hid (HA1.out.later HB4.out)
        replace HA2 := Lib.hid (HA2.out.later HB4.out)
        replace HA3 := Lib.hid (HA3.out.later HB4.out)
        replace HU := Lib.hid (heap_later HB4.out HU.out)
        replace HA4 := Lib.hid (HA4.out.later (below_alloc d4 (usedBox 0 0)))
        clear hd HK3 HB4
        go_wp2_with fail
        have HBm := Lib.hid (below_alloc (d4.alloc (usedBox 0 0)) (.cells #[.string ⟨#[116, 111]⟩] 9))
        replace HK4 := Lib.hid (HK4.out.later HBm.out)
        replace HA1 := Lib.hid (HA1.out.later HBm.out)
        replace HA2 := Lib.hid (HA2.out.later HBm.out)
        replace HA3 := Lib.hid (HA3.out.later HBm.out)
        replace HA4 := Lib.hid (HA4.out.later HBm.out)
        replace HU := Lib.hid (heap_later HBm.out HU.out)
        have HSm := Lib.hid (strs_new1 d4 (usedBox 0 0) ⟨#[116, 111]⟩ (by decide))
        clear HBm
        refine (list_resort names n order _ _ r1 _ HL.out HNn.out HK4.out.glob HSm.out HA1.out HE1.out).mono ?_
        rintro e d5 ⟨hd, p5, q5, x5, k5, y5, r5, rfl, HA5, HE5⟩
        have HB5 := Lib.hid (below_trans hd (below_alloc d5 (usedBox 0 0)))
        have HK5 := Lib.hid (HK4.out.later HB5.out)
        replace HA1 := Lib.hid (HA1.out.later HB5.out)
        replace HA2 := Lib.hid (HA2.out.later HB5.out)
        replace HA3 := Lib.hid (HA3.out.later HB5.out)
        replace HA4 := Lib.hid (HA4.out.later HB5.out)
        replace HU := Lib.hid (heap_later HB5.out HU.out)
        replace HA5 := Lib.hid (HA5.out.later (below_alloc d5 (usedBox 0 0)))
        clear hd HK4 HB5 HSm
        obtain ⟨e1, e2, e3⟩ := lists_out HL.out HNn.out HE2.out HE3.out HE4.out HE5.out
        subst e1 e2
        obtain ⟨u0, u1⟩ := box2 HU.out
        clear HE1 HE2 HE3 HE4 HE5
        have harr := arrN names.length (by omega)
        have HL1 := Lib.hid (last_app HA5.out)
        have HL2 := Lib.hid (last_app HA4.out)
        have HL3 := Lib.hid (last_app HA2.out)
        have HL4 := Lib.hid (last_app HA3.out)
        have HE := Lib.hid e3; clear e3
        have HBl := Lib.hid HK5.out.below
        clear HA1 HA2 HA3 HA4 HA5 HU HK5
        go_wp2_with fail
        with_reducible refine HL1.out.mono ?_
        rintro e w' ⟨rfl, rfl⟩
        go_wp2_with fail
        with_reducible refine HL2.out.mono ?_
        rintro e w' ⟨rfl, rfl⟩
        go_wp2_with fail
        with_reducible refine HL3.out.mono ?_
        rintro e w' ⟨rfl, rfl⟩
        go_wp2_with fail
        with_reducible refine HL2.out.mono ?_
        rintro e w' ⟨rfl, rfl⟩
        go_wp2_with fail
        with_reducible refine HL4.out.mono ?_
        rintro e w' ⟨rfl, rfl⟩
        go_wp2_with fail
        with_reducible refine HL2.out.mono ?_
        rintro e w' ⟨rfl, rfl⟩
        go_wp2_with fail
        go_ret
        exact ⟨ret_bool (lists_end HE.out), HBl.out⟩
#print axioms stepLists_any
end Go.Proofs.YtacgopankhpnbaaGreatDoor
