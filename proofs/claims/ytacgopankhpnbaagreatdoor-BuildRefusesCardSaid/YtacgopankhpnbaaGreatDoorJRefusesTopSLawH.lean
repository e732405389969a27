/- Texts of this seat, joined: LawH. -/
import Derived.Test.YtacgopankhpnbaaGreatDoorJRefusesTopG
import Derived.Deep.RegionHeld3
import Derived.Deep.Cut
/- The walk of ladinglaw33.BuildRefuses. -/
namespace Go.Proofs.YtacgopankhpnbaaGreatDoor
open Go.RowKit

abbrev lostB : ByteArray := ⟨#[110, 111, 115, 117, 99, 104, 126, 126, 126, 126]⟩
abbrev lostX : ByteArray := ⟨#[110, 111, 115, 117, 99, 104, 126, 126, 126, 126, 33]⟩
theorem lost_eq : ((((⟨#[110, 111, 32, 115, 117, 99, 104, 32, 102, 105, 108, 101]⟩ : ByteArray).extract 0 2 ++ (⟨#[110, 111, 32, 115, 117, 99, 104, 32, 102, 105, 108, 101]⟩ : ByteArray).extract 3 7) ++ (⟨#[126, 126, 126, 126]⟩ : ByteArray))) = lostB := by kernel_rfl
/-- Is a name neither of the two? -/
def freeN (lost : ByteArray) (x : ByteArray) : Bool := !decide (x = lost) && !decide (x = lost ++ ⟨#[33]⟩)
theorem freeN_eq (lost x : ByteArray) : freeN lost x = (!(x.toList == lost.toList) && !(x.toList == (lost ++ (⟨#[33]⟩ : ByteArray)).toList)) := by
  rw [beq_toList, beq_toList]; rfl
theorem toList_inj {a b : ByteArray} : a.toList = b.toList ↔ a = b := by
  rw [toList_eq, toList_eq]
  exact ⟨bytes_ext, fun h => by rw [h]⟩
theorem box3f {w : World} {k : Nat} {a b c : Value} {t : TypeId} (h : w.heap[k]? = some (.cells #[a, b, c] t)) : w.cell? ⟨k, 0, none⟩ = some a ∧ w.cell? ⟨k, 1, none⟩ = some b ∧ w.cell? ⟨k, 2, none⟩ = some c ∧ w.frozen? ⟨k, 0, none⟩ = false ∧ w.frozen? ⟨k, 1, none⟩ = false ∧ w.frozen? ⟨k, 2, none⟩ = false := by
  refine ⟨?_, ?_, ?_, ?_, ?_, ?_⟩ <;> simp [World.cell?, World.frozen?, h]
theorem grown_cast {w x : World} {r : Option Nat} {g : Nat} (h : w.grownBy x r) (e : r = some g) : w.grownBy x (some g) := e ▸ h
theorem lies_at {v : Value} {g gg n m : Nat} (h : v.ownBlock = some gg ∨ gg = n) (e : n = m) (ev : v.ownBlock = some g := by rfl) : gg = g ∨ gg = m := by
  rcases h with h | h
  · rw [ev] at h; exact .inl (Option.some.inj h).symm
  · exact .inr (h.trans e)
theorem own_cast {x : World} {base : Nat} {e : TypeId} {a : Option Addr} {m c : Nat} {l : List Value} (h : x.ownsRow base e 4 (.slice a (0 + m) c) (0 + m) ([] ++ l)) : x.ownsRow base e 4 (.slice a m c) m l := by
  rw [Nat.zero_add, List.nil_append] at h; exact h
def TrueBelow (w : World) (e : Ending) (w' : World) : Prop := e = .returned (.bool true) ∧ Below w.heap.size w w'

set_option maxRecDepth 100000 in
set_option maxHeartbeats 8000000 in
theorem refuses_any (r : Rcp) (L : List (Value × Stp)) (vi vs vc vo vn : Value) (clock order next : List Int) (kk : Int) (w : World) (h : RcpIn r L vi vs w) (hw : WldIn clock order next vc vo vn w) (hG : Glob w) :
    Calls Tryz.prog 10 #[rcpV vi vs r.output, .agg #[vc, vo, vn], .int .i64 kk] w (TrueBelow w) := by
  have HR := Lib.hid h
  have HW := Lib.hid hw
  have HG := Lib.hid hG
  obtain ⟨⟨a1, c1, rfl⟩, ⟨a2, c2, rfl⟩, ⟨a3, c3, rfl⟩⟩ := hw.slices
  obtain ⟨ai, ci, av, cv, rfl, rfl⟩ := h.slices
  have hlen := h.len
  have HLen := Lib.hid hlen
  clear h hw hG hlen
  have B1 := below_alloc w (rcpBox (.slice ai r.inputs.length ci) (.slice av L.length cv) r.output)
  have B2 := below_alloc (w.alloc (rcpBox (.slice ai r.inputs.length ci) (.slice av L.length cv) r.output)) (wldBox (.slice a1 clock.length c1) (.slice a2 order.length c2) (.slice a3 next.length c3))
  have HB0 := Lib.hid (below_trans B1 B2)
  have HRb := Lib.hid (heap_up B2 (alloc_self w (rcpBox (.slice ai r.inputs.length ci) (.slice av L.length cv) r.output)))
  have HWb := Lib.hid (show ((w.alloc (rcpBox (.slice ai r.inputs.length ci) (.slice av L.length cv) r.output)).alloc (wldBox (.slice a1 clock.length c1) (.slice a2 order.length c2) (.slice a3 next.length c3))).heap[w.heap.size + 1]? = some (wldBox (.slice a1 clock.length c1) (.slice a2 order.length c2) (.slice a3 next.length c3)) by
    have := alloc_self (w.alloc (rcpBox (.slice ai r.inputs.length ci) (.slice av L.length cv) r.output)) (wldBox (.slice a1 clock.length c1) (.slice a2 order.length c2) (.slice a3 next.length c3))
    simpa only [World.size_alloc] using this)
  clear B1 B2
  go_enter Tryz.func10, Tryz.ntmps10
  go_wp2_with fail
  refine (small33_any _ (HG.out.later HB0.out)).mono ?_
  rintro e w1 ⟨rfl, hb⟩
  replace HRb := Lib.hid (heap_up hb HRb.out)
  replace HWb := Lib.hid (heap_up hb HWb.out)
  replace HB0 := Lib.hid (below_trans HB0.out hb)
  clear hb
  obtain ⟨r0, r1, r2⟩ := box3 HRb.out
  go_wp2_with fail
  refine (few_any r L _ _ w1 (HR.out.later HB0.out)).mono ?_
  rintro e w2 ⟨q, rfl, hq, hb⟩
  replace HRb := Lib.hid (heap_up hb HRb.out)
  replace HWb := Lib.hid (heap_up hb HWb.out)
  replace HB0 := Lib.hid (below_trans HB0.out hb)
  clear hb r0 r1 r2
  cases q with
  | false =>
    clear hq
    go_wp2_with fail
    go_ret
    exact ⟨rfl, HB0.out⟩
  | true =>
    have HFew := Lib.hid (hq rfl)
    clear hq
    obtain ⟨x0, x1, x2⟩ := box3 HWb.out
    go_wp2_with fail
    refine (light_any _ _ _ _ _ _ _ _ _ w2).mono ?_
    rintro e w3 ⟨q, rfl, hb⟩
    replace HRb := Lib.hid (heap_up hb HRb.out)
    replace HWb := Lib.hid (heap_up hb HWb.out)
    replace HB0 := Lib.hid (below_trans HB0.out hb)
    clear hb x0 x1 x2
    cases q with
    | false =>
      go_wp2_with fail
      go_ret
      exact ⟨rfl, HB0.out⟩
    | true =>
      obtain ⟨r0, r1, r2⟩ := box3 HRb.out
      go_wp2_with fail
      refine (right_any r L _ _ w3 (HR.out.later HB0.out)).mono ?_
      rintro e w4 ⟨rfl, hb⟩
      replace HRb := Lib.hid (heap_up hb HRb.out)
      replace HWb := Lib.hid (heap_up hb HWb.out)
      replace HB0 := Lib.hid (below_trans HB0.out hb)
      clear hb r0 r1 r2
      by_cases he : inspectE r = 0
      · have HOk := Lib.hid (inspectE_ok he)
        rw [he]
        obtain ⟨r0, r1, r2⟩ := box3 HRb.out
        have hf1 : (r.inputs.length : Int) ≤ 5 := by have := HFew.out.1; omega
        have hf2 : (L.length : Int) ≤ 8 := by have := HFew.out.2; rw [HLen.out] at this; omega
        clear he
        go_wp2_with fail
        go_region
        go_wp2_with fail
        replace HRb := Lib.hid (show w4.drew.heap[w.heap.size]? = _ from HRb.out)
        replace HWb := Lib.hid (show w4.drew.heap[w.heap.size + 1]? = _ from HWb.out)
        replace HB0 := Lib.hid (HB0.out.drew)
        clear r0 r1 r2
        generalize w4.drew = w5 at HRb HWb HB0 ⊢
        generalize hLo : ((((⟨#[110, 111, 32, 115, 117, 99, 104, 32, 102, 105, 108, 101]⟩ : ByteArray).extract 0 2 ++ (⟨#[110, 111, 32, 115, 117, 99, 104, 32, 102, 105, 108, 101]⟩ : ByteArray).extract 3 7) ++ (⟨#[126, 126, 126, 126]⟩ : ByteArray))) = lost
        have HLo := Lib.hid (hLo.symm.trans lost_eq)
        clear hLo
        have HRi := Lib.hid (HR.out.later HB0.out)
        obtain ⟨r0, r1, r2⟩ := box3 HRb.out
        have hls : lost.size ≤ 100 := by rw [HLo.out]; decide
        go_loop [9, 10] (fun fr i => ∃ (k : Nat) (q : Bool), k ≤ r.inputs.length ∧ i = .int .i64 k ∧ fr = .bool q ∧ Hid (q = (r.inputs.take k).all fun f => freeN lost f.name)) (fun _ i => r.inputs.length - (intOf i).toNat)
        case atStart => exact ⟨0, true, Nat.zero_le _, rfl, rfl, Lib.hid rfl⟩
        case round =>
          obtain ⟨k, q, hk, rfl, rfl, HQ⟩ := hrel
          by_cases hlt : k < r.inputs.length
          · obtain ⟨f, hf, -⟩ := getElem?_of_lt hlt
            have HTk := Lib.hid (show (r.inputs.take (k + 1)).all (fun f => freeN lost f.name) = ((r.inputs.take k).all (fun f => freeN lost f.name) && freeN lost f.name) by rw [List.take_add_one, hf, List.all_append]; simp)
            rcases HRi.out.inp.cases with ⟨e, -⟩ | ⟨b, o, c, e, -, -, -, -, hc⟩
            · rw [e] at hlt; simp at hlt
            obtain ⟨rfl, rfl⟩ : ai = some ⟨b, o, none⟩ ∧ ci = c := by injection e with e1 e2 e3; exact ⟨e1, e3⟩
            obtain ⟨f0, -, -, -⟩ := hc k f hf
            clear hc e hf
            cases q with
            | false =>
              go_wp2_with fail
              go_round
              case rel => exact ⟨k + 1, false, by omega, by go_num, rfl, Lib.hid (by rw [HTk.out, ← HQ.out]; rfl)⟩
              case measure => simp [intOf]; omega
            | true =>
              have HF := Lib.hid (freeN_eq lost f.name)
              cases b1 : (f.name.toList == lost.toList) with
              | true =>
                have HF2 := Lib.hid (show freeN lost f.name = false by rw [HF.out, b1]; rfl)
                go_wp2_with fail
                go_round
                case rel => exact ⟨k + 1, false, by omega, by go_num, by first | rfl | simp [b1], Lib.hid (by rw [HTk.out, HF2.out, Bool.and_false])⟩
                case measure => simp [intOf]; omega
              | false =>
                have HF2 := Lib.hid (show freeN lost f.name = !(f.name.toList == (lost ++ (⟨#[33]⟩ : ByteArray)).toList) by rw [HF.out, b1]; rfl)
                go_wp2_with fail
                go_round
                case rel => exact ⟨k + 1, !(f.name.toList == (lost ++ (⟨#[33]⟩ : ByteArray)).toList), by omega, by go_num, by first | rfl | simp [b1], Lib.hid (by rw [HTk.out, ← HQ.out, HF2.out]; rfl)⟩
                case measure => simp [intOf]; omega
          · obtain rfl : k = r.inputs.length := by omega
            rw [List.take_length] at HQ
            go_wp2_with fail
            go_loop [9, 11] (fun fr i => ∃ (k : Nat) (q2 : Bool), k ≤ L.length ∧ i = .int .i64 k ∧ fr = .bool q2 ∧ Hid (q2 = (q && (L.take k).all fun y => freeN lost y.2.out))) (fun _ i => L.length - (intOf i).toNat)
            case atStart => exact ⟨0, q, Nat.zero_le _, rfl, rfl, Lib.hid (by simp)⟩
            case round =>
              obtain ⟨k, q2, hk, rfl, rfl, HQ2⟩ := hrel
              by_cases hlt : k < L.length
              · obtain ⟨y, hy, -⟩ := getElem?_of_lt hlt
                have HTk := Lib.hid (show (L.take (k + 1)).all (fun y => freeN lost y.2.out) = ((L.take k).all (fun y => freeN lost y.2.out) && freeN lost y.2.out) by rw [List.take_add_one, hy, List.all_append]; simp)
                rcases HRi.out.stp.cases with ⟨e, -⟩ | ⟨b, o, c, e, -, -, -, -, hc⟩
                · rw [e] at hlt; simp at hlt
                obtain ⟨rfl, rfl⟩ : av = some ⟨b, o, none⟩ ∧ cv = c := by injection e with e1 e2 e3; exact ⟨e1, e3⟩
                obtain ⟨-, -, f0, -, -, -⟩ := hc k y hy
                clear hc e hy
                obtain ⟨yv, kind, src, yo, sorted⟩ := y
                simp only at f0 HTk
                cases q2 with
                | false =>
                  go_wp2_with fail
                  go_round
                  case rel => exact ⟨k + 1, false, by omega, by go_num, rfl, Lib.hid (by rw [HTk.out, ← Bool.and_assoc, ← HQ2.out]; rfl)⟩
                  case measure => simp [intOf]; omega
                | true =>
                  have HF := Lib.hid (freeN_eq lost yo)
                  cases b1 : (yo.toList == lost.toList) with
                  | true =>
                    have HF2 := Lib.hid (show freeN lost yo = false by rw [HF.out, b1]; rfl)
                    go_wp2_with fail
                    go_round
                    case rel => exact ⟨k + 1, false, by omega, by go_num, by first | rfl | simp [b1], Lib.hid (by rw [HTk.out, HF2.out, Bool.and_false, Bool.and_false])⟩
                    case measure => simp [intOf]; omega
                  | false =>
                    have HF2 := Lib.hid (show freeN lost yo = !(yo.toList == (lost ++ (⟨#[33]⟩ : ByteArray)).toList) by rw [HF.out, b1]; rfl)
                    go_wp2_with fail
                    go_round
                    case rel => exact ⟨k + 1, !(yo.toList == (lost ++ (⟨#[33]⟩ : ByteArray)).toList), by omega, by go_num, by first | rfl | simp [b1], Lib.hid (by rw [HTk.out, ← Bool.and_assoc, ← HQ2.out, HF2.out]; rfl)⟩
                    case measure => simp [intOf]; omega
              · obtain rfl : k = L.length := by omega
                rw [List.take_length] at HQ2
                cases q2 with
                | false =>
                  go_wp2_with fail
                  go_ret
                  exact ⟨rfl, HB0.out⟩
                | true =>
                  by_cases hk0 : kk < 0
                  · go_wp2_with fail
                    go_ret
                    exact ⟨rfl, HB0.out⟩
                  · by_cases hk1 : (L.length : Int) ≤ kk
                    · go_wp2_with fail
                      go_ret
                      exact ⟨rfl, HB0.out⟩
                    · obtain ⟨k, rfl⟩ : ∃ k : Nat, kk = (k : Int) := ⟨kk.toNat, by omega⟩
                      go_wp2_with fail
                      obtain ⟨y, hy, hym⟩ := getElem?_of_lt (l := L) (k := k) (by omega)
                      rcases HRi.out.stp.cases with ⟨e, -⟩ | ⟨b, o, c, e, -, -, -, -, hc⟩
                      · rw [e] at hy; simp at hy
                      obtain ⟨rfl, rfl⟩ : av = some ⟨b, o, none⟩ ∧ cv = c := by injection e with e1 e2 e3; exact ⟨e1, e3⟩
                      obtain ⟨-, -, s2, -, -, hso⟩ := hc k y hy
                      have HQ' := Lib.hid (show ((r.inputs.all fun f => freeN lost f.name) && L.all fun y => freeN lost y.2.out) = true by rw [← HQ.out]; exact HQ2.out.symm)
                      have HYm := Lib.hid (show ∃ s, s ∈ r.steps ∧ s.out = y.2.out from ⟨y.2, by rw [← HR.out.map]; exact List.mem_map.2 ⟨y, hym, rfl⟩, rfl⟩)
                      have HTo := Lib.hid s2
                      have HSo := Lib.hid hso
                      generalize y.2.out = yo at HTo HSo HYm
                      clear hc e hy hym s2 hso HQ HQ2 r0 r1 r2
                      have B12 := below_alloc w5 (rcpBox (.slice ai r.inputs.length ci) (.slice (some ⟨b, o, none⟩) L.length cv) r.output)
                      have H56 := Lib.hid B12
                      have HT := Lib.hid (alloc_self w5 (rcpBox (.slice ai r.inputs.length ci) (.slice (some ⟨b, o, none⟩) L.length cv) r.output))
                      have hs6 : w5.heap.size < (w5.alloc (rcpBox (.slice ai r.inputs.length ci) (.slice (some ⟨b, o, none⟩) L.length cv) r.output)).heap.size := by simp
                      clear B12
                      generalize w5.alloc (rcpBox (.slice ai r.inputs.length ci) (.slice (some ⟨b, o, none⟩) L.length cv) r.output) = w6 at H56 HT hs6 ⊢
                      have hp12 : w.heap.size + 1 < w5.heap.size := (Array.getElem?_eq_some_iff.1 HWb.out).1
                      have hbo : b < w5.heap.size := cell_lt HTo.out
                      generalize hP : w5.heap.size = p12 at HT hp12 hbo hs6 ⊢
                      have HP := Lib.hid hP.symm
                      clear hP
                      go_cut [142] from 123 (fun b142 wx => Hid (TwS r (copyStep yo yo) (.slice ai r.inputs.length ci) p12 w5 wx))
                      case first =>
                        have HR6 := Lib.hid (HRi.out.later H56.out)
                        have s2 := cell_later H56.out HTo.out
                        obtain ⟨r0, r1, r2⟩ := box3 (heap_up H56.out HRb.out)
                        have HNw := Lib.hid (stps_news HR6.out.stp)
                        have H1c := Lib.hid (stpCells_one HR6.out.stp)
                        have hnl := stpCells_len L
                        generalize hNe : L.flatMap stpCells = news at HNw H1c hnl
                        have HNe := Lib.hid hNe
                        obtain ⟨i0, hi0, hz0, hz1, hz2⟩ := info_parts stpInfo
                        have hbk0 : (0 : Int) ≤ (k : Int) := by omega
                        have hbk1 : (k : Int) < (L.length : Int) := by omega
                        have hLpos : 0 < L.length := by omega
                        have HNl := Lib.hid hnl
                        clear hnl hNe
                        go_region_held3 (fun W => W.cell? ⟨w.heap.size, 1, none⟩ = some (.slice (some ⟨b, o, none⟩) L.length cv) ∧ W.cell? ⟨b, o + k * 4 + 2, none⟩ = some (.string yo))
                          (first | (with_reducible exact ⟨r1, s2⟩) | exact ⟨cell_later (below_alloc _ _) r1, cell_later (below_alloc _ _) s2⟩ | exact ⟨cell_later (below_trans (below_alloc _ _) (below_alloc _ _)) r1, cell_later (below_trans (below_alloc _ _) (below_alloc _ _)) s2⟩ | exact ⟨cell_later (below_trans (below_trans (below_alloc _ _) (below_alloc _ _)) (below_alloc _ _)) r1, cell_later (below_trans (below_trans (below_alloc _ _) (below_alloc _ _)) (below_alloc _ _)) s2⟩ | exact ⟨l1, l2⟩ | exact ⟨cell_later (below_alloc _ _) l1, cell_later (below_alloc _ _) l2⟩ | exact ⟨cell_later (below_trans (below_alloc _ _) (below_alloc _ _)) l1, cell_later (below_trans (below_alloc _ _) (below_alloc _ _)) l2⟩ | exact ⟨m1, m2⟩ | exact ⟨cell_set (by omega) m1, cell_set (by omega) m2⟩ | go_keep)
                          (first | (show (if _ then _ else _); refine step_append_lies (World.drew (w6.alloc (.cells #[] 24))) rfl (.tmp 123) (.tmp 125) 49 rfl w6.heap.size 24 i0 (.agg #[.int .i64 0, .slice none 0 0, .string ByteArray.empty, .bool false]) 4 56 Tryz.underlying49 hi0 hz0 hz1 hz2 rfl (Nat.succ_pos 3) (.slice (some ⟨w6.heap.size, 0, none⟩) 0 0) 0 [] (by rfl) (own_empty (t := 24) (alloc_self _ _) (by omega)) ⟨b, o, none⟩ L.length cv news (by rfl) HNl.out (HNw.out.later (below_alloc _ _).drew) H1c.out hLpos (by unfold maxLen; omega) (by omega) (below_alloc _ _).drew.size _ rfl ?_; go_must (intro gg cap1 x1 hown1 hgrow1 hat1 hlt1); go_must (have hgr := grown_cast (g := w6.heap.size) hgrow1 rfl); go_must (have HB1 : Hid (Below w6.heap.size w6 x1) := Lib.hid (grown_new (below_alloc _ _).drew hgr (by omega))); go_must (have l1 := cell_later HB1.out r1); go_must (have l2 := cell_later HB1.out s2); go_must (have HA1 : Hid (gg = w6.heap.size ∨ gg = w6.heap.size + 1) := Lib.hid (lies_at hat1 (by simp [World.drew]))); have HN1 := HA1; go_must (have HO1 : Hid (x1.ownsRow w6.heap.size 24 4 (.slice (some ⟨gg, 0, none⟩) L.length cap1) L.length news) := Lib.hid (own_cast hown1)); have HL1 := Lib.hid hlt1; have hz1' := HB1.out.size; clear hown1 hgrow1 hgr hat1 hlt1; (try simp only [Nat.zero_add])) | (show (if _ then _ else _); refine step_append_lies (World.drew ((w6.alloc (.cells #[] 24)).alloc (.cells #[.string yo] 9))) rfl (.tmp 123) (.tmp 125) 49 rfl w6.heap.size 24 i0 (.agg #[.int .i64 0, .slice none 0 0, .string ByteArray.empty, .bool false]) 4 56 Tryz.underlying49 hi0 hz0 hz1 hz2 rfl (Nat.succ_pos 3) (.slice (some ⟨w6.heap.size, 0, none⟩) 0 0) 0 [] (by rfl) (own_empty (t := 24) (alloc_up1 (alloc_self _ _)) (by omega)) ⟨b, o, none⟩ L.length cv news (by rfl) HNl.out (HNw.out.later (below_trans (below_alloc _ _) (below_alloc _ _)).drew) H1c.out hLpos (by unfold maxLen; omega) (by omega) (below_trans (below_alloc _ _) (below_alloc _ _)).drew.size _ rfl ?_; go_must (intro gg cap1 x1 hown1 hgrow1 hat1 hlt1); go_must (have hgr := grown_cast (g := w6.heap.size) hgrow1 rfl); go_must (have HB1 : Hid (Below w6.heap.size w6 x1) := Lib.hid (grown_new (below_trans (below_alloc _ _) (below_alloc _ _)).drew hgr (by omega))); go_must (have l1 := cell_later HB1.out r1); go_must (have l2 := cell_later HB1.out s2); go_must (have HA1 : Hid (gg = w6.heap.size ∨ gg = w6.heap.size + 2) := Lib.hid (lies_at hat1 (by simp [World.drew]))); go_must (have HF2 : Hid (x1.heap[w6.heap.size + 1]? = some (.cells #[.string yo] 9)) := Lib.hid ((hgr.block _ (by simp [World.drew]; try omega) (by intro e; injection e with e; omega)).trans (alloc_at1 _ _ _))); have HT2 := HA1; go_must (have HO1 : Hid (x1.ownsRow w6.heap.size 24 4 (.slice (some ⟨gg, 0, none⟩) L.length cap1) L.length news) := Lib.hid (own_cast hown1)); have HL1 := Lib.hid hlt1; have hz1' := HB1.out.size; clear hown1 hgrow1 hgr hat1 hlt1; (try simp only [Nat.zero_add])) | (show (if _ then _ else _); refine step_append_lies (World.drew ((w6.alloc (.cells #[.string yo] 9)).alloc (.cells #[] 24))) rfl (.tmp 123) (.tmp 125) 49 rfl w6.heap.size 24 i0 (.agg #[.int .i64 0, .slice none 0 0, .string ByteArray.empty, .bool false]) 4 56 Tryz.underlying49 hi0 hz0 hz1 hz2 rfl (Nat.succ_pos 3) (.slice (some ⟨w6.heap.size + 1, 0, none⟩) 0 0) 0 [] (by rfl) (own_empty (t := 24) (alloc_at1 _ _ _) (by omega)) ⟨b, o, none⟩ L.length cv news (by rfl) HNl.out (HNw.out.later (below_trans (below_alloc _ _) (below_alloc _ _)).drew) H1c.out hLpos (by unfold maxLen; omega) (by omega) (below_trans (below_alloc _ _) (below_alloc _ _)).drew.size _ rfl ?_; go_must (intro gg cap1 x1 hown1 hgrow1 hat1 hlt1); go_must (have hgr := grown_cast (g := w6.heap.size + 1) hgrow1 rfl); go_must (have HB1 : Hid (Below w6.heap.size w6 x1) := Lib.hid (grown_new (below_trans (below_alloc _ _) (below_alloc _ _)).drew hgr (by omega))); go_must (have l1 := cell_later HB1.out r1); go_must (have l2 := cell_later HB1.out s2); go_must (have HA1 : Hid (gg = w6.heap.size + 1 ∨ gg = w6.heap.size + 2) := Lib.hid (lies_at hat1 (by simp [World.drew]))); go_must (have HF3 : Hid (x1.heap[w6.heap.size]? = some (.cells #[.string yo] 9)) := Lib.hid ((hgr.block _ (by simp [World.drew]; try omega) (by intro e; injection e with e; omega)).trans (alloc_up1 (alloc_self _ _)))); have HT3 := HA1; go_must (have HO1 : Hid (x1.ownsRow w6.heap.size 24 4 (.slice (some ⟨gg, 0, none⟩) L.length cap1) L.length news) := Lib.hid (own_cast hown1)); have HL1 := Lib.hid hlt1; have hz1' := HB1.out.size; clear hown1 hgrow1 hgr hat1 hlt1; (try simp only [Nat.zero_add])) | (show (if _ then _ else _); refine step_append_lies (World.drew (((w6.alloc (.cells #[] 24)).alloc (.cells #[.string yo] 9)).alloc (.cells #[.int .i64 0, .slice (some ⟨w6.heap.size + 1, 0, none⟩) 1 1, .string yo, .bool false] 24))) rfl (.tmp 123) (.tmp 125) 49 rfl w6.heap.size 24 i0 (.agg #[.int .i64 0, .slice none 0 0, .string ByteArray.empty, .bool false]) 4 56 Tryz.underlying49 hi0 hz0 hz1 hz2 rfl (Nat.succ_pos 3) (.slice (some ⟨w6.heap.size, 0, none⟩) 0 0) 0 [] (by rfl) (own_empty (t := 24) (alloc_up1 (alloc_up1 (alloc_self _ _))) (by omega)) ⟨b, o, none⟩ L.length cv news (by rfl) HNl.out (HNw.out.later (below_trans (below_trans (below_alloc _ _) (below_alloc _ _)) (below_alloc _ _)).drew) H1c.out hLpos (by unfold maxLen; omega) (by omega) (below_trans (below_trans (below_alloc _ _) (below_alloc _ _)) (below_alloc _ _)).drew.size _ rfl ?_; go_must (intro gg cap1 x1 hown1 hgrow1 hat1 hlt1); go_must (have hgr := grown_cast (g := w6.heap.size) hgrow1 rfl); go_must (have HB1 : Hid (Below w6.heap.size w6 x1) := Lib.hid (grown_new (below_trans (below_trans (below_alloc _ _) (below_alloc _ _)) (below_alloc _ _)).drew hgr (by omega))); go_must (have l1 := cell_later HB1.out r1); go_must (have l2 := cell_later HB1.out s2); go_must (have HA1 : Hid (gg = w6.heap.size ∨ gg = w6.heap.size + 3) := Lib.hid (lies_at hat1 (by simp [World.drew]))); go_must (have HF4 : Hid (x1.heap[w6.heap.size + 1]? = some (.cells #[.string yo] 9)) := Lib.hid ((hgr.block _ (by simp [World.drew]; try omega) (by intro e; injection e with e; omega)).trans (alloc_up1 (alloc_at1 _ _ _)))); go_must (have HS4 : Hid (x1.heap[w6.heap.size + 1 + 1]? = some (.cells #[.int .i64 0, .slice (some ⟨w6.heap.size + 1, 0, none⟩) 1 1, .string yo, .bool false] 24)) := Lib.hid ((hgr.block _ (by simp [World.drew]; try omega) (by intro e; injection e with e; omega)).trans (alloc_at2 _ _ _ _))); go_must (have HO1 : Hid (x1.ownsRow w6.heap.size 24 4 (.slice (some ⟨gg, 0, none⟩) L.length cap1) L.length news) := Lib.hid (own_cast hown1)); have HL1 := Lib.hid hlt1; have hz1' := HB1.out.size; clear hown1 hgrow1 hgr hat1 hlt1; (try simp only [Nat.zero_add])) | (show (if _ then _ else _); refine step_append_lies (World.drew (((w6.alloc (.cells #[.string yo] 9)).alloc (.cells #[] 24)).alloc (.cells #[.int .i64 0, .slice (some ⟨w6.heap.size, 0, none⟩) 1 1, .string yo, .bool false] 24))) rfl (.tmp 123) (.tmp 125) 49 rfl w6.heap.size 24 i0 (.agg #[.int .i64 0, .slice none 0 0, .string ByteArray.empty, .bool false]) 4 56 Tryz.underlying49 hi0 hz0 hz1 hz2 rfl (Nat.succ_pos 3) (.slice (some ⟨w6.heap.size + 1, 0, none⟩) 0 0) 0 [] (by rfl) (own_empty (t := 24) (alloc_up1 (alloc_at1 _ _ _)) (by omega)) ⟨b, o, none⟩ L.length cv news (by rfl) HNl.out (HNw.out.later (below_trans (below_trans (below_alloc _ _) (below_alloc _ _)) (below_alloc _ _)).drew) H1c.out hLpos (by unfold maxLen; omega) (by omega) (below_trans (below_trans (below_alloc _ _) (below_alloc _ _)) (below_alloc _ _)).drew.size _ rfl ?_; go_must (intro gg cap1 x1 hown1 hgrow1 hat1 hlt1); go_must (have hgr := grown_cast (g := w6.heap.size + 1) hgrow1 rfl); go_must (have HB1 : Hid (Below w6.heap.size w6 x1) := Lib.hid (grown_new (below_trans (below_trans (below_alloc _ _) (below_alloc _ _)) (below_alloc _ _)).drew hgr (by omega))); go_must (have l1 := cell_later HB1.out r1); go_must (have l2 := cell_later HB1.out s2); go_must (have HA1 : Hid (gg = w6.heap.size + 1 ∨ gg = w6.heap.size + 3) := Lib.hid (lies_at hat1 (by simp [World.drew]))); go_must (have HF5 : Hid (x1.heap[w6.heap.size]? = some (.cells #[.string yo] 9)) := Lib.hid ((hgr.block _ (by simp [World.drew]; try omega) (by intro e; injection e with e; omega)).trans (alloc_up1 (alloc_up1 (alloc_self _ _))))); go_must (have HS5 : Hid (x1.heap[w6.heap.size + 1 + 1]? = some (.cells #[.int .i64 0, .slice (some ⟨w6.heap.size, 0, none⟩) 1 1, .string yo, .bool false] 24)) := Lib.hid ((hgr.block _ (by simp [World.drew]; try omega) (by intro e; injection e with e; omega)).trans (alloc_at2 _ _ _ _))); go_must (have HO1 : Hid (x1.ownsRow w6.heap.size 24 4 (.slice (some ⟨gg, 0, none⟩) L.length cap1) L.length news) := Lib.hid (own_cast hown1)); have HL1 := Lib.hid hlt1; have hz1' := HB1.out.size; clear hown1 hgrow1 hgr hat1 hlt1; (try simp only [Nat.zero_add])) | (show (if _ then _ else _); refine step_append_lies (World.drew (((w6.alloc (.cells #[.string yo] 9)).alloc (.cells #[.int .i64 0, .slice (some ⟨w6.heap.size, 0, none⟩) 1 1, .string yo, .bool false] 24)).alloc (.cells #[] 24))) rfl (.tmp 123) (.tmp 125) 49 rfl w6.heap.size 24 i0 (.agg #[.int .i64 0, .slice none 0 0, .string ByteArray.empty, .bool false]) 4 56 Tryz.underlying49 hi0 hz0 hz1 hz2 rfl (Nat.succ_pos 3) (.slice (some ⟨w6.heap.size + 1 + 1, 0, none⟩) 0 0) 0 [] (by rfl) (own_empty (t := 24) (alloc_at2 _ _ _ _) (by omega)) ⟨b, o, none⟩ L.length cv news (by rfl) HNl.out (HNw.out.later (below_trans (below_trans (below_alloc _ _) (below_alloc _ _)) (below_alloc _ _)).drew) H1c.out hLpos (by unfold maxLen; omega) (by omega) (below_trans (below_trans (below_alloc _ _) (below_alloc _ _)) (below_alloc _ _)).drew.size _ rfl ?_; go_must (intro gg cap1 x1 hown1 hgrow1 hat1 hlt1); go_must (have hgr := grown_cast (g := w6.heap.size + 1 + 1) hgrow1 rfl); go_must (have HB1 : Hid (Below w6.heap.size w6 x1) := Lib.hid (grown_new (below_trans (below_trans (below_alloc _ _) (below_alloc _ _)) (below_alloc _ _)).drew hgr (by omega))); go_must (have l1 := cell_later HB1.out r1); go_must (have l2 := cell_later HB1.out s2); go_must (have HA1 : Hid (gg = w6.heap.size + 1 + 1 ∨ gg = w6.heap.size + 3) := Lib.hid (lies_at hat1 (by simp [World.drew]))); go_must (have HF6 : Hid (x1.heap[w6.heap.size]? = some (.cells #[.string yo] 9)) := Lib.hid ((hgr.block _ (by simp [World.drew]; try omega) (by intro e; injection e with e; omega)).trans (alloc_up1 (alloc_up1 (alloc_self _ _))))); go_must (have HS6 : Hid (x1.heap[w6.heap.size + 1]? = some (.cells #[.int .i64 0, .slice (some ⟨w6.heap.size, 0, none⟩) 1 1, .string yo, .bool false] 24)) := Lib.hid ((hgr.block _ (by simp [World.drew]; try omega) (by intro e; injection e with e; omega)).trans (alloc_up1 (alloc_at1 _ _ _)))); go_must (have HO1 : Hid (x1.ownsRow w6.heap.size 24 4 (.slice (some ⟨gg, 0, none⟩) L.length cap1) L.length news) := Lib.hid (own_cast hown1)); have HL1 := Lib.hid hlt1; have hz1' := HB1.out.size; clear hown1 hgrow1 hgr hat1 hlt1; (try simp only [Nat.zero_add])) | (have _g := HN1; show (if _ then _ else _); refine step_append_lies ((x1.alloc (.cells #[.string yo] 9)).alloc (.cells #[.int .i64 0, .slice (some ⟨x1.heap.size, 0, none⟩) 1 1, .string yo, .bool false] 24)) rfl (.tmp 126) (.tmp 141) 49 rfl w6.heap.size 24 i0 (.agg #[.int .i64 0, .slice none 0 0, .string ByteArray.empty, .bool false]) 4 56 Tryz.underlying49 hi0 hz0 hz1 hz2 rfl (Nat.succ_pos 3) (.slice (some ⟨gg, 0, none⟩) L.length cap1) L.length news (by rfl) ((HO1.out.alloc _).alloc _) ⟨x1.heap.size + 1, 0, none⟩ 1 1 [.int .i64 0, .slice (some ⟨x1.heap.size, 0, none⟩) 1 1, .string yo, .bool false] (by rfl) rfl (World.news_of_block (alloc_at1 _ _ _)) (by simp [Value.oneCell']) (Nat.succ_pos 0) (by unfold maxLen; omega) (by omega) (below_trans HB1.out (below_trans (below_alloc _ _) (below_alloc _ _))).size _ rfl ?_; go_must (intro g2 cap2 x2 hown2 hgrow2 hat2 hlt2); go_must (have hgr := grown_cast (g := gg) hgrow2 rfl); go_must (have hgb := (HO1.out.lt gg rfl).1); go_must (have HB2 : Hid (Below w6.heap.size w6 x2) := Lib.hid (grown_new (below_trans HB1.out (below_trans (below_alloc _ _) (below_alloc _ _))) hgr hgb)); go_must (have m1 := cell_later HB2.out r1); go_must (have m2 := cell_later HB2.out s2); go_must (obtain ⟨t0, t1, t2, f0, f1, f2⟩ := box3f (heap_up HB2.out HT.out)); go_must (have hne : gg ≠ x1.heap.size := by have := HL1.out; omega); go_must (have hflt : x1.heap.size < (((x1.alloc (.cells #[.string yo] 9)).alloc (.cells #[.int .i64 0, .slice (some ⟨x1.heap.size, 0, none⟩) 1 1, .string yo, .bool false] 24))).heap.size := by simp only [World.size_alloc]; omega); go_must (have HFin : Hid (∃ f, x2.ownsRow w6.heap.size 24 4 (.slice (some ⟨g2, 0, none⟩) (L.length + 1) cap2) (L.length + 1) (news ++ [.int .i64 0, .slice (some ⟨f, 0, none⟩) 1 1, .string yo, .bool false]) ∧ x2.heap[f]? = some (.cells #[.string yo] 9)) := Lib.hid ⟨x1.heap.size, hown2, (hgr.block (x1.heap.size) hflt (fun e => hne (Option.some.inj e).symm)).trans (alloc_up1 (alloc_self _ _))⟩); clear hown2 hgrow2 hgr hat2 hne hflt) | (have _g := HT2; show (if _ then _ else _); refine step_append_lies (x1.alloc (.cells #[.int .i64 0, .slice (some ⟨w6.heap.size + 1, 0, none⟩) 1 1, .string yo, .bool false] 24)) rfl (.tmp 126) (.tmp 141) 49 rfl w6.heap.size 24 i0 (.agg #[.int .i64 0, .slice none 0 0, .string ByteArray.empty, .bool false]) 4 56 Tryz.underlying49 hi0 hz0 hz1 hz2 rfl (Nat.succ_pos 3) (.slice (some ⟨gg, 0, none⟩) L.length cap1) L.length news (by rfl) (HO1.out.alloc _) ⟨x1.heap.size, 0, none⟩ 1 1 [.int .i64 0, .slice (some ⟨w6.heap.size + 1, 0, none⟩) 1 1, .string yo, .bool false] (by rfl) rfl (World.news_of_block (alloc_self _ _)) (by simp [Value.oneCell']) (Nat.succ_pos 0) (by unfold maxLen; omega) (by omega) (below_trans HB1.out (below_alloc _ _)).size _ rfl ?_; go_must (intro g2 cap2 x2 hown2 hgrow2 hat2 hlt2); go_must (have hgr := grown_cast (g := gg) hgrow2 rfl); go_must (have hgb := (HO1.out.lt gg rfl).1); go_must (have HB2 : Hid (Below w6.heap.size w6 x2) := Lib.hid (grown_new (below_trans HB1.out (below_alloc _ _)) hgr hgb)); go_must (have m1 := cell_later HB2.out r1); go_must (have m2 := cell_later HB2.out s2); go_must (obtain ⟨t0, t1, t2, f0, f1, f2⟩ := box3f (heap_up HB2.out HT.out)); go_must (have hne : gg ≠ w6.heap.size + 1 := by have h1 := HA1.out; have h2 := heap_lt HF2.out; omega); go_must (have hflt : w6.heap.size + 1 < ((x1.alloc (.cells #[.int .i64 0, .slice (some ⟨w6.heap.size + 1, 0, none⟩) 1 1, .string yo, .bool false] 24))).heap.size := by have := heap_lt HF2.out; simp only [World.size_alloc]; omega); go_must (have HFin : Hid (∃ f, x2.ownsRow w6.heap.size 24 4 (.slice (some ⟨g2, 0, none⟩) (L.length + 1) cap2) (L.length + 1) (news ++ [.int .i64 0, .slice (some ⟨f, 0, none⟩) 1 1, .string yo, .bool false]) ∧ x2.heap[f]? = some (.cells #[.string yo] 9)) := Lib.hid ⟨w6.heap.size + 1, hown2, (hgr.block (w6.heap.size + 1) hflt (fun e => hne (Option.some.inj e).symm)).trans (alloc_up1 (HF2.out))⟩); clear hown2 hgrow2 hgr hat2 hne hflt) | (have _g := HT3; show (if _ then _ else _); refine step_append_lies (x1.alloc (.cells #[.int .i64 0, .slice (some ⟨w6.heap.size, 0, none⟩) 1 1, .string yo, .bool false] 24)) rfl (.tmp 126) (.tmp 141) 49 rfl w6.heap.size 24 i0 (.agg #[.int .i64 0, .slice none 0 0, .string ByteArray.empty, .bool false]) 4 56 Tryz.underlying49 hi0 hz0 hz1 hz2 rfl (Nat.succ_pos 3) (.slice (some ⟨gg, 0, none⟩) L.length cap1) L.length news (by rfl) (HO1.out.alloc _) ⟨x1.heap.size, 0, none⟩ 1 1 [.int .i64 0, .slice (some ⟨w6.heap.size, 0, none⟩) 1 1, .string yo, .bool false] (by rfl) rfl (World.news_of_block (alloc_self _ _)) (by simp [Value.oneCell']) (Nat.succ_pos 0) (by unfold maxLen; omega) (by omega) (below_trans HB1.out (below_alloc _ _)).size _ rfl ?_; go_must (intro g2 cap2 x2 hown2 hgrow2 hat2 hlt2); go_must (have hgr := grown_cast (g := gg) hgrow2 rfl); go_must (have hgb := (HO1.out.lt gg rfl).1); go_must (have HB2 : Hid (Below w6.heap.size w6 x2) := Lib.hid (grown_new (below_trans HB1.out (below_alloc _ _)) hgr hgb)); go_must (have m1 := cell_later HB2.out r1); go_must (have m2 := cell_later HB2.out s2); go_must (obtain ⟨t0, t1, t2, f0, f1, f2⟩ := box3f (heap_up HB2.out HT.out)); go_must (have hne : gg ≠ w6.heap.size := by have h1 := HA1.out; have h2 := heap_lt HF3.out; omega); go_must (have hflt : w6.heap.size < ((x1.alloc (.cells #[.int .i64 0, .slice (some ⟨w6.heap.size, 0, none⟩) 1 1, .string yo, .bool false] 24))).heap.size := by have := heap_lt HF3.out; simp only [World.size_alloc]; omega); go_must (have HFin : Hid (∃ f, x2.ownsRow w6.heap.size 24 4 (.slice (some ⟨g2, 0, none⟩) (L.length + 1) cap2) (L.length + 1) (news ++ [.int .i64 0, .slice (some ⟨f, 0, none⟩) 1 1, .string yo, .bool false]) ∧ x2.heap[f]? = some (.cells #[.string yo] 9)) := Lib.hid ⟨w6.heap.size, hown2, (hgr.block (w6.heap.size) hflt (fun e => hne (Option.some.inj e).symm)).trans (alloc_up1 (HF3.out))⟩); clear hown2 hgrow2 hgr hat2 hne hflt) | (have _g := HS4; show (if _ then _ else _); refine step_append_lies x1 rfl (.tmp 126) (.tmp 141) 49 rfl w6.heap.size 24 i0 (.agg #[.int .i64 0, .slice none 0 0, .string ByteArray.empty, .bool false]) 4 56 Tryz.underlying49 hi0 hz0 hz1 hz2 rfl (Nat.succ_pos 3) (.slice (some ⟨gg, 0, none⟩) L.length cap1) L.length news (by rfl) (HO1.out) ⟨w6.heap.size + 1 + 1, 0, none⟩ 1 1 [.int .i64 0, .slice (some ⟨w6.heap.size + 1, 0, none⟩) 1 1, .string yo, .bool false] (by rfl) rfl (World.news_of_block HS4.out) (by simp [Value.oneCell']) (Nat.succ_pos 0) (by unfold maxLen; omega) (by omega) (HB1.out).size _ rfl ?_; go_must (intro g2 cap2 x2 hown2 hgrow2 hat2 hlt2); go_must (have hgr := grown_cast (g := gg) hgrow2 rfl); go_must (have hgb := (HO1.out.lt gg rfl).1); go_must (have HB2 : Hid (Below w6.heap.size w6 x2) := Lib.hid (grown_new (HB1.out) hgr hgb)); go_must (have m1 := cell_later HB2.out r1); go_must (have m2 := cell_later HB2.out s2); go_must (obtain ⟨t0, t1, t2, f0, f1, f2⟩ := box3f (heap_up HB2.out HT.out)); go_must (have hne : gg ≠ w6.heap.size + 1 := by have h1 := HA1.out; have h2 := heap_lt HF4.out; omega); go_must (have hflt : w6.heap.size + 1 < (x1).heap.size := heap_lt HF4.out); go_must (have HFin : Hid (∃ f, x2.ownsRow w6.heap.size 24 4 (.slice (some ⟨g2, 0, none⟩) (L.length + 1) cap2) (L.length + 1) (news ++ [.int .i64 0, .slice (some ⟨f, 0, none⟩) 1 1, .string yo, .bool false]) ∧ x2.heap[f]? = some (.cells #[.string yo] 9)) := Lib.hid ⟨w6.heap.size + 1, hown2, (hgr.block (w6.heap.size + 1) hflt (fun e => hne (Option.some.inj e).symm)).trans (HF4.out)⟩); clear hown2 hgrow2 hgr hat2 hne hflt) | (have _g := HS5; show (if _ then _ else _); refine step_append_lies x1 rfl (.tmp 126) (.tmp 141) 49 rfl w6.heap.size 24 i0 (.agg #[.int .i64 0, .slice none 0 0, .string ByteArray.empty, .bool false]) 4 56 Tryz.underlying49 hi0 hz0 hz1 hz2 rfl (Nat.succ_pos 3) (.slice (some ⟨gg, 0, none⟩) L.length cap1) L.length news (by rfl) (HO1.out) ⟨w6.heap.size + 1 + 1, 0, none⟩ 1 1 [.int .i64 0, .slice (some ⟨w6.heap.size, 0, none⟩) 1 1, .string yo, .bool false] (by rfl) rfl (World.news_of_block HS5.out) (by simp [Value.oneCell']) (Nat.succ_pos 0) (by unfold maxLen; omega) (by omega) (HB1.out).size _ rfl ?_; go_must (intro g2 cap2 x2 hown2 hgrow2 hat2 hlt2); go_must (have hgr := grown_cast (g := gg) hgrow2 rfl); go_must (have hgb := (HO1.out.lt gg rfl).1); go_must (have HB2 : Hid (Below w6.heap.size w6 x2) := Lib.hid (grown_new (HB1.out) hgr hgb)); go_must (have m1 := cell_later HB2.out r1); go_must (have m2 := cell_later HB2.out s2); go_must (obtain ⟨t0, t1, t2, f0, f1, f2⟩ := box3f (heap_up HB2.out HT.out)); go_must (have hne : gg ≠ w6.heap.size := by have h1 := HA1.out; have h2 := heap_lt HF5.out; omega); go_must (have hflt : w6.heap.size < (x1).heap.size := heap_lt HF5.out); go_must (have HFin : Hid (∃ f, x2.ownsRow w6.heap.size 24 4 (.slice (some ⟨g2, 0, none⟩) (L.length + 1) cap2) (L.length + 1) (news ++ [.int .i64 0, .slice (some ⟨f, 0, none⟩) 1 1, .string yo, .bool false]) ∧ x2.heap[f]? = some (.cells #[.string yo] 9)) := Lib.hid ⟨w6.heap.size, hown2, (hgr.block (w6.heap.size) hflt (fun e => hne (Option.some.inj e).symm)).trans (HF5.out)⟩); clear hown2 hgrow2 hgr hat2 hne hflt) | (have _g := HS6; show (if _ then _ else _); refine step_append_lies x1 rfl (.tmp 126) (.tmp 141) 49 rfl w6.heap.size 24 i0 (.agg #[.int .i64 0, .slice none 0 0, .string ByteArray.empty, .bool false]) 4 56 Tryz.underlying49 hi0 hz0 hz1 hz2 rfl (Nat.succ_pos 3) (.slice (some ⟨gg, 0, none⟩) L.length cap1) L.length news (by rfl) (HO1.out) ⟨w6.heap.size + 1, 0, none⟩ 1 1 [.int .i64 0, .slice (some ⟨w6.heap.size, 0, none⟩) 1 1, .string yo, .bool false] (by rfl) rfl (World.news_of_block HS6.out) (by simp [Value.oneCell']) (Nat.succ_pos 0) (by unfold maxLen; omega) (by omega) (HB1.out).size _ rfl ?_; go_must (intro g2 cap2 x2 hown2 hgrow2 hat2 hlt2); go_must (have hgr := grown_cast (g := gg) hgrow2 rfl); go_must (have hgb := (HO1.out.lt gg rfl).1); go_must (have HB2 : Hid (Below w6.heap.size w6 x2) := Lib.hid (grown_new (HB1.out) hgr hgb)); go_must (have m1 := cell_later HB2.out r1); go_must (have m2 := cell_later HB2.out s2); go_must (obtain ⟨t0, t1, t2, f0, f1, f2⟩ := box3f (heap_up HB2.out HT.out)); go_must (have hne : gg ≠ w6.heap.size := by have h1 := HA1.out; have h2 := heap_lt HF6.out; omega); go_must (have hflt : w6.heap.size < (x1).heap.size := heap_lt HF6.out); go_must (have HFin : Hid (∃ f, x2.ownsRow w6.heap.size 24 4 (.slice (some ⟨g2, 0, none⟩) (L.length + 1) cap2) (L.length + 1) (news ++ [.int .i64 0, .slice (some ⟨f, 0, none⟩) 1 1, .string yo, .bool false]) ∧ x2.heap[f]? = some (.cells #[.string yo] 9)) := Lib.hid ⟨w6.heap.size, hown2, (hgr.block (w6.heap.size) hflt (fun e => hne (Option.some.inj e).symm)).trans (HF6.out)⟩); clear hown2 hgrow2 hgr hat2 hne hflt))
                        all_goals
                          go_wp2_with fail
                          go_meet
                          obtain ⟨f, hf1, hf2⟩ := HFin.out
                          rw [← HNe.out] at hf1
                          exact Lib.hid (tw_made HRi.out H56.out HP.out hs6 HT.out HB2.out hf1 hf2 HSo.out HSo.out)
                      case rest =>
                        rename World => wx
                        obtain ⟨⟨ta, tn, tc, LT, hRT, hBT⟩, hbT⟩ := hcut.out
                        have HRT := Lib.hid hRT
                        have HBT := Lib.hid hBT
                        have HbWwx := Lib.hid hbT
                        clear hRT hBT hbT hcut
                        obtain ⟨i0, hi0, hz0, hz1, hz2⟩ := info_parts stpInfo
                        have hLpos : 0 < L.length := by omega
                        have H1c := Lib.hid (stpCells_one HRi.out.stp)
                        have hlo : lost.size ≤ 140737488355328 := by omega
                        have hlx : (lost ++ (⟨#[33]⟩ : ByteArray)).size ≤ 140737488355328 := by rw [ByteArray.size_append]; have : (⟨#[33]⟩ : ByteArray).size = 1 := rfl; omega
                        have HRn := Lib.hid (HRi.out.later HbWwx.out)
                        obtain ⟨r0, r1, r2⟩ := box3 (heap_up HbWwx.out HRb.out)
                        have hltn : w.heap.size + 1 < wx.heap.size := Nat.lt_of_lt_of_le (Array.getElem?_eq_some_iff.1 HWb.out).1 HbWwx.out.size
                        have H5n := Lib.hid (below_alloc wx (rcpBox (.slice ai r.inputs.length ci) (.slice (some ⟨b, o, none⟩) L.length cv) r.output))
                        have HTn := Lib.hid (alloc_self wx (rcpBox (.slice ai r.inputs.length ci) (.slice (some ⟨b, o, none⟩) L.length cv) r.output))
                        have q1 := cell_later H5n.out r1
                        have q2 := cell_later (below_alloc (wx.alloc (rcpBox (.slice ai r.inputs.length ci) (.slice (some ⟨b, o, none⟩) L.length cv) r.output)) (.cells #[] 24)) q1
                        have HNn := Lib.hid (stps_news (HRn.out.later H5n.out).stp)
                        have hzn : wx.heap.size < (wx.alloc (rcpBox (.slice ai r.inputs.length ci) (.slice (some ⟨b, o, none⟩) L.length cv) r.output)).heap.size := by simp
                        go_wp2_with (at_builtin; refine wpList_append_lies _ rfl (.tmp 145) (.tmp 147) 49 rfl (wx.heap.size + 1) 24 i0 (.agg #[.int .i64 0, .slice none 0 0, .string ByteArray.empty, .bool false]) 4 56 Tryz.underlying49 hi0 hz0 hz1 hz2 rfl (by omega) (.slice (some ⟨wx.heap.size + 1, 0, none⟩) 0 0) 0 [] (by rfl) (own_empty (t := 24) (alloc_at1 _ _ _) (by omega)) ⟨b, o, none⟩ L.length cv (L.flatMap stpCells) (by rfl) (stpCells_len L) (HNn.out.later (below_alloc _ _)) H1c.out hLpos (by unfold maxLen; omega) (by omega) (by simp) (wx.heap.size + 1 + 1) (by simp) ?_)
                        intro gn capn xn hown hgrow hat hlt
                        have HOn := Lib.hid hown
                        have HBn : Hid (Below (wx.alloc (rcpBox (.slice ai r.inputs.length ci) (.slice (some ⟨b, o, none⟩) L.length cv) r.output)).heap.size (wx.alloc (rcpBox (.slice ai r.inputs.length ci) (.slice (some ⟨b, o, none⟩) L.length cv) r.output)) xn) := Lib.hid (grown_new (below_alloc _ _) (grown_cast (g := wx.heap.size + 1) hgrow rfl) (by simp))
                        have hln : gn < xn.heap.size := hlt
                        have hsn : wx.heap.size + 1 ≤ xn.heap.size := by have := HBn.out.size; simpa using this
                        clear hown hgrow hat hlt q1 q2
                        go_wp2_with (at_builtin; refine wpList_append_lies _ rfl (.tmp 148) (.tmp 154) 49 rfl (wx.heap.size + 1) 24 i0 (.agg #[.int .i64 0, .slice none 0 0, .string ByteArray.empty, .bool false]) 4 56 Tryz.underlying49 hi0 hz0 hz1 hz2 rfl (by omega) (.slice (some ⟨gn, 0, none⟩) L.length capn) L.length (L.flatMap stpCells) (by first | rfl | simp) ((HOn.out.alloc _).alloc _) ⟨xn.heap.size + 1, 0, none⟩ 1 1 [.int .i64 0, .slice (some ⟨xn.heap.size, 0, none⟩) 1 1, .string (lost ++ ⟨#[33]⟩), .bool false] (by rfl) rfl (World.news_of_block (alloc_at1 _ _ _)) (by simp [Value.oneCell']) (by omega) (by unfold maxLen; omega) (by omega) (by simp; omega) (xn.heap.size + 1 + 1) (by simp) ?_)
                        intro kn dapn yn hown hgrow hat hlt
                        have hgb := (HOn.out.lt gn rfl).1
                        have hgr := grown_cast (g := gn) hgrow rfl
                        have HCn : Hid (Below (wx.alloc (rcpBox (.slice ai r.inputs.length ci) (.slice (some ⟨b, o, none⟩) L.length cv) r.output)).heap.size (wx.alloc (rcpBox (.slice ai r.inputs.length ci) (.slice (some ⟨b, o, none⟩) L.length cv) r.output)) yn) := Lib.hid (grown_new (below_trans HBn.out (below_trans (below_alloc _ _) (below_alloc _ _))) hgr (by simpa using hgb))
                        have HFn : Hid (yn.heap[xn.heap.size]? = some (.cells #[.string lost] 9)) := Lib.hid ((hgr.block xn.heap.size (by simp only [World.size_alloc]; omega) (by intro e; injection e with e; omega)).trans (alloc_up1 (alloc_self _ _)))
                        have HWn := Lib.hid (tw_made (s := lost) (out := (lost ++ ⟨#[33]⟩)) HRn.out H5n.out rfl hzn HTn.out HCn.out (by simpa using hown) HFn.out hlo hlx)
                        obtain ⟨t0, t1, t2, f0, f1, f2⟩ := box3f (heap_up HCn.out HTn.out)
                        clear hown hgrow hat hlt hgb hgr r0 r1 r2
                        go_upto_region 21 with (fail)
                        clear t0 t1 t2 f0 f1 f2 HCn HFn HBn HOn HNn HTn H5n HRn
                        generalize (yn.setCell ⟨wx.heap.size, 1, none⟩ (.slice (some ⟨kn, 0, none⟩) (L.length + 1) dapn)) = wn at HWn ⊢
                        generalize wx.heap.size = p13 at HWn ⊢
                        obtain ⟨⟨na, nn, nc, LN, hRN, hBN⟩, hbN⟩ := HWn.out
                        have HRN := Lib.hid hRN
                        have HBN := Lib.hid hBN
                        have HbN := Lib.hid hbN
                        have HbWwn := Lib.hid (below_trans HbWwx.out hbN)
                        clear hRN hBN hbN HWn
                        have HRm := Lib.hid (HRi.out.later HbWwn.out)
                        obtain ⟨r0, r1, r2⟩ := box3 (heap_up HbWwn.out HRb.out)
                        have hltm : w.heap.size + 1 < wn.heap.size := Nat.lt_of_lt_of_le (Array.getElem?_eq_some_iff.1 HWb.out).1 HbWwn.out.size
                        have H5m := Lib.hid (below_alloc wn (rcpBox (.slice ai r.inputs.length ci) (.slice (some ⟨b, o, none⟩) L.length cv) r.output))
                        have HTm := Lib.hid (alloc_self wn (rcpBox (.slice ai r.inputs.length ci) (.slice (some ⟨b, o, none⟩) L.length cv) r.output))
                        have q1 := cell_later H5m.out r1
                        have q2 := cell_later (below_alloc (wn.alloc (rcpBox (.slice ai r.inputs.length ci) (.slice (some ⟨b, o, none⟩) L.length cv) r.output)) (.cells #[] 24)) q1
                        have HNm := Lib.hid (stps_news (HRm.out.later H5m.out).stp)
                        have hzm : wn.heap.size < (wn.alloc (rcpBox (.slice ai r.inputs.length ci) (.slice (some ⟨b, o, none⟩) L.length cv) r.output)).heap.size := by simp
                        go_wp2_with (at_builtin; refine wpList_append_lies _ rfl (.tmp 158) (.tmp 160) 49 rfl (wn.heap.size + 1) 24 i0 (.agg #[.int .i64 0, .slice none 0 0, .string ByteArray.empty, .bool false]) 4 56 Tryz.underlying49 hi0 hz0 hz1 hz2 rfl (by omega) (.slice (some ⟨wn.heap.size + 1, 0, none⟩) 0 0) 0 [] (by rfl) (own_empty (t := 24) (alloc_at1 _ _ _) (by omega)) ⟨b, o, none⟩ L.length cv (L.flatMap stpCells) (by rfl) (stpCells_len L) (HNm.out.later (below_alloc _ _)) H1c.out hLpos (by unfold maxLen; omega) (by omega) (by simp) (wn.heap.size + 1 + 1) (by simp) ?_)
                        intro gm capm xm hown hgrow hat hlt
                        have HOm := Lib.hid hown
                        have HBm : Hid (Below (wn.alloc (rcpBox (.slice ai r.inputs.length ci) (.slice (some ⟨b, o, none⟩) L.length cv) r.output)).heap.size (wn.alloc (rcpBox (.slice ai r.inputs.length ci) (.slice (some ⟨b, o, none⟩) L.length cv) r.output)) xm) := Lib.hid (grown_new (below_alloc _ _) (grown_cast (g := wn.heap.size + 1) hgrow rfl) (by simp))
                        have hlm : gm < xm.heap.size := hlt
                        have hsm : wn.heap.size + 1 ≤ xm.heap.size := by have := HBm.out.size; simpa using this
                        clear hown hgrow hat hlt q1 q2
                        go_wp2_with (at_builtin; refine wpList_append_lies _ rfl (.tmp 161) (.tmp 166) 49 rfl (wn.heap.size + 1) 24 i0 (.agg #[.int .i64 0, .slice none 0 0, .string ByteArray.empty, .bool false]) 4 56 Tryz.underlying49 hi0 hz0 hz1 hz2 rfl (by omega) (.slice (some ⟨gm, 0, none⟩) L.length capm) L.length (L.flatMap stpCells) (by first | rfl | simp) ((HOm.out.alloc _).alloc _) ⟨xm.heap.size + 1, 0, none⟩ 1 1 [.int .i64 0, .slice (some ⟨xm.heap.size, 0, none⟩) 1 1, .string lost, .bool false] (by rfl) rfl (World.news_of_block (alloc_at1 _ _ _)) (by simp [Value.oneCell']) (by omega) (by unfold maxLen; omega) (by omega) (by simp; omega) (xm.heap.size + 1 + 1) (by simp) ?_)
                        intro km dapm ym hown hgrow hat hlt
                        have hgb := (HOm.out.lt gm rfl).1
                        have hgr := grown_cast (g := gm) hgrow rfl
                        have HCm : Hid (Below (wn.alloc (rcpBox (.slice ai r.inputs.length ci) (.slice (some ⟨b, o, none⟩) L.length cv) r.output)).heap.size (wn.alloc (rcpBox (.slice ai r.inputs.length ci) (.slice (some ⟨b, o, none⟩) L.length cv) r.output)) ym) := Lib.hid (grown_new (below_trans HBm.out (below_trans (below_alloc _ _) (below_alloc _ _))) hgr (by simpa using hgb))
                        have HFm : Hid (ym.heap[xm.heap.size]? = some (.cells #[.string lost] 9)) := Lib.hid ((hgr.block xm.heap.size (by simp only [World.size_alloc]; omega) (by intro e; injection e with e; omega)).trans (alloc_up1 (alloc_self _ _)))
                        have HWm := Lib.hid (tw_made (s := lost) (out := lost) HRm.out H5m.out rfl hzm HTm.out HCm.out (by simpa using hown) HFm.out hlo hlo)
                        obtain ⟨t0, t1, t2, f0, f1, f2⟩ := box3f (heap_up HCm.out HTm.out)
                        clear hown hgrow hat hlt hgb hgr r0 r1 r2
                        go_upto_region 23 with (fail)
                        clear t0 t1 t2 f0 f1 f2 HCm HFm HBm HOm HNm HTm H5m HRm
                        generalize (ym.setCell ⟨wn.heap.size, 1, none⟩ (.slice (some ⟨km, 0, none⟩) (L.length + 1) dapm)) = wm at HWm ⊢
                        generalize wn.heap.size = p14 at HWm ⊢
                        obtain ⟨⟨ma, mn, mc, LM, hRM, hBM⟩, hbM⟩ := HWm.out
                        have HRM := Lib.hid hRM
                        have HBM := Lib.hid hBM
                        have HbWwm := Lib.hid (below_trans HbWwn.out hbM)
                        have HbM := Lib.hid hbM
                        clear hRM hBM hbM HWm
                        obtain ⟨r0, r1, r2⟩ := box3 (heap_up HbWwm.out HRb.out)
                        have hltq : w.heap.size + 1 < wm.heap.size := Nat.lt_of_lt_of_le (Array.getElem?_eq_some_iff.1 HWb.out).1 HbWwm.out.size
                        have HbQ := Lib.hid (below_alloc wm (rcpBox (.slice ai r.inputs.length ci) (.slice (some ⟨b, o, none⟩) L.length cv) lost))
                        have HBQ := Lib.hid (alloc_self wm (rcpBox (.slice ai r.inputs.length ci) (.slice (some ⟨b, o, none⟩) L.length cv) lost))
                        go_upto_region 25 with (fail)
                        clear r0 r1 r2
                        generalize wm.alloc (rcpBox (.slice ai r.inputs.length ci) (.slice (some ⟨b, o, none⟩) L.length cv) lost) = wq at HbQ HBQ ⊢
                        generalize wm.heap.size = p15 at HBQ ⊢
                        -- the four recipes in this world
                        have HbMq := Lib.hid (below_trans HbM.out HbQ.out)
                        have HbNq := Lib.hid (below_trans HbN.out HbMq.out)
                        have HbWq := Lib.hid (below_trans HbWwm.out HbQ.out)
                        have HT2 := Lib.hid (HRT.out.later HbNq.out)
                        have HN2 := Lib.hid (HRN.out.later HbMq.out)
                        have HM2 := Lib.hid (HRM.out.later HbQ.out)
                        have HO2 : Hid (RcpIn { r with output := lost } L (.slice ai r.inputs.length ci) (.slice (some ⟨b, o, none⟩) L.length cv) wq) := Lib.hid (let h := HRi.out.later HbWq.out; ⟨h.inp, h.stp, h.map, hlo⟩)
                        replace HBT := Lib.hid (heap_up HbNq.out HBT.out)
                        replace HBN := Lib.hid (heap_up HbMq.out HBN.out)
                        replace HBM := Lib.hid (heap_up HbQ.out HBM.out)
                        have HWq := Lib.hid ((HW.out.later HB0.out).later HbWq.out)
                        have HWbq := Lib.hid (heap_up HbWq.out HWb.out)
                        have HBq := Lib.hid (below_trans HB0.out HbWq.out)
                        clear HRT HRN HRM HbM HbN HbQ HbMq HbNq HbWq HbWwx HbWwn HbWwm H1c
                        -- what is refused
                        have hfree := HQ'.out
                        rw [Bool.and_eq_true] at hfree
                        have hkn : ∀ x, (∀ z, freeN lost z = true → z ≠ x) → known r x = false := fun x hx => by
                          unfold known
                          rw [Bool.or_eq_false_iff]
                          constructor
                          · cases hwr : writerOf r.steps x with
                            | none => rfl
                            | some i =>
                              exfalso
                              obtain ⟨hi, hp, -⟩ := List.findIdx?_eq_some_iff_getElem.1 hwr
                              have hm : r.steps[i] ∈ L.map (·.2) := by rw [HR.out.map]; exact List.getElem_mem hi
                              obtain ⟨y, hyL, hy2⟩ := List.mem_map.1 hm
                              exact hx _ (List.all_eq_true.1 hfree.2 y hyL) (by rw [hy2]; simpa using hp)
                          · unfold isInput
                            rw [List.any_eq_false]
                            intro f hf
                            have := hx _ (List.all_eq_true.1 hfree.1 f hf)
                            simpa using this
                        have hk1 : known r lost = false := hkn lost (fun z hz e => by subst e; unfold freeN at hz; simp at hz)
                        have hk2 : known r (lost ++ ⟨#[33]⟩) = false := hkn _ (fun z hz e => by subst e; unfold freeN at hz; simp at hz)
                        have hn1 : isName lost = true := by rw [HLo.out]; kernel_rfl
                        have hn2 : isName (lost ++ ⟨#[33]⟩) = true := by rw [HLo.out]; kernel_rfl
                        have hne : lost ++ ⟨#[33]⟩ ≠ lost := fun e => by
                          have := congrArg ByteArray.size e
                          rw [ByteArray.size_append] at this
                          have h1 : (⟨#[33]⟩ : ByteArray).size = 1 := rfl
                          omega
                        have h59 : r.inputs.length + r.steps.length < 60 := by have := HFew.out; omega
                        obtain ⟨sk, hsk, hsy⟩ := HYm.out
                        have E5 := Lib.hid (refuse_twice HOk.out h59 hsk)
                        rw [hsy] at E5
                        have E4 := Lib.hid (refuse_none HOk.out h59 hn1 hn2 hk1 hk2 hne)
                        have E15 := Lib.hid (refuse_round HOk.out h59 hn1 hk1)
                        have E4b := Lib.hid (refuse_output HOk.out hk1)
                        clear hfree hkn hk1 hk2 hn1 hn2 hne h59 hsk hsy
                        have HRun := Lib.hid (run_bad C0 (more r (copyStep lost lost)) LM _ _ _ _ _ clock order next wq HM2.out HWq.out (by rw [E15.out]; decide))
                        rw [show runL C0 (more r (copyStep lost lost)) clock order next = .error 15 by unfold runL; rw [if_pos (by rw [E15.out]; decide), E15.out]] at HRun
                        obtain ⟨m0, m1, m2⟩ := box3 HBM.out
                        obtain ⟨x0, x1, x2⟩ := box3 HWbq.out
                        go_wp2_with fail
                        refine HRun.out.mono ?_
                        rintro e v1 ⟨hb, rfl⟩
                        have HV1 := Lib.hid hb
                        clear hb m0 m1 m2 x0 x1 x2
                        obtain ⟨t0, t1, t2⟩ := box3 (heap_up HV1.out HBT.out)
                        go_wp2_with fail
                        refine (right_any _ LT _ _ v1 (HT2.out.later HV1.out)).mono ?_
                        rw [E5.out]
                        rintro e v2 ⟨rfl, hb⟩
                        have HV2 := Lib.hid (below_trans HV1.out hb)
                        clear hb t0 t1 t2
                        obtain ⟨t0, t1, t2⟩ := box3 (heap_up HV2.out HBN.out)
                        go_wp2_with fail
                        refine (right_any _ LN _ _ v2 (HN2.out.later HV2.out)).mono ?_
                        rw [E4.out]
                        rintro e v3 ⟨rfl, hb⟩
                        have HV3 := Lib.hid (below_trans HV2.out hb)
                        clear hb t0 t1 t2
                        obtain ⟨t0, t1, t2⟩ := box3 (heap_up HV3.out HBM.out)
                        go_wp2_with fail
                        refine (right_any _ LM _ _ v3 (HM2.out.later HV3.out)).mono ?_
                        rw [E15.out]
                        rintro e v4 ⟨rfl, hb⟩
                        have HV4 := Lib.hid (below_trans HV3.out hb)
                        clear hb t0 t1 t2
                        obtain ⟨t0, t1, t2⟩ := box3 (heap_up HV4.out HBQ.out)
                        go_wp2_with fail
                        refine (right_any { r with output := lost } L _ _ v4 (HO2.out.later HV4.out)).mono ?_
                        rw [E4b.out]
                        rintro e v5 ⟨rfl, hb⟩
                        have HV5 := Lib.hid (below_trans HV4.out hb)
                        clear hb t0 t1 t2
                        obtain ⟨t0, t1, t2⟩ := box3 (heap_up HV5.out HBM.out)
                        go_wp2_with fail
                        refine (order_bad _ LM _ _ v5 (HM2.out.later HV5.out) (by rw [E15.out]; decide)).mono ?_
                        rintro e v6 ⟨rfl, hb⟩
                        have HV6 := Lib.hid (below_trans HV5.out hb)
                        clear hb t0 t1 t2
                        obtain ⟨t0, t1, t2⟩ := box3 (heap_up HV6.out HBT.out)
                        go_wp2_with fail
                        refine (slice_bad _ LT _ _ v6 (HT2.out.later HV6.out) (by rw [E5.out]; decide)).mono ?_
                        rintro e v7 ⟨rfl, hb⟩
                        have HV7 := Lib.hid (below_trans HV6.out hb)
                        clear hb t0 t1 t2
                        obtain ⟨t0, t1, t2⟩ := box3 (heap_up HV7.out HBN.out)
                        go_wp2_with fail
                        refine (pure_bad _ LN _ _ v7 (HN2.out.later HV7.out) (by rw [E4.out]; decide)).mono ?_
                        rintro e v8 ⟨rfl, hb⟩
                        have HV8 := Lib.hid (below_trans HV7.out hb)
                        clear hb t0 t1 t2
                        go_wp2_with fail
                        go_ret
                        exact ⟨rfl, below_trans HBq.out HV8.out⟩
      · have h0 : (inspectE r == 0) = false := beq_eq_false_iff_ne.2 he
        have h1 : (inspectE r != 0) = true := by rw [bne_iff_ne]; exact he
        generalize inspectE r = q at h0 h1 ⊢
        clear he
        go_wp2_with fail
        go_ret
        exact ⟨rfl, HB0.out⟩
end Go.Proofs.YtacgopankhpnbaaGreatDoor
