/- Texts of this seat, joined: PureB, BlameK, LawD, LawE, LawF, LawG, Bl35A, Bl35B, Bl35Ex, Bl35C, Bl35D, Bl35Law. -/
import Derived.Test.YtacgopankhpnbaaGreatDoorJFindsTopQ
import Derived.Test.YtacgopankhpnbaaGreatDoorJFindsTopT
import Derived.Test.YtacgopankhpnbaaGreatDoorJFindsTopR
import Derived.Test.YtacgopankhpnbaaGreatDoorJFindsTopP
import Derived.Test.YtacgopankhpnbaaGreatDoorJFindsTopG
import Derived.Deep.RegionHeld3
/- Walks of package build: Pure. -/
namespace Go.Proofs.YtacgopankhpnbaaGreatDoor
open Go.RowKit

/-- Is a step not pure? -/
def impureAt (steps : List Stp) (i : Nat) : Bool := match steps[i]? with
  | some s => !stepPure s
  | none => true
set_option maxRecDepth 100000 in
theorem pure1_any (r : Rcp) (L : List (Value × Stp)) (vi vs : Value) (pr i : Nat) (w : World) (h : RcpIn r L vi vs w) (hb : w.heap[pr]? = some (rcpBox vi vs r.output)) (hi : i < L.length) :
    Calls Tryz.prog 62 #[.int .i64 i, .pointer (some ⟨pr, 0, none⟩)] w fun e w' => e = .returned (.bool (impureAt r.steps i)) ∧ Below w.heap.size w w' := by
  obtain ⟨y, hy, -⟩ := getElem?_of_lt hi
  have hs : r.steps[i]? = some y.2 := by rw [← h.map, List.getElem?_map, hy]; rfl
  have HP := Lib.hid (show impureAt r.steps i = !stepPure y.2 by unfold impureAt; rw [hs])
  rw [HP.out]
  obtain ⟨r0, r1, r2⟩ := box3 hb
  rcases h.stp.cases with ⟨e, -⟩ | ⟨b, o, c, rfl, -, hc1, hc2, -, hc⟩
  · subst e; simp at hi
  obtain ⟨s0, s1, s2, s3, hsrc, hso⟩ := hc i y hy
  have HC := Lib.hid (stepPure_any y.2 y.1 w hsrc hso)
  generalize stepPure y.2 = q at HC ⊢
  obtain ⟨a, cc, hv⟩ := strs_slice hsrc
  obtain ⟨yv, kind, src, out, sorted⟩ := y
  simp only at s0 s1 s2 s3 HC hv
  subst hv
  clear h hb hy hs HP hc hsrc hso
  go_enter Tryz.func62, Tryz.ntmps62
  go_wp2_with fail
  refine HC.out.mono ?_
  rintro e w1 ⟨rfl, hb⟩
  have HB := Lib.hid hb; clear hb
  go_wp2_with fail
  go_ret
  exact ⟨rfl, HB.out⟩
theorem enters_pure1 : ∀ args w, (callFunc 62 args).run Tryz.prog w = .ok (.enter 62 args) w := enters_of Tryz.func62 (by kernel_rfl) rfl
theorem sliceL_lt {r : Rcp} {i : Nat} (h : i ∈ sliceL r) : i < r.steps.length := by
  unfold sliceL at h
  split at h
  · cases h
  · unfold sliceAll at h
    exact List.mem_range.1 (List.mem_filter.1 h).1

set_option maxRecDepth 100000 in
theorem pure_any (r : Rcp) (L : List (Value × Stp)) (vi vs : Value) (w : World) (h : RcpIn r L vi vs w) :
    Calls Tryz.prog 28 #[rcpV vi vs r.output] w fun e w' => e = .returned (.bool (pureL r)) ∧ Below w.heap.size w w' := by
  by_cases he : ¬ inspectE r = 0
  · refine (pure_bad r L vi vs w h he).mono ?_
    rw [show pureL r = false by unfold pureL; rw [decide_eq_false he]; rfl]
    exact fun _ _ h => h
  replace he := Classical.not_not.1 he
  have HR := Lib.hid (right_any r L vi vs _ (h.later (below_alloc w (rcpBox vi vs r.output))))
  have HP := Lib.hid (show pureL r = !(sliceL r).any (impureAt r.steps) by unfold pureL; rw [decide_eq_true he]; rfl)
  rw [HP.out]
  have HRcp := Lib.hid h
  have HSl : Hid (∀ W, Below w.heap.size w W → Calls Tryz.prog 30 #[rcpV vi vs r.output] W (NeedsPost (sliceL r) W)) := Lib.hid fun W hb => slice_any r L vi vs W (HRcp.out.later hb)
  have HCf : Hid (∀ v W, Below w.heap.size w W → W.heap[w.heap.size]? = some (rcpBox vi vs r.output) → Ints W v (natInts (sliceL r)) → Calls Tryz.prog 61 #[v, .func (.func 62) #[] #[.pointer (some ⟨w.heap.size, 0, none⟩)]] W fun e w' => e = .returned (.bool ((sliceL r).any (impureAt r.steps))) ∧ Below W.heap.size W w') :=
    Lib.hid fun v W hb hbx hI => containsFunc_plain 62 #[.pointer (some ⟨w.heap.size, 0, none⟩)] (impureAt r.steps) (sliceL r) v W hI enters_pure1 (fun x hx W' hb' =>
      pure1_any r L vi vs w.heap.size x W' (HRcp.out.later (below_trans hb hb')) (heap_up hb' hbx) (by rw [← HRcp.out.len]; exact sliceL_lt hx))
  have HB0 := Lib.hid (below_alloc w (rcpBox vi vs r.output))
  have HBx := Lib.hid (alloc_self w (rcpBox vi vs r.output))
  obtain ⟨ai, ci, av, cv, rfl, rfl⟩ := h.slices
  rw [he] at HR
  generalize (sliceL r).any (impureAt r.steps) = q at HCf ⊢
  clear h he HP
  go_enter Tryz.func28, Tryz.ntmps28
  go_wp2_with fail
  refine HR.out.mono ?_
  rintro e w2 ⟨rfl, hb⟩
  obtain ⟨r0, r1, r2⟩ := box3 (heap_up hb HBx.out)
  have HB2 := Lib.hid (below_trans HB0.out hb)
  have HBx2 := Lib.hid (heap_up hb HBx.out)
  clear hb HR
  go_wp2_with fail
  refine (HSl.out _ HB2.out).mono ?_
  rintro e w3 ⟨v, rfl, hI, -, hb⟩
  have HC := Lib.hid (HCf.out v w3 (below_trans HB2.out hb) (heap_up hb HBx2.out) hI)
  have HB3 := Lib.hid (below_trans HB2.out hb)
  clear hI hb r0 r1 r2
  go_wp2_with fail
  refine HC.out.mono ?_
  rintro e w4 ⟨rfl, hb⟩
  have HB4 := Lib.hid (below_trans HB3.out hb)
  clear hb
  go_wp2_with fail
  go_ret
  exact ⟨rfl, HB4.out⟩
end Go.Proofs.YtacgopankhpnbaaGreatDoor
/- Walks of package blame: Wrong. -/
namespace Go.Proofs.YtacgopankhpnbaaGreatDoor
open Go.RowKit

theorem readDn_some {steps : List Stp} {st st' : RSt} {d : Dn} (h : readDn steps st d = some st') : ∃ (i : Nat) (s : Stp), d.step = (i : Int) ∧ steps[i]? = some s ∧ d.saw.length = seesN s := by
  unfold readDn at h
  split at h
  · cases h
  rename_i h0
  split at h
  · cases h
  rename_i s hs
  split at h
  · cases h
  rename_i h1
  rw [not_or] at h1
  exact ⟨d.step.toNat, s, by omega, hs, by simpa using h1.2⟩
theorem readAll_each {steps : List Stp} : ∀ {l : List Dn} {st st' : RSt}, readAll steps l st = some st' → ∀ d, d ∈ l → ∃ (i : Nat) (s : Stp), d.step = (i : Int) ∧ steps[i]? = some s ∧ d.saw.length = seesN s
  | [], _, _, _, d, hd => by cases hd
  | x :: l, st, st', h, d, hd => by
    rw [readAll] at h
    split at h
    · cases h
    · rename_i st1 h1
      rcases List.mem_cons.1 hd with rfl | hm
      · exact readDn_some h1
      · exact readAll_each h d hm
theorem readL_each {r : Rcp} {l : List Dn} {st : RSt} (h : readL r l = some st) : ∀ d, d ∈ l → ∃ (i : Nat) (s : Stp), d.step = (i : Int) ∧ r.steps[i]? = some s ∧ d.saw.length = seesN s := by
  unfold readL at h
  split at h
  · cases h
  · exact readAll_each h

/-- Was an element done otherwise than its step says? -/
def isWrong (C : ByteArray → Int × ByteArray) (steps : List Stp) (d : Dn) : Bool := match steps[d.step.toNat]? with
  | none => false
  | some s => stepPure s && (match replayL C s d.saw [] [] with
    | .ok t => decide (t ≠ d.out)
    | .error _ => true)
/-- blame.Wrong. -/
def wrongL (C : ByteArray → Int × ByteArray) (r : Rcp) (l : List Dn) : Option Nat := if (readL r l).isSome then l.findIdx? (isWrong C r.steps) else none
theorem replayL_err {C : ByteArray → Int × ByteArray} {s : Stp} {saw : List ByteArray} {clock order : List Int} {q : Int} (h : replayL C s saw clock order = .error q) : q ≠ 0 := by
  unfold replayL at h
  split at h
  · cases h; decide
  · split at h
    · rename_i e he; cases h; exact doStep_err he
    · cases h
theorem findIdx_from {α : Type} {l : List α} {p : α → Bool} {k : Nat} (h : ∀ x, x ∈ l.take k → p x = false) {x : α} (hx : l[k]? = some x) (hp : p x = true) : l.findIdx? p = some k := findIdx_hit hx hp h

set_option maxRecDepth 100000 in
set_option maxHeartbeats 4000000 in
theorem wrong_any (C : ByteArray → Int × ByteArray) (r : Rcp) (L : List (Value × Stp)) (Ld : List (Value × Dn)) (vi vs vl : Value) (w : World) (h : RcpIn r L vi vs w) (hl : Dns w vl Ld) (hG : Glob w) (hD : ∀ s, s ∈ r.steps → stepPure s = true → DoAll C s) :
    Calls Tryz.prog 48 #[rcpV vi vs r.output, vl] w fun e w' => e = .returned (fiV (wrongL C r (Ld.map (·.2)))) ∧ Below w.heap.size w w' := by
  have HR := Lib.hid h
  have HL := Lib.hid hl
  have HGl := Lib.hid hG
  have HD := Lib.hid hD
  have HLen := Lib.hid h.len
  have HB0 := Lib.hid (below_alloc w (rcpBox vi vs r.output))
  have HRb := Lib.hid (alloc_self w (rcpBox vi vs r.output))
  have HFi := Lib.hid (fits_any r L Ld vi vs vl _ (h.later HB0.out) (hl.later HB0.out))
  obtain ⟨ai, ci, av, cv, rfl, rfl⟩ := h.slices
  obtain ⟨al, cl, rfl⟩ := dns_slice hl
  obtain ⟨r0, r1, r2⟩ := box3 HRb.out
  have HRes := Lib.hid (show wrongL C r (Ld.map (·.2)) = if (readL r (Ld.map (·.2))).isSome then (Ld.map (·.2)).findIdx? (isWrong C r.steps) else none from rfl)
  generalize wrongL C r (Ld.map (·.2)) = res at HRes ⊢
  cases hrd : readL r (Ld.map (·.2)) with
  | none =>
    rw [hrd] at HFi HRes
    obtain rfl : res = none := HRes.out
    clear h hl hG hD hrd
    go_enter Tryz.func48, Tryz.ntmps48
    go_wp2_with fail
    refine HFi.out.mono ?_
    rintro e w1 ⟨rfl, hb⟩
    have HB1 := Lib.hid (below_trans HB0.out hb)
    clear hb r0 r1 r2
    rw [show (none : Option RSt).isSome = false from rfl]
    go_wp2_with fail
    refine bodyPost_ret (v := fiV none) (by simp [fiV, results, Tryz.results48, go_sem]) rfl ?_
    exact ⟨rfl, HB1.out⟩
  | some st =>
    rw [hrd] at HFi HRes
    have HRes2 := Lib.hid (show res = (Ld.map (·.2)).findIdx? (isWrong C r.steps) from HRes.out)
    have HE := Lib.hid (readL_each hrd)
    have HOk := Lib.hid (readL_right hrd)
    clear h hl hG hD hrd HRes
    go_enter Tryz.func48, Tryz.ntmps48
    go_wp2_with fail
    refine HFi.out.mono ?_
    rintro e w1 ⟨rfl, hb⟩
    replace HRb := Lib.hid (heap_up hb HRb.out)
    replace HB0 := Lib.hid (below_trans HB0.out hb)
    clear hb r0 r1 r2 HFi
    rw [show (some st).isSome = true from rfl]
    go_wp2_with fail
    go_loopw [16] (fun kv wr => ∃ k : Nat, k ≤ Ld.length ∧ kv = .int .i64 k ∧ Hid (∀ x, x ∈ (Ld.map (·.2)).take k → isWrong C r.steps x = false) ∧ Hid (Below w1.heap.size w1 wr)) (fun kv _ => Ld.length - (intOf kv).toNat)
    case atStart => exact ⟨0, Nat.zero_le _, rfl, Lib.hid (fun x hx => by simp at hx), Lib.hid (Below.refl _ _)⟩
    case round =>
      obtain ⟨k, hk, rfl, HNo, HBl⟩ := hrel
      rename World => wr
      have HBw := Lib.hid (below_trans HB0.out HBl.out)
      by_cases hlt : k < Ld.length
      · obtain ⟨y, hy, hym⟩ := getElem?_of_lt hlt
        rcases (HL.out.later HBw.out).cases with ⟨e, -⟩ | ⟨bl, ol, c, e, -, hl1, hl2, -, hc⟩
        · rw [e] at hlt; simp at hlt
        obtain ⟨rfl, rfl⟩ : al = some ⟨bl, ol, none⟩ ∧ cl = c := by injection e with e1 e2 e3; exact ⟨e1, e3⟩
        obtain ⟨d0, d1, d2, dstr, doz⟩ := hc k y hy
        have HYk : Hid ((Ld.map (·.2))[k]? = some y.2) := Lib.hid (by rw [List.getElem?_map, hy]; rfl)
        obtain ⟨i, s, hst, hs, hsaw⟩ := HE.out y.2 (List.mem_map.2 ⟨y, hym, rfl⟩)
        obtain ⟨yv, step, saw, out⟩ := y
        simp only at d0 d1 d2 dstr hst hsaw HYk
        subst hst
        obtain ⟨sa, sc, rfl⟩ := strs_slice dstr
        have HW := Lib.hid (show isWrong C r.steps ⟨(i : Int), saw, out⟩ = (stepPure s && (match replayL C s saw [] [] with
          | .ok t => decide (t ≠ out)
          | .error _ => true)) by unfold isWrong; simp only [Int.toNat_natCast, hs])
        obtain ⟨ys, hys, hys2⟩ : ∃ ys, L[i]? = some ys ∧ ys.2 = s := by
          have h1 := hs
          rw [← HR.out.map, List.getElem?_map] at h1
          cases hq : L[i]? with
          | none => rw [hq] at h1; cases h1
          | some ys => rw [hq] at h1; exact ⟨ys, rfl, by simpa using h1⟩
        subst hys2
        have hi : i < L.length := (List.getElem?_eq_some_iff.1 hys).1
        have HBd := Lib.hid (below_trans HBl.out (below_alloc wr (.cells #[.int .i64 i, .slice sa saw.length sc, .string out] 59)))
        have HBd2 := Lib.hid (below_trans HB0.out HBd.out)
        have HDb := Lib.hid (alloc_self wr (.cells #[.int .i64 i, .slice sa saw.length sc, .string out] 59))
        rcases (HR.out.later HBd2.out).stp.cases with ⟨e', -⟩ | ⟨bs, os, c', e', -, -, -, -, hc'⟩
        · rw [e'] at hi; simp at hi
        obtain ⟨rfl, rfl⟩ : av = some ⟨bs, os, none⟩ ∧ cv = c' := by injection e' with e1 e2 e3; exact ⟨e1, e3⟩
        obtain ⟨s0, s1, s2, s3, hsrc, hyo⟩ := hc' i ys hys
        obtain ⟨r0, r1, r2⟩ := box3 (heap_up HBd.out HRb.out)
        have HStr := Lib.hid (dstr.later (below_alloc wr (.cells #[.int .i64 i, .slice sa saw.length sc, .string out] 59)))
        have HS := Lib.hid hs
        have HSm := Lib.hid (List.mem_of_getElem? hs)
        have HPu := Lib.hid (stepPure_any ys.2 ys.1 _ hsrc hyo)
        have HSw := Lib.hid hsaw
        obtain ⟨ysv, kind, src, yo, sorted⟩ := ys
        simp only at s0 s1 s2 s3 HPu HW HS HSm HSw hsrc
        obtain ⟨ya, yc, rfl⟩ := strs_slice hsrc
        have hi0 : (0 : Int) ≤ (i : Int) := by omega
        have hi1 : (i : Int) < (L.length : Int) := by omega
        clear hc hc' e e' hy hym hys hs hsaw hsrc dstr doz
        cases hpu : stepPure ⟨kind, src, yo, sorted⟩ with
        | false =>
          rw [hpu] at HPu HW
          have HNx := Lib.hid (take_no HYk.out (HW.out.trans (Bool.false_and _)) HNo.out)
          clear hpu
          go_wp2_with fail
          refine HPu.out.mono ?_
          rintro e w3 ⟨rfl, hb⟩
          have HB3 := Lib.hid (below_trans HBd.out hb)
          clear hb
          go_wp2_with fail
          go_roundw
          case rel => exact ⟨k + 1, by omega, by go_num, HNx, HB3⟩
          case measure => simp [intOf]; omega
        | true =>
          rw [hpu] at HPu HW
          have HDs := Lib.hid (HD.out _ HSm.out hpu)
          clear hpu
          go_wp2_with fail
          refine HPu.out.mono ?_
          rintro e w3 ⟨rfl, hb⟩
          have HB3 := Lib.hid (below_trans HBd.out hb)
          have HB4 := Lib.hid (below_trans HB0.out HB3.out)
          have HD3 := Lib.hid (heap_up hb HDb.out)
          have HRp := Lib.hid (replay_good C r L _ _ (.slice sa saw.length sc) (.slice none 0 0) (.slice none 0 0) (.slice none 0 0) ⟨kind, src, yo, sorted⟩ i saw out [] [] [] w3 (HR.out.later HB4.out) ⟨ints_zero _, ints_zero _, ints_zero _, fun x hx => (by cases hx), fun x hx => (by cases hx), fun x hx => (by cases hx)⟩ (HGl.out.later HB4.out) HOk.out HS.out (HStr.out.later hb) HSw.out HDs.out)
          clear hb r0 r1 r2 s0 s1 s2 s3
          obtain ⟨r0, r1, r2⟩ := box3 (heap_up HB3.out HRb.out)
          obtain ⟨e0, e1, e2⟩ := box3 HD3.out
          cases hrp : replayL C ⟨kind, src, yo, sorted⟩ saw [] [] with
          | error q =>
            rw [hrp] at HRp HW
            have hq := replayL_err hrp
            have hq0 : (q == 0) = false := beq_eq_false_iff_ne.2 hq
            have hq1 : (q != 0) = true := by rw [bne_iff_ne]; exact hq
            have HEnd := Lib.hid (show res = some k by rw [HRes2.out]; exact findIdx_hit HYk.out (HW.out.trans rfl) HNo.out)
            clear hrp hq
            go_wp2_with fail
            refine HRp.out.mono ?_
            rintro e w5 ⟨hb, rfl⟩
            have HB5 := Lib.hid (below_trans HB4.out hb)
            clear hb r0 r1 r2 e0 e1 e2
            go_wp2_with fail
            refine bodyPost_ret (v := fiV (some k)) (by simp [fiV, results, Tryz.results48, go_sem]) rfl ?_
            exact ⟨by rw [HEnd.out], HB5.out⟩
          | ok t =>
            rw [hrp] at HRp HW
            by_cases hto : t = out
            · have HNx := Lib.hid (take_no HYk.out (HW.out.trans (by simp [hto])) HNo.out)
              subst hto
              clear hrp
              go_wp2_with fail
              refine HRp.out.mono ?_
              rintro e w5 ⟨hb, rfl⟩
              have HB5 := Lib.hid (below_trans HB3.out hb)
              have HD5 := Lib.hid (heap_up hb HD3.out)
              clear hb r0 r1 r2 e0 e1 e2
              obtain ⟨e0, e1, e2⟩ := box3 HD5.out
              go_wp2_with fail
              go_roundw
              case rel => exact ⟨k + 1, by omega, by go_num, HNx, HB5⟩
              case measure => simp [intOf]; omega
            · have HEnd := Lib.hid (show res = some k by rw [HRes2.out]; exact findIdx_hit HYk.out (HW.out.trans (by simp [hto])) HNo.out)
              have hto2 : (t.toList == out.toList) = false := by rw [beq_toList]; exact decide_eq_false hto
              clear hrp
              go_wp2_with fail
              refine HRp.out.mono ?_
              rintro e w5 ⟨hb, rfl⟩
              have HB5 := Lib.hid (below_trans HB4.out hb)
              have HD5 := Lib.hid (heap_up hb HD3.out)
              clear hb r0 r1 r2 e0 e1 e2
              obtain ⟨e0, e1, e2⟩ := box3 HD5.out
              go_wp2_with fail
              refine bodyPost_ret (v := fiV (some k)) (by simp [fiV, results, Tryz.results48, go_sem]) rfl ?_
              exact ⟨by rw [HEnd.out], HB5.out⟩
      · obtain rfl : k = Ld.length := by omega
        have HEnd := Lib.hid (show res = none by rw [HRes2.out]; exact findIdx_miss (by simp) HNo.out)
        go_wp2_with fail
        refine bodyPost_ret (v := fiV none) (by simp [fiV, results, Tryz.results48, go_sem]) rfl ?_
        exact ⟨by rw [HEnd.out], HBw.out⟩
end Go.Proofs.YtacgopankhpnbaaGreatDoor
/- Walks of ladinglaw33: example, few, light; ladingref33.Ints. -/
namespace Go.Proofs.YtacgopankhpnbaaGreatDoor
open Go.RowKit

theorem small_sz (l : List ByteArray) (h : l.all (fun x => decide (x.size ≤ 100)) = true) : ∀ x, x ∈ l → x.size ≤ 140737488355328 := by
  intro x hx
  have := List.all_eq_true.1 h x hx
  simp at this; omega
theorem flatMap_at {α : Type} {k : Nat} (f : α → List Value) : ∀ (l : List α) (i : Nat) (x : α) (j : Nat), (∀ y, y ∈ l → (f y).length = k) → l[i]? = some x → j < k → (l.flatMap f)[i * k + j]? = (f x)[j]?
  | [], i, x, j, _, h, _ => by simp at h
  | a :: l, 0, x, j, hf, h, hj => by
    simp at h; subst h
    rw [List.flatMap_cons, List.getElem?_append_left (by rw [hf a (by simp)]; omega)]; simp
  | a :: l, i + 1, x, j, hf, h, hj => by
    have ha := hf a (by simp)
    rw [List.flatMap_cons, List.getElem?_append_right (by rw [ha, Nat.add_mul]; omega), ha, show (i + 1) * k + j - k = i * k + j by rw [Nat.add_mul]; omega]
    exact flatMap_at f l i x j (fun y hy => hf y (by simp [hy])) (by simpa using h) hj
theorem row_made {α : Type} {k : Nat} {enc : World → α → List Value → Prop} {w : World} {g : Nat} {cs : Array Value} {t : TypeId} {fr : Nat × Nat} (l : List α) (f : α → List Value) (h : w.heap[g]? = some (.cells cs t fr)) (hcs : cs.toList = l.flatMap f)
    (hl : l.length ≤ 140737488355328) (hf : ∀ x, x ∈ l → (f x).length = k ∧ enc w x (f x)) : Row k enc w (.slice (some ⟨g, 0, none⟩) l.length l.length) l := by
  refine ⟨_, l.length, rfl, Nat.le_refl _, by omega, fun _ => ⟨g, 0, rfl, fun i x hx => ⟨f x, (hf x (List.mem_of_getElem? hx)).2, (hf x (List.mem_of_getElem? hx)).1, fun j u hu => ?_⟩⟩⟩
  have hk := (hf x (List.mem_of_getElem? hx)).1
  have hj : j < k := by rw [← hk]; exact (List.getElem?_eq_some_iff.1 hu).1
  have h1 := flatMap_at f l i x j (fun y hy => (hf y hy).1) hx hj
  rw [hu, ← hcs] at h1
  simp only [World.cell?, h]; simpa using h1
abbrev stpCells (y : Value × Stp) : List Value := [.int .i64 y.2.kind, y.1, .string y.2.out, .bool y.2.sorted]
abbrev exL (h : Nat) : List (Value × Stp) := [(.slice (some ⟨h + 1 + 1, 0, none⟩) 2 2, ⟨1, [⟨#[98]⟩, ⟨#[97]⟩], ⟨#[99]⟩, false⟩), (.slice (some ⟨h + 1 + 1 + 1, 0, none⟩) 1 1, ⟨4, [⟨#[99]⟩], ⟨#[100]⟩, false⟩), (.slice (some ⟨h + 1 + 1 + 1 + 1, 0, none⟩) 1 1, ⟨0, [⟨#[97]⟩], ⟨#[101]⟩, false⟩)]
/-- That a recipe is handed back. -/
def RcpPost (r : Rcp) (w : World) (e : Ending) (w' : World) : Prop := ∃ vi vs L, e = .returned (rcpV vi vs r.output) ∧ RcpIn r L vi vs w' ∧ Below w.heap.size w w'
theorem lay6 (w : World) (o0 o1 o2 o3 o4 o5 : Obj) : ((((((w.alloc o0).alloc o1).alloc o2).alloc o3).alloc o4).alloc o5).heap[w.heap.size + 1]? = some o1 ∧ ((((((w.alloc o0).alloc o1).alloc o2).alloc o3).alloc o4).alloc o5).heap[w.heap.size + 1 + 1]? = some o2 ∧
    ((((((w.alloc o0).alloc o1).alloc o2).alloc o3).alloc o4).alloc o5).heap[w.heap.size + 1 + 1 + 1]? = some o3 ∧ ((((((w.alloc o0).alloc o1).alloc o2).alloc o3).alloc o4).alloc o5).heap[w.heap.size + 1 + 1 + 1 + 1]? = some o4 ∧
    ((((((w.alloc o0).alloc o1).alloc o2).alloc o3).alloc o4).alloc o5).heap[w.heap.size + 1 + 1 + 1 + 1 + 1]? = some o5 := by
  have up : ∀ {a : World} {o : Obj} {k : Nat} {x : Obj}, a.heap[k]? = some x → (a.alloc o).heap[k]? = some x := fun h => heap_up (below_alloc _ _) h
  have e1 := alloc_self (w.alloc o0) o1
  have e2 := alloc_self ((w.alloc o0).alloc o1) o2
  have e3 := alloc_self (((w.alloc o0).alloc o1).alloc o2) o3
  have e4 := alloc_self ((((w.alloc o0).alloc o1).alloc o2).alloc o3) o4
  have e5 := alloc_self (((((w.alloc o0).alloc o1).alloc o2).alloc o3).alloc o4) o5
  simp only [World.size_alloc] at e1 e2 e3 e4 e5
  exact ⟨up (up (up (up e1))), up (up (up e2)), up (up e3), up e4, e5⟩
theorem exIn {w : World} {h : Nat} {output : ByteArray} {fr : Nat × Nat} {t1 t2 t3 t4 t5 : TypeId} (hz : output.size ≤ 140737488355328) (h1 : w.heap[h + 1]? = some (.cells #[.string ⟨#[97]⟩, .string ⟨#[120]⟩, .string ⟨#[98]⟩, .string ⟨#[121]⟩] t1 fr)) (h2 : w.heap[h + 1 + 1]? = some (.cells #[.string ⟨#[98]⟩, .string ⟨#[97]⟩] t2 fr))
    (h3 : w.heap[h + 1 + 1 + 1]? = some (.cells #[.string ⟨#[99]⟩] t3 fr)) (h4 : w.heap[h + 1 + 1 + 1 + 1]? = some (.cells #[.string ⟨#[97]⟩] t4 fr))
    (h5 : w.heap[h + 1 + 1 + 1 + 1 + 1]? = some (.cells #[.int .i64 1, .slice (some ⟨h + 1 + 1, 0, none⟩) 2 2, .string ⟨#[99]⟩, .bool false, .int .i64 4, .slice (some ⟨h + 1 + 1 + 1, 0, none⟩) 1 1, .string ⟨#[100]⟩, .bool false, .int .i64 0, .slice (some ⟨h + 1 + 1 + 1 + 1, 0, none⟩) 1 1, .string ⟨#[101]⟩, .bool false] t5 fr)) :
    RcpIn (exR output) (exL h) (.slice (some ⟨h + 1, 0, none⟩) 2 2) (.slice (some ⟨h + 1 + 1 + 1 + 1 + 1, 0, none⟩) 3 3) w := by
  refine ⟨fils_made exInputs h1 rfl (by decide) (fun f hf => by simp [exInputs] at hf; rcases hf with rfl | rfl <;> decide), ?_, rfl, hz⟩
  refine row_made (exL h) stpCells h5 rfl (by show (3 : Nat) ≤ _; decide) (fun y hy => ⟨rfl, rfl, ?_⟩)
  simp only [List.mem_cons, List.not_mem_nil, or_false] at hy
  rcases hy with rfl | rfl | rfl
  · exact ⟨strs_made [⟨#[98]⟩, ⟨#[97]⟩] h2 rfl (by decide) (small_sz _ (by decide)), by show (⟨#[99]⟩ : ByteArray).size ≤ _; decide⟩
  · exact ⟨strs_made [⟨#[99]⟩] h3 rfl (by decide) (small_sz _ (by decide)), by show (⟨#[100]⟩ : ByteArray).size ≤ _; decide⟩
  · exact ⟨strs_made [⟨#[97]⟩] h4 rfl (by decide) (small_sz _ (by decide)), by show (⟨#[101]⟩ : ByteArray).size ≤ _; decide⟩
set_option maxRecDepth 100000 in
theorem example_any (output : ByteArray) (w : World) (hz : output.size ≤ 140737488355328) :
    Calls Tryz.prog 59 #[.string output] w (RcpPost (exR output) w) := by
  go_enter Tryz.func59, Tryz.ntmps59
  go_wp2_with fail
  refine bodyPost_ret (v := rcpV (.slice (some ⟨w.heap.size + 1, 0, none⟩) 2 2) (.slice (some ⟨w.heap.size + 1 + 1 + 1 + 1 + 1, 0, none⟩) 3 3) output) (by simp [results, Tryz.results59, go_sem]) rfl ?_
  obtain ⟨h1, h2, h3, h4, h5⟩ := lay6 w (.cells #[.slice (some ⟨w.heap.size + 1, 0, none⟩) 2 2, .slice (some ⟨w.heap.size + 1 + 1 + 1 + 1 + 1, 0, none⟩) 3 3, .string output] 51) (.cells #[.string ⟨#[97]⟩, .string ⟨#[120]⟩, .string ⟨#[98]⟩, .string ⟨#[121]⟩] 40) (.cells #[.string ⟨#[98]⟩, .string ⟨#[97]⟩] 9) (.cells #[.string ⟨#[99]⟩] 9) (.cells #[.string ⟨#[97]⟩] 9)
    (.cells #[.int .i64 1, .slice (some ⟨w.heap.size + 1 + 1, 0, none⟩) 2 2, .string ⟨#[99]⟩, .bool false, .int .i64 4, .slice (some ⟨w.heap.size + 1 + 1 + 1, 0, none⟩) 1 1, .string ⟨#[100]⟩, .bool false, .int .i64 0, .slice (some ⟨w.heap.size + 1 + 1 + 1 + 1, 0, none⟩) 1 1, .string ⟨#[101]⟩, .bool false] 24)
  exact ⟨_, _, exL w.heap.size, rfl, exIn hz h1 h2 h3 h4 h5, below_trans (below_trans (below_trans (below_trans (below_trans (below_alloc _ _) (below_alloc _ _)) (below_alloc _ _)) (below_alloc _ _)) (below_alloc _ _)) (below_alloc _ _)⟩
end Go.Proofs.YtacgopankhpnbaaGreatDoor
/- Walks of ladinglaw33: few, light; ladingref33.Ints. -/
namespace Go.Proofs.YtacgopankhpnbaaGreatDoor
open Go.RowKit

set_option maxHeartbeats 1000000 in
theorem ints33_any (a b : List Int) (va vb : Value) (w : World) (ha : Ints w va a) (hb : Ints w vb b) :
    Calls Tryz.prog 60 #[va, vb] w fun e w' => e = .returned (.bool (decide (a = b))) ∧ Below w.heap.size w w' := by
  obtain ⟨aa, ca, hva, ha1, ha2, -⟩ := id ha
  obtain ⟨ab, cb, hvb, hb1, hb2, -⟩ := id hb
  subst hva hvb
  have HA := Lib.hid ha; have HB := Lib.hid hb
  clear ha hb
  by_cases hl : a.length = b.length
  · have HL := Lib.hid hl
    rw [← hl] at hb1 HB ⊢
    clear hl
    go_enter Tryz.func60, Tryz.ntmps60
    go_wp2_with fail
    go_loopw [5] (fun i wr => ∃ k : Nat, k ≤ a.length ∧ i = .int .i64 k ∧ Hid (a.take k = b.take k) ∧ Hid (Below w.heap.size w wr)) (fun i _ => a.length - (intOf i).toNat)
    case atStart => exact ⟨0, Nat.zero_le _, rfl, Lib.hid rfl, Lib.hid (Below.refl _ _)⟩
    case round =>
      obtain ⟨k, hk, rfl, HT, HW⟩ := hrel
      rename World => wr
      by_cases hlt : k < a.length
      · obtain ⟨x, hx, -⟩ := getElem?_of_lt hlt
        obtain ⟨y, hy, -⟩ := getElem?_of_lt (show k < b.length by rw [← HL.out]; exact hlt)
        rcases (HA.out.later HW.out).cases with ⟨e, -⟩ | ⟨b1, o1, c1, e, -, -, -, -, hc⟩
        · subst e; simp at hlt
        obtain ⟨rfl, rfl⟩ : aa = some ⟨b1, o1, none⟩ ∧ ca = c1 := by injection e with e1 e2 e3; exact ⟨e1, e3⟩
        have hB := HB.out.later HW.out
        obtain ⟨b2, o2, c2, e2, cy⟩ : ∃ b2 o2 c2, Value.slice ab a.length cb = .slice (some ⟨b2, o2, none⟩) b.length c2 ∧ wr.cell? ⟨b2, o2 + k, none⟩ = some (.int .i64 y) := by
          rcases hB.cases with ⟨e, -⟩ | ⟨b2, o2, c2, e, -, -, -, -, hc2⟩
          · rw [e] at hy; simp at hy
          · exact ⟨b2, o2, c2, e, hc2 k y hy⟩
        obtain rfl : ab = some ⟨b2, o2, none⟩ := by injection e2
        have cx : wr.cell? ⟨b1, o1 + k, none⟩ = some (.int .i64 x) := hc k x hx
        have HX := Lib.hid hx; have HY := Lib.hid hy
        clear hc hB e e2 hx hy
        by_cases he : x = y
        · subst he
          go_wp2_with fail
          go_region
          go_wp2_with fail
          go_roundw
          case rel => exact ⟨k + 1, by omega, by go_num, Lib.hid (by rw [List.take_add_one, List.take_add_one, HT.out, HX.out, HY.out]), Lib.hid HW.out.drew⟩
          case measure => simp [intOf]; omega
        · have hne : (x == y) = false := beq_eq_false_iff_ne.2 he
          have hne2 : (x != y) = true := by rw [bne_iff_ne]; exact he
          have HNe := Lib.hid he
          clear he
          go_wp2_with fail
          go_region
          go_wp2_with fail
          go_ret
          refine ⟨ret_bool ?_, HW.out.drew⟩
          rw [eq_comm, decide_eq_false_iff_not]
          intro h
          have h1 := HX.out; have h2 := HY.out
          rw [h, h2] at h1
          exact HNe.out (Option.some.inj h1).symm
      · go_wp2_with fail
        go_ret
        refine ⟨ret_bool ?_, HW.out⟩
        rw [eq_comm, decide_eq_true_iff]
        have h := HT.out
        rwa [List.take_of_length_le (by omega), List.take_of_length_le (by rw [← HL.out]; omega)] at h
  · have HL := Lib.hid hl
    have hl2 : ¬ (a.length : Int) = (b.length : Int) := by omega
    have hl3 : ((a.length : Int) != (b.length : Int)) = true := by rw [bne_iff_ne]; exact hl2
    clear hl hl2
    go_enter Tryz.func60, Tryz.ntmps60
    go_wp2_with fail
    all_goals
      go_ret
      refine ⟨ret_bool ?_, Below.refl _ _⟩
      rw [eq_comm, decide_eq_false_iff_not]
      intro h
      exact HL.out (by rw [h])
/-- What light comes to. -/
def AnyBool (w : World) (e : Ending) (w' : World) : Prop := ∃ q, e = .returned (.bool q) ∧ Below w.heap.size w w'
set_option maxHeartbeats 1000000 in
theorem light_any (a1 a2 a3 : Option Addr) (n1 n2 n3 c1 c2 c3 : Nat) (w : World) :
    Calls Tryz.prog 27 #[.agg #[.slice a1 n1 c1, .slice a2 n2 c2, .slice a3 n3 c3]] w (AnyBool w) := by
  by_cases h1 : (n1 : Int) ≤ 40
  · by_cases h2 : (n2 : Int) ≤ 40
    · go_enter Tryz.func27, Tryz.ntmps27
      go_wp2_with fail
      go_ret
      exact ⟨_, rfl, below_alloc _ _⟩
    · go_enter Tryz.func27, Tryz.ntmps27
      go_wp2_with fail
      go_ret
      exact ⟨_, rfl, below_alloc _ _⟩
  · go_enter Tryz.func27, Tryz.ntmps27
    go_wp2_with fail
    go_ret
    exact ⟨_, rfl, below_alloc _ _⟩
end Go.Proofs.YtacgopankhpnbaaGreatDoor
/- Walks of ladinglaw33: few. -/
namespace Go.Proofs.YtacgopankhpnbaaGreatDoor
open Go.RowKit

/-- What few comes to. -/
def FewPost (r : Rcp) (w : World) (e : Ending) (w' : World) : Prop := ∃ q : Bool, e = .returned (.bool q) ∧ (q = true → r.inputs.length ≤ 5 ∧ r.steps.length ≤ 8) ∧ Below w.heap.size w w'
set_option maxRecDepth 100000 in
set_option maxHeartbeats 4000000 in
theorem few_any (r : Rcp) (L : List (Value × Stp)) (vi vs : Value) (w : World) (h : RcpIn r L vi vs w) :
    Calls Tryz.prog 26 #[rcpV vi vs r.output] w (FewPost r w) := by
  have HB := Lib.hid (below_alloc w (rcpBox vi vs r.output))
  have HRcp := Lib.hid (h.later HB.out)
  obtain ⟨r0, r1, r2⟩ := box3 (alloc_self w (rcpBox vi vs r.output))
  obtain ⟨ai, ci, av, cv, rfl, rfl⟩ := h.slices
  have hlen := h.len
  have hin : r.inputs.length ≤ 9223372036854775807 := by obtain ⟨a, c, hv, h1, h2, -⟩ := h.inp; omega
  have hst : L.length ≤ 9223372036854775807 := by obtain ⟨a, c, hv, h1, h2, -⟩ := h.stp; omega
  have HLen := Lib.hid hlen
  clear h hlen
  go_enter Tryz.func26, Tryz.ntmps26
  go_wp2_with fail
  generalize w.alloc (rcpBox (.slice ai r.inputs.length ci) (.slice av L.length cv) r.output) = W at HB HRcp r0 r1 r2 ⊢
  go_loop [3] (fun i => ∃ k : Nat, k ≤ r.inputs.length ∧ i = .int .i64 k) (fun i => r.inputs.length - (intOf i).toNat)
  case atStart => exact ⟨0, Nat.zero_le _, rfl⟩
  case round =>
    obtain ⟨k, hk, rfl⟩ := hrel
    by_cases hlt : k < r.inputs.length ∧ k < 6
    · obtain ⟨hlt, h6⟩ := hlt
      obtain ⟨f, hf, -⟩ := getElem?_of_lt hlt
      rcases HRcp.out.inp.cases with ⟨e, -⟩ | ⟨b, o, c, e, -, -, -, -, hc⟩
      · rw [e] at hlt; simp at hlt
      obtain ⟨rfl, rfl⟩ : ai = some ⟨b, o, none⟩ ∧ ci = c := by injection e with e1 e2 e3; exact ⟨e1, e3⟩
      obtain ⟨f0, f1, -, -⟩ := hc k f hf
      clear hc e hf
      by_cases ht : (300 : Int) < f.text.size
      · first
          | (exfalso; omega)
          | (go_wp2_with fail; go_ret; exact ⟨_, rfl, (fun h => by (cases h)), HB.out⟩)
      · by_cases hn : (60 : Int) < f.name.size
        · first
            | (exfalso; omega)
            | (go_wp2_with fail; go_ret; exact ⟨_, rfl, (fun h => by (cases h)), HB.out⟩)
        · go_wp2_with fail
          go_round
          case rel => exact ⟨k + 1, by omega, by go_num⟩
          case measure => simp [intOf]; omega
    · by_cases h6 : k < r.inputs.length
      · have h7 : ¬ k < 6 := fun h => hlt ⟨h6, h⟩
        clear hlt
        go_wp2_with fail
        go_loop [4] (fun i => ∃ k : Nat, k ≤ L.length ∧ i = .int .i64 k) (fun i => L.length - (intOf i).toNat)
        case atStart => exact ⟨0, Nat.zero_le _, rfl⟩
        case round =>
          obtain ⟨k2, hk2, rfl⟩ := hrel
          by_cases hlt2 : k2 < L.length ∧ k2 < 9
          · obtain ⟨hlt2, h9⟩ := hlt2
            obtain ⟨y, hy, -⟩ := getElem?_of_lt hlt2
            rcases HRcp.out.stp.cases with ⟨e, -⟩ | ⟨b, o, c, e, -, -, -, -, hc⟩
            · rw [e] at hlt2; simp at hlt2
            obtain ⟨rfl, rfl⟩ : av = some ⟨b, o, none⟩ ∧ cv = c := by injection e with e1 e2 e3; exact ⟨e1, e3⟩
            obtain ⟨s0, s1, s2, s3, hsrc, -⟩ := hc k2 y hy
            obtain ⟨sa, sc, hvv⟩ := strs_slice hsrc
            obtain ⟨yv, kind, src, yo, sorted⟩ := y
            simp only at s0 s1 s2 s3 hvv
            subst hvv
            clear hc e hy hsrc
            by_cases ht : (4 : Int) < src.length
            · first
                | (exfalso; omega)
                | (go_wp2_with fail; go_ret; exact ⟨_, rfl, (fun h => by (cases h)), HB.out⟩)
            · by_cases hn : (60 : Int) < yo.size
              · first
                  | (exfalso; omega)
                  | (go_wp2_with fail; go_ret; exact ⟨_, rfl, (fun h => by (cases h)), HB.out⟩)
              · go_wp2_with fail
                go_round
                case rel => exact ⟨k2 + 1, by omega, by go_num⟩
                case measure => simp [intOf]; omega
          · by_cases h10 : k2 < L.length
            · have h11 : ¬ k2 < 9 := fun h => hlt2 ⟨h10, h⟩
              clear hlt2
              by_cases h5 : (r.inputs.length : Int) ≤ 5
              · by_cases h8 : (L.length : Int) ≤ 8
                · by_cases h60 : (r.output.size : Int) ≤ 60
                  · first
                      | (exfalso; omega)
                      | (go_wp2_with fail; go_ret; exact ⟨_, rfl, (fun _ => ⟨by omega, by rw [HLen.out]; omega⟩), HB.out⟩)
                  · first
                      | (exfalso; omega)
                      | (go_wp2_with fail; go_ret; exact ⟨_, rfl, (fun h => by (cases h)), HB.out⟩)
                · first
                    | (exfalso; omega)
                    | (go_wp2_with fail; go_ret; exact ⟨_, rfl, (fun h => by (cases h)), HB.out⟩)
              · first
                  | (exfalso; omega)
                  | (go_wp2_with fail; go_ret; exact ⟨_, rfl, (fun h => by (cases h)), HB.out⟩)
            · clear hlt2
              by_cases h5 : (r.inputs.length : Int) ≤ 5
              · by_cases h8 : (L.length : Int) ≤ 8
                · by_cases h60 : (r.output.size : Int) ≤ 60
                  · first
                      | (exfalso; omega)
                      | (go_wp2_with fail; go_ret; exact ⟨_, rfl, (fun _ => ⟨by omega, by rw [HLen.out]; omega⟩), HB.out⟩)
                  · first
                      | (exfalso; omega)
                      | (go_wp2_with fail; go_ret; exact ⟨_, rfl, (fun h => by (cases h)), HB.out⟩)
                · first
                    | (exfalso; omega)
                    | (go_wp2_with fail; go_ret; exact ⟨_, rfl, (fun h => by (cases h)), HB.out⟩)
              · first
                  | (exfalso; omega)
                  | (go_wp2_with fail; go_ret; exact ⟨_, rfl, (fun h => by (cases h)), HB.out⟩)
      · clear hlt
        go_wp2_with fail
        go_loop [4] (fun i => ∃ k : Nat, k ≤ L.length ∧ i = .int .i64 k) (fun i => L.length - (intOf i).toNat)
        case atStart => exact ⟨0, Nat.zero_le _, rfl⟩
        case round =>
          obtain ⟨k2, hk2, rfl⟩ := hrel
          by_cases hlt2 : k2 < L.length ∧ k2 < 9
          · obtain ⟨hlt2, h9⟩ := hlt2
            obtain ⟨y, hy, -⟩ := getElem?_of_lt hlt2
            rcases HRcp.out.stp.cases with ⟨e, -⟩ | ⟨b, o, c, e, -, -, -, -, hc⟩
            · rw [e] at hlt2; simp at hlt2
            obtain ⟨rfl, rfl⟩ : av = some ⟨b, o, none⟩ ∧ cv = c := by injection e with e1 e2 e3; exact ⟨e1, e3⟩
            obtain ⟨s0, s1, s2, s3, hsrc, -⟩ := hc k2 y hy
            obtain ⟨sa, sc, hvv⟩ := strs_slice hsrc
            obtain ⟨yv, kind, src, yo, sorted⟩ := y
            simp only at s0 s1 s2 s3 hvv
            subst hvv
            clear hc e hy hsrc
            by_cases ht : (4 : Int) < src.length
            · first
                | (exfalso; omega)
                | (go_wp2_with fail; go_ret; exact ⟨_, rfl, (fun h => by (cases h)), HB.out⟩)
            · by_cases hn : (60 : Int) < yo.size
              · first
                  | (exfalso; omega)
                  | (go_wp2_with fail; go_ret; exact ⟨_, rfl, (fun h => by (cases h)), HB.out⟩)
              · go_wp2_with fail
                go_round
                case rel => exact ⟨k2 + 1, by omega, by go_num⟩
                case measure => simp [intOf]; omega
          · by_cases h10 : k2 < L.length
            · have h11 : ¬ k2 < 9 := fun h => hlt2 ⟨h10, h⟩
              clear hlt2
              by_cases h5 : (r.inputs.length : Int) ≤ 5
              · by_cases h8 : (L.length : Int) ≤ 8
                · by_cases h60 : (r.output.size : Int) ≤ 60
                  · first
                      | (exfalso; omega)
                      | (go_wp2_with fail; go_ret; exact ⟨_, rfl, (fun _ => ⟨by omega, by rw [HLen.out]; omega⟩), HB.out⟩)
                  · first
                      | (exfalso; omega)
                      | (go_wp2_with fail; go_ret; exact ⟨_, rfl, (fun h => by (cases h)), HB.out⟩)
                · first
                    | (exfalso; omega)
                    | (go_wp2_with fail; go_ret; exact ⟨_, rfl, (fun h => by (cases h)), HB.out⟩)
              · first
                  | (exfalso; omega)
                  | (go_wp2_with fail; go_ret; exact ⟨_, rfl, (fun h => by (cases h)), HB.out⟩)
            · clear hlt2
              by_cases h5 : (r.inputs.length : Int) ≤ 5
              · by_cases h8 : (L.length : Int) ≤ 8
                · by_cases h60 : (r.output.size : Int) ≤ 60
                  · first
                      | (exfalso; omega)
                      | (go_wp2_with fail; go_ret; exact ⟨_, rfl, (fun _ => ⟨by omega, by rw [HLen.out]; omega⟩), HB.out⟩)
                  · first
                      | (exfalso; omega)
                      | (go_wp2_with fail; go_ret; exact ⟨_, rfl, (fun h => by (cases h)), HB.out⟩)
                · first
                    | (exfalso; omega)
                    | (go_wp2_with fail; go_ret; exact ⟨_, rfl, (fun h => by (cases h)), HB.out⟩)
              · first
                  | (exfalso; omega)
                  | (go_wp2_with fail; go_ret; exact ⟨_, rfl, (fun h => by (cases h)), HB.out⟩)
end Go.Proofs.YtacgopankhpnbaaGreatDoor
/- Walk of ladinglaw33.small. -/
namespace Go.Proofs.YtacgopankhpnbaaGreatDoor
open Go.RowKit

theorem exRight (o : ByteArray) (h : o = ⟨#[100]⟩ ∨ o = ⟨#[99]⟩) : inspectE (exR o) = 0 := by
  rcases h with rfl | rfl <;> kernel_rfl
theorem exDo (o : ByteArray) : ∀ s, s ∈ (exR o).steps → DoAll C0 s := by
  intro s hs
  have : s ∈ exSteps := hs
  simp only [exSteps, List.mem_cons, List.not_mem_nil, or_false] at this
  rcases this with rfl | rfl | rfl <;> exact doAll_plain (by decide)
/-- What Run of the example comes to. -/
def ExRunPost (w : World) (e : Ending) (w' : World) : Prop := ∃ b o c, e = .returned (.tuple #[.slice (some ⟨b, o, none⟩) 3 c, .string ⟨#[121, 120, 55, 59, 10]⟩, .int .i64 0]) ∧ w'.cell? ⟨b, o, none⟩ = some (.int .i64 2) ∧ w'.cell? ⟨b, o + 3, none⟩ = some (.int .i64 0) ∧ w'.cell? ⟨b, o + 6, none⟩ = some (.int .i64 1) ∧ 3 ≤ c ∧ Below w.heap.size w w'
theorem exRun_any (L : List (Value × Stp)) (vi vs vc vo vn : Value) (w : World) (h : RcpIn (exR ⟨#[100]⟩) L vi vs w) (hw : WldIn [7] [] [1] vc vo vn w) (hG : Glob w) :
    Calls Tryz.prog 29 #[rcpV vi vs ⟨#[100]⟩, .agg #[vc, vo, vn]] w (ExRunPost w) := by
  refine (run_good C0 (exR ⟨#[100]⟩) L vi vs vc vo vn [7] [] [1] w h hw hG (exDo _) (exRight _ (.inl rfl))).mono ?_
  rw [exRun]
  rintro e w' ⟨hb, v, M, rfl, hD, hM⟩
  have hl : M.length = 3 := by have := congrArg List.length hM; simpa using this
  rcases hD.cases with ⟨e, -⟩ | ⟨b, o, c, rfl, -, hc1, -, -, hc⟩
  · rw [e] at hl; cases hl
  rw [hl] at hc1 ⊢
  have at_ : ∀ i s, ((M.map (·.2))[i]?).map (·.step) = some s → w'.cell? ⟨b, o + i * 3, none⟩ = some (.int .i64 s) := fun i s hs => by
    rw [List.getElem?_map] at hs
    cases hy : M[i]? with
    | none => rw [hy] at hs; cases hs
    | some y =>
      rw [hy] at hs
      have := (hc i y hy).1
      rw [this]
      simp at hs; rw [hs]
  rw [hM] at at_
  exact ⟨b, o, c, rfl, at_ 0 2 rfl, at_ 1 0 rfl, at_ 2 1 rfl, hc1, hb⟩

set_option maxRecDepth 100000 in
set_option maxHeartbeats 8000000 in
theorem small33_any (w : World) (hG : Glob w) :
    Calls Tryz.prog 25 #[] w fun e w' => e = .returned (.bool true) ∧ Below w.heap.size w w' := by
  have HG := Lib.hid hG; clear hG
  go_enter Tryz.func25, Tryz.ntmps25
  go_wp2_with fail
  refine (example_any ⟨#[100]⟩ _ (by decide)).mono ?_
  rintro e w1 ⟨vi, vs, L, rfl, hr, hb⟩
  obtain ⟨ai, ci, av, cv, rfl, rfl⟩ := hr.slices
  have HB1 := Lib.hid hb
  have HR1 := Lib.hid hr
  clear hb hr
  go_wp2_with fail
  refine (exRun_any L _ _ _ _ _ _ (HR1.out.later (below_trans (below_alloc w1 (.cells #[.int .i64 7] 3)) (below_alloc _ (.cells #[.int .i64 1] 3)))) ⟨(ints_made [7] (alloc_self w1 _) rfl (by decide)).later (below_alloc _ _), ints_nil _, ?_, ?_, ?_, ?_⟩ ?_).mono ?_
  · have := ints_made (w := (w1.alloc (.cells #[.int .i64 7] 3)).alloc (.cells #[.int .i64 1] 3)) (g := w1.heap.size + 1) (cs := #[.int .i64 1]) (t := 3) (fr := (0, 0)) [1] (by have := alloc_self (w1.alloc (.cells #[.int .i64 7] 3)) (.cells #[.int .i64 1] 3); simpa only [World.size_alloc] using this) rfl (by decide)
    exact this
  · intro x hx; simp at hx; subst hx; decide
  · intro x hx; cases hx
  · intro x hx; simp at hx; subst hx; decide
  · exact HG.out.later (below_trans HB1.out (below_trans (below_alloc _ _) (below_alloc _ _)))
  rintro e w2 ⟨b, o, c, rfl, c0, c1, c2, hc3, hb⟩
  have HB2 := Lib.hid (below_trans HB1.out (below_trans (below_trans (below_alloc _ _) (below_alloc _ _)) hb))
  have hx : ((⟨#[121, 120, 55, 59, 10]⟩ : ByteArray).extract 0 2).toList = [121, 120] := by rw [toList_eq]; kernel_rfl
  clear hb HR1
  go_wp2_with fail
  refine (example_any ⟨#[100]⟩ _ (by decide)).mono ?_
  rintro e w3 ⟨vi3, vs3, L3, rfl, hr, hb⟩
  have HO3 := Lib.hid (order_any _ _ _ _ _ hr)
  have HB3 := Lib.hid (below_trans HB2.out hb)
  obtain ⟨ai3, ci3, av3, cv3, rfl, rfl⟩ := hr.slices
  rw [exOrder] at HO3
  clear hb hr
  go_wp2_with fail
  refine HO3.out.mono ?_
  rintro e w4 ⟨v4, rfl, hI, -, hb⟩
  have HB4 := Lib.hid (below_trans HB3.out hb)
  have HI4 := Lib.hid (ints33_any _ _ _ _ _ (hI.later (below_alloc w4 (.cells #[.int .i64 0, .int .i64 1, .int .i64 2] 3))) (ints_made [0, 1, 2] (alloc_self w4 _) rfl (by decide)))
  rw [decide_eq_true (show natInts [0, 1, 2] = [0, 1, 2] from rfl)] at HI4
  clear hI hb HO3
  go_wp2_with fail
  refine HI4.out.mono ?_
  rintro e w5 ⟨rfl, hb⟩
  have HB5 := Lib.hid (below_trans (below_trans HB4.out (below_alloc _ _)) hb)
  clear hb HI4
  go_wp2_with fail
  refine (example_any ⟨#[100]⟩ _ (by decide)).mono ?_
  rintro e w6 ⟨vi6, vs6, L6, rfl, hr, hb⟩
  have HO6 := Lib.hid (slice_any _ _ _ _ _ hr)
  have HB6 := Lib.hid (below_trans HB5.out hb)
  obtain ⟨ai6, ci6, av6, cv6, rfl, rfl⟩ := hr.slices
  rw [exSliceD] at HO6
  clear hb hr
  go_wp2_with fail
  refine HO6.out.mono ?_
  rintro e w7 ⟨v7, rfl, hI, -, hb⟩
  have HB7 := Lib.hid (below_trans HB6.out hb)
  have HI7 := Lib.hid (ints33_any _ _ _ _ _ (hI.later (below_alloc w7 (.cells #[.int .i64 0, .int .i64 1] 3))) (ints_made [0, 1] (alloc_self w7 _) rfl (by decide)))
  rw [decide_eq_true (show natInts [0, 1] = [0, 1] from rfl)] at HI7
  clear hI hb HO6
  go_wp2_with fail
  refine HI7.out.mono ?_
  rintro e w8 ⟨rfl, hb⟩
  have HB8 := Lib.hid (below_trans (below_trans HB7.out (below_alloc _ _)) hb)
  clear hb HI7
  go_wp2_with fail
  refine (example_any ⟨#[99]⟩ _ (by decide)).mono ?_
  rintro e w9 ⟨vi9, vs9, L9, rfl, hr, hb⟩
  have HO9 := Lib.hid (slice_any _ _ _ _ _ hr)
  have HB9 := Lib.hid (below_trans HB8.out hb)
  obtain ⟨ai9, ci9, av9, cv9, rfl, rfl⟩ := hr.slices
  rw [exSliceC] at HO9
  clear hb hr
  go_wp2_with fail
  refine HO9.out.mono ?_
  rintro e w10 ⟨v10, rfl, hI, -, hb⟩
  have HB10 := Lib.hid (below_trans HB9.out hb)
  have HI10 := Lib.hid (ints33_any _ _ _ _ _ (hI.later (below_alloc w10 (.cells #[.int .i64 0] 3))) (ints_made [0] (alloc_self w10 _) rfl (by decide)))
  rw [decide_eq_true (show natInts [0] = [0] from rfl)] at HI10
  clear hI hb HO9
  go_wp2_with fail
  refine HI10.out.mono ?_
  rintro e w11 ⟨rfl, hb⟩
  have HB11 := Lib.hid (below_trans (below_trans HB10.out (below_alloc _ _)) hb)
  clear hb HI10
  go_wp2_with fail
  refine (example_any ⟨#[100]⟩ _ (by decide)).mono ?_
  rintro e w12 ⟨vi12, vs12, L12, rfl, hr, hb⟩
  have HO12 := Lib.hid (pure_any _ _ _ _ _ hr)
  have HB12 := Lib.hid (below_trans HB11.out hb)
  obtain ⟨ai12, ci12, av12, cv12, rfl, rfl⟩ := hr.slices
  rw [exPureD] at HO12
  clear hb hr
  go_wp2_with fail
  refine HO12.out.mono ?_
  rintro e w13 ⟨rfl, hb⟩
  have HB13 := Lib.hid (below_trans HB12.out hb)
  clear hb HO12
  go_wp2_with fail
  refine (example_any ⟨#[99]⟩ _ (by decide)).mono ?_
  rintro e w14 ⟨vi14, vs14, L14, rfl, hr, hb⟩
  have HO14 := Lib.hid (pure_any _ _ _ _ _ hr)
  have HB14 := Lib.hid (below_trans HB13.out hb)
  obtain ⟨ai14, ci14, av14, cv14, rfl, rfl⟩ := hr.slices
  rw [exPureC] at HO14
  clear hb hr
  go_wp2_with fail
  refine HO14.out.mono ?_
  rintro e w15 ⟨rfl, hb⟩
  have HB15 := Lib.hid (below_trans HB14.out hb)
  clear hb HO14
  go_wp2_with fail
  go_ret
  exact ⟨rfl, HB15.out⟩
end Go.Proofs.YtacgopankhpnbaaGreatDoor
/- Walks of the references of layers 4 and 35 that BlameFinds uses: Ints, Same, Few. -/
namespace Go.Proofs.YtacgopankhpnbaaGreatDoor
open Go.RowKit

set_option maxHeartbeats 1000000 in
theorem ints04_any (a b : List Int) (va vb : Value) (w : World) (ha : Ints w va a) (hb : Ints w vb b) :
    Calls Tryz.prog 70 #[va, vb] w fun e w' => e = .returned (.bool (decide (a = b))) ∧ Below w.heap.size w w' := by
  obtain ⟨aa, ca, hva, ha1, ha2, -⟩ := id ha
  obtain ⟨ab, cb, hvb, hb1, hb2, -⟩ := id hb
  subst hva hvb
  have HA := Lib.hid ha; have HB := Lib.hid hb
  clear ha hb
  by_cases hl : a.length = b.length
  · have HL := Lib.hid hl
    rw [← hl] at hb1 HB ⊢
    clear hl
    go_enter Tryz.func70, Tryz.ntmps70
    go_wp2_with fail
    go_loopw [5] (fun i wr => ∃ k : Nat, k ≤ a.length ∧ i = .int .i64 k ∧ Hid (a.take k = b.take k) ∧ Hid (Below w.heap.size w wr)) (fun i _ => a.length - (intOf i).toNat)
    case atStart => exact ⟨0, Nat.zero_le _, rfl, Lib.hid rfl, Lib.hid (Below.refl _ _)⟩
    case round =>
      obtain ⟨k, hk, rfl, HT, HW⟩ := hrel
      rename World => wr
      by_cases hlt : k < a.length
      · obtain ⟨x, hx, -⟩ := getElem?_of_lt hlt
        obtain ⟨y, hy, -⟩ := getElem?_of_lt (show k < b.length by rw [← HL.out]; exact hlt)
        rcases (HA.out.later HW.out).cases with ⟨e, -⟩ | ⟨b1, o1, c1, e, -, -, -, -, hc⟩
        · subst e; simp at hlt
        obtain ⟨rfl, rfl⟩ : aa = some ⟨b1, o1, none⟩ ∧ ca = c1 := by injection e with e1 e2 e3; exact ⟨e1, e3⟩
        have hB := HB.out.later HW.out
        obtain ⟨b2, o2, c2, e2, cy⟩ : ∃ b2 o2 c2, Value.slice ab a.length cb = .slice (some ⟨b2, o2, none⟩) b.length c2 ∧ wr.cell? ⟨b2, o2 + k, none⟩ = some (.int .i64 y) := by
          rcases hB.cases with ⟨e, -⟩ | ⟨b2, o2, c2, e, -, -, -, -, hc2⟩
          · rw [e] at hy; simp at hy
          · exact ⟨b2, o2, c2, e, hc2 k y hy⟩
        obtain rfl : ab = some ⟨b2, o2, none⟩ := by injection e2
        have cx : wr.cell? ⟨b1, o1 + k, none⟩ = some (.int .i64 x) := hc k x hx
        have HX := Lib.hid hx; have HY := Lib.hid hy
        clear hc hB e e2 hx hy
        by_cases he : x = y
        · subst he
          go_wp2_with fail
          go_region
          go_wp2_with fail
          go_roundw
          case rel => exact ⟨k + 1, by omega, by go_num, Lib.hid (by rw [List.take_add_one, List.take_add_one, HT.out, HX.out, HY.out]), Lib.hid HW.out.drew⟩
          case measure => simp [intOf]; omega
        · have hne : (x == y) = false := beq_eq_false_iff_ne.2 he
          have hne2 : (x != y) = true := by rw [bne_iff_ne]; exact he
          have HNe := Lib.hid he
          clear he
          go_wp2_with fail
          go_region
          go_wp2_with fail
          go_ret
          refine ⟨ret_bool ?_, HW.out.drew⟩
          rw [eq_comm, decide_eq_false_iff_not]
          intro h
          have h1 := HX.out; have h2 := HY.out
          rw [h, h2] at h1
          exact HNe.out (Option.some.inj h1).symm
      · go_wp2_with fail
        go_ret
        refine ⟨ret_bool ?_, HW.out⟩
        rw [eq_comm, decide_eq_true_iff]
        have h := HT.out
        rwa [List.take_of_length_le (by omega), List.take_of_length_le (by rw [← HL.out]; omega)] at h
  · have HL := Lib.hid hl
    have hl2 : ¬ (a.length : Int) = (b.length : Int) := by omega
    have hl3 : ((a.length : Int) != (b.length : Int)) = true := by rw [bne_iff_ne]; exact hl2
    clear hl hl2
    go_enter Tryz.func70, Tryz.ntmps70
    go_wp2_with fail
    all_goals
      go_ret
      refine ⟨ret_bool ?_, Below.refl _ _⟩
      rw [eq_comm, decide_eq_false_iff_not]
      intro h
      exact HL.out (by rw [h])
set_option maxHeartbeats 1000000 in
theorem same04_any (a b : List ByteArray) (va vb : Value) (w : World) (ha : Strs w va a) (hb : Strs w vb b) :
    Calls Tryz.prog 44 #[va, vb] w fun e w' => e = .returned (.bool (decide (a = b))) ∧ Below w.heap.size w w' := by
  obtain ⟨aa, ca, hva, ha1, ha2, -⟩ := id ha
  obtain ⟨ab, cb, hvb, hb1, hb2, -⟩ := id hb
  subst hva hvb
  have HA := Lib.hid ha; have HB := Lib.hid hb
  clear ha hb
  by_cases hl : a.length = b.length
  · have HL := Lib.hid hl
    rw [← hl] at hb1 HB ⊢
    clear hl
    go_enter Tryz.func44, Tryz.ntmps44
    go_wp2_with fail
    go_loopw [5] (fun i wr => ∃ k : Nat, k ≤ a.length ∧ i = .int .i64 k ∧ Hid (a.take k = b.take k) ∧ Hid (Below w.heap.size w wr)) (fun i _ => a.length - (intOf i).toNat)
    case atStart => exact ⟨0, Nat.zero_le _, rfl, Lib.hid rfl, Lib.hid (Below.refl _ _)⟩
    case round =>
      obtain ⟨k, hk, rfl, HT, HW⟩ := hrel
      rename World => wr
      by_cases hlt : k < a.length
      · obtain ⟨x, hx, -⟩ := getElem?_of_lt hlt
        obtain ⟨y, hy, -⟩ := getElem?_of_lt (show k < b.length by rw [← HL.out]; exact hlt)
        rcases (HA.out.later HW.out).cases with ⟨e, -⟩ | ⟨b1, o1, c1, e, -, -, -, -, hc⟩
        · subst e; simp at hlt
        obtain ⟨rfl, rfl⟩ : aa = some ⟨b1, o1, none⟩ ∧ ca = c1 := by injection e with e1 e2 e3; exact ⟨e1, e3⟩
        have hB := HB.out.later HW.out
        obtain ⟨b2, o2, c2, e2, cy⟩ : ∃ b2 o2 c2, Value.slice ab a.length cb = .slice (some ⟨b2, o2, none⟩) b.length c2 ∧ wr.cell? ⟨b2, o2 + k, none⟩ = some (.string y) := by
          rcases hB.cases with ⟨e, -⟩ | ⟨b2, o2, c2, e, -, -, -, -, hc2⟩
          · rw [e] at hy; simp at hy
          · exact ⟨b2, o2, c2, e, (hc2 k y hy).1⟩
        obtain rfl : ab = some ⟨b2, o2, none⟩ := by injection e2
        have cx : wr.cell? ⟨b1, o1 + k, none⟩ = some (.string x) := (hc k x hx).1
        have HX := Lib.hid hx; have HY := Lib.hid hy
        clear hc hB e e2 hx hy
        by_cases he : x = y
        · subst he
          go_wp2_with fail
          go_region
          go_wp2_with fail
          go_roundw
          case rel => exact ⟨k + 1, by omega, by go_num, Lib.hid (by rw [List.take_add_one, List.take_add_one, HT.out, HX.out, HY.out]), Lib.hid HW.out.drew⟩
          case measure => simp [intOf]; omega
        · have hne : (x.toList == y.toList) = false := by rw [beq_toList]; exact decide_eq_false he
          have HNe := Lib.hid he
          clear he
          go_wp2_with fail
          go_region
          go_wp2_with fail
          go_ret
          refine ⟨ret_bool ?_, HW.out.drew⟩
          rw [eq_comm, decide_eq_false_iff_not]
          intro h
          have h1 := HX.out; have h2 := HY.out
          rw [h, h2] at h1
          exact HNe.out (Option.some.inj h1).symm
      · go_wp2_with fail
        go_ret
        refine ⟨ret_bool ?_, HW.out⟩
        rw [eq_comm, decide_eq_true_iff]
        have h := HT.out
        rwa [List.take_of_length_le (by omega), List.take_of_length_le (by rw [← HL.out]; omega)] at h
  · have HL := Lib.hid hl
    have hl2 : ¬ (a.length : Int) = (b.length : Int) := by omega
    have hl3 : ((a.length : Int) != (b.length : Int)) = true := by rw [bne_iff_ne]; exact hl2
    clear hl hl2
    go_enter Tryz.func44, Tryz.ntmps44
    go_wp2_with fail
    all_goals
      go_ret
      refine ⟨ret_bool ?_, Below.refl _ _⟩
      rw [eq_comm, decide_eq_false_iff_not]
      intro h
      exact HL.out (by rw [h])

set_option maxRecDepth 100000 in
set_option maxHeartbeats 4000000 in
theorem few35_any (r : Rcp) (L : List (Value × Stp)) (vi vs : Value) (w : World) (h : RcpIn r L vi vs w) :
    Calls Tryz.prog 37 #[rcpV vi vs r.output] w (AnyBool w) := by
  have HB := Lib.hid (below_alloc w (rcpBox vi vs r.output))
  have HRcp := Lib.hid (h.later HB.out)
  obtain ⟨r0, r1, r2⟩ := box3 (alloc_self w (rcpBox vi vs r.output))
  obtain ⟨ai, ci, av, cv, rfl, rfl⟩ := h.slices
  have hin : r.inputs.length ≤ 9223372036854775807 := by obtain ⟨a, c, hv, h1, h2, -⟩ := h.inp; omega
  have hst : L.length ≤ 9223372036854775807 := by obtain ⟨a, c, hv, h1, h2, -⟩ := h.stp; omega
  clear h
  go_enter Tryz.func37, Tryz.ntmps37
  go_wp2_with fail
  generalize w.alloc (rcpBox (.slice ai r.inputs.length ci) (.slice av L.length cv) r.output) = W at HB HRcp r0 r1 r2 ⊢
  go_loop [3] (fun i => ∃ k : Nat, k ≤ r.inputs.length ∧ i = .int .i64 k) (fun i => r.inputs.length - (intOf i).toNat)
  case atStart => exact ⟨0, Nat.zero_le _, rfl⟩
  case round =>
    obtain ⟨k, hk, rfl⟩ := hrel
    by_cases hlt : k < r.inputs.length ∧ k < 9
    · obtain ⟨hlt, h6⟩ := hlt
      obtain ⟨f, hf, -⟩ := getElem?_of_lt hlt
      rcases HRcp.out.inp.cases with ⟨e, -⟩ | ⟨b, o, c, e, -, -, -, -, hc⟩
      · rw [e] at hlt; simp at hlt
      obtain ⟨rfl, rfl⟩ : ai = some ⟨b, o, none⟩ ∧ ci = c := by injection e with e1 e2 e3; exact ⟨e1, e3⟩
      obtain ⟨f0, f1, -, -⟩ := hc k f hf
      clear hc e hf
      by_cases ht : (300 : Int) < f.text.size
      · go_wp2_with fail
        go_ret
        exact ⟨_, rfl, HB.out⟩
      · go_wp2_with fail
        go_round
        case rel => exact ⟨k + 1, by omega, by go_num⟩
        case measure => simp [intOf]; omega
    · by_cases h6 : k < r.inputs.length
      · have h7 : ¬ k < 9 := fun h => hlt ⟨h6, h⟩
        clear hlt
        go_wp2_with fail
        go_loop [4] (fun i => ∃ k : Nat, k ≤ L.length ∧ i = .int .i64 k) (fun i => L.length - (intOf i).toNat)
        case atStart => exact ⟨0, Nat.zero_le _, rfl⟩
        case round =>
          obtain ⟨k2, hk2, rfl⟩ := hrel
          by_cases hlt2 : k2 < L.length ∧ k2 < 13
          · obtain ⟨hlt2, h9⟩ := hlt2
            obtain ⟨y, hy, -⟩ := getElem?_of_lt hlt2
            rcases HRcp.out.stp.cases with ⟨e, -⟩ | ⟨b, o, c, e, -, -, -, -, hc⟩
            · rw [e] at hlt2; simp at hlt2
            obtain ⟨rfl, rfl⟩ : av = some ⟨b, o, none⟩ ∧ cv = c := by injection e with e1 e2 e3; exact ⟨e1, e3⟩
            obtain ⟨-, s1, -, -, hsrc, -⟩ := hc k2 y hy
            obtain ⟨sa, sc, hse⟩ := strs_slice hsrc
            rw [hse] at s1
            generalize y.2.src.length = ns at s1
            clear hc e hy hsrc hse
            by_cases ht : (6 : Int) < ns
            · go_wp2_with fail
              go_ret
              exact ⟨_, rfl, HB.out⟩
            · go_wp2_with fail
              go_round
              case rel => exact ⟨k2 + 1, by omega, by go_num⟩
              case measure => simp [intOf]; omega
          · by_cases h13 : k2 < L.length
            · have h14 : ¬ k2 < 13 := fun h => hlt2 ⟨h13, h⟩
              clear hlt2
              by_cases h8 : (r.inputs.length : Int) ≤ 8
              · by_cases h12 : (L.length : Int) ≤ 12
                · first | (exfalso; omega) | (go_wp2_with fail; go_ret; exact ⟨_, rfl, HB.out⟩)
                · first | (exfalso; omega) | (go_wp2_with fail; go_ret; exact ⟨_, rfl, HB.out⟩)
              · first | (exfalso; omega) | (go_wp2_with fail; go_ret; exact ⟨_, rfl, HB.out⟩)
            · clear hlt2
              by_cases h8 : (r.inputs.length : Int) ≤ 8
              · by_cases h12 : (L.length : Int) ≤ 12
                · first | (exfalso; omega) | (go_wp2_with fail; go_ret; exact ⟨_, rfl, HB.out⟩)
                · first | (exfalso; omega) | (go_wp2_with fail; go_ret; exact ⟨_, rfl, HB.out⟩)
              · first | (exfalso; omega) | (go_wp2_with fail; go_ret; exact ⟨_, rfl, HB.out⟩)
      · clear hlt
        go_wp2_with fail
        go_loop [4] (fun i => ∃ k : Nat, k ≤ L.length ∧ i = .int .i64 k) (fun i => L.length - (intOf i).toNat)
        case atStart => exact ⟨0, Nat.zero_le _, rfl⟩
        case round =>
          obtain ⟨k2, hk2, rfl⟩ := hrel
          by_cases hlt2 : k2 < L.length ∧ k2 < 13
          · obtain ⟨hlt2, h9⟩ := hlt2
            obtain ⟨y, hy, -⟩ := getElem?_of_lt hlt2
            rcases HRcp.out.stp.cases with ⟨e, -⟩ | ⟨b, o, c, e, -, -, -, -, hc⟩
            · rw [e] at hlt2; simp at hlt2
            obtain ⟨rfl, rfl⟩ : av = some ⟨b, o, none⟩ ∧ cv = c := by injection e with e1 e2 e3; exact ⟨e1, e3⟩
            obtain ⟨-, s1, -, -, hsrc, -⟩ := hc k2 y hy
            obtain ⟨sa, sc, hse⟩ := strs_slice hsrc
            rw [hse] at s1
            generalize y.2.src.length = ns at s1
            clear hc e hy hsrc hse
            by_cases ht : (6 : Int) < ns
            · go_wp2_with fail
              go_ret
              exact ⟨_, rfl, HB.out⟩
            · go_wp2_with fail
              go_round
              case rel => exact ⟨k2 + 1, by omega, by go_num⟩
              case measure => simp [intOf]; omega
          · by_cases h13 : k2 < L.length
            · have h14 : ¬ k2 < 13 := fun h => hlt2 ⟨h13, h⟩
              clear hlt2
              by_cases h8 : (r.inputs.length : Int) ≤ 8
              · by_cases h12 : (L.length : Int) ≤ 12
                · first | (exfalso; omega) | (go_wp2_with fail; go_ret; exact ⟨_, rfl, HB.out⟩)
                · first | (exfalso; omega) | (go_wp2_with fail; go_ret; exact ⟨_, rfl, HB.out⟩)
              · first | (exfalso; omega) | (go_wp2_with fail; go_ret; exact ⟨_, rfl, HB.out⟩)
            · clear hlt2
              by_cases h8 : (r.inputs.length : Int) ≤ 8
              · by_cases h12 : (L.length : Int) ≤ 12
                · first | (exfalso; omega) | (go_wp2_with fail; go_ret; exact ⟨_, rfl, HB.out⟩)
                · first | (exfalso; omega) | (go_wp2_with fail; go_ret; exact ⟨_, rfl, HB.out⟩)
              · first | (exfalso; omega) | (go_wp2_with fail; go_ret; exact ⟨_, rfl, HB.out⟩)
end Go.Proofs.YtacgopankhpnbaaGreatDoor
/- Walks of the reference of layer 35 that BlameFinds uses: FewDone, Writer, Seen. -/
namespace Go.Proofs.YtacgopankhpnbaaGreatDoor
open Go.RowKit

set_option maxRecDepth 100000 in
set_option maxHeartbeats 4000000 in
theorem fewDone_any (Ld : List (Value × Dn)) (vl : Value) (w : World) (h : Dns w vl Ld) :
    Calls Tryz.prog 38 #[vl] w (AnyBool w) := by
  obtain ⟨al, cl, rfl⟩ := dns_slice h
  have HL := Lib.hid h
  have hlen : Ld.length ≤ 9223372036854775807 := by obtain ⟨a, c, hv, h1, h2, -⟩ := h; omega
  clear h
  go_enter Tryz.func38, Tryz.ntmps38
  go_wp2_with fail
  go_loop [3] (fun i => ∃ k : Nat, k ≤ Ld.length ∧ i = .int .i64 k) (fun i => Ld.length - (intOf i).toNat)
  case atStart => exact ⟨0, Nat.zero_le _, rfl⟩
  case round =>
    obtain ⟨k, hk, rfl⟩ := hrel
    by_cases hlt : k < Ld.length ∧ k < 15
    · obtain ⟨hlt, h15⟩ := hlt
      obtain ⟨y, hy, -⟩ := getElem?_of_lt hlt
      rcases HL.out.cases with ⟨e, -⟩ | ⟨b, o, c, e, -, -, -, -, hc⟩
      · rw [e] at hlt; simp at hlt
      obtain ⟨rfl, rfl⟩ : al = some ⟨b, o, none⟩ ∧ cl = c := by injection e with e1 e2 e3; exact ⟨e1, e3⟩
      obtain ⟨d0, d1, d2, dstr, -⟩ := hc k y hy
      obtain ⟨yv, step, saw, out⟩ := y
      simp only at d0 d1 d2 dstr
      obtain ⟨sa, sc, rfl⟩ := strs_slice dstr
      have HStr := Lib.hid dstr
      have hsl : saw.length ≤ 9223372036854775807 := by obtain ⟨a, c, hv, h1, h2, -⟩ := dstr; omega
      have hk0 : (0 : Int) ≤ (k : Int) := by omega
      have hk1 : (k : Int) < (Ld.length : Int) := by omega
      clear hc e hy dstr
      by_cases h6 : (6 : Int) < (saw.length : Int)
      · go_wp2_with fail
        go_ret
        exact ⟨_, rfl, Below.refl _ _⟩
      · by_cases h2 : (2000 : Int) < (out.size : Int)
        · go_wp2_with fail
          go_ret
          exact ⟨_, rfl, Below.refl _ _⟩
        · go_wp2_with fail
          go_loop [4] (fun i => ∃ j : Nat, j ≤ saw.length ∧ i = .int .i64 j) (fun i => saw.length - (intOf i).toNat)
          case atStart => exact ⟨0, Nat.zero_le _, rfl⟩
          case round =>
            obtain ⟨j, hj, rfl⟩ := hrel
            by_cases hjl : j < saw.length
            · obtain ⟨t, ht, -⟩ := getElem?_of_lt hjl
              rcases HStr.out.cases with ⟨e, -⟩ | ⟨b', o', c', e, -, -, -, -, hc'⟩
              · rw [e] at hjl; simp at hjl
              obtain ⟨rfl, rfl⟩ : sa = some ⟨b', o', none⟩ ∧ sc = c' := by injection e with e1 e2 e3; exact ⟨e1, e3⟩
              obtain ⟨t0, -⟩ := hc' j t ht
              clear hc' e ht
              by_cases h3 : (2000 : Int) < (t.size : Int)
              · go_wp2_with fail
                go_ret
                exact ⟨_, rfl, Below.refl _ _⟩
              · go_wp2_with fail
                go_round
                case rel => exact ⟨j + 1, by omega, by go_num⟩
                case measure => simp [intOf]; omega
            · obtain rfl : j = saw.length := by omega
              go_wp2_with fail
              go_round
              case rel => exact ⟨k + 1, by omega, by go_num⟩
              case measure => simp [intOf]; omega
    · by_cases h6 : k < Ld.length
      · have h7 : ¬ k < 15 := fun h => hlt ⟨h6, h⟩
        clear hlt
        go_wp2_with fail
        go_ret
        exact ⟨_, rfl, Below.refl _ _⟩
      · clear hlt
        go_wp2_with fail
        go_ret
        exact ⟨_, rfl, Below.refl _ _⟩

set_option maxRecDepth 100000 in
set_option maxHeartbeats 4000000 in
theorem writer35_any (r : Rcp) (L : List (Value × Stp)) (vi vs : Value) (x : ByteArray) (w : World) (h : RcpIn r L vi vs w) :
    Calls Tryz.prog 42 #[rcpV vi vs r.output, .string x] w fun e w' => e = .returned (.int .i64 (wIdx (writerOf r.steps x))) ∧ Below w.heap.size w w' := by
  rw [← idxOf_writer L r.steps h.map x]
  have HB := Lib.hid (below_alloc w (rcpBox vi vs r.output))
  have HRcp := Lib.hid (h.later HB.out)
  obtain ⟨r0, r1, r2⟩ := box3 (alloc_self w (rcpBox vi vs r.output))
  obtain ⟨ai, ci, av, cv, rfl, rfl⟩ := h.slices
  have hst : L.length ≤ 9223372036854775807 := by obtain ⟨a, c, hv, h1, h2, -⟩ := h.stp; omega
  clear h
  generalize hres : idxOf (fun y : Value × Stp => decide (y.2.out = x)) L = res
  have HRes := Lib.hid hres
  clear hres
  go_enter Tryz.func42, Tryz.ntmps42
  go_wp2_with fail
  generalize w.alloc (rcpBox (.slice ai r.inputs.length ci) (.slice av L.length cv) r.output) = W at HB HRcp r0 r1 r2 ⊢
  go_loop [5] (fun i => ∃ k : Nat, k ≤ L.length ∧ i = .int .i64 k ∧ Hid (∀ y, y ∈ L.take k → (fun y : Value × Stp => decide (y.2.out = x)) y = false)) (fun i => L.length - (intOf i).toNat)
  case atStart => exact ⟨0, Nat.zero_le _, rfl, Lib.hid (fun y hy => by simp at hy)⟩
  case round =>
    obtain ⟨k, hk, rfl, HNo⟩ := hrel
    by_cases hlt : k < L.length
    · obtain ⟨y, hy, -⟩ := getElem?_of_lt hlt
      rcases HRcp.out.stp.cases with ⟨e, -⟩ | ⟨b, o, c, e, -, -, -, -, hc⟩
      · rw [e] at hlt; simp at hlt
      obtain ⟨rfl, rfl⟩ : av = some ⟨b, o, none⟩ ∧ cv = c := by injection e with e1 e2 e3; exact ⟨e1, e3⟩
      obtain ⟨-, -, s2, -, -, -⟩ := hc k y hy
      have HY := Lib.hid hy
      have hk0 : (0 : Int) ≤ (k : Int) := by omega
      have hk1 : (k : Int) < (L.length : Int) := by omega
      clear hc e hy
      by_cases hyx : y.2.out = x
      · have HE := Lib.hid (show res = (k : Int) by rw [← HRes.out]; exact idxOf_some (findIdx_hit HY.out (by simp [hyx]) HNo.out))
        rw [hyx] at s2
        go_wp2_with fail
        go_ret
        exact ⟨ret_int HE.out.symm, HB.out⟩
      · have HNx := Lib.hid (take_no HY.out (by simp [hyx]) HNo.out)
        have hyx2 : (y.2.out.toList == x.toList) = false := by rw [beq_toList]; exact decide_eq_false hyx
        go_wp2_with fail
        go_round
        case rel => exact ⟨k + 1, by omega, by go_num, HNx⟩
        case measure => simp [intOf]; omega
    · obtain rfl : k = L.length := by omega
      have HE := Lib.hid (show res = -1 by rw [← HRes.out]; exact idxOf_none (findIdx_miss (Nat.le_refl _) HNo.out))
      go_wp2_with fail
      go_ret
      exact ⟨ret_int HE.out.symm, HB.out⟩

/-- Where an element of a step stands. -/
def seenI (l : List Dn) (i : Int) : Option Nat := l.findIdx? fun d => decide (d.step = i)
set_option maxRecDepth 100000 in
set_option maxHeartbeats 4000000 in
theorem seen35_any (Ld : List (Value × Dn)) (vl : Value) (i : Int) (w : World) (h : Dns w vl Ld) :
    Calls Tryz.prog 43 #[vl, .int .i64 i] w fun e w' => e = .returned (.int .i64 (wIdx (seenI (Ld.map (·.2)) i))) ∧ Below w.heap.size w w' := by
  obtain ⟨al, cl, rfl⟩ := dns_slice h
  have HL := Lib.hid h
  have hlen : Ld.length ≤ 9223372036854775807 := by obtain ⟨a, c, hv, h1, h2, -⟩ := h; omega
  clear h
  generalize hres : wIdx (seenI (Ld.map (·.2)) i) = res
  have HRes := Lib.hid hres
  clear hres
  go_enter Tryz.func43, Tryz.ntmps43
  go_wp2_with fail
  go_loopw [5] (fun kv wr => ∃ k : Nat, k ≤ Ld.length ∧ kv = .int .i64 k ∧ Hid (∀ d, d ∈ (Ld.map (·.2)).take k → (fun d : Dn => decide (d.step = i)) d = false) ∧ Hid (Below w.heap.size w wr)) (fun kv _ => Ld.length - (intOf kv).toNat)
  case atStart => exact ⟨0, Nat.zero_le _, rfl, Lib.hid (fun y hy => by simp at hy), Lib.hid (Below.refl _ _)⟩
  case round =>
    obtain ⟨k, hk, rfl, HNo, HBl⟩ := hrel
    rename World => wr
    by_cases hlt : k < Ld.length
    · obtain ⟨y, hy, -⟩ := getElem?_of_lt hlt
      rcases (HL.out.later HBl.out).cases with ⟨e, -⟩ | ⟨b, o, c, e, -, -, -, -, hc⟩
      · rw [e] at hlt; simp at hlt
      obtain ⟨rfl, rfl⟩ : al = some ⟨b, o, none⟩ ∧ cl = c := by injection e with e1 e2 e3; exact ⟨e1, e3⟩
      obtain ⟨d0, -, -, -, -⟩ := hc k y hy
      have HY : Hid ((Ld.map (·.2))[k]? = some y.2) := Lib.hid (by rw [List.getElem?_map, hy]; rfl)
      have hk0 : (0 : Int) ≤ (k : Int) := by omega
      have hk1 : (k : Int) < (Ld.length : Int) := by omega
      clear hc e hy
      by_cases hyi : y.2.step = i
      · have HE := Lib.hid (show res = (k : Int) by rw [← HRes.out]; unfold seenI; rw [findIdx_hit HY.out (by simp [hyi]) HNo.out]; rfl)
        rw [hyi] at d0
        go_wp2_with fail
        go_ret
        exact ⟨ret_int HE.out.symm, HBl.out⟩
      · have HNx := Lib.hid (take_no HY.out (by simp [hyi]) HNo.out)
        have hyi2 : (y.2.step == i) = false := beq_eq_false_iff_ne.2 hyi
        go_wp2_with fail
        go_roundw
        case rel => exact ⟨k + 1, by omega, by go_num, HNx, HBl⟩
        case measure => simp [intOf]; omega
    · obtain rfl : k = Ld.length := by omega
      have HE := Lib.hid (show res = -1 by rw [← HRes.out]; unfold seenI; rw [findIdx_miss (by simp) HNo.out]; rfl)
      go_wp2_with fail
      go_ret
      exact ⟨ret_int HE.out.symm, HBl.out⟩
end Go.Proofs.YtacgopankhpnbaaGreatDoor
/- The example of ladinglaw35.small, reckoned. No program in sight. -/
namespace Go.Proofs.YtacgopankhpnbaaGreatDoor

/-- ladinglaw35.recipe -/
def blR : Rcp := ⟨[⟨⟨#[97]⟩, ⟨#[120]⟩⟩, ⟨⟨#[98]⟩, ⟨#[121]⟩⟩], [⟨1, [⟨#[98]⟩, ⟨#[97]⟩], ⟨#[99]⟩, false⟩, ⟨4, [⟨#[99]⟩], ⟨#[100]⟩, false⟩], ⟨#[100]⟩⟩
/-- ladinglaw35.done -/
def blDone (b c d : ByteArray) : List Dn := [⟨0, [b, ⟨#[120]⟩], c⟩, ⟨1, [c], d⟩]
def blA : List Dn := [⟨0, [⟨#[121]⟩, ⟨#[120]⟩], ⟨#[121, 120]⟩⟩, ⟨1, [⟨#[121, 120]⟩], ⟨#[121, 120, 55, 59, 10]⟩⟩]
def blB : List Dn := [⟨0, [⟨#[121]⟩, ⟨#[120]⟩], ⟨#[121, 120]⟩⟩, ⟨1, [⟨#[121, 120]⟩], ⟨#[121, 120, 56, 59, 10]⟩⟩]
def blZ : List Dn := blDone ⟨#[122]⟩ ⟨#[122, 120]⟩ ⟨#[122, 120, 55, 59, 10]⟩
def blQ : List Dn := blDone ⟨#[122]⟩ ⟨#[113]⟩ ⟨#[113, 55, 59, 10]⟩
theorem blRight : inspectE blR = 0 := by kernel_rfl
theorem blRunA : runL C0 blR [7] [] [] = .ok (blA, ⟨#[121, 120, 55, 59, 10]⟩) := by kernel_rfl
theorem blRunB : runL C0 blR [8] [] [] = .ok (blB, ⟨#[121, 120, 56, 59, 10]⟩) := by kernel_rfl
theorem blIn1 : ofBoth (inputL blR) (readL blR blA) (readL blR blB) = none := by kernel_rfl
theorem blFi1 : ofBoth (firstL blR) (readL blR blA) (readL blR blB) = some 1 := by kernel_rfl
theorem blIn2 : ofBoth (inputL blR) (readL blR blA) (readL blR blZ) = some ⟨#[98]⟩ := by kernel_rfl
theorem blFi2 : ofBoth (firstL blR) (readL blR blA) (readL blR blZ) = none := by kernel_rfl
theorem blWr1 : wrongL C0 blR blQ = some 0 := by kernel_rfl
theorem blWr2 : wrongL C0 blR blZ = none := by kernel_rfl
theorem blTx : textOf blR (readL blR blZ) ⟨#[98]⟩ = some ⟨#[122]⟩ := by kernel_rfl
theorem blCh1 : chainOf blR (readL blR blA) (readL blR blB) = [1] := by kernel_rfl
theorem blCh2 : chainOf blR (readL blR blA) (readL blR blZ) = [0, 1] := by kernel_rfl
theorem blFit : (readL blR blZ).isSome = true := by kernel_rfl
theorem blNot : (readL blR [⟨0, [⟨#[122]⟩, ⟨#[120]⟩], ⟨#[122, 120]⟩⟩]).isSome = false := by kernel_rfl
end Go.Proofs.YtacgopankhpnbaaGreatDoor
/- Walks of ladinglaw35: recipe, done. -/
namespace Go.Proofs.YtacgopankhpnbaaGreatDoor
open Go.RowKit

abbrev blL (h : Nat) : List (Value × Stp) := [(.slice (some ⟨h + 1, 0, none⟩) 2 2, ⟨1, [⟨#[98]⟩, ⟨#[97]⟩], ⟨#[99]⟩, false⟩), (.slice (some ⟨h + 1 + 1, 0, none⟩) 1 1, ⟨4, [⟨#[99]⟩], ⟨#[100]⟩, false⟩)]
theorem lay5 (w : World) (o0 o1 o2 o3 o4 : Obj) : (((((w.alloc o0).alloc o1).alloc o2).alloc o3).alloc o4).heap[w.heap.size + 1]? = some o1 ∧ (((((w.alloc o0).alloc o1).alloc o2).alloc o3).alloc o4).heap[w.heap.size + 1 + 1]? = some o2 ∧
    (((((w.alloc o0).alloc o1).alloc o2).alloc o3).alloc o4).heap[w.heap.size + 1 + 1 + 1]? = some o3 ∧ (((((w.alloc o0).alloc o1).alloc o2).alloc o3).alloc o4).heap[w.heap.size + 1 + 1 + 1 + 1]? = some o4 := by
  have up : ∀ {a : World} {o : Obj} {k : Nat} {x : Obj}, a.heap[k]? = some x → (a.alloc o).heap[k]? = some x := fun h => heap_up (below_alloc _ _) h
  have e1 := alloc_self (w.alloc o0) o1
  have e2 := alloc_self ((w.alloc o0).alloc o1) o2
  have e3 := alloc_self (((w.alloc o0).alloc o1).alloc o2) o3
  have e4 := alloc_self ((((w.alloc o0).alloc o1).alloc o2).alloc o3) o4
  simp only [World.size_alloc] at e1 e2 e3 e4
  exact ⟨up (up (up e1)), up (up e2), up e3, e4⟩
theorem blIn {w : World} {h : Nat} {fr : Nat × Nat} {t1 t2 t3 t4 : TypeId} (h1 : w.heap[h + 1]? = some (.cells #[.string ⟨#[98]⟩, .string ⟨#[97]⟩] t1 fr)) (h2 : w.heap[h + 1 + 1]? = some (.cells #[.string ⟨#[99]⟩] t2 fr))
    (h3 : w.heap[h + 1 + 1 + 1]? = some (.cells #[.int .i64 1, .slice (some ⟨h + 1, 0, none⟩) 2 2, .string ⟨#[99]⟩, .bool false, .int .i64 4, .slice (some ⟨h + 1 + 1, 0, none⟩) 1 1, .string ⟨#[100]⟩, .bool false] t3 fr))
    (h4 : w.heap[h + 1 + 1 + 1 + 1]? = some (.cells #[.string ⟨#[97]⟩, .string ⟨#[120]⟩, .string ⟨#[98]⟩, .string ⟨#[121]⟩] t4 fr)) :
    RcpIn blR (blL h) (.slice (some ⟨h + 1 + 1 + 1 + 1, 0, none⟩) 2 2) (.slice (some ⟨h + 1 + 1 + 1, 0, none⟩) 2 2) w := by
  refine ⟨fils_made blR.inputs h4 rfl (by decide) (fun f hf => by simp [blR] at hf; rcases hf with rfl | rfl <;> decide), ?_, rfl, by decide⟩
  refine row_made (blL h) stpCells h3 rfl (by show (2 : Nat) ≤ _; decide) (fun y hy => ⟨rfl, rfl, ?_⟩)
  simp only [List.mem_cons, List.not_mem_nil, or_false] at hy
  rcases hy with rfl | rfl
  · exact ⟨strs_made [⟨#[98]⟩, ⟨#[97]⟩] h1 rfl (by decide) (small_sz _ (by decide)), by show (⟨#[99]⟩ : ByteArray).size ≤ _; decide⟩
  · exact ⟨strs_made [⟨#[99]⟩] h2 rfl (by decide) (small_sz _ (by decide)), by show (⟨#[100]⟩ : ByteArray).size ≤ _; decide⟩
set_option maxRecDepth 100000 in
theorem recipe_any (w : World) : Calls Tryz.prog 68 #[] w (RcpPost blR w) := by
  go_enter Tryz.func68, Tryz.ntmps68
  go_wp2_with fail
  refine bodyPost_ret (v := rcpV (.slice (some ⟨w.heap.size + 1 + 1 + 1 + 1, 0, none⟩) 2 2) (.slice (some ⟨w.heap.size + 1 + 1 + 1, 0, none⟩) 2 2) ⟨#[100]⟩) (by simp [results, Tryz.results68, go_sem]) rfl ?_
  obtain ⟨h1, h2, h3, h4⟩ := lay5 w (.cells #[.slice (some ⟨w.heap.size + 1 + 1 + 1 + 1, 0, none⟩) 2 2, .slice (some ⟨w.heap.size + 1 + 1 + 1, 0, none⟩) 2 2, .string ⟨#[100]⟩] 51) (.cells #[.string ⟨#[98]⟩, .string ⟨#[97]⟩] 9) (.cells #[.string ⟨#[99]⟩] 9)
    (.cells #[.int .i64 1, .slice (some ⟨w.heap.size + 1, 0, none⟩) 2 2, .string ⟨#[99]⟩, .bool false, .int .i64 4, .slice (some ⟨w.heap.size + 1 + 1, 0, none⟩) 1 1, .string ⟨#[100]⟩, .bool false] 24) (.cells #[.string ⟨#[97]⟩, .string ⟨#[120]⟩, .string ⟨#[98]⟩, .string ⟨#[121]⟩] 40)
  exact ⟨_, _, blL w.heap.size, rfl, blIn h1 h2 h3 h4, below_trans (below_trans (below_trans (below_trans (below_alloc _ _) (below_alloc _ _)) (below_alloc _ _)) (below_alloc _ _)) (below_alloc _ _)⟩

abbrev dnC (y : Value × Dn) : List Value := [.int .i64 y.2.step, y.1, .string y.2.out]
abbrev blD (h : Nat) (b c d : ByteArray) : List (Value × Dn) := [(.slice (some ⟨h, 0, none⟩) 2 2, ⟨0, [b, ⟨#[120]⟩], c⟩), (.slice (some ⟨h + 1, 0, none⟩) 1 1, ⟨1, [c], d⟩)]
/-- That a record is handed back, of two elements, in a block of its own. -/
def DnsPost (l : List Dn) (w : World) (e : Ending) (w' : World) : Prop := ∃ g M, e = .returned (.slice (some ⟨g, 0, none⟩) 2 2) ∧ Dns w' (.slice (some ⟨g, 0, none⟩) 2 2) M ∧ M.map (·.2) = l ∧ Below w.heap.size w w'
set_option maxRecDepth 100000 in
theorem done_any (b c d : ByteArray) (w : World) (hb : b.size ≤ 100) (hc : c.size ≤ 100) (hd : d.size ≤ 100) :
    Calls Tryz.prog 69 #[.string b, .string c, .string d] w (DnsPost (blDone b c d) w) := by
  go_enter Tryz.func69, Tryz.ntmps69
  go_wp2_with fail
  go_ret
  have e1 := heap_up (below_trans (below_alloc _ (.cells #[.string c] 9)) (below_alloc _ (.cells #[.int .i64 0, .slice (some ⟨w.heap.size, 0, none⟩) 2 2, .string c, .int .i64 1, .slice (some ⟨w.heap.size + 1, 0, none⟩) 1 1, .string d] 59))) (alloc_self w (.cells #[.string b, .string ⟨#[120]⟩] 9))
  have e2 := heap_up (below_alloc _ (.cells #[.int .i64 0, .slice (some ⟨w.heap.size, 0, none⟩) 2 2, .string c, .int .i64 1, .slice (some ⟨w.heap.size + 1, 0, none⟩) 1 1, .string d] 59)) (alloc_self (w.alloc (.cells #[.string b, .string ⟨#[120]⟩] 9)) (.cells #[.string c] 9))
  have e3 := alloc_self ((w.alloc (.cells #[.string b, .string ⟨#[120]⟩] 9)).alloc (.cells #[.string c] 9)) (.cells #[.int .i64 0, .slice (some ⟨w.heap.size, 0, none⟩) 2 2, .string c, .int .i64 1, .slice (some ⟨w.heap.size + 1, 0, none⟩) 1 1, .string d] 59)
  simp only [World.size_alloc] at e2 e3
  refine ⟨w.heap.size + 1 + 1, blD w.heap.size b c d, rfl, ?_, rfl, below_trans (below_trans (below_alloc _ _) (below_alloc _ _)) (below_alloc _ _)⟩
  refine row_made (blD w.heap.size b c d) dnC e3 rfl (by show (2 : Nat) ≤ _; decide) (fun y hy => ⟨rfl, rfl, ?_⟩)
  simp only [List.mem_cons, List.not_mem_nil, or_false] at hy
  rcases hy with rfl | rfl
  · exact ⟨strs_made [b, ⟨#[120]⟩] e1 rfl (by show (2 : Nat) ≤ _; decide) (fun x hx => by simp at hx; rcases hx with rfl | rfl; omega; decide), by show c.size ≤ _; omega⟩
  · exact ⟨strs_made [c] e2 rfl (by show (1 : Nat) ≤ _; decide) (fun x hx => by simp at hx; subst hx; omega), by show d.size ≤ _; omega⟩
end Go.Proofs.YtacgopankhpnbaaGreatDoor
/- Walk of ladinglaw35.small. -/
namespace Go.Proofs.YtacgopankhpnbaaGreatDoor
open Go.RowKit

theorem blDo : ∀ s, s ∈ blR.steps → DoAll C0 s := by
  intro s hs
  simp only [blR, List.mem_cons, List.not_mem_nil, or_false] at hs
  rcases hs with rfl | rfl <;> exact doAll_plain (by decide)
/-- What Run of the example comes to. -/
def BlRunPost (l : List Dn) (t : ByteArray) (w : World) (e : Ending) (w' : World) : Prop := ∃ v M, e = .returned (.tuple #[v, .string t, .int .i64 0]) ∧ Dns w' v M ∧ M.map (·.2) = l ∧ Below w.heap.size w w'
theorem blRun_any (x : Int) (l : List Dn) (t : ByteArray) (hx : runL C0 blR [x] [] [] = .ok (l, t)) (hxw : (Lit.int .i64 x).wf = true) (L : List (Value × Stp)) (vi vs : Value) (w : World) (h : RcpIn blR L vi vs w) (hG : Glob w) :
    Calls Tryz.prog 29 #[rcpV vi vs blR.output, .agg #[.slice (some ⟨w.heap.size, 0, none⟩) 1 1, .slice none 0 0, .slice none 0 0]] (w.alloc (.cells #[.int .i64 x] 3)) (BlRunPost l t (w.alloc (.cells #[.int .i64 x] 3))) := by
  have hb := below_alloc w (.cells #[.int .i64 x] 3)
  refine (run_good C0 blR L vi vs _ _ _ [x] [] [] _ (h.later hb) ⟨ints_made [x] (alloc_self w _) rfl (by show (1 : Nat) ≤ _; decide), ints_zero _, ints_zero _, fun y hy => (by simp at hy; subst hy; exact hxw), fun y hy => (by cases hy), fun y hy => (by cases hy)⟩ (hG.later hb) blDo blRight).mono ?_
  rw [hx]
  rintro e w' ⟨hb, v, M, rfl, hD, hM⟩
  exact ⟨v, M, rfl, hD, hM, hb⟩
theorem Dns.take1 {w : World} {g : Nat} {M : List (Value × Dn)} (h : Dns w (.slice (some ⟨g, 0, none⟩) 2 2) M) (hl : M.length = 2) : Dns w (.slice (some ⟨g, 0, none⟩) 1 2) (M.take 1) := by
  obtain ⟨a, c, hv, h1, h2, h3⟩ := h
  injection hv with e1 e2 e3
  subst e1 e3
  have hl1 : (M.take 1).length = 1 := by rw [List.length_take]; omega
  refine ⟨_, 2, by rw [hl1], by omega, by omega, fun _ => ?_⟩
  obtain ⟨b, o, ha, hc⟩ := h3 (fun h => by rw [h] at hl; cases hl)
  refine ⟨b, o, ha, fun i x hx => hc i x ?_⟩
  rw [List.getElem?_take] at hx
  split at hx
  · exact hx
  · cases hx

set_option maxRecDepth 100000 in
set_option maxHeartbeats 8000000 in
theorem small35_any (w : World) (hG : Glob w) :
    Calls Tryz.prog 36 #[] w fun e w' => e = .returned (.bool true) ∧ Below w.heap.size w w' := by
  have HG := Lib.hid hG; clear hG
  go_enter Tryz.func36, Tryz.ntmps36
  go_wp2_with fail
  refine (recipe_any w).mono ?_
  rintro e w1 ⟨vi, vs, L, rfl, hr, hb⟩
  obtain ⟨ai, ci, av, cv, rfl, rfl⟩ := hr.slices
  have hb2 := below_trans hb (below_alloc w1 (rcpBox (.slice ai blR.inputs.length ci) (.slice av L.length cv) blR.output))
  have HB := Lib.hid hb2
  have HR := Lib.hid (hr.later (below_alloc w1 (rcpBox (.slice ai blR.inputs.length ci) (.slice av L.length cv) blR.output)))
  have HBx := Lib.hid (alloc_self w1 (rcpBox (.slice ai blR.inputs.length ci) (.slice av L.length cv) blR.output))
  have HRun := Lib.hid (blRun_any 7 _ _ blRunA (by decide) L _ _ _ HR.out (HG.out.later HB.out))
  simp only [World.size_alloc] at HRun
  obtain ⟨r0, r1, r2⟩ := box3 HBx.out
  clear hb hb2 hr
  go_wp2_with fail
  generalize w1.alloc (rcpBox (.slice ai blR.inputs.length ci) (.slice av L.length cv) blR.output) = W1 at HB HR HBx HRun r0 r1 r2 ⊢
  generalize w1.heap.size = p at HBx HRun r0 r1 r2 ⊢
  refine HRun.out.mono ?_
  rintro e w2 ⟨v, MA, rfl, hD, hM, hb⟩
  obtain ⟨a2, c2, rfl⟩ := dns_slice hD
  have HA := Lib.hid hD
  have EMA := Lib.hid hM
  clear hD hM HRun
  replace hb := below_trans (below_alloc _ _) hb
  have HBn := Lib.hid hb
  replace HR := Lib.hid (HR.out.later HBn.out)
  replace HBx := Lib.hid (heap_up HBn.out HBx.out)
  replace HB := Lib.hid (below_trans HB.out HBn.out)
  clear hb HBn r0 r1 r2
  obtain ⟨r0, r1, r2⟩ := box3 HBx.out
  have HRun := Lib.hid (blRun_any 8 _ _ blRunB (by decide) L _ _ _ HR.out (HG.out.later HB.out))
  go_wp2_with fail
  refine HRun.out.mono ?_
  rintro e w3 ⟨v, MB, rfl, hD, hM, hb⟩
  obtain ⟨a3, c3, rfl⟩ := dns_slice hD
  have HBb := Lib.hid hD
  have EMB := Lib.hid hM
  clear hD hM HRun
  replace hb := below_trans (below_alloc _ _) hb
  have HBn := Lib.hid hb
  replace HR := Lib.hid (HR.out.later HBn.out)
  replace HBx := Lib.hid (heap_up HBn.out HBx.out)
  replace HA := Lib.hid (HA.out.later HBn.out)
  replace HB := Lib.hid (below_trans HB.out HBn.out)
  clear hb HBn r0 r1 r2
  obtain ⟨r0, r1, r2⟩ := box3 HBx.out
  go_wp2_with fail
  refine (done_any ⟨#[122]⟩ ⟨#[122, 120]⟩ ⟨#[122, 120, 55, 59, 10]⟩ _ (by decide) (by decide) (by decide)).mono ?_
  rintro e w4 ⟨g4, MZ, rfl, hD, hM, hb⟩
  have HZ := Lib.hid hD
  have EMZ : Hid (MZ.map (·.2) = blZ) := Lib.hid hM
  clear hD hM
  have HBn := Lib.hid hb
  replace HR := Lib.hid (HR.out.later HBn.out)
  replace HBx := Lib.hid (heap_up HBn.out HBx.out)
  replace HA := Lib.hid (HA.out.later HBn.out)
  replace HBb := Lib.hid (HBb.out.later HBn.out)
  replace HB := Lib.hid (below_trans HB.out HBn.out)
  clear hb HBn r0 r1 r2
  obtain ⟨r0, r1, r2⟩ := box3 HBx.out
  go_wp2_with fail
  refine (done_any ⟨#[122]⟩ ⟨#[113]⟩ ⟨#[113, 55, 59, 10]⟩ _ (by decide) (by decide) (by decide)).mono ?_
  rintro e w5 ⟨g5, MQ, rfl, hD, hM, hb⟩
  have HQ := Lib.hid hD
  have EMQ : Hid (MQ.map (·.2) = blQ) := Lib.hid hM
  clear hD hM
  have HBn := Lib.hid hb
  replace HR := Lib.hid (HR.out.later HBn.out)
  replace HBx := Lib.hid (heap_up HBn.out HBx.out)
  replace HA := Lib.hid (HA.out.later HBn.out)
  replace HBb := Lib.hid (HBb.out.later HBn.out)
  replace HZ := Lib.hid (HZ.out.later HBn.out)
  replace HB := Lib.hid (below_trans HB.out HBn.out)
  clear hb HBn r0 r1 r2
  obtain ⟨r0, r1, r2⟩ := box3 HBx.out
  have HC := Lib.hid (input_any blR L MA MB _ _ _ _ _ HR.out HA.out HBb.out)
  rw [EMA.out, EMB.out, blIn1] at HC
  go_wp2_with fail
  refine HC.out.mono ?_
  rintro e w6 ⟨rfl, hb⟩
  rw [show txV none = .tuple #[.string ⟨#[]⟩, .bool false] from rfl]
  clear HC
  have HBn := Lib.hid hb
  replace HR := Lib.hid (HR.out.later HBn.out)
  replace HBx := Lib.hid (heap_up HBn.out HBx.out)
  replace HA := Lib.hid (HA.out.later HBn.out)
  replace HBb := Lib.hid (HBb.out.later HBn.out)
  replace HZ := Lib.hid (HZ.out.later HBn.out)
  replace HQ := Lib.hid (HQ.out.later HBn.out)
  replace HB := Lib.hid (below_trans HB.out HBn.out)
  clear hb HBn r0 r1 r2
  obtain ⟨r0, r1, r2⟩ := box3 HBx.out
  have HC := Lib.hid (first_any blR L MA MB _ _ _ _ _ HR.out HA.out HBb.out)
  rw [EMA.out, EMB.out, blFi1] at HC
  go_wp2_with fail
  refine HC.out.mono ?_
  rintro e w7 ⟨rfl, hb⟩
  rw [show fiV (some 1) = .tuple #[.int .i64 1, .bool true] from rfl]
  clear HC
  have HBn := Lib.hid hb
  replace HR := Lib.hid (HR.out.later HBn.out)
  replace HBx := Lib.hid (heap_up HBn.out HBx.out)
  replace HA := Lib.hid (HA.out.later HBn.out)
  replace HBb := Lib.hid (HBb.out.later HBn.out)
  replace HZ := Lib.hid (HZ.out.later HBn.out)
  replace HQ := Lib.hid (HQ.out.later HBn.out)
  replace HB := Lib.hid (below_trans HB.out HBn.out)
  clear hb HBn r0 r1 r2
  obtain ⟨r0, r1, r2⟩ := box3 HBx.out
  have HC := Lib.hid (input_any blR L MA MZ _ _ _ _ _ HR.out HA.out HZ.out)
  rw [EMA.out, EMZ.out, blIn2] at HC
  go_wp2_with fail
  refine HC.out.mono ?_
  rintro e w8 ⟨rfl, hb⟩
  rw [show txV (some ⟨#[98]⟩) = .tuple #[.string ⟨#[98]⟩, .bool true] from rfl]
  clear HC
  have HBn := Lib.hid hb
  replace HR := Lib.hid (HR.out.later HBn.out)
  replace HBx := Lib.hid (heap_up HBn.out HBx.out)
  replace HA := Lib.hid (HA.out.later HBn.out)
  replace HBb := Lib.hid (HBb.out.later HBn.out)
  replace HZ := Lib.hid (HZ.out.later HBn.out)
  replace HQ := Lib.hid (HQ.out.later HBn.out)
  replace HB := Lib.hid (below_trans HB.out HBn.out)
  clear hb HBn r0 r1 r2
  obtain ⟨r0, r1, r2⟩ := box3 HBx.out
  have HC := Lib.hid (first_any blR L MA MZ _ _ _ _ _ HR.out HA.out HZ.out)
  rw [EMA.out, EMZ.out, blFi2] at HC
  go_wp2_with fail
  refine HC.out.mono ?_
  rintro e w9 ⟨rfl, hb⟩
  rw [show fiV none = .tuple #[.int .i64 0, .bool false] from rfl]
  clear HC
  have HBn := Lib.hid hb
  replace HR := Lib.hid (HR.out.later HBn.out)
  replace HBx := Lib.hid (heap_up HBn.out HBx.out)
  replace HA := Lib.hid (HA.out.later HBn.out)
  replace HBb := Lib.hid (HBb.out.later HBn.out)
  replace HZ := Lib.hid (HZ.out.later HBn.out)
  replace HQ := Lib.hid (HQ.out.later HBn.out)
  replace HB := Lib.hid (below_trans HB.out HBn.out)
  clear hb HBn r0 r1 r2
  obtain ⟨r0, r1, r2⟩ := box3 HBx.out
  have HC := Lib.hid (wrong_any C0 blR L MQ _ _ _ _ HR.out HQ.out (HG.out.later HB.out) (fun s hs _ => blDo s hs))
  rw [EMQ.out, blWr1] at HC
  go_wp2_with fail
  refine HC.out.mono ?_
  rintro e w10 ⟨rfl, hb⟩
  rw [show fiV (some 0) = .tuple #[.int .i64 0, .bool true] from rfl]
  clear HC
  have HBn := Lib.hid hb
  replace HR := Lib.hid (HR.out.later HBn.out)
  replace HBx := Lib.hid (heap_up HBn.out HBx.out)
  replace HA := Lib.hid (HA.out.later HBn.out)
  replace HBb := Lib.hid (HBb.out.later HBn.out)
  replace HZ := Lib.hid (HZ.out.later HBn.out)
  replace HQ := Lib.hid (HQ.out.later HBn.out)
  replace HB := Lib.hid (below_trans HB.out HBn.out)
  clear hb HBn r0 r1 r2
  obtain ⟨r0, r1, r2⟩ := box3 HBx.out
  have HC := Lib.hid (wrong_any C0 blR L MZ _ _ _ _ HR.out HZ.out (HG.out.later HB.out) (fun s hs _ => blDo s hs))
  rw [EMZ.out, blWr2] at HC
  go_wp2_with fail
  refine HC.out.mono ?_
  rintro e w11 ⟨rfl, hb⟩
  rw [show fiV none = .tuple #[.int .i64 0, .bool false] from rfl]
  clear HC
  have HBn := Lib.hid hb
  replace HR := Lib.hid (HR.out.later HBn.out)
  replace HBx := Lib.hid (heap_up HBn.out HBx.out)
  replace HA := Lib.hid (HA.out.later HBn.out)
  replace HBb := Lib.hid (HBb.out.later HBn.out)
  replace HZ := Lib.hid (HZ.out.later HBn.out)
  replace HQ := Lib.hid (HQ.out.later HBn.out)
  replace HB := Lib.hid (below_trans HB.out HBn.out)
  clear hb HBn r0 r1 r2
  obtain ⟨r0, r1, r2⟩ := box3 HBx.out
  have HC := Lib.hid (textT_any blR L MZ _ _ _ ⟨#[98]⟩ _ HR.out HZ.out (by decide))
  rw [EMZ.out, blTx] at HC
  go_wp2_with fail
  refine HC.out.mono ?_
  rintro e w12 ⟨rfl, hb⟩
  rw [show txV (some ⟨#[122]⟩) = .tuple #[.string ⟨#[122]⟩, .bool true] from rfl]
  clear HC
  have HBn := Lib.hid hb
  replace HR := Lib.hid (HR.out.later HBn.out)
  replace HBx := Lib.hid (heap_up HBn.out HBx.out)
  replace HA := Lib.hid (HA.out.later HBn.out)
  replace HBb := Lib.hid (HBb.out.later HBn.out)
  replace HZ := Lib.hid (HZ.out.later HBn.out)
  replace HQ := Lib.hid (HQ.out.later HBn.out)
  replace HB := Lib.hid (below_trans HB.out HBn.out)
  clear hb HBn r0 r1 r2
  obtain ⟨r0, r1, r2⟩ := box3 HBx.out
  have HC := Lib.hid (chain_any blR L MA MB _ _ _ _ _ HR.out HA.out HBb.out)
  rw [EMA.out, EMB.out, blCh1] at HC
  go_wp2_with fail
  refine HC.out.mono ?_
  rintro e w13 ⟨v, rfl, hI, hb⟩
  obtain ⟨va, vc, rfl⟩ : ∃ a c, v = .slice a 1 c := by obtain ⟨a, c, e, -⟩ := hI; exact ⟨a, c, e⟩
  have HI := Lib.hid hI
  clear HC hI
  have HBn := Lib.hid hb
  replace HR := Lib.hid (HR.out.later HBn.out)
  replace HBx := Lib.hid (heap_up HBn.out HBx.out)
  replace HA := Lib.hid (HA.out.later HBn.out)
  replace HBb := Lib.hid (HBb.out.later HBn.out)
  replace HZ := Lib.hid (HZ.out.later HBn.out)
  replace HQ := Lib.hid (HQ.out.later HBn.out)
  replace HB := Lib.hid (below_trans HB.out HBn.out)
  clear hb HBn r0 r1 r2
  obtain ⟨r0, r1, r2⟩ := box3 HBx.out
  have hbi := below_alloc w13 (.cells #[.int .i64 1] 3)
  have HC := Lib.hid (ints04_any _ _ _ _ _ (HI.out.later hbi) (ints_made [1] (alloc_self w13 _) rfl (by show (1 : Nat) ≤ _; decide)))
  rw [decide_eq_true (show natInts [1] = [1] from rfl)] at HC
  go_wp2_with fail
  refine HC.out.mono ?_
  rintro e w14 ⟨rfl, hb⟩
  replace hb := below_trans hbi hb
  clear HC hbi HI
  have HBn := Lib.hid hb
  replace HR := Lib.hid (HR.out.later HBn.out)
  replace HBx := Lib.hid (heap_up HBn.out HBx.out)
  replace HA := Lib.hid (HA.out.later HBn.out)
  replace HBb := Lib.hid (HBb.out.later HBn.out)
  replace HZ := Lib.hid (HZ.out.later HBn.out)
  replace HQ := Lib.hid (HQ.out.later HBn.out)
  replace HB := Lib.hid (below_trans HB.out HBn.out)
  clear hb HBn r0 r1 r2
  obtain ⟨r0, r1, r2⟩ := box3 HBx.out
  have HC := Lib.hid (chain_any blR L MA MZ _ _ _ _ _ HR.out HA.out HZ.out)
  rw [EMA.out, EMZ.out, blCh2] at HC
  go_wp2_with fail
  refine HC.out.mono ?_
  rintro e w15 ⟨v, rfl, hI, hb⟩
  obtain ⟨va, vc, rfl⟩ : ∃ a c, v = .slice a 2 c := by obtain ⟨a, c, e, -⟩ := hI; exact ⟨a, c, e⟩
  have HI := Lib.hid hI
  clear HC hI
  have HBn := Lib.hid hb
  replace HR := Lib.hid (HR.out.later HBn.out)
  replace HBx := Lib.hid (heap_up HBn.out HBx.out)
  replace HA := Lib.hid (HA.out.later HBn.out)
  replace HBb := Lib.hid (HBb.out.later HBn.out)
  replace HZ := Lib.hid (HZ.out.later HBn.out)
  replace HQ := Lib.hid (HQ.out.later HBn.out)
  replace HB := Lib.hid (below_trans HB.out HBn.out)
  clear hb HBn r0 r1 r2
  obtain ⟨r0, r1, r2⟩ := box3 HBx.out
  have hbi := below_alloc w15 (.cells #[.int .i64 0, .int .i64 1] 3)
  have HC := Lib.hid (ints04_any _ _ _ _ _ (HI.out.later hbi) (ints_made [0, 1] (alloc_self w15 _) rfl (by show (2 : Nat) ≤ _; decide)))
  rw [decide_eq_true (show natInts [0, 1] = [0, 1] from rfl)] at HC
  go_wp2_with fail
  refine HC.out.mono ?_
  rintro e w16 ⟨rfl, hb⟩
  replace hb := below_trans hbi hb
  clear HC hbi HI
  have HBn := Lib.hid hb
  replace HR := Lib.hid (HR.out.later HBn.out)
  replace HBx := Lib.hid (heap_up HBn.out HBx.out)
  replace HA := Lib.hid (HA.out.later HBn.out)
  replace HBb := Lib.hid (HBb.out.later HBn.out)
  replace HZ := Lib.hid (HZ.out.later HBn.out)
  replace HQ := Lib.hid (HQ.out.later HBn.out)
  replace HB := Lib.hid (below_trans HB.out HBn.out)
  clear hb HBn r0 r1 r2
  obtain ⟨r0, r1, r2⟩ := box3 HBx.out
  have HF1 := Lib.hid (fits_any blR L MZ _ _ _ w16.drew (HR.out.later (Below.refl _ _).drew) (HZ.out.later (Below.refl _ _).drew))
  rw [EMZ.out, blFit] at HF1
  go_wp2_with fail
  go_region_held3 (fun W => W.cell? ⟨p, 0, none⟩ = some (.slice ai blR.inputs.length ci) ∧ W.cell? ⟨p, 1, none⟩ = some (.slice av L.length cv) ∧ W.cell? ⟨p, 2, none⟩ = some (.string blR.output))
    (first | exact ⟨r0, r1, r2⟩ | (with_reducible exact HS1.out) | (with_reducible exact HS2.out) | (with_reducible exact HS3.out) | go_keep)
    (first | (go_at_call 39; (with_reducible refine HF1.out.mono ?_); rintro e wa ⟨rfl, hb⟩; have HBa : Hid (Below w16.heap.size w16 wa) := Lib.hid ((Below.refl _ w16).drew.trans hb); have HS1 : Hid (_ ∧ _ ∧ _) := Lib.hid ⟨cell_later HBa.out r0, cell_later HBa.out r1, cell_later HBa.out r2⟩; clear hb) | (have _g := HBa; go_at_call 69; refine (done_any ⟨#[122]⟩ ⟨#[122, 120]⟩ ⟨#[]⟩ _ (by decide) (by decide) (by decide)).mono ?_; rintro e wb ⟨gb, M, rfl, hD, hM, hb⟩; have HBc : Hid (Below w16.heap.size w16 wb) := Lib.hid (below_trans HBa.out hb); have HDn := Lib.hid hD; have EM := Lib.hid hM; have HS2 : Hid (_ ∧ _ ∧ _) := Lib.hid ⟨cell_later HBc.out r0, cell_later HBc.out r1, cell_later HBc.out r2⟩; clear hb hD hM) | (have _g := HDn; go_at_call 39; refine (fits_any blR L (M.take 1) _ _ _ _ (HR.out.later HBc.out) (HDn.out.take1 (by have := congrArg List.length EM.out; simpa [blDone] using this))).mono ?_; rintro e wc ⟨rfl, hb⟩; have HBd : Hid (Below w16.heap.size w16 wc) := Lib.hid (below_trans HBc.out hb); have HS3 : Hid (_ ∧ _ ∧ _) := Lib.hid ⟨cell_later HBd.out r0, cell_later HBd.out r1, cell_later HBd.out r2⟩; clear hb))
  all_goals
    have hm : (readL blR ((M.map (·.2)).take 1)).isNone = true := by rw [EM.out]; kernel_rfl
    rw [hm]
    go_wp2_with fail
    go_ret
    exact ⟨rfl, below_trans HB.out HBd.out⟩
end Go.Proofs.YtacgopankhpnbaaGreatDoor
/- What BlameFinds asks of a chain, in plain words. No program in sight. -/
namespace Go.Proofs.YtacgopankhpnbaaGreatDoor

/-- The step that writes the k-th file of a list. -/
def srcW (steps : List Stp) (src : List ByteArray) (k : Nat) : Int := wIdx (match src[k]? with
  | some n => writerOf steps n
  | none => none)
theorem srcW_at {steps : List Stp} {src : List ByteArray} {k : Nat} {n : ByteArray} (h : src[k]? = some n) : srcW steps src k = wIdx (writerOf steps n) := by unfold srcW; rw [h]
def thrAt (steps : List Stp) (src xs ys : List ByteArray) (i : Nat) (prev : Int) (k : Nat) : Bool := decide (xs[k]? ≠ ys[k]?) && (decide (0 < i) && decide (srcW steps src k = prev))
def inpAt (steps : List Stp) (src xs ys : List ByteArray) (k : Nat) : Bool := decide (xs[k]? ≠ ys[k]?) && decide (srcW steps src k < 0)
/-- The law's 'through' and 'input' behind k texts. -/
def thrTo (steps : List Stp) (src xs ys : List ByteArray) (i : Nat) (prev : Int) (k : Nat) : Bool := (List.range k).any (thrAt steps src xs ys i prev)
def inpTo (steps : List Stp) (src xs ys : List ByteArray) (k : Nat) : Bool := (List.range k).any (inpAt steps src xs ys)
theorem thrTo_succ (steps : List Stp) (src xs ys : List ByteArray) (i : Nat) (prev : Int) (k : Nat) : thrTo steps src xs ys i prev (k + 1) = (thrTo steps src xs ys i prev k || thrAt steps src xs ys i prev k) := by
  unfold thrTo; rw [List.range_succ, List.any_append]; simp
theorem inpTo_succ (steps : List Stp) (src xs ys : List ByteArray) (k : Nat) : inpTo steps src xs ys (k + 1) = (inpTo steps src xs ys k || inpAt steps src xs ys k) := by
  unfold inpTo; rw [List.range_succ, List.any_append]; simp
theorem thrTo_of {steps : List Stp} {src xs ys : List ByteArray} {i p k : Nat} {n x y : ByteArray} (hi : 0 < i) (hn : src[k]? = some n) (hw : writerOf steps n = some p) (hx : xs[k]? = some x) (hy : ys[k]? = some y) (hne : x ≠ y) : thrTo steps src xs ys i (p : Int) xs.length = true := by
  unfold thrTo
  rw [List.any_eq_true]
  refine ⟨k, List.mem_range.2 (List.getElem?_eq_some_iff.1 hx).1, ?_⟩
  unfold thrAt
  rw [hx, hy, srcW_at hn, hw]
  simp [hne, hi, wIdx]
theorem inpTo_of {steps : List Stp} {src xs ys : List ByteArray} {k : Nat} {n x y : ByteArray} (hn : src[k]? = some n) (hw : writerOf steps n = none) (hx : xs[k]? = some x) (hy : ys[k]? = some y) (hne : x ≠ y) : inpTo steps src xs ys xs.length = true := by
  unfold inpTo
  rw [List.any_eq_true]
  refine ⟨k, List.mem_range.2 (List.getElem?_eq_some_iff.1 hx).1, ?_⟩
  unfold inpAt
  rw [hx, hy, srcW_at hn, hw]
  simp [hne, wIdx]

/-- What is known of the i-th step of the chain. -/
structure LinkOk (r : Rcp) (la lb : List Dn) (X Y : RSt) (px py : Nat → Nat) (c : List Nat) (i j : Nat) : Prop where
  lt : j < r.steps.length
  seenA : seenI la (j : Int) = some (px j)
  seenB : seenI lb (j : Int) = some (py j)
  atA : la[px j]? = some (X.of j)
  atB : lb[py j]? = some (Y.of j)
  out : (X.of j).out ≠ (Y.of j).out
  len : (X.of j).saw.length = (Y.of j).saw.length
  few : ∀ s, r.steps[j]? = some s → (X.of j).saw.length ≤ s.src.length
  back : 0 < i → ∃ p, c[i - 1]? = some p ∧ ∀ s, r.steps[j]? = some s → thrTo r.steps s.src (X.of j).saw (Y.of j).saw i (p : Int) (X.of j).saw.length = true
  first : i = 0 → (X.of j).saw = (Y.of j).saw ∨ ∀ s, r.steps[j]? = some s → inpTo r.steps s.src (X.of j).saw (Y.of j).saw (X.of j).saw.length = true
section
variable {r : Rcp} {la lb : List Dn} {X Y : RSt} {px py : Nat → Nat} {e : Nat} {L : List Nat}
theorem chain_link (hx : FitsR r la X px) (hy : FitsR r lb Y py) (h : ChainIs r X Y e L) {i j : Nat} (hi : L.reverse[i]? = some j) : LinkOk r la lb X Y px py L.reverse i j := by
  have hil : i < L.length := by have := (List.getElem?_eq_some_iff.1 hi).1; simpa using this
  rw [List.getElem?_reverse hil] at hi
  obtain ⟨h1, h2, h3⟩ := h.at_ _ _ hi
  have hs := List.getElem?_eq_getElem h1
  obtain ⟨l1, l2⟩ := saw_len hx hy hs
  refine ⟨h1, hx.seen h1, hy.seen h1, (hx.at_ hs).1, (hy.at_ hs).1, h2, by rw [l1, l2], fun s hs' => ?_, fun h0 => ?_, fun h0 => ?_⟩
  · rw [hs] at hs'; cases hs'; rw [l1]; exact sees_le _
  · have hk : L.length - 1 - i + 1 < L.length := by omega
    rw [List.getElem?_eq_getElem hk] at h3
    obtain ⟨-, -, -, k, n, x, y, a1, a2, a3, a4, a5⟩ := chainNext_some hx hy hs h3
    refine ⟨L[L.length - 1 - i + 1], ?_, fun s hs' => ?_⟩
    · rw [List.getElem?_reverse (by omega), show L.length - 1 - (i - 1) = L.length - 1 - i + 1 by omega]
      exact List.getElem?_eq_getElem hk
    · rw [hs] at hs'; cases hs'
      exact thrTo_of h0 a1 a2 a3 a4 a5
  · subst h0
    rw [show L.length - 1 - 0 + 1 = L.length by omega, List.getElem?_eq_none (Nat.le_refl _)] at h3
    rcases chainNext_none hx hy hs h3 with h4 | ⟨k, n, x, y, a1, a2, a3, a4, a5, -⟩
    · exact .inl h4
    · right
      intro s hs'
      rw [hs] at hs'; cases hs'
      exact inpTo_of a1 a2 a3 a4 a5
/-- The law's facts, where the output differs. -/
theorem chain_whole (hx : FitsR r la X px) (hy : FitsR r lb Y py) (hw : writerOf r.steps r.output = some e) (hd : (X.of e).out ≠ (Y.of e).out) :
    ∃ c, chainL r X Y = c ∧ 0 < c.length ∧ c.length ≤ r.steps.length ∧ c[c.length - 1]? = some e ∧ (∀ i j, c[i]? = some j → LinkOk r la lb X Y px py c i j) ∧ ((inputL r X Y).isSome || (firstL r X Y).isSome) = true := by
  obtain ⟨L, h1, h2⟩ := chainL_is hx hy hw hd
  have hpos : 0 < L.length := (List.getElem?_eq_some_iff.1 h2.head).1
  refine ⟨L.reverse, h1, by simpa using hpos, by simpa using h2.len, ?_, fun i j hi => chain_link hx hy h2 hi, ?_⟩
  · rw [List.length_reverse, List.getElem?_reverse (by omega), show L.length - 1 - (L.length - 1) = 0 by omega]; exact h2.head
  · rcases found hx hy h2 with h | h <;> simp [h]
theorem chainL_same (hw : ∀ e, writerOf r.steps r.output = some e → (X.of e).out = (Y.of e).out) : chainL r X Y = [] := by
  unfold chainL
  cases hq : writerOf r.steps r.output with
  | none => rfl
  | some e => simp only; rw [if_pos (hw e hq)]
/-- What the first step that is found is. -/
theorem first_ok (hx : FitsR r la X px) (hy : FitsR r lb Y py) {i : Nat} (h : firstL r X Y = some i) :
    i < r.steps.length ∧ seenI la (i : Int) = some (px i) ∧ seenI lb (i : Int) = some (py i) ∧ la[px i]? = some (X.of i) ∧ lb[py i]? = some (Y.of i) ∧ (X.of i).saw = (Y.of i).saw ∧ (X.of i).out ≠ (Y.of i).out := by
  obtain ⟨h1, h2, h3⟩ := firstL_some h
  have hs := List.getElem?_eq_getElem h1
  exact ⟨h1, hx.seen h1, hy.seen h1, (hx.at_ hs).1, (hy.at_ hs).1, h2, h3⟩
end
end Go.Proofs.YtacgopankhpnbaaGreatDoor
