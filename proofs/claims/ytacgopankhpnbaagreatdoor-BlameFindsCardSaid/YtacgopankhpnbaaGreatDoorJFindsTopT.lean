/- Texts of this seat, joined: LawA, LawB, LawC. -/
import Derived.Test.YtacgopankhpnbaaGreatDoorJFindsTopO
import Derived.Test.YtacgopankhpnbaaGreatDoorJFindsTopG
import Derived.WalkLawsBesides
import Derived.Sort.Walk0
/- Walks of ladinglaw32: last, files; step.Pure. -/
namespace Go.Proofs.YtacgopankhpnbaaGreatDoor
open Go.RowKit

theorem fils_made {w : World} {g : Nat} {cs : Array Value} {t : TypeId} {fr : Nat × Nat} (l : List Fil) (h : w.heap[g]? = some (.cells cs t fr)) (hcs : cs.toList = filCells l) (hl : l.length ≤ 140737488355328)
    (hz : ∀ f, f ∈ l → f.name.size ≤ 140737488355328 ∧ f.text.size ≤ 140737488355328) : Fils w (.slice (some ⟨g, 0, none⟩) l.length l.length) l := by
  refine ⟨_, l.length, rfl, Nat.le_refl _, by omega, fun _ => ⟨g, 0, rfl, fun i f hf => ⟨[.string f.name, .string f.text], ⟨rfl, hz f (List.mem_of_getElem? hf)⟩, rfl, fun j u hu => ?_⟩⟩⟩
  obtain ⟨c1, c2⟩ := filCells_at l i f hf
  rw [← hcs] at c1 c2
  match j, hu with
  | 0, hu => cases hu; simp only [World.cell?, h]; simpa using c1
  | 1, hu => cases hu; simp only [World.cell?, h]; simpa using c2
theorem strs_made {w : World} {g : Nat} {cs : Array Value} {t : TypeId} {fr : Nat × Nat} (l : List ByteArray) (h : w.heap[g]? = some (.cells cs t fr)) (hcs : cs.toList = l.map Value.string) (hl : l.length ≤ 140737488355328)
    (hz : ∀ x, x ∈ l → x.size ≤ 140737488355328) : Strs w (.slice (some ⟨g, 0, none⟩) l.length l.length) l := by
  refine ⟨_, l.length, rfl, Nat.le_refl _, by omega, fun _ => ⟨g, 0, rfl, fun i x hx => ⟨[.string x], ⟨rfl, hz x (List.mem_of_getElem? hx)⟩, rfl, fun j u hu => ?_⟩⟩⟩
  match j, hu with
  | 0, hu =>
    cases hu
    have h1 : cs.toList[i]? = some (.string x) := by rw [hcs]; simp [hx]
    simp only [World.cell?, h]; simpa using h1
theorem ints_made {w : World} {g : Nat} {cs : Array Value} {t : TypeId} {fr : Nat × Nat} (l : List Int) (h : w.heap[g]? = some (.cells cs t fr)) (hcs : cs.toList = l.map (Value.int .i64)) (hl : l.length ≤ 140737488355328) : Ints w (.slice (some ⟨g, 0, none⟩) l.length l.length) l := by
  refine ⟨_, l.length, rfl, Nat.le_refl _, by omega, fun _ => ⟨g, 0, rfl, fun i x hx => ⟨[.int .i64 x], rfl, rfl, fun j u hu => ?_⟩⟩⟩
  match j, hu with
  | 0, hu =>
    cases hu
    have h1 : cs.toList[i]? = some (.int .i64 x) := by rw [hcs]; simp [hx]
    simp only [World.cell?, h]; simpa using h1
theorem strs_nil (w : World) : Strs w (.slice none 0 0) [] := ⟨none, 0, rfl, by simp, by simp, fun h => absurd rfl h⟩
theorem ints_nil (w : World) : Ints w (.slice none 0 0) [] := ⟨none, 0, rfl, by simp, by simp, fun h => absurd rfl h⟩

/-- ladinglaw32.last -/
def lastText (l : List Fil) : ByteArray := match l.getLast? with | none => ByteArray.empty | some f => f.text

theorem last_any (l : List Fil) (v : Value) (w : World) (hv : Fils w v l) :
    Calls Tryz.prog 22 #[v] w fun e w' => e = .returned (.string (lastText l)) ∧ w = w' := by
  rcases hv.cases with ⟨rfl, a, c, rfl⟩ | ⟨b, o, c, rfl, h0, h1, h2, hb, hc⟩
  · go_enter Tryz.func22, Tryz.ntmps22
    go_wp2_with fail
    go_ret
    exact ⟨rfl, rfl⟩
  · obtain ⟨n, hn⟩ : ∃ n, l.length = n + 1 := ⟨l.length - 1, by omega⟩
    obtain ⟨f, hf, -⟩ := getElem?_of_lt (l := l) (k := n) (by omega)
    obtain ⟨-, c2, -, -⟩ := hc n f hf
    have HL := Lib.hid (show lastText l = f.text by
      unfold lastText; rw [List.getLast?_eq_getElem?, hn]; simp [hf])
    rw [HL.out]
    rw [hn] at h1 ⊢
    clear hc hf hv HL hn h0
    go_enter Tryz.func22, Tryz.ntmps22
    go_wp2_with fail
    go_ret
    exact ⟨rfl, rfl⟩

theorem files_any (w : World) :
    Calls Tryz.prog 50 #[] w fun e w' => ∃ v, e = .returned v ∧ Fils w' v lawFiles ∧ Below w.heap.size w w' := by
  go_enter Tryz.func50, Tryz.ntmps50
  go_wp2_with fail
  go_ret
  exact ⟨_, rfl, fils_made lawFiles (alloc_self _ _) rfl (by decide) (fun f hf => by simp [lawFiles] at hf; rcases hf with rfl | rfl <;> decide), below_alloc _ _⟩
end Go.Proofs.YtacgopankhpnbaaGreatDoor
/- Walks of ladinglaw32: lines. -/
namespace Go.Proofs.YtacgopankhpnbaaGreatDoor
open Go.RowKit

/-- What ladinglaw32.lines keeps. -/
structure LSt where
  n : Nat
  fr : Nat
  before : ByteArray
  rising : Bool

/-- 'a <= b' on strings. -/
def leStr (a b : ByteArray) : Bool := decide (a.data.toList ≤ b.data.toList)

def linesStep (s : ByteArray) (st : LSt) (i : Nat) : LSt :=
  if s.data.toList.getD i 0 = 10 then ⟨st.n + 1, i + 1, s.extract st.fr i, (if st.n = 0 then true else st.rising) && (decide (st.n = 0) || leStr st.before (s.extract st.fr i))⟩ else st
def linesAt (s : ByteArray) : Nat → LSt
  | 0 => ⟨0, 0, ByteArray.empty, s.toList.isEmpty⟩
  | k + 1 => linesStep s (linesAt s k) k
/-- ladinglaw32.lines -/
def linesN (s : ByteArray) : Nat := (linesAt s s.size).n
def linesOk (s : ByteArray) : Bool := (linesAt s s.size).rising && decide ((linesAt s s.size).fr = s.size)

theorem linesAt_bounds (s : ByteArray) : ∀ k, (linesAt s k).n ≤ k ∧ (linesAt s k).fr ≤ k
  | 0 => ⟨Nat.le_refl _, Nat.le_refl _⟩
  | k + 1 => by
    have := linesAt_bounds s k
    rw [linesAt, linesStep]
    split
    · exact ⟨by simp; omega, Nat.le_refl _⟩
    · exact ⟨by omega, by omega⟩

theorem byte_ne {c : UInt8} (h : ((c.toNat : Int) != 10) = true) : ¬ c = 10 := by
  intro e; subst e; simp at h
theorem byte_eq {c : UInt8} (h : ((c.toNat : Int) != 10) = false) : c = 10 := by
  have h1 : (c.toNat : Int) = 10 := by simpa using h
  apply UInt8.toNat_inj.1; simp; omega
theorem size_zero (s : ByteArray) : ((s.size : Int) == 0) = s.toList.isEmpty := by
  rw [toList_eq, Bool.eq_iff_iff]
  have : s.data.toList.length = s.size := by simp
  simp only [beq_iff_eq, List.isEmpty_iff, ← List.length_eq_zero_iff, this]; omega
theorem le_spelled (a b : ByteArray) : (Op.bytesLess a.toList b.toList || a.toList == b.toList) = leStr a b := by
  rw [bytesLess_eq, toList_eq, toList_eq, leStr, Bool.eq_iff_iff]
  simp only [Bool.or_eq_true, decide_eq_true_eq, beq_iff_eq]
  exact List.le_iff_lt_or_eq.symm
theorem rising_a {n : Nat} {ri le : Bool} (h : ((n : Int) == 0) = true) : true = ((if n = 0 then true else ri) && (decide (n = 0) || le)) := by
  have : n = 0 := by simpa using h
  simp [this]
theorem rising_b {n : Nat} {ri le x : Bool} (h : ((n : Int) == 0) = false) (hr : ri = true) (hle : x = le) : x = ((if n = 0 then true else ri) && (decide (n = 0) || le)) := by
  have : n ≠ 0 := by simpa using h
  simp [this, hr, hle]
theorem rising_c {n : Nat} {ri le : Bool} (h : ((n : Int) == 0) = false) (hr : ¬ ri = true) : false = ((if n = 0 then true else ri) && (decide (n = 0) || le)) := by
  have : n ≠ 0 := by simpa using h
  have hr' : ri = false := by simpa using hr
  simp [this, hr']
theorem ok_a {ri OK : Bool} {fr z : Nat} (h : OK = (ri && decide (fr = z))) (hr : ri = true) : ((fr : Int) == (z : Int)) = OK := by
  rw [h, hr, Bool.eq_iff_iff]; simp; omega
theorem ok_b {ri OK : Bool} {fr z : Nat} (h : OK = (ri && decide (fr = z))) (hr : ¬ ri = true) : false = OK := by
  have hr' : ri = false := by simpa using hr
  rw [h, hr']; rfl
set_option maxHeartbeats 1000000 in
theorem lines_any (s : ByteArray) (w : World) (hs : s.size ≤ 140737488355328) :
    Calls Tryz.prog 23 #[.string s] w fun e w' => e = .returned (.tuple #[.int .i64 (linesN s), .bool (linesOk s)]) ∧ w = w' := by
  have hN : linesN s = (linesAt s s.size).n := rfl
  have hK : linesOk s = ((linesAt s s.size).rising && decide ((linesAt s s.size).fr = s.size)) := rfl
  have HN := Lib.hid hN; clear hN
  have HK := Lib.hid hK; clear hK
  generalize linesN s = N at HN ⊢
  generalize linesOk s = OK at HK ⊢
  have hz : ((s.size : Int) == 0) = s.toList.isEmpty := size_zero s
  go_enter Tryz.func23, Tryz.ntmps23
  go_wp2_with fail
  go_loop [4, 5, 6, 7, 8] (fun n fr be ri i => ∃ k : Nat, k ≤ s.size ∧ i = .int .i64 k ∧ n = .int .i64 (linesAt s k).n ∧ fr = .int .i64 (linesAt s k).fr ∧ be = .string (linesAt s k).before ∧ ri = .bool (linesAt s k).rising) (fun _ _ _ _ i => s.size - (intOf i).toNat)
  case atStart => exact ⟨0, Nat.zero_le _, rfl, rfl, rfl, rfl, rfl⟩
  case round =>
    obtain ⟨k, hk, rfl, rfl, rfl, rfl, rfl⟩ := hrel
    obtain ⟨b1, b2⟩ := linesAt_bounds s k
    have hSt : linesAt s (k + 1) = linesStep s (linesAt s k) k := rfl
    have HSt := Lib.hid hSt; clear hSt
    generalize hst : linesAt s k = st at b1 b2 HSt
    obtain ⟨n, fr, be, ri⟩ := st
    have HST := Lib.hid hst; clear hst
    simp only at b1 b2 ⊢
    by_cases hlt : k < s.size
    · have hget : s.data.toList.getD k 0 = s[k] := by
        rw [List.getD_eq_getElem?_getD, List.getElem?_eq_getElem (by simpa using hlt)]; rfl
      have HGet := Lib.hid hget; clear hget
      go_wp2_with fail
      · go_round
        case rel =>
          have h10 : ¬ s.data.toList.getD k 0 = 10 := by rw [HGet.out]; exact byte_ne ‹_›
          have e := HSt.out
          rw [linesStep, if_neg h10] at e
          exact ⟨k + 1, by omega, by go_num, by rw [e], by rw [e], by rw [e], by rw [e]⟩
        case measure => simp [intOf]; omega
      · have h10 : s.data.toList.getD k 0 = 10 := by rw [HGet.out]; exact byte_eq ‹_›
        have e := HSt.out
        rw [linesStep, if_pos h10] at e
        simp only at e
        have HE := Lib.hid e
        clear e h10
        go_round
        case rel => exact ⟨k + 1, by omega, by go_num, by rw [HE.out]; go_num, by rw [HE.out]; go_num, by rw [HE.out], by rw [HE.out]; exact congrArg Value.bool (rising_a ‹_›)⟩
        case measure => simp [intOf]; omega
      · have h10 : s.data.toList.getD k 0 = 10 := by rw [HGet.out]; exact byte_eq ‹_›
        have e := HSt.out
        rw [linesStep, if_pos h10] at e
        simp only at e
        have HE := Lib.hid e
        clear e h10
        go_round
        case rel => exact ⟨k + 1, by omega, by go_num, by rw [HE.out]; go_num, by rw [HE.out]; go_num, by rw [HE.out], by rw [HE.out]; exact congrArg Value.bool (rising_b ‹_› ‹_› (le_spelled _ _))⟩
        case measure => simp [intOf]; omega
      · have h10 : s.data.toList.getD k 0 = 10 := by rw [HGet.out]; exact byte_eq ‹_›
        have e := HSt.out
        rw [linesStep, if_pos h10] at e
        simp only at e
        have HE := Lib.hid e
        clear e h10
        go_round
        case rel => exact ⟨k + 1, by omega, by go_num, by rw [HE.out]; go_num, by rw [HE.out]; go_num, by rw [HE.out], by rw [HE.out]; exact congrArg Value.bool (rising_c ‹_› ‹_›)⟩
        case measure => simp [intOf]; omega
    · obtain rfl : k = s.size := by omega
      rw [HST.out] at HN HK
      simp only at HN HK
      have HNN := HN.out
      go_wp2_with fail
      · go_ret2
        exact ⟨congrArg (fun b => Ending.returned (.tuple #[.int .i64 (n : Int), .bool b])) (ok_a HK.out ‹_›), rfl⟩
      · go_ret2
        exact ⟨congrArg (fun b => Ending.returned (.tuple #[.int .i64 (n : Int), .bool b])) (ok_b HK.out ‹_›), rfl⟩
end Go.Proofs.YtacgopankhpnbaaGreatDoor
/- Walks: step.Pure. -/
namespace Go.Proofs.YtacgopankhpnbaaGreatDoor
open Go.RowKit

set_option maxHeartbeats 1000000 in
theorem stepPure_any (s : Stp) (vf : Value) (w : World) (hv : Strs w vf s.src) (hto : s.out.size ≤ 140737488355328) :
    Calls Tryz.prog 18 #[.agg #[.int .i64 s.kind, vf, .string s.out, .bool s.sorted]] w fun e w' => e = .returned (.bool (stepPure s)) ∧ Below w.heap.size w w' := by
  have HR : Hid (∀ W, Below w.heap.size w W → Calls Tryz.prog 24 #[.agg #[.int .i64 s.kind, vf, .string s.out, .bool s.sorted]] W fun e w' => e = .returned (.bool (stepRight s)) ∧ Below W.heap.size W w') :=
    Lib.hid fun W hb => stepRight_any s vf W (hv.later hb) hto
  have hP : stepPure s = (stepRight s && decide (s.kind ≠ 4) && (decide (s.kind ≠ 2) || s.sorted)) := rfl
  have HP := Lib.hid hP; clear hP
  generalize stepPure s = P at HP ⊢
  generalize stepRight s = r at HP HR
  obtain ⟨kind, src, out, sorted⟩ := s
  obtain ⟨a, c, hvv, -⟩ := hv
  simp only at hvv HR HP ⊢
  subst hvv
  cases r with
  | false =>
    go_enter Tryz.func18, Tryz.ntmps18
    go_wp2_with fail
    refine (HR.out _ (below_alloc _ _)).mono ?_
    rintro e w1 ⟨rfl, hb⟩
    go_wp2_with fail
    go_ret
    exact ⟨ret_bool (by rw [HP.out]; rfl), below_trans (below_alloc _ _) hb⟩
  | true =>
    have b4 : (kind == 4) = decide (kind = 4) := by rw [Bool.eq_iff_iff]; simp
    by_cases k4 : kind = 4
    · subst k4
      clear b4
      go_enter Tryz.func18, Tryz.ntmps18
      go_wp2_with fail
      refine (HR.out _ (below_alloc _ _)).mono ?_
      rintro e w1 ⟨rfl, hb⟩
      obtain ⟨hcc, hff⟩ := bcell hb
      go_wp2_with fail
      go_ret
      exact ⟨ret_bool (by rw [HP.out]; rfl), below_trans (below_alloc _ _) hb⟩
    · have n4 : (kind != 4) = true := by rw [bne_iff_ne]; exact k4
      have HK4 := Lib.hid k4
      clear b4 k4
      by_cases k2 : kind = 2
      · subst k2
        clear n4
        go_enter Tryz.func18, Tryz.ntmps18
        go_wp2_with fail
        refine (HR.out _ (below_alloc _ _)).mono ?_
        rintro e w1 ⟨rfl, hb⟩
        obtain ⟨hcc, hff⟩ := bcell hb
        go_wp2_with fail
        go_ret
        exact ⟨ret_bool (by rw [HP.out]; rfl), below_trans (below_alloc _ _) hb⟩
      · have n2 : (kind != 2) = true := by rw [bne_iff_ne]; exact k2
        have HK2 := Lib.hid k2
        clear k2
        go_enter Tryz.func18, Tryz.ntmps18
        go_wp2_with fail
        refine (HR.out _ (below_alloc _ _)).mono ?_
        rintro e w1 ⟨rfl, hb⟩
        obtain ⟨hcc, hff⟩ := bcell hb
        go_wp2_with fail
        go_ret
        exact ⟨ret_bool (by rw [HP.out, decide_eq_true HK4.out, decide_eq_true HK2.out]; rfl), below_trans (below_alloc _ _) hb⟩
end Go.Proofs.YtacgopankhpnbaaGreatDoor
