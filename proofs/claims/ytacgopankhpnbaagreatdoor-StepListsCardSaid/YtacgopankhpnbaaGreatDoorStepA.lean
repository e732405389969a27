/- Walks of package step: isName and the library's searches that call it. -/
import Derived.Test.YtacgopankhpnbaaGreatDoorPre
import Derived.Test.YtacgopankhpnbaaGreatDoorStepSpec
namespace Go.Proofs.YtacgopankhpnbaaGreatDoor
open Go.RowKit

theorem isName_bad (s : ByteArray) (k : Nat) (h : k < s.size) (hb : (s[k].toNat : Int) < 33 ∨ 126 < (s[k].toNat : Int)) : isName s = false := by
  have hf : s.data.toList.all nameByte = false := by
    rw [List.all_eq_false]
    refine ⟨s[k], ?_, ?_⟩
    · have : s[k] = s.data.toList[k]'(by simpa using h) := rfl
      rw [this]; exact List.getElem_mem _
    · simp [nameByte]; omega
  simp [isName, hf]
theorem isName_empty (s : ByteArray) (h : s.toList = []) : isName s = false := by simp [isName, h]
theorem isName_full (s : ByteArray) (h : s.data.toList.all nameByte = true) (hne : ¬ s.toList = []) : isName s = decide (s.size ≤ 20) := by
  have h2 : s.toList.isEmpty = false := by cases hh : s.toList with
    | nil => exact absurd hh hne
    | cons => rfl
  rw [isName, h, h2]; simp

theorem notEmpty_and {s : ByteArray} {a b : Bool} (h : ¬ s.toList = []) (e : a = b) : (!s.toList.isEmpty && a) = b := by
  cases hh : s.toList with
  | nil => exact absurd hh h
  | cons => simpa using e
set_option maxHeartbeats 400000 in
theorem isName_any (s : ByteArray) (w : World) (hs : s.size ≤ 140737488355328) :
    Calls Tryz.prog 56 #[.string s] w fun e w' => e = .returned (.bool (isName s)) ∧ w = w' := by
  go_enter Tryz.func56, Tryz.ntmps56
  go_wp2
  go_loop [6] (fun i => ∃ k : Nat, k ≤ s.size ∧ i = .int .i64 k ∧ (s.data.toList.take k).all nameByte = true) (fun i => s.size - (intOf i).toNat)
  case atStart => exact ⟨0, Nat.zero_le _, rfl, rfl⟩
  case round =>
    obtain ⟨k, hk, rfl, hall⟩ := hrel
    have HA := Lib.hid hall; clear hall
    go_wp2
    · go_ret
      exact ⟨ret_bool (isName_bad s k ‹_› ‹_›).symm, rfl⟩
    · go_round
      case rel => exact ⟨k + 1, by omega, by go_num, by rw [take_snoc s k ‹_›, List.all_append, HA.out]; simp [nameByte]; omega⟩
      case measure => simp [intOf]; omega
    · go_ret
      exact ⟨ret_bool (isName_bad s k ‹_› (Or.inl ‹_›)).symm, rfl⟩
    · go_ret
      exact ⟨ret_bool (isName_empty s ‹_›).symm, rfl⟩
    · have hk' : k = s.size := by omega
      subst hk'
      go_ret
      have h1 := HA.out
      rw [List.take_of_length_le (by simp)] at h1
      exact ⟨ret_bool (by rw [isName_full s h1 ‹_›]; exact notEmpty_and ‹_› (by simp; omega)), rfl⟩

theorem right1_any (s : ByteArray) (w : World) (hs : s.size ≤ 140737488355328) :
    Calls Tryz.prog 58 #[.string s] w fun e w' => e = .returned (.bool (!isName s)) ∧ w = w' := by
  go_enter Tryz.func58, Tryz.ntmps58
  go_wp2_with (go_at_call 56; refine (isName_any _ _ hs).mono ?_; rintro e w' ⟨rfl, rfl⟩)
  go_ret
  exact ⟨rfl, rfl⟩

/-- What a search of the library's asks of a function value: at each element of the list, in every later world, it answers 'p x' and changes nothing that was there. -/
def Tests {α : Type} (P : Program) (g : FuncId) (cap : Array Value) (enc : α → Value) (p : α → Bool) (l : List α) (w : World) : Prop :=
  ∀ x, x ∈ l → ∀ W, Below w.heap.size w W → Calls P g (#[enc x] ++ cap) W fun e W' => e = .returned (.bool (p x)) ∧ Below W.heap.size W W'

theorem findIdx_hit {α : Type} {p : α → Bool} {l : List α} {k : Nat} {x : α} (hx : l[k]? = some x) (hp : p x = true) (hno : ∀ y, y ∈ l.take k → p y = false) : l.findIdx? p = some k := by
  rw [List.findIdx?_eq_some_iff_getElem]
  obtain ⟨h, rfl⟩ := List.getElem?_eq_some_iff.1 hx
  refine ⟨h, hp, fun j hj => ?_⟩
  have := hno l[j] (by rw [List.mem_take_iff_getElem]; exact ⟨j, by omega, rfl⟩)
  simp [this]
theorem take_no {α : Type} {p : α → Bool} {l : List α} {k : Nat} {x : α} (hx : l[k]? = some x) (hp : p x = false) (hno : ∀ y, y ∈ l.take k → p y = false) : ∀ y, y ∈ l.take (k + 1) → p y = false := by
  intro y hy
  rw [List.take_add_one, List.mem_append] at hy
  rcases hy with hy | hy
  · exact hno y hy
  · rw [hx] at hy; simp at hy; rw [hy]; exact hp
theorem findIdx_miss {α : Type} {p : α → Bool} {l : List α} {k : Nat} (hk : l.length ≤ k) (hno : ∀ y, y ∈ l.take k → p y = false) : l.findIdx? p = none := by
  rw [List.findIdx?_eq_none_iff]
  intro x hx
  rw [List.take_of_length_le hk] at hno
  simp [hno x hx]
/-- What the library's IndexFunc returns. -/
def idxOf {α : Type} (p : α → Bool) (l : List α) : Int := match l.findIdx? p with | some i => (i : Int) | none => -1
theorem idxOf_some {α : Type} {p : α → Bool} {l : List α} {k : Nat} (h : l.findIdx? p = some k) : idxOf p l = k := by unfold idxOf; rw [h]
theorem idxOf_none {α : Type} {p : α → Bool} {l : List α} (h : l.findIdx? p = none) : idxOf p l = -1 := by unfold idxOf; rw [h]
theorem idxOf_any {α : Type} (p : α → Bool) (l : List α) : decide (0 ≤ idxOf p l) = l.any p := by
  unfold idxOf
  cases h : l.findIdx? p with
  | none =>
    rw [List.findIdx?_eq_none_iff] at h
    have : l.any p = false := by rw [List.any_eq_false]; intro x hx; simp [h x hx]
    rw [this]; rfl
  | some i =>
    obtain ⟨hi, hp, -⟩ := List.findIdx?_eq_some_iff_getElem.1 h
    have : l.any p = true := List.any_eq_true.2 ⟨_, List.getElem_mem hi, hp⟩
    rw [this]; simp

set_option maxHeartbeats 400000 in
theorem indexFunc_str (g : FuncId) (cap : Array Value) (p : ByteArray → Bool) (l : List ByteArray) (v : Value) (w : World) (hv : Strs w v l)
    (eg : ∀ args w, (callFunc g args).run Tryz.prog w = .ok (.enter g args) w) (hp : Tests Tryz.prog g cap Value.string p l w) :
    Calls Tryz.prog 88 #[v, .func (.func g) #[] cap] w fun e w' => e = .returned (.int .i64 (idxOf p l)) ∧ Below w.heap.size w w' := by
  have HP := Lib.hid hp; clear hp
  rcases hv.cases with ⟨rfl, a, c, rfl⟩ | ⟨b, o, c, rfl, h0, h1, h2, hb, hc⟩
  · clear hv
    go_enter Tryz.func88, Tryz.ntmps88
    go_wp2_with fail
    go_loop [8] (fun i => i = .int .i64 0) (fun i => 0)
    case atStart => rfl
    case round =>
      subst hrel
      go_wp2_with fail
      go_ret
      exact ⟨rfl, Below.refl _ _⟩
  · clear hv
    go_enter Tryz.func88, Tryz.ntmps88
    go_wp2_with fail
    go_loopw [8] (fun i wr => ∃ k : Nat, k ≤ l.length ∧ i = .int .i64 k ∧ (∀ x, x ∈ l.take k → p x = false) ∧ Below w.heap.size w wr) (fun i _ => l.length - (intOf i).toNat)
    case atStart => exact ⟨0, Nat.zero_le _, rfl, by simp, Below.refl _ _⟩
    case round =>
      obtain ⟨k, hk, rfl, hno, hbl⟩ := hrel
      have HN := Lib.hid hno; clear hno
      by_cases hlt : k < l.length
      · obtain ⟨x, hx, hxl⟩ := getElem?_of_lt hlt
        have hcell := cell_later hbl (hc k x hx).1
        have HX := Lib.hid hx
        have hcall := Lib.hid (HP.out _ hxl _ hbl)
        clear hc hxl hx
        cases hq : p x with
        | true =>
          rw [hq] at hcall
          have HQ := Lib.hid hq; clear hq
          go_wp2_with (go_at_fn g; refine (hcall.out).mono ?_; rintro e w' ⟨rfl, hb'⟩)
          go_ret
          exact ⟨ret_int (idxOf_some (findIdx_hit HX.out HQ.out HN.out)).symm, below_trans hbl hb'⟩
        | false =>
          rw [hq] at hcall
          have HQ := Lib.hid hq; clear hq
          go_wp2_with (go_at_fn g; refine (hcall.out).mono ?_; rintro e w' ⟨rfl, hb'⟩)
          go_roundw
          case rel => exact ⟨k + 1, by omega, by go_num, take_no HX.out HQ.out HN.out, below_trans hbl hb'⟩
          case measure => simp [intOf]; omega
      · go_wp2_with fail
        go_ret
        exact ⟨ret_int (idxOf_none (findIdx_miss (by omega) HN.out)).symm, hbl⟩

theorem containsFunc_str (g : FuncId) (cap : Array Value) (p : ByteArray → Bool) (l : List ByteArray) (v : Value) (w : World) (hv : Strs w v l)
    (eg : ∀ args w, (callFunc g args).run Tryz.prog w = .ok (.enter g args) w) (hp : Tests Tryz.prog g cap Value.string p l w) :
    Calls Tryz.prog 57 #[v, .func (.func g) #[] cap] w fun e w' => e = .returned (.bool (l.any p)) ∧ Below w.heap.size w w' := by
  have h := Lib.hid (indexFunc_str g cap p l v w hv eg hp)
  have HA := Lib.hid (idxOf_any p l)
  generalize idxOf p l = r at h HA
  generalize l.any p = q at HA ⊢
  clear hp hv eg
  go_enter Tryz.func57, Tryz.ntmps57
  go_wp2_with (go_at_call 88; refine h.out.mono ?_; rintro e w' ⟨rfl, hb'⟩)
  go_ret
  exact ⟨ret_bool HA.out, hb'⟩
end Go.Proofs.YtacgopankhpnbaaGreatDoor
