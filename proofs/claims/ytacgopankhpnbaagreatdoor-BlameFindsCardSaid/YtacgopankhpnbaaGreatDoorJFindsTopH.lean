/- Texts of this seat, joined: StepA, StepB, StepC, StepD, BuildA. -/
import Derived.Test.YtacgopankhpnbaaGreatDoorJFindsTopA
import Derived.Test.YtacgopankhpnbaaGreatDoorJFindsTopG
/- Walks of package step: isName and the library's searches that call it. -/
namespace Go.Proofs.YtacgopankhpnbaaGreatDoor
open Go.RowKit

theorem isName_bad (s : ByteArray) (k : Nat) (h : k < s.size) (hb : (s[k].toNat : Int) < 33 ∨ 126 < (s[k].toNat : Int)) : isName s = false := by
  have hf : s.data.toList.all nameByte = false := by
    rw [List.all_eq_false]
    refine ⟨s[k], ?_, ?_⟩
    · have : s[k] = s.data.toList[k]'(by simpa using h) := rfl
      rw [this]; exact List.getElem_mem _
    · simp [nameByte]; omega
  simp [isName, hf]
theorem isName_empty (s : ByteArray) (h : s.toList = []) : isName s = false := by simp [isName, h]
theorem isName_full (s : ByteArray) (h : s.data.toList.all nameByte = true) (hne : ¬ s.toList = []) : isName s = decide (s.size ≤ 20) := by
  have h2 : s.toList.isEmpty = false := by cases hh : s.toList with
    | nil => exact absurd hh hne
    | cons => rfl
  rw [isName, h, h2]; simp

theorem notEmpty_and {s : ByteArray} {a b : Bool} (h : ¬ s.toList = []) (e : a = b) : (!s.toList.isEmpty && a) = b := by
  cases hh : s.toList with
  | nil => exact absurd hh h
  | cons => simpa using e
set_option maxHeartbeats 400000 in
theorem isName_any (s : ByteArray) (w : World) (hs : s.size ≤ 140737488355328) :
    Calls Tryz.prog 56 #[.string s] w fun e w' => e = .returned (.bool (isName s)) ∧ w = w' := by
  go_enter Tryz.func56, Tryz.ntmps56
  go_wp2
  go_loop [6] (fun i => ∃ k : Nat, k ≤ s.size ∧ i = .int .i64 k ∧ (s.data.toList.take k).all nameByte = true) (fun i => s.size - (intOf i).toNat)
  case atStart => exact ⟨0, Nat.zero_le _, rfl, rfl⟩
  case round =>
    obtain ⟨k, hk, rfl, hall⟩ := hrel
    have HA := Lib.hid hall; clear hall
    go_wp2
    · go_ret
      exact ⟨ret_bool (isName_bad s k ‹_› ‹_›).symm, rfl⟩
    · go_round
      case rel => exact ⟨k + 1, by omega, by go_num, by rw [take_snoc s k ‹_›, List.all_append, HA.out]; simp [nameByte]; omega⟩
      case measure => simp [intOf]; omega
    · go_ret
      exact ⟨ret_bool (isName_bad s k ‹_› (Or.inl ‹_›)).symm, rfl⟩
    · go_ret
      exact ⟨ret_bool (isName_empty s ‹_›).symm, rfl⟩
    · have hk' : k = s.size := by omega
      subst hk'
      go_ret
      have h1 := HA.out
      rw [List.take_of_length_le (by simp)] at h1
      exact ⟨ret_bool (by rw [isName_full s h1 ‹_›]; exact notEmpty_and ‹_› (by simp; omega)), rfl⟩

theorem right1_any (s : ByteArray) (w : World) (hs : s.size ≤ 140737488355328) :
    Calls Tryz.prog 58 #[.string s] w fun e w' => e = .returned (.bool (!isName s)) ∧ w = w' := by
  go_enter Tryz.func58, Tryz.ntmps58
  go_wp2_with (go_at_call 56; refine (isName_any _ _ hs).mono ?_; rintro e w' ⟨rfl, rfl⟩)
  go_ret
  exact ⟨rfl, rfl⟩

/-- What a search of the library's asks of a function value: at each element of the list, in every later world, it answers 'p x' and changes nothing that was there. -/
def Tests {α : Type} (P : Program) (g : FuncId) (cap : Array Value) (enc : α → Value) (p : α → Bool) (l : List α) (w : World) : Prop :=
  ∀ x, x ∈ l → ∀ W, Below w.heap.size w W → Calls P g (#[enc x] ++ cap) W fun e W' => e = .returned (.bool (p x)) ∧ Below W.heap.size W W'

theorem findIdx_hit {α : Type} {p : α → Bool} {l : List α} {k : Nat} {x : α} (hx : l[k]? = some x) (hp : p x = true) (hno : ∀ y, y ∈ l.take k → p y = false) : l.findIdx? p = some k := by
  rw [List.findIdx?_eq_some_iff_getElem]
  obtain ⟨h, rfl⟩ := List.getElem?_eq_some_iff.1 hx
  refine ⟨h, hp, fun j hj => ?_⟩
  have := hno l[j] (by rw [List.mem_take_iff_getElem]; exact ⟨j, by omega, rfl⟩)
  simp [this]
theorem take_no {α : Type} {p : α → Bool} {l : List α} {k : Nat} {x : α} (hx : l[k]? = some x) (hp : p x = false) (hno : ∀ y, y ∈ l.take k → p y = false) : ∀ y, y ∈ l.take (k + 1) → p y = false := by
  intro y hy
  rw [List.take_add_one, List.mem_append] at hy
  rcases hy with hy | hy
  · exact hno y hy
  · rw [hx] at hy; simp at hy; rw [hy]; exact hp
theorem findIdx_miss {α : Type} {p : α → Bool} {l : List α} {k : Nat} (hk : l.length ≤ k) (hno : ∀ y, y ∈ l.take k → p y = false) : l.findIdx? p = none := by
  rw [List.findIdx?_eq_none_iff]
  intro x hx
  rw [List.take_of_length_le hk] at hno
  simp [hno x hx]
/-- What the library's IndexFunc returns. -/
def idxOf {α : Type} (p : α → Bool) (l : List α) : Int := match l.findIdx? p with | some i => (i : Int) | none => -1
theorem idxOf_some {α : Type} {p : α → Bool} {l : List α} {k : Nat} (h : l.findIdx? p = some k) : idxOf p l = k := by unfold idxOf; rw [h]
theorem idxOf_none {α : Type} {p : α → Bool} {l : List α} (h : l.findIdx? p = none) : idxOf p l = -1 := by unfold idxOf; rw [h]
theorem idxOf_any {α : Type} (p : α → Bool) (l : List α) : decide (0 ≤ idxOf p l) = l.any p := by
  unfold idxOf
  cases h : l.findIdx? p with
  | none =>
    rw [List.findIdx?_eq_none_iff] at h
    have : l.any p = false := by rw [List.any_eq_false]; intro x hx; simp [h x hx]
    rw [this]; rfl
  | some i =>
    obtain ⟨hi, hp, -⟩ := List.findIdx?_eq_some_iff_getElem.1 h
    have : l.any p = true := List.any_eq_true.2 ⟨_, List.getElem_mem hi, hp⟩
    rw [this]; simp

set_option maxHeartbeats 400000 in
theorem indexFunc_str (g : FuncId) (cap : Array Value) (p : ByteArray → Bool) (l : List ByteArray) (v : Value) (w : World) (hv : Strs w v l)
    (eg : ∀ args w, (callFunc g args).run Tryz.prog w = .ok (.enter g args) w) (hp : Tests Tryz.prog g cap Value.string p l w) :
    Calls Tryz.prog 88 #[v, .func (.func g) #[] cap] w fun e w' => e = .returned (.int .i64 (idxOf p l)) ∧ Below w.heap.size w w' := by
  have HP := Lib.hid hp; clear hp
  rcases hv.cases with ⟨rfl, a, c, rfl⟩ | ⟨b, o, c, rfl, h0, h1, h2, hb, hc⟩
  · clear hv
    go_enter Tryz.func88, Tryz.ntmps88
    go_wp2_with fail
    go_loop [8] (fun i => i = .int .i64 0) (fun i => 0)
    case atStart => rfl
    case round =>
      subst hrel
      go_wp2_with fail
      go_ret
      exact ⟨rfl, Below.refl _ _⟩
  · clear hv
    go_enter Tryz.func88, Tryz.ntmps88
    go_wp2_with fail
    go_loopw [8] (fun i wr => ∃ k : Nat, k ≤ l.length ∧ i = .int .i64 k ∧ (∀ x, x ∈ l.take k → p x = false) ∧ Below w.heap.size w wr) (fun i _ => l.length - (intOf i).toNat)
    case atStart => exact ⟨0, Nat.zero_le _, rfl, by simp, Below.refl _ _⟩
    case round =>
      obtain ⟨k, hk, rfl, hno, hbl⟩ := hrel
      have HN := Lib.hid hno; clear hno
      by_cases hlt : k < l.length
      · obtain ⟨x, hx, hxl⟩ := getElem?_of_lt hlt
        have hcell := cell_later hbl (hc k x hx).1
        have HX := Lib.hid hx
        have hcall := Lib.hid (HP.out _ hxl _ hbl)
        clear hc hxl hx
        cases hq : p x with
        | true =>
          rw [hq] at hcall
          have HQ := Lib.hid hq; clear hq
          go_wp2_with (go_at_fn g; refine (hcall.out).mono ?_; rintro e w' ⟨rfl, hb'⟩)
          go_ret
          exact ⟨ret_int (idxOf_some (findIdx_hit HX.out HQ.out HN.out)).symm, below_trans hbl hb'⟩
        | false =>
          rw [hq] at hcall
          have HQ := Lib.hid hq; clear hq
          go_wp2_with (go_at_fn g; refine (hcall.out).mono ?_; rintro e w' ⟨rfl, hb'⟩)
          go_roundw
          case rel => exact ⟨k + 1, by omega, by go_num, take_no HX.out HQ.out HN.out, below_trans hbl hb'⟩
          case measure => simp [intOf]; omega
      · go_wp2_with fail
        go_ret
        exact ⟨ret_int (idxOf_none (findIdx_miss (by omega) HN.out)).symm, hbl⟩

theorem containsFunc_str (g : FuncId) (cap : Array Value) (p : ByteArray → Bool) (l : List ByteArray) (v : Value) (w : World) (hv : Strs w v l)
    (eg : ∀ args w, (callFunc g args).run Tryz.prog w = .ok (.enter g args) w) (hp : Tests Tryz.prog g cap Value.string p l w) :
    Calls Tryz.prog 57 #[v, .func (.func g) #[] cap] w fun e w' => e = .returned (.bool (l.any p)) ∧ Below w.heap.size w w' := by
  have h := Lib.hid (indexFunc_str g cap p l v w hv eg hp)
  have HA := Lib.hid (idxOf_any p l)
  generalize idxOf p l = r at h HA
  generalize l.any p = q at HA ⊢
  clear hp hv eg
  go_enter Tryz.func57, Tryz.ntmps57
  go_wp2_with (go_at_call 88; refine h.out.mono ?_; rintro e w' ⟨rfl, hb'⟩)
  go_ret
  exact ⟨ret_bool HA.out, hb'⟩
end Go.Proofs.YtacgopankhpnbaaGreatDoor
/- Walks of package step: Right, Find, RightFiles. -/
namespace Go.Proofs.YtacgopankhpnbaaGreatDoor
open Go.RowKit

def encFil (_ : World) (f : Fil) (cs : List Value) : Prop := cs = [.string f.name, .string f.text] ∧ f.name.size ≤ 140737488355328 ∧ f.text.size ≤ 140737488355328
def Fils (w : World) (v : Value) (l : List Fil) : Prop := Row 2 encFil w v l
theorem Fils.later {w w' : World} {v : Value} {l : List Fil} (hb : Below w.heap.size w w') (h : Fils w v l) : Fils w' v l := Row.later hb (fun _ _ h => h) h
theorem Fils.cases {w : World} {v : Value} {l : List Fil} (h : Fils w v l) :
    (l = [] ∧ ∃ a c, v = .slice a 0 c) ∨ (∃ b o c, v = .slice (some ⟨b, o, none⟩) l.length c ∧ 0 < l.length ∧ l.length ≤ c ∧ c ≤ 9223372036854775807 ∧ b < w.heap.size ∧
      ∀ i f, l[i]? = some f → w.cell? ⟨b, o + i * 2, none⟩ = some (.string f.name) ∧ w.cell? ⟨b, o + i * 2 + 1, none⟩ = some (.string f.text) ∧ f.name.size ≤ 140737488355328 ∧ f.text.size ≤ 140737488355328) := by
  rcases Row.cases h with h | ⟨b, o, c, hv, h0, h1, h2, hb, hc⟩
  · exact .inl h
  · refine .inr ⟨b, o, c, hv, h0, h1, h2, hb, fun i x hx => ?_⟩
    obtain ⟨cs, ⟨e, hs⟩, -, hj⟩ := hc i x hx
    exact ⟨hj 0 (.string x.name) (by rw [e]; rfl), hj 1 (.string x.text) (by rw [e]; rfl), hs⟩

theorem enters_isName : ∀ args w, (callFunc 58 args).run Tryz.prog w = .ok (.enter 58 args) w := enters_of Tryz.func58 (by kernel_rfl) rfl

/-- A step as a value. -/
def StpV (w : World) (v : Value) (s : Stp) : Prop := ∃ vf, v = .agg #[.int .i64 s.kind, vf, .string s.out, .bool s.sorted] ∧ Strs w vf s.src ∧ s.out.size ≤ 140737488355328

theorem strs_slice {w : World} {v : Value} {l : List ByteArray} (h : Strs w v l) : ∃ a c, v = .slice a l.length c := by
  obtain ⟨a, c, hv, -⟩ := h; exact ⟨a, c, hv⟩

theorem toList_eq (s : ByteArray) : s.toList = s.data.toList := Lib.toList_data s
theorem beq_toList (a b : ByteArray) : (a.toList == b.toList) = decide (a = b) := by
  rw [toList_eq, toList_eq, Bool.eq_iff_iff]
  simp only [beq_iff_eq, decide_eq_true_eq]
  exact ⟨fun h => bytes_ext h, fun h => by rw [h]⟩

theorem find1_any (name fn ft : ByteArray) (b : Nat) (w : World) (hb : w.cell? ⟨b, 0, none⟩ = some (.string name)) :
    Calls Tryz.prog 55 #[.agg #[.string fn, .string ft], .pointer (some ⟨b, 0, none⟩)] w fun e w' => e = .returned (.bool (decide (fn = name))) ∧ Below w.heap.size w w' := by
  have hlt := cell_lt hb
  go_enter Tryz.func55, Tryz.ntmps55
  go_wp2_with fail
  go_ret
  exact ⟨ret_bool (beq_toList _ _), (Below.refl _ _).alloc (Nat.le_refl _) _⟩

set_option maxHeartbeats 400000 in
theorem indexFunc_fil (g : FuncId) (cap : Array Value) (p : Fil → Bool) (l : List Fil) (v : Value) (w : World) (hv : Fils w v l)
    (eg : ∀ args w, (callFunc g args).run Tryz.prog w = .ok (.enter g args) w) (hp : Tests Tryz.prog g cap (fun f : Fil => .agg #[.string f.name, .string f.text]) p l w) :
    Calls Tryz.prog 54 #[v, .func (.func g) #[] cap] w fun e w' => e = .returned (.int .i64 (idxOf p l)) ∧ Below w.heap.size w w' := by
  have HP := Lib.hid hp; clear hp
  rcases hv.cases with ⟨rfl, a, c, rfl⟩ | ⟨b, o, c, rfl, h0, h1, h2, hb, hc⟩
  · clear hv
    go_enter Tryz.func54, Tryz.ntmps54
    go_wp2_with fail
    go_loop [8] (fun i => i = .int .i64 0) (fun i => 0)
    case atStart => rfl
    case round =>
      subst hrel
      go_wp2_with fail
      go_ret
      exact ⟨rfl, Below.refl _ _⟩
  · clear hv
    go_enter Tryz.func54, Tryz.ntmps54
    go_wp2_with fail
    go_loopw [8] (fun i wr => ∃ k : Nat, k ≤ l.length ∧ i = .int .i64 k ∧ (∀ x, x ∈ l.take k → p x = false) ∧ Below w.heap.size w wr) (fun i _ => l.length - (intOf i).toNat)
    case atStart => exact ⟨0, Nat.zero_le _, rfl, by simp, Below.refl _ _⟩
    case round =>
      obtain ⟨k, hk, rfl, hno, hbl⟩ := hrel
      have HN := Lib.hid hno; clear hno
      by_cases hlt : k < l.length
      · obtain ⟨x, hx, hxl⟩ := getElem?_of_lt hlt
        obtain ⟨c1, c2, -, -⟩ := hc k x hx
        have hcell1 := cell_later hbl c1
        have hcell2 := cell_later hbl c2
        have HX := Lib.hid hx
        have hcall := Lib.hid (HP.out _ hxl _ hbl)
        clear hc hxl hx c1 c2
        cases hq : p x with
        | true =>
          rw [hq] at hcall
          have HQ := Lib.hid hq; clear hq
          go_wp2_with (go_at_fn g; refine (hcall.out).mono ?_; rintro e w' ⟨rfl, hb'⟩)
          go_ret
          exact ⟨ret_int (idxOf_some (findIdx_hit HX.out HQ.out HN.out)).symm, below_trans hbl hb'⟩
        | false =>
          rw [hq] at hcall
          have HQ := Lib.hid hq; clear hq
          go_wp2_with (go_at_fn g; refine (hcall.out).mono ?_; rintro e w' ⟨rfl, hb'⟩)
          go_roundw
          case rel => exact ⟨k + 1, by omega, by go_num, take_no HX.out HQ.out HN.out, below_trans hbl hb'⟩
          case measure => simp [intOf]; omega
      · go_wp2_with fail
        go_ret
        exact ⟨ret_int (idxOf_none (findIdx_miss (by omega) HN.out)).symm, hbl⟩

end Go.Proofs.YtacgopankhpnbaaGreatDoor
/- Walks of package step: Find, RightFiles, Right. -/
namespace Go.Proofs.YtacgopankhpnbaaGreatDoor
open Go.RowKit

theorem enters_find1 : ∀ args w, (callFunc 55 args).run Tryz.prog w = .ok (.enter 55 args) w := enters_of Tryz.func55 (by kernel_rfl) rfl

/-- What Find returns. -/
def findV (l : List Fil) (name : ByteArray) : Value := match findFile l name with
  | some t => .tuple #[.string t, .bool true]
  | none => .tuple #[.string ByteArray.empty, .bool false]

theorem findFile_idx (l : List Fil) (name : ByteArray) :
    (idxOf (fun f : Fil => decide (f.name = name)) l = -1 ∧ findFile l name = none) ∨ ∃ (k : Nat) (f : Fil), l[k]? = some f ∧ idxOf (fun f : Fil => decide (f.name = name)) l = k ∧ findFile l name = some f.text := by
  unfold idxOf findFile
  cases h : l.findIdx? (fun f : Fil => decide (f.name = name)) with
  | none =>
    refine .inl ⟨rfl, ?_⟩
    rw [List.findIdx?_eq_none_iff] at h
    rw [List.find?_eq_none.2 (fun x hx => by simpa using h x hx)]; rfl
  | some k =>
    obtain ⟨hk, hp, hno⟩ := List.findIdx?_eq_some_iff_getElem.1 h
    refine .inr ⟨k, l[k], List.getElem?_eq_getElem hk, rfl, ?_⟩
    have : l.find? (fun f : Fil => decide (f.name = name)) = some l[k] := by
      rw [List.find?_eq_some_iff_getElem]
      exact ⟨hp, k, hk, rfl, fun j hj => by simpa using hno j hj⟩
    rw [this]; rfl

set_option maxHeartbeats 400000 in
theorem find_any (l : List Fil) (v : Value) (name : ByteArray) (w : World) (hv : Fils w v l) :
    Calls Tryz.prog 21 #[v, .string name] w fun e w' => e = .returned (findV l name) ∧ Below w.heap.size w w' := by
  have hidx : ∀ W, Below w.heap.size w W → W.heap[w.heap.size]? = some (.cells #[.string name] 9) → Calls Tryz.prog 54 #[v, .func (.func 55) #[] #[.pointer (some ⟨w.heap.size, 0, none⟩)]] W
      fun e w' => e = .returned (.int .i64 (idxOf (fun f : Fil => decide (f.name = name)) l)) ∧ Below W.heap.size W w' := fun W hb hW =>
    indexFunc_fil _ _ _ l v W (hv.later hb) enters_find1 (fun x _ W' hb' => by
      have h0 : W.cell? ⟨w.heap.size, 0, none⟩ = some (.string name) := by simp [World.cell?, hW]
      exact find1_any name x.name x.text w.heap.size W' (cell_later hb' h0))
  have HI := Lib.hid hidx; clear hidx
  have hcs := findFile_idx l name
  unfold findV
  rcases hcs with ⟨hi, hf⟩ | ⟨k, f, hk, hi, hf⟩
  · rw [hf]; rw [hi] at HI
    obtain ⟨a, c, hv, -⟩ := hv; subst hv
    clear hi hf
    go_enter Tryz.func21, Tryz.ntmps21
    go_wp2_with (go_at_call 54; refine (HI.out _ (below_alloc _ _) (alloc_self _ _)).mono ?_; rintro e w' ⟨rfl, hb'⟩)
    go_ret2
    exact ⟨rfl, below_trans (below_alloc _ _) hb'⟩
  · rcases hv.cases with ⟨rfl, -⟩ | ⟨b, o, c, rfl, h0, h1, h2, hb, hc⟩
    · simp at hk
    · rw [hf]; rw [hi] at HI
      obtain ⟨c1, c2, -, -⟩ := hc k f hk
      have hkl : k < l.length := (List.getElem?_eq_some_iff.1 hk).1
      clear hi hf hc hk c1 hv
      go_enter Tryz.func21, Tryz.ntmps21
      go_wp2_with (go_at_call 54; refine (HI.out _ (below_alloc _ _) (alloc_self _ _)).mono ?_; rintro e w' ⟨rfl, hb'⟩; have hc2 := cell_later (below_trans (below_alloc _ _) hb') c2)
      go_ret2
      exact ⟨rfl, below_trans (below_alloc _ _) hb'⟩

/-- The map of the names that are known. -/
noncomputable def knownOf (l : List ByteArray) (x : ByteArray) : Option Bool := if l.any (fun y => decide (y = x)) then some true else none
theorem knownOf_getD (l : List ByteArray) (x : ByteArray) : (knownOf l x).getD false = l.any (fun y => decide (y = x)) := by
  unfold knownOf; cases h : l.any (fun y => decide (y = x)) <;> simp
theorem zero_bool (w : World) : (zeroValue 4).run Tryz.prog w = .ok (.bool false) w := by kernel_rfl
noncomputable def kStr : KeyC Tryz.prog 9 ByteArray := strKey Tryz.underlying9
noncomputable def vBool : ValC Tryz.prog 4 Bool := boolVal Tryz.underlying4 zero_bool
theorem maxLen_val : (140737488355328 : Nat) ≤ maxLen := by decide

/-- A look-up in, and a store into, a map of strings to bools. -/
theorem wpList_look_sb {ops : Array Oper} {rest : List Oper} {o : Oper} {a : Act} {Q : Exit → Act → World → Prop} {w : World} {b n : Nat} {m : ByteArray → Option Bool} (h : MapIs kStr vBool w b n m)
    {x : ByteArray} (hx : x.size ≤ 140737488355328) {r : Bool} (hr : (m x).getD false = r) {mo xo : Operand} (hg : o.guard = none) (hop : o.op = Op.lookup 99 mo xo false) (hm : a.eval mo = .map (some b)) (hxe : a.eval xo = .string x)
    (hK : wpList Tryz.prog ops Q rest (a.put o.dst (.bool r)) w) : wpList Tryz.prog ops Q (o :: rest) a w :=
  wpList_look (K := kStr) (V := vBool) hg hop Tryz.underlying99 h hm (Nat.le_trans hx maxLen_val) hxe (by subst hr; exact hK)
theorem wpList_put_sb {ops : Array Oper} {rest : List Oper} {o : Oper} {a : Act} {Q : Exit → Act → World → Prop} {w : World} {b n : Nat} {m : ByteArray → Option Bool} (h : MapIs kStr vBool w b n m) (hn : n < 9223372036854775807)
    {x : ByteArray} (hx : x.size ≤ 140737488355328) {r : Bool} {mo xo vo : Operand} (hg : o.guard = none) (hop : o.op = Op.mapUpdate 99 mo xo vo) (hm : a.eval mo = .map (some b)) (hxe : a.eval xo = .string x) (hve : a.eval vo = .bool r)
    (hK : ∀ w', MapIs kStr vBool w' b (n + 1) (fun z => if z = x then some r else m z) → w.grownBy w' (some b) → wpList Tryz.prog ops Q rest (a.put o.dst undef) w') : wpList Tryz.prog ops Q (o :: rest) a w :=
  wpList_put (K := kStr) (V := vBool) hg hop Tryz.underlying99 h (by unfold maxLen; omega) hm (Nat.le_trans hx maxLen_val) hxe (y := r) trivial hve (fun w' h1 h2 => hK w' (by exact h1.ext (fun z => by by_cases hz : z = x <;> simp [hz])) h2)

theorem knownOf_cons (l : List ByteArray) (y : ByteArray) : (fun z => if z = y then some true else knownOf l z) = knownOf (y :: l) := by
  funext z
  unfold knownOf
  by_cases h : z = y
  · subst h; simp
  · have : decide (y = z) = false := decide_eq_false (fun e => h e.symm)
    simp only [h, if_false, List.any_cons, this, Bool.false_or]
theorem rightFrom_bad {l : List Fil} {k : Nat} {x : Fil} {known : List ByteArray} (hx : l[k]? = some x) (h : (known.any fun y => decide (y = x.name)) = true ∨ isName x.name = false ∨ 65536 < x.text.size)
    (hr : rightFrom l [] = rightFrom (l.drop k) known) : rightFiles l = false := by
  have e : l.drop k = x :: l.drop (k + 1) := by
    obtain ⟨hk, rfl⟩ := List.getElem?_eq_some_iff.1 hx
    exact List.drop_eq_getElem_cons hk
  rw [rightFiles, hr, e, rightFrom]
  rcases h with h | h | h <;> simp [h]
theorem rightFrom_good {l : List Fil} {k : Nat} {x : Fil} {known : List ByteArray} (hx : l[k]? = some x) (h1 : (known.any fun y => decide (y = x.name)) = false) (h2 : isName x.name = true) (h3 : x.text.size ≤ 65536)
    (hr : rightFrom l [] = rightFrom (l.drop k) known) : rightFrom l [] = rightFrom (l.drop (k + 1)) (x.name :: known) := by
  have e : l.drop k = x :: l.drop (k + 1) := by
    obtain ⟨hk, rfl⟩ := List.getElem?_eq_some_iff.1 hx
    exact List.drop_eq_getElem_cons hk
  rw [hr, e, rightFrom, h1, h2]
  simp; omega
theorem rightFrom_end {l : List Fil} {k : Nat} {known : List ByteArray} (hk : l.length ≤ k) (hr : rightFrom l [] = rightFrom (l.drop k) known) : rightFiles l = decide (l.length ≤ 60) := by
  rw [rightFiles, hr, List.drop_of_length_le hk, rightFrom]; simp

set_option maxHeartbeats 800000 in
theorem rightFiles_any (l : List Fil) (v : Value) (w : World) (hv : Fils w v l) :
    Calls Tryz.prog 51 #[v] w fun e w' => e = .returned (.bool (rightFiles l)) ∧ Below w.heap.size w w' := by
  rcases hv.cases with ⟨rfl, a, c, rfl⟩ | ⟨b, o, c, rfl, h0, h1, h2, hb, hc⟩
  · have hmm := @run_makeMap Tryz.prog
    clear hv
    go_enter Tryz.func51, Tryz.ntmps51
    go_wp2_with fail
    go_loop [9] (fun i => i = .int .i64 0) (fun i => 0)
    case atStart => rfl
    case round =>
      subst hrel
      go_wp2_with fail
      go_ret
      exact ⟨rfl, below_alloc _ _⟩
  · have hmm := @run_makeMap Tryz.prog
    clear hv
    have HC := Lib.hid hc; clear hc
    go_enter Tryz.func51, Tryz.ntmps51
    go_wp2_with fail
    clear hmm
    go_loopw [9] (fun i wr => ∃ (k : Nat) (known : List ByteArray), k ≤ l.length ∧ i = .int .i64 k ∧ rightFrom l [] = rightFrom (l.drop k) known ∧ MapIs kStr vBool wr w.heap.size k (knownOf known) ∧ Below w.heap.size w wr) (fun i _ => l.length - (intOf i).toNat)
    case atStart => exact ⟨0, [], Nat.zero_le _, rfl, rfl, (MapIs.made w).ext (fun _ => rfl), below_alloc _ _⟩
    case round =>
      obtain ⟨k, known, hk, rfl, hr, hm, hbl⟩ := hrel
      have HR := Lib.hid hr; clear hr
      have hbw : w.heap.size < wr.heap.size := hm.lt
      by_cases hlt : k < l.length
      · obtain ⟨x, hx, -⟩ := getElem?_of_lt hlt
        obtain ⟨c1, c2, s1, s2⟩ := HC.out k x hx
        have hcell1 := cell_later hbl c1
        have hcell2 := cell_later hbl c2
        have HX := Lib.hid hx
        clear hx c1 c2 HC
        cases hq : known.any (fun y => decide (y = x.name)) with
        | true =>
          have hl := (knownOf_getD known x.name).trans hq
          have HQ := Lib.hid hq; clear hq
          have HL := Lib.hid hl; clear hl
          go_wp2_with (at_lookup; refine wpList_look_sb (hm.alloc _) s1 HL.out rfl rfl rfl rfl ?_)
          go_ret
          exact ⟨ret_bool (rightFrom_bad HX.out (.inl HQ.out) HR.out).symm, hbl.trans ((below_alloc _ _).mono hbl.size)⟩
        | false =>
          have hl := (knownOf_getD known x.name).trans hq
          have HQ := Lib.hid hq; clear hq
          have HL := Lib.hid hl; clear hl
          cases hn : isName x.name with
          | false =>
            have hcall := isName_any x.name (wr.alloc (.cells #[.string x.name, .string x.text] 40)) s1
            rw [hn] at hcall
            have HN := Lib.hid hn; clear hn
            have HCL := Lib.hid hcall; clear hcall
            go_wp2_with (first | (at_lookup; refine wpList_look_sb (hm.alloc _) s1 HL.out rfl rfl rfl rfl ?_) | (go_at_call 56; refine HCL.out.mono ?_; rintro e w' ⟨rfl, rfl⟩))
            go_ret
            exact ⟨ret_bool (rightFrom_bad HX.out (.inr (.inl HN.out)) HR.out).symm, hbl.trans ((below_alloc _ _).mono hbl.size)⟩
          | true =>
            have hcall := isName_any x.name (wr.alloc (.cells #[.string x.name, .string x.text] 40)) s1
            rw [hn] at hcall
            have HN := Lib.hid hn; clear hn
            have HCL := Lib.hid hcall; clear hcall
            go_wp2_with (first | (at_lookup; refine wpList_look_sb (hm.alloc _) s1 HL.out rfl rfl rfl rfl ?_) | (go_at_call 56; refine HCL.out.mono ?_; rintro e w' ⟨rfl, rfl⟩) | (at_mapUpdate; refine wpList_put_sb (hm.alloc _) (by omega) s1 rfl rfl rfl rfl rfl ?_; intro w1 hm1 hg1))
            · go_ret
              exact ⟨ret_bool (rightFrom_bad HX.out (.inr (.inr (by omega))) HR.out).symm, hbl.trans ((below_alloc _ _).mono hbl.size)⟩
            · go_roundw
              case rel => exact ⟨k + 1, x.name :: known, by omega, by go_num, rightFrom_good HX.out HQ.out HN.out (by omega) HR.out, hm1.ext (fun z => congrFun (knownOf_cons known x.name) z), (hbl.trans ((below_alloc _ _).mono hbl.size)).grown hg1 (by simp; omega) (fun i hi => by cases hi; exact Nat.le_refl _)⟩
              case measure => simp [intOf]; omega
      · go_wp2_with fail
        go_ret
        exact ⟨ret_bool (by rw [rightFrom_end (by omega) HR.out]; simp; omega), hbl⟩
end Go.Proofs.YtacgopankhpnbaaGreatDoor
/- Walks of package step: Right. -/
namespace Go.Proofs.YtacgopankhpnbaaGreatDoor
open Go.RowKit

set_option maxHeartbeats 800000 in
theorem stepRight_any (s : Stp) (vf : Value) (w : World) (hv : Strs w vf s.src) (hto : s.out.size ≤ 140737488355328) :
    Calls Tryz.prog 24 #[.agg #[.int .i64 s.kind, vf, .string s.out, .bool s.sorted]] w fun e w' => e = .returned (.bool (stepRight s)) ∧ Below w.heap.size w w' := by
  obtain ⟨kind, src, tn, sorted⟩ := s
  simp only at hv hto ⊢
  have hC : ∀ W, Below w.heap.size w W → Calls Tryz.prog 57 #[vf, .func (.func 58) #[] #[]] W fun e w' => e = .returned (.bool (src.any fun x => !isName x)) ∧ Below W.heap.size W w' := fun W hb =>
    containsFunc_str _ _ _ src vf W (hv.later hb) enters_isName (fun x hx W' hb' => by
      refine (right1_any x W' (strs_size hv hx)).mono ?_
      rintro e w' ⟨rfl, rfl⟩
      exact ⟨rfl, Below.refl _ _⟩)
  have hN : ∀ W, Calls Tryz.prog 56 #[.string tn] W fun e w' => e = .returned (.bool (isName tn)) ∧ W = w' := fun W => isName_any tn W hto
  obtain ⟨a, c, hvv, -⟩ := hv
  subst hvv
  have HC := Lib.hid hC; clear hC
  have HN := Lib.hid hN; clear hN
  have hR : stepRight ⟨kind, src, tn, sorted⟩ = if (!isName tn || src.any fun x => !isName x) then false else if kind = 2 then decide (src.length ≤ 60)
      else if kind = 1 then decide (src.length ≤ 60) && !sorted else if kind = 0 ∨ kind = 3 ∨ kind = 4 ∨ kind = 5 then decide (src.length = 1) && !sorted else false := rfl
  have HR := Lib.hid hR; clear hR
  generalize stepRight ⟨kind, src, tn, sorted⟩ = R at HR ⊢
  generalize hi : isName tn = ni at HN HR ⊢
  generalize ha : (src.any fun x => !isName x) = na at HC HR ⊢
  clear hi ha
  cases ni with
  | false =>
    clear HC
    go_enter Tryz.func24, Tryz.ntmps24
    go_wp2_with (go_at_call 56; refine (HN.out _).mono ?_; rintro e w' ⟨rfl, rfl⟩)
    go_ret
    exact ⟨ret_bool (by rw [HR.out]; rfl), below_alloc _ _⟩
  | true =>
    cases na with
    | true =>
      go_enter Tryz.func24, Tryz.ntmps24
      go_wp2_with (first | (go_at_call 56; refine (HN.out _).mono ?_; rintro e w' ⟨rfl, rfl⟩) | (go_at_call 57; refine (HC.out _ (below_alloc _ _)).mono ?_; rintro e w' ⟨rfl, hb'⟩))
      go_ret
      exact ⟨ret_bool (by rw [HR.out]; rfl), below_trans (below_alloc _ _) hb'⟩
    | false =>
      by_cases k2 : kind = 2
      · subst k2
        go_enter Tryz.func24, Tryz.ntmps24
        go_wp2_with (first | (go_at_call 56; refine (HN.out _).mono ?_; rintro e w' ⟨rfl, rfl⟩) | (go_at_call 57; refine (HC.out _ (below_alloc _ _)).mono ?_; rintro e w' ⟨rfl, hb'⟩; obtain ⟨hcc, hff⟩ := bcell hb'))
        go_ret
        exact ⟨ret_bool (by rw [HR.out]; simp; omega), below_trans (below_alloc _ _) hb'⟩
      by_cases k1 : kind = 1
      · subst k1
        go_enter Tryz.func24, Tryz.ntmps24
        go_wp2_with (first | (go_at_call 56; refine (HN.out _).mono ?_; rintro e w' ⟨rfl, rfl⟩) | (go_at_call 57; refine (HC.out _ (below_alloc _ _)).mono ?_; rintro e w' ⟨rfl, hb'⟩; obtain ⟨hcc, hff⟩ := bcell hb'))
        all_goals go_ret
        all_goals exact ⟨ret_bool (by rw [HR.out]; simp; try omega), below_trans (below_alloc _ _) hb'⟩
      have HK2 := Lib.hid k2
      have HK1 := Lib.hid k1
      have b2 : (kind == 2) = false := by simpa using k2
      have b1 : (kind == 1) = false := by simpa using k1
      clear k2 k1
      by_cases kx : kind = 0 ∨ kind = 3 ∨ kind = 4 ∨ kind = 5
      · have HKX := Lib.hid kx
        by_cases hl : src.length = 1
        · have bl : (((src.length : Nat) : Int) == 1) = true := by simp [hl]
          have HL := Lib.hid hl; clear hl
          rcases kx with rfl | rfl | rfl | rfl
          all_goals
            clear b2 b1
            go_enter Tryz.func24, Tryz.ntmps24
            go_wp2_with (first | (go_at_call 56; refine (HN.out _).mono ?_; rintro e w' ⟨rfl, rfl⟩) | (go_at_call 57; refine (HC.out _ (below_alloc _ _)).mono ?_; rintro e w' ⟨rfl, hb'⟩; obtain ⟨hcc, hff⟩ := bcell hb'))
            go_ret
            exact ⟨ret_bool (by rw [HR.out, HL.out]; rfl), below_trans (below_alloc _ _) hb'⟩
        · have bl : (((src.length : Nat) : Int) == 1) = false := by rw [beq_eq_false_iff_ne]; omega
          have HL := Lib.hid hl; clear hl
          rcases kx with rfl | rfl | rfl | rfl
          all_goals
            clear b2 b1
            go_enter Tryz.func24, Tryz.ntmps24
            go_wp2_with (first | (go_at_call 56; refine (HN.out _).mono ?_; rintro e w' ⟨rfl, rfl⟩) | (go_at_call 57; refine (HC.out _ (below_alloc _ _)).mono ?_; rintro e w' ⟨rfl, hb'⟩; obtain ⟨hcc, hff⟩ := bcell hb'))
            go_ret
            exact ⟨ret_bool (by rw [HR.out, decide_eq_false HL.out]; rfl), below_trans (below_alloc _ _) hb'⟩
      · have HKX := Lib.hid kx
        have b0 : (kind == 0) = false := by rw [beq_eq_false_iff_ne]; omega
        have b3 : (kind == 3) = false := by rw [beq_eq_false_iff_ne]; omega
        have b4 : (kind == 4) = false := by rw [beq_eq_false_iff_ne]; omega
        have b5 : (kind == 5) = false := by rw [beq_eq_false_iff_ne]; omega
        clear kx
        go_enter Tryz.func24, Tryz.ntmps24
        go_wp2_with (first | (go_at_call 56; refine (HN.out _).mono ?_; rintro e w' ⟨rfl, rfl⟩) | (go_at_call 57; refine (HC.out _ (below_alloc _ _)).mono ?_; rintro e w' ⟨rfl, hb'⟩; obtain ⟨hcc, hff⟩ := bcell hb'))
        go_ret
        exact ⟨ret_bool (by rw [HR.out, if_neg HK2.out, if_neg HK1.out, if_neg HKX.out]; rfl), below_trans (below_alloc _ _) hb'⟩
end Go.Proofs.YtacgopankhpnbaaGreatDoor
/- Package build: how recipes stand in memory; slices.IndexFunc and ContainsFunc at steps. -/
namespace Go.Proofs.YtacgopankhpnbaaGreatDoor
open Go.RowKit

/-- A slice of steps, each with the value of its From. -/
def encStp (w : World) (y : Value × Stp) (cs : List Value) : Prop := cs = [.int .i64 y.2.kind, y.1, .string y.2.out, .bool y.2.sorted] ∧ Strs w y.1 y.2.src ∧ y.2.out.size ≤ 140737488355328
def Stps (w : World) (v : Value) (l : List (Value × Stp)) : Prop := Row 4 encStp w v l
theorem Stps.later {w w' : World} {v : Value} {l : List (Value × Stp)} (hb : Below w.heap.size w w') (h : Stps w v l) : Stps w' v l :=
  Row.later hb (fun _ _ h => ⟨h.1, h.2.1.later hb, h.2.2⟩) h
theorem Stps.cases {w : World} {v : Value} {l : List (Value × Stp)} (h : Stps w v l) :
    (l = [] ∧ ∃ a c, v = .slice a 0 c) ∨ (∃ b o c, v = .slice (some ⟨b, o, none⟩) l.length c ∧ 0 < l.length ∧ l.length ≤ c ∧ c ≤ 9223372036854775807 ∧ b < w.heap.size ∧
      ∀ i y, l[i]? = some y → w.cell? ⟨b, o + i * 4, none⟩ = some (.int .i64 y.2.kind) ∧ w.cell? ⟨b, o + i * 4 + 1, none⟩ = some y.1 ∧ w.cell? ⟨b, o + i * 4 + 2, none⟩ = some (.string y.2.out) ∧ w.cell? ⟨b, o + i * 4 + 3, none⟩ = some (.bool y.2.sorted) ∧ Strs w y.1 y.2.src ∧ y.2.out.size ≤ 140737488355328) := by
  rcases Row.cases h with h | ⟨b, o, c, hv, h0, h1, h2, hb, hc⟩
  · exact .inl h
  · refine .inr ⟨b, o, c, hv, h0, h1, h2, hb, fun i y hy => ?_⟩
    obtain ⟨cs, ⟨e, hs, hz⟩, -, hj⟩ := hc i y hy
    subst e
    exact ⟨hj 0 _ rfl, hj 1 _ rfl, hj 2 _ rfl, hj 3 _ rfl, hs, hz⟩
theorem Stps.src {w : World} {v : Value} {l : List (Value × Stp)} (h : Stps w v l) {y : Value × Stp} (hy : y ∈ l) : Strs w y.1 y.2.src ∧ y.2.out.size ≤ 140737488355328 := by
  rcases h.cases with ⟨rfl, -⟩ | ⟨b, o, c, -, -, -, -, -, hc⟩
  · cases hy
  · obtain ⟨i, hi⟩ := List.getElem?_of_mem hy
    exact (hc i y hi).2.2.2.2
theorem stps_slice {w : World} {v : Value} {l : List (Value × Stp)} (h : Stps w v l) : ∃ a c, v = .slice a l.length c := by
  obtain ⟨a, c, hv, -⟩ := h; exact ⟨a, c, hv⟩
/-- A step as a value. -/
abbrev stepV (y : Value × Stp) : Value := .agg #[.int .i64 y.2.kind, y.1, .string y.2.out, .bool y.2.sorted]

set_option maxHeartbeats 1000000 in
theorem indexFunc_stp (g : FuncId) (cap : Array Value) (p : Value × Stp → Bool) (l : List (Value × Stp)) (v : Value) (w : World) (hv : Stps w v l)
    (eg : ∀ args w, (callFunc g args).run Tryz.prog w = .ok (.enter g args) w) (hp : Tests Tryz.prog g cap stepV p l w) :
    Calls Tryz.prog 97 #[v, .func (.func g) #[] cap] w fun e w' => e = .returned (.int .i64 (idxOf p l)) ∧ Below w.heap.size w w' := by
  have HP := Lib.hid hp; clear hp
  rcases hv.cases with ⟨rfl, a, c, rfl⟩ | ⟨b, o, c, rfl, h0, h1, h2, hb, hc⟩
  · clear hv
    go_enter Tryz.func97, Tryz.ntmps97
    go_wp2_with fail
    go_loop [8] (fun i => i = .int .i64 0) (fun i => 0)
    case atStart => rfl
    case round =>
      subst hrel
      go_wp2_with fail
      go_ret
      exact ⟨rfl, Below.refl _ _⟩
  · clear hv
    have HC := Lib.hid hc; clear hc
    go_enter Tryz.func97, Tryz.ntmps97
    go_wp2_with fail
    go_loopw [8] (fun i wr => ∃ k : Nat, k ≤ l.length ∧ i = .int .i64 k ∧ (∀ x, x ∈ l.take k → p x = false) ∧ Below w.heap.size w wr) (fun i _ => l.length - (intOf i).toNat)
    case atStart => exact ⟨0, Nat.zero_le _, rfl, by simp, Below.refl _ _⟩
    case round =>
      obtain ⟨k, hk, rfl, hno, hbl⟩ := hrel
      have HN := Lib.hid hno; clear hno
      by_cases hlt : k < l.length
      · obtain ⟨x, hx, hxl⟩ := getElem?_of_lt hlt
        obtain ⟨c1, c2, c3, c4, -⟩ := HC.out k x hx
        have hcell1 := cell_later hbl c1
        have hcell2 := cell_later hbl c2
        have hcell3 := cell_later hbl c3
        have hcell4 := cell_later hbl c4
        have HX := Lib.hid hx
        have hcall := Lib.hid (HP.out _ hxl _ hbl)
        obtain ⟨xv, kind, src, out, sorted⟩ := x
        simp only at hcell1 hcell2 hcell3 hcell4
        clear hxl hx c1 c2 c3 c4 HC
        cases hq : p ⟨xv, kind, src, out, sorted⟩ with
        | true =>
          rw [hq] at hcall
          have HQ := Lib.hid hq; clear hq
          go_wp2_with (go_at_fn g; refine (hcall.out).mono ?_; rintro e w' ⟨rfl, hb'⟩)
          go_ret
          exact ⟨ret_int (idxOf_some (findIdx_hit HX.out HQ.out HN.out)).symm, below_trans hbl hb'⟩
        | false =>
          rw [hq] at hcall
          have HQ := Lib.hid hq; clear hq
          go_wp2_with (go_at_fn g; refine (hcall.out).mono ?_; rintro e w' ⟨rfl, hb'⟩)
          go_roundw
          case rel => exact ⟨k + 1, by omega, by go_num, take_no HX.out HQ.out HN.out, below_trans hbl hb'⟩
          case measure => simp [intOf]; omega
      · go_wp2_with fail
        go_ret
        exact ⟨ret_int (idxOf_none (findIdx_miss (by omega) HN.out)).symm, hbl⟩

theorem containsFunc_stp (g : FuncId) (cap : Array Value) (p : Value × Stp → Bool) (l : List (Value × Stp)) (v : Value) (w : World) (hv : Stps w v l)
    (eg : ∀ args w, (callFunc g args).run Tryz.prog w = .ok (.enter g args) w) (hp : Tests Tryz.prog g cap stepV p l w) :
    Calls Tryz.prog 90 #[v, .func (.func g) #[] cap] w fun e w' => e = .returned (.bool (l.any p)) ∧ Below w.heap.size w w' := by
  have h := Lib.hid (indexFunc_stp g cap p l v w hv eg hp)
  have HA := Lib.hid (idxOf_any p l)
  generalize idxOf p l = r at h HA
  generalize l.any p = q at HA ⊢
  clear hp hv eg
  go_enter Tryz.func90, Tryz.ntmps90
  go_wp2_with (go_at_call 97; refine h.out.mono ?_; rintro e w' ⟨rfl, hb'⟩)
  go_ret
  exact ⟨ret_bool HA.out, hb'⟩
end Go.Proofs.YtacgopankhpnbaaGreatDoor
