/- Walks of package step: Right, Find, RightFiles. -/
import Derived.Test.YtacgopankhpnbaaGreatDoorStepA
import Derived.Test.YtacgopankhpnbaaGreatDoorMaps
namespace Go.Proofs.YtacgopankhpnbaaGreatDoor
open Go.RowKit

def encFil (_ : World) (f : Fil) (cs : List Value) : Prop := cs = [.string f.name, .string f.text] ∧ f.name.size ≤ 140737488355328 ∧ f.text.size ≤ 140737488355328
def Fils (w : World) (v : Value) (l : List Fil) : Prop := Row 2 encFil w v l
theorem Fils.later {w w' : World} {v : Value} {l : List Fil} (hb : Below w.heap.size w w') (h : Fils w v l) : Fils w' v l := Row.later hb (fun _ _ h => h) h
theorem Fils.cases {w : World} {v : Value} {l : List Fil} (h : Fils w v l) :
    (l = [] ∧ ∃ a c, v = .slice a 0 c) ∨ (∃ b o c, v = .slice (some ⟨b, o, none⟩) l.length c ∧ 0 < l.length ∧ l.length ≤ c ∧ c ≤ 9223372036854775807 ∧ b < w.heap.size ∧
      ∀ i f, l[i]? = some f → w.cell? ⟨b, o + i * 2, none⟩ = some (.string f.name) ∧ w.cell? ⟨b, o + i * 2 + 1, none⟩ = some (.string f.text) ∧ f.name.size ≤ 140737488355328 ∧ f.text.size ≤ 140737488355328) := by
  rcases Row.cases h with h | ⟨b, o, c, hv, h0, h1, h2, hb, hc⟩
  · exact .inl h
  · refine .inr ⟨b, o, c, hv, h0, h1, h2, hb, fun i x hx => ?_⟩
    obtain ⟨cs, ⟨e, hs⟩, -, hj⟩ := hc i x hx
    exact ⟨hj 0 (.string x.name) (by rw [e]; rfl), hj 1 (.string x.text) (by rw [e]; rfl), hs⟩

theorem enters_isName : ∀ args w, (callFunc 58 args).run Tryz.prog w = .ok (.enter 58 args) w := enters_of Tryz.func58 (by kernel_rfl) rfl

/-- A step as a value. -/
def StpV (w : World) (v : Value) (s : Stp) : Prop := ∃ vf, v = .agg #[.int .i64 s.kind, vf, .string s.out, .bool s.sorted] ∧ Strs w vf s.src ∧ s.out.size ≤ 140737488355328

theorem strs_slice {w : World} {v : Value} {l : List ByteArray} (h : Strs w v l) : ∃ a c, v = .slice a l.length c := by
  obtain ⟨a, c, hv, -⟩ := h; exact ⟨a, c, hv⟩

theorem toList_eq (s : ByteArray) : s.toList = s.data.toList := Lib.toList_data s
theorem beq_toList (a b : ByteArray) : (a.toList == b.toList) = decide (a = b) := by
  rw [toList_eq, toList_eq, Bool.eq_iff_iff]
  simp only [beq_iff_eq, decide_eq_true_eq]
  exact ⟨fun h => bytes_ext h, fun h => by rw [h]⟩

theorem find1_any (name fn ft : ByteArray) (b : Nat) (w : World) (hb : w.cell? ⟨b, 0, none⟩ = some (.string name)) :
    Calls Tryz.prog 55 #[.agg #[.string fn, .string ft], .pointer (some ⟨b, 0, none⟩)] w fun e w' => e = .returned (.bool (decide (fn = name))) ∧ Below w.heap.size w w' := by
  have hlt := cell_lt hb
  go_enter Tryz.func55, Tryz.ntmps55
  go_wp2_with fail
  go_ret
  exact ⟨ret_bool (beq_toList _ _), (Below.refl _ _).alloc (Nat.le_refl _) _⟩

set_option maxHeartbeats 400000 in
theorem indexFunc_fil (g : FuncId) (cap : Array Value) (p : Fil → Bool) (l : List Fil) (v : Value) (w : World) (hv : Fils w v l)
    (eg : ∀ args w, (callFunc g args).run Tryz.prog w = .ok (.enter g args) w) (hp : Tests Tryz.prog g cap (fun f : Fil => .agg #[.string f.name, .string f.text]) p l w) :
    Calls Tryz.prog 54 #[v, .func (.func g) #[] cap] w fun e w' => e = .returned (.int .i64 (idxOf p l)) ∧ Below w.heap.size w w' := by
  have HP := Lib.hid hp; clear hp
  rcases hv.cases with ⟨rfl, a, c, rfl⟩ | ⟨b, o, c, rfl, h0, h1, h2, hb, hc⟩
  · clear hv
    go_enter Tryz.func54, Tryz.ntmps54
    go_wp2_with fail
    go_loop [8] (fun i => i = .int .i64 0) (fun i => 0)
    case atStart => rfl
    case round =>
      subst hrel
      go_wp2_with fail
      go_ret
      exact ⟨rfl, Below.refl _ _⟩
  · clear hv
    go_enter Tryz.func54, Tryz.ntmps54
    go_wp2_with fail
    go_loopw [8] (fun i wr => ∃ k : Nat, k ≤ l.length ∧ i = .int .i64 k ∧ (∀ x, x ∈ l.take k → p x = false) ∧ Below w.heap.size w wr) (fun i _ => l.length - (intOf i).toNat)
    case atStart => exact ⟨0, Nat.zero_le _, rfl, by simp, Below.refl _ _⟩
    case round =>
      obtain ⟨k, hk, rfl, hno, hbl⟩ := hrel
      have HN := Lib.hid hno; clear hno
      by_cases hlt : k < l.length
      · obtain ⟨x, hx, hxl⟩ := getElem?_of_lt hlt
        obtain ⟨c1, c2, -, -⟩ := hc k x hx
        have hcell1 := cell_later hbl c1
        have hcell2 := cell_later hbl c2
        have HX := Lib.hid hx
        have hcall := Lib.hid (HP.out _ hxl _ hbl)
        clear hc hxl hx c1 c2
        cases hq : p x with
        | true =>
          rw [hq] at hcall
          have HQ := Lib.hid hq; clear hq
          go_wp2_with (go_at_fn g; refine (hcall.out).mono ?_; rintro e w' ⟨rfl, hb'⟩)
          go_ret
          exact ⟨ret_int (idxOf_some (findIdx_hit HX.out HQ.out HN.out)).symm, below_trans hbl hb'⟩
        | false =>
          rw [hq] at hcall
          have HQ := Lib.hid hq; clear hq
          go_wp2_with (go_at_fn g; refine (hcall.out).mono ?_; rintro e w' ⟨rfl, hb'⟩)
          go_roundw
          case rel => exact ⟨k + 1, by omega, by go_num, take_no HX.out HQ.out HN.out, below_trans hbl hb'⟩
          case measure => simp [intOf]; omega
      · go_wp2_with fail
        go_ret
        exact ⟨ret_int (idxOf_none (findIdx_miss (by omega) HN.out)).symm, hbl⟩

end Go.Proofs.YtacgopankhpnbaaGreatDoor
