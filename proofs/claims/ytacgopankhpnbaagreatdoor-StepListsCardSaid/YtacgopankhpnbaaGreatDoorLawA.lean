/- Walks of ladinglaw32: last, files; step.Pure. -/
import Derived.Test.YtacgopankhpnbaaGreatDoorDoC
import Derived.Test.YtacgopankhpnbaaGreatDoorSmallSpec
import Derived.WalkLawsBesides
namespace Go.Proofs.YtacgopankhpnbaaGreatDoor
open Go.RowKit

theorem fils_made {w : World} {g : Nat} {cs : Array Value} {t : TypeId} {fr : Nat × Nat} (l : List Fil) (h : w.heap[g]? = some (.cells cs t fr)) (hcs : cs.toList = filCells l) (hl : l.length ≤ 140737488355328)
    (hz : ∀ f, f ∈ l → f.name.size ≤ 140737488355328 ∧ f.text.size ≤ 140737488355328) : Fils w (.slice (some ⟨g, 0, none⟩) l.length l.length) l := by
  refine ⟨_, l.length, rfl, Nat.le_refl _, by omega, fun _ => ⟨g, 0, rfl, fun i f hf => ⟨[.string f.name, .string f.text], ⟨rfl, hz f (List.mem_of_getElem? hf)⟩, rfl, fun j u hu => ?_⟩⟩⟩
  obtain ⟨c1, c2⟩ := filCells_at l i f hf
  rw [← hcs] at c1 c2
  match j, hu with
  | 0, hu => cases hu; simp only [World.cell?, h]; simpa using c1
  | 1, hu => cases hu; simp only [World.cell?, h]; simpa using c2
theorem strs_made {w : World} {g : Nat} {cs : Array Value} {t : TypeId} {fr : Nat × Nat} (l : List ByteArray) (h : w.heap[g]? = some (.cells cs t fr)) (hcs : cs.toList = l.map Value.string) (hl : l.length ≤ 140737488355328)
    (hz : ∀ x, x ∈ l → x.size ≤ 140737488355328) : Strs w (.slice (some ⟨g, 0, none⟩) l.length l.length) l := by
  refine ⟨_, l.length, rfl, Nat.le_refl _, by omega, fun _ => ⟨g, 0, rfl, fun i x hx => ⟨[.string x], ⟨rfl, hz x (List.mem_of_getElem? hx)⟩, rfl, fun j u hu => ?_⟩⟩⟩
  match j, hu with
  | 0, hu =>
    cases hu
    have h1 : cs.toList[i]? = some (.string x) := by rw [hcs]; simp [hx]
    simp only [World.cell?, h]; simpa using h1
theorem ints_made {w : World} {g : Nat} {cs : Array Value} {t : TypeId} {fr : Nat × Nat} (l : List Int) (h : w.heap[g]? = some (.cells cs t fr)) (hcs : cs.toList = l.map (Value.int .i64)) (hl : l.length ≤ 140737488355328) : Ints w (.slice (some ⟨g, 0, none⟩) l.length l.length) l := by
  refine ⟨_, l.length, rfl, Nat.le_refl _, by omega, fun _ => ⟨g, 0, rfl, fun i x hx => ⟨[.int .i64 x], rfl, rfl, fun j u hu => ?_⟩⟩⟩
  match j, hu with
  | 0, hu =>
    cases hu
    have h1 : cs.toList[i]? = some (.int .i64 x) := by rw [hcs]; simp [hx]
    simp only [World.cell?, h]; simpa using h1
theorem strs_nil (w : World) : Strs w (.slice none 0 0) [] := ⟨none, 0, rfl, by simp, by simp, fun h => absurd rfl h⟩
theorem ints_nil (w : World) : Ints w (.slice none 0 0) [] := ⟨none, 0, rfl, by simp, by simp, fun h => absurd rfl h⟩

/-- ladinglaw32.last -/
def lastText (l : List Fil) : ByteArray := match l.getLast? with | none => ByteArray.empty | some f => f.text

theorem last_any (l : List Fil) (v : Value) (w : World) (hv : Fils w v l) :
    Calls Tryz.prog 22 #[v] w fun e w' => e = .returned (.string (lastText l)) ∧ w = w' := by
  rcases hv.cases with ⟨rfl, a, c, rfl⟩ | ⟨b, o, c, rfl, h0, h1, h2, hb, hc⟩
  · go_enter Tryz.func22, Tryz.ntmps22
    go_wp2_with fail
    go_ret
    exact ⟨rfl, rfl⟩
  · obtain ⟨n, hn⟩ : ∃ n, l.length = n + 1 := ⟨l.length - 1, by omega⟩
    obtain ⟨f, hf, -⟩ := getElem?_of_lt (l := l) (k := n) (by omega)
    obtain ⟨-, c2, -, -⟩ := hc n f hf
    have HL := Lib.hid (show lastText l = f.text by
      unfold lastText; rw [List.getLast?_eq_getElem?, hn]; simp [hf])
    rw [HL.out]
    rw [hn] at h1 ⊢
    clear hc hf hv HL hn h0
    go_enter Tryz.func22, Tryz.ntmps22
    go_wp2_with fail
    go_ret
    exact ⟨rfl, rfl⟩

theorem files_any (w : World) :
    Calls Tryz.prog 50 #[] w fun e w' => ∃ v, e = .returned v ∧ Fils w' v lawFiles ∧ Below w.heap.size w w' := by
  go_enter Tryz.func50, Tryz.ntmps50
  go_wp2_with fail
  go_ret
  exact ⟨_, rfl, fils_made lawFiles (alloc_self _ _) rfl (by decide) (fun f hf => by simp [lawFiles] at hf; rcases hf with rfl | rfl <;> decide), below_alloc _ _⟩
end Go.Proofs.YtacgopankhpnbaaGreatDoor
