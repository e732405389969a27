/- Walks of package step: the sandbox's list. -/
import Derived.Test.YtacgopankhpnbaaGreatDoorStepF
import Derived.Test.YtacgopankhpnbaaGreatDoorSeqB
namespace Go.Proofs.YtacgopankhpnbaaGreatDoor
open Go.RowKit

theorem only_setCells (b : Nat) : ∀ (vs : List Value) (o : Nat) (w : World), Only b w (w.setCells b o vs)
  | [], _, w => Only.refl b w
  | v :: r, o, w => (Only.setCell w).trans (only_setCells b r (o + 1) (w.setCell ⟨b, o, none⟩ v))
theorem Only.drewN {b : Nat} {w : World} (n : Nat) : Only b w (w.drewN n) := ⟨rfl, rfl, rfl, Nat.le_refl _, fun _ _ _ => rfl⟩

theorem strsOf_getD (l : List ByteArray) : Lib.strsOf (fun j => l.getD j ByteArray.empty) l.length = l.map (·.data.toList) := by
  apply List.ext_getElem
  · simp [Lib.strsOf]
  · intro i h1 h2
    have hi : i < l.length := by simpa [Lib.strsOf] using h1
    simp [Lib.strsOf, hi]

theorem delete_at (g o c : Nat) (l : List ByteArray) (i : Nat) (w : World) (hc : ∀ j x, l[j]? = some x → w.cell? ⟨g, o + j, none⟩ = some (.string x) ∧ w.frozen? ⟨g, o + j, none⟩ = false)
    (hi : i < l.length) (hcap : l.length ≤ c) (hm : c ≤ 9223372036854775807) :
    Calls Tryz.prog 118 #[.slice (some ⟨g, o, none⟩) l.length c, .int .i64 i, .int .i64 ((i : Int) + 1)] w fun e w' => e = .returned (.slice (some ⟨g, o, none⟩) (l.eraseIdx i).length c) ∧ Only g w w' ∧
      ∀ j x, (l.eraseIdx i)[j]? = some x → w'.cell? ⟨g, o + j, none⟩ = some (.string x) ∧ w'.frozen? ⟨g, o + j, none⟩ = false := by
  have hcell : ∀ j, j < l.length → w.cell? ⟨g, o + j, none⟩ = some (.string (l.getD j ByteArray.empty)) := fun j hj => by
    rw [List.getD_eq_getElem?_getD, List.getElem?_eq_getElem hj]; exact (hc j _ (List.getElem?_eq_getElem hj)).1
  have h := Tryz.slices_Delete_string_cells g o l.length c i (i + 1) (fun j => l.getD j ByteArray.empty) w hcap hm (by omega) (by omega) hcell (fun j hj => (hc j _ (List.getElem?_eq_getElem hj)).2)
  rw [strsOf_getD, show i + 1 - i = 1 by omega] at h
  have e1 : (((i + 1 : Nat) : Int)) = (i : Int) + 1 := by omega
  rw [e1] at h
  refine h.mono ?_
  rintro e w' ⟨rfl, q, rfl⟩
  have hlen : (l.eraseIdx i).length = l.length - 1 := by rw [List.length_eraseIdx]; simp [hi]
  refine ⟨by rw [hlen], (Only.drewN q).trans (only_setCells g _ o _), fun j x hx => ?_⟩
  have hj : j < (l.eraseIdx i).length := (List.getElem?_eq_some_iff.1 hx).1
  rw [World.frozen?_setCells]
  have hvs : ((List.take i (List.map (fun x : ByteArray => x.data.toList) l) ++ List.drop (i + 1) (List.map (fun x : ByteArray => x.data.toList) l) ++ List.replicate 1 []).map encStr)[j]? = some (.string x) := by
    have : (List.take i (List.map (fun x : ByteArray => x.data.toList) l) ++ List.drop (i + 1) (List.map (fun x : ByteArray => x.data.toList) l)) = List.map (fun x : ByteArray => x.data.toList) (l.eraseIdx i) := by
      rw [List.eraseIdx_eq_take_drop_succ, List.map_append, List.map_take, List.map_drop]
    rw [this, List.map_append, List.getElem?_append_left (by simpa using hj)]
    simp [hx]
  obtain ⟨hj2, hxe⟩ := List.getElem?_eq_some_iff.1 hvs
  refine ⟨?_, (hc j _ (List.getElem?_eq_getElem (by omega))).2⟩
  rw [World.cell?_setCells_in g _ o _ (fun j' hj' => ?_) j hj2, hxe]
  have : j' < l.length := by simp at hj'; omega
  have := (hc j' _ (List.getElem?_eq_getElem this)).1
  show (w.cell? _).isSome = true
  rw [this]; rfl
end Go.Proofs.YtacgopankhpnbaaGreatDoor
