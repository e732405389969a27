/- The examples of ladinglaw32.small, reckoned. No program in sight. -/
import Derived.Test.YtacgopankhpnbaaGreatDoorSortLaw
import Derived.KernelRfl
namespace Go.Proofs.YtacgopankhpnbaaGreatDoor

abbrev C0 : ByteArray → Int × ByteArray := fun _ => (0, ByteArray.empty)
/-- ladinglaw32.files -/
def lawFiles : List Fil := [⟨⟨#[97]⟩, ⟨#[50, 10, 49, 10]⟩⟩, ⟨⟨#[98]⟩, ⟨#[120]⟩⟩]

theorem ex1 : doStep C0 ⟨3, [⟨#[97]⟩], ⟨#[99]⟩, false⟩ lawFiles [] [] 0 0 = .ok (⟨#[49, 10, 50, 10]⟩, [⟨#[50, 10, 49, 10]⟩], 0, 0) := by
  simp only [doStep, writeStep, sortedLines, sortB_eq]; kernel_rfl
theorem ex2 : doStep C0 ⟨4, [⟨#[98]⟩], ⟨#[99]⟩, false⟩ lawFiles [70, 80] [] 1 0 = .ok (⟨#[120, 56, 48, 59, 10]⟩, [⟨#[120]⟩], 2, 0) := by
  simp only [doStep, writeStep, sortedLines, sortB_eq]; kernel_rfl
theorem ex3 : doStep C0 ⟨2, [⟨#[98]⟩, ⟨#[97]⟩], ⟨#[99]⟩, false⟩ lawFiles [] [1] 0 0 = .ok (⟨#[98, 10, 97, 10]⟩, [], 0, 2) := by
  simp only [doStep, writeStep, sortedLines, sortB_eq]; kernel_rfl
theorem ex4 : doStep C0 ⟨2, [⟨#[98]⟩, ⟨#[97]⟩], ⟨#[99]⟩, true⟩ lawFiles [] [1] 0 0 = .ok (⟨#[97, 10, 98, 10]⟩, [], 0, 0) := by
  simp only [doStep, writeStep, sortedLines, sortB_eq]; kernel_rfl
theorem ex5 : doStep C0 ⟨1, [⟨#[98]⟩, ⟨#[97]⟩, ⟨#[98]⟩], ⟨#[98]⟩, false⟩ lawFiles [] [] 0 0 = .error 5 := by
  simp only [doStep, writeStep, sortedLines, sortB_eq]; kernel_rfl
theorem ex6 : doStep C0 ⟨0, [⟨#[100]⟩], ⟨#[99]⟩, false⟩ lawFiles [] [] 0 0 = .error 4 := by
  simp only [doStep, writeStep, sortedLines, sortB_eq]; kernel_rfl
theorem ex7 : findFile lawFiles ⟨#[98]⟩ = some ⟨#[120]⟩ := by kernel_rfl
theorem ex8 : rightFiles lawFiles = true := by kernel_rfl
theorem ex9 : stepRight ⟨0, [⟨#[98]⟩], ⟨#[97]⟩, false⟩ = true := by kernel_rfl
theorem ex10 : stepRight ⟨0, [], ⟨#[]⟩, false⟩ = false := by kernel_rfl
theorem ex11 : stepPure ⟨1, [], ⟨#[97]⟩, false⟩ = true := by kernel_rfl
theorem ex12 : stepPure ⟨2, [], ⟨#[97]⟩, false⟩ = false := by kernel_rfl
end Go.Proofs.YtacgopankhpnbaaGreatDoor
