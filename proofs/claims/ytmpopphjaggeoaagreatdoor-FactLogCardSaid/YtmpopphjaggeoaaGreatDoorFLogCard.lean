/- For all lists of facts, facts, names and versions, ladinglaw24.FactLog returns true and leaves its arguments as they were: the row and its tied card. No condition beyond the row's own cells (the listed variables start as the program's text lays them). -/
import Derived.Test.YtmpopphjaggeoaaGreatDoorTopK
import Derived.Test.YtmpopphjaggeoaaGreatDoorLE
import Derived.Test.YtmpopphjaggeoaaGreatDoorFLogCardA
namespace Go.Proofs.YtmpopphjaggeoaaGreatDoor.FLogCard
open Go.ChangeShapes Go.WideShapes Go.ChangeAt Go.RowKit

theorem weights_4 {H : Type} {t0 t1 t2 t3 : TypeId} {us : List TypeId} {d0 d1 d2 d3 : DataW H} (h : (DataW.weightsEach Tryz.prog ([t0, t1, t2, t3] ++ us) [d0, d1, d2, d3]).all (· ≤ reachBytes) = true) :
    (d0.weights Tryz.prog t0).all (· ≤ reachBytes) = true ∧ (d1.weights Tryz.prog t1).all (· ≤ reachBytes) = true ∧ (d2.weights Tryz.prog t2).all (· ≤ reachBytes) = true ∧ (d3.weights Tryz.prog t3).all (· ≤ reachBytes) = true := by
  simp only [List.cons_append, DataW.weightsEach, List.all_append, Bool.and_eq_true] at h
  exact ⟨h.1, h.2.1, h.2.2.1, h.2.2.2.1⟩
set_option maxRecDepth 100000 in
theorem contract (H : Type) (enc : TypeId × Value → H) (W : World) (base : Nat) (args : Array Value) (ds gs : List (DataW H)) (before : List MemPlace)
    (hval : ∀ (j : Nat) t v, Tryz.f5.params[j]? = some t → args[j]? = some v → Value.okWide Tryz.prog W .any base t v)
    (hW : DataW.Whole enc Tryz.prog Tryz.f5.params.toList Rows.factLogSpec.vars false W args.toList ds gs before) (hz : (DataW.weightsEach Tryz.prog (Tryz.f5.params.toList ++ Rows.factLogSpec.plain.varTypes Tryz.prog) (ds ++ gs)).all (· ≤ reachBytes) = true) (hL : laidMetH Tryz.prog dV W) (hsh : W.ShapedOpen Tryz.prog) :
    Calls Tryz.prog 5 args W fun e W' => ∃ v, e = .returned v ∧ Rows.factLogSpec.post enc Tryz.prog Tryz.f5 false true false false W args v W' := by
  have hW' := hW
  obtain ⟨p, q, hA0, hV, rfl, hfz, hnd⟩ := hW
  have hA : DataW.TrodAll enc Tryz.prog W 0 (fun _ => true) true Tryz.f5.params.toList args.toList ds p := hA0
  rw [Tryz.params5] at hA hval hz
  obtain ⟨v0, v1, v2, v3, d0, d1, d2, d3, p0, p1, p2, p3, rfl, rfl, rfl, h0, h1, h2, h3⟩ := trodAll_four hA
  obtain ⟨rfl, rfl⟩ := trodVars_none hV
  clear hA0
  have hz' := weights_cut hz
  obtain ⟨hz0, hz1, hz2, hz3⟩ := weights_4 hz'
  obtain ⟨l, hL0⟩ := read_facts (hval 0 53 v0 rfl rfl) h0 hz0
  obtain ⟨f, p, rfl, hF⟩ := read_fact (hval 1 37 v1 rfl rfl) h1 hz1
  obtain ⟨s, rfl, hd2, -, -⟩ := Go.ChangeMaps.open_string Tryz.underlying9 (hval 2 9 v2 rfl rfl) h2
  obtain ⟨v, rfl⟩ := read_version (hval 3 23 v3 rfl rfl) h3 hz3
  clear hd2
  refine (factLog_any l f s v _ W (glob_of hL hsh) (err_of hL) hL0 hF).mono fun e W' ⟨he, hb⟩ => ?_
  subst he
  exact ⟨_, rfl, law_post hW' rfl rfl read rfl rfl rfl hb⟩

set_option maxRecDepth 100000 in
theorem lifted (os : Os) (started : os.Started) (H : Type) (enc : TypeId × Value → H) (F : Stop.Interp) :
    ReturnsInHanded {} Tryz.checked os 5 .any ((OpenSpec.ofChange Rows.factLogSpec).preRow enc Tryz.prog Tryz.f5 Rows.factLogRow.domain false Rows.factLogRow.laid) (((OpenSpec.ofChange Rows.factLogSpec).at F).post enc Tryz.prog Tryz.f5 false true false false) := by
  obtain ⟨places, hx⟩ := reads os enc
  refine returnsInHanded_of_row (C := Tryz.checked) (s := OpenSpec.ofChange Rows.factLogSpec) own started (by kernel_rfl) Tryz.func5
    (witness_shaped (enc := enc) (seatWorld os) #[.slice none 0 0, .agg #[.int .i64 0, .string ⟨#[]⟩, .int .i64 0, .int .i64 0, .int .i64 0, .string ⟨#[]⟩, .int .i64 0, .int .i64 0, .int .i64 0, .string ⟨#[]⟩, .slice none 0 0, .slice none 0 0, .slice none 0 0, .string ⟨#[]⟩, .int .i64 0, .string ⟨#[]⟩, .slice none 0 0, .string ⟨#[]⟩, .int .i64 0, .int .i64 0, .string ⟨#[]⟩, .string ⟨#[]⟩, .slice none 0 0, .slice none 0 0, .slice none 0 0, .int .i64 0, .int .i64 0, .int .i64 0, .int .i64 0], .string ⟨#[]⟩, .agg #[.int .i64 0, .int .i64 0, .int .i64 0]] (World.laidAll_os _ _ _) (seat_shaped os _) (by kernel_rfl)
      (OpenSpec.preRow_of_cond 8 hx (by kernel_rfl) (fun k hk => by cases hk) (by kernel_rfl) (seat_met os _))) ?_
  intro W base args ds gs before hval hW _ _ hz hL hsh _
  exact contract H enc W base args ds gs before hval hW hz hL hsh

set_option maxRecDepth 100000 in
theorem said : Rows.FactLogSaid :=
  OpenClaim.holds_of_cond 5 Tryz.f5 rfl rfl rfl rfl rfl rfl rfl ⟨rfl, rfl, rfl, rfl, rfl⟩ rfl rfl rfl rfl rfl (by kernel_rfl) Tryz.func5 facts
    (of_decide_eq_true (by kernel_rfl)) (by unfold Func.isWrapper; first | (rw [if_pos (by decide +kernel)]; kernel_rfl) | (rw [if_neg (by decide +kernel)]; exact ⟨rfl, rfl⟩))
    (fun os started H enc _ F => by rw [OpenClaim.pre_eq_preRow]; exact lifted os started H enc F)

theorem card : Rows.FactLogCardSaid :=
  Claim7.holds_tied_plain_at .later [] _ _ _ _ said (fun _ h => by cases h) (by kernel_rfl) (fun _ h => by cases h) factLog_row_tie rfl ⟨rfl, rfl⟩ (by kernel_rfl) rfl plain (by kernel_rfl)
#print axioms card
end Go.Proofs.YtmpopphjaggeoaaGreatDoor.FLogCard
