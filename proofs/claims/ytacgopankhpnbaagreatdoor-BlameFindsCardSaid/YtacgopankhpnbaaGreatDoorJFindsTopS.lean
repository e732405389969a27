/- Texts of this seat, joined: CardD, CardE. -/
import Derived.Test.YtacgopankhpnbaaGreatDoorJFindsTopSCardC
import Derived.Test.YtacgopankhpnbaaGreatDoorJFindsTopP
/- How recipes and worlds that come in are read. -/
namespace Go.Proofs.YtacgopankhpnbaaGreatDoor
open Go.ChangeShapes Go.WideShapes Go.ChangeAt Go.RowKit Go.Deep Go.Joins

section
variable {H : Type} {enc : TypeId × Value → H} {W : World}
theorem form_of {n : Nat} {t e : TypeId} {v : Value} {y : DataW H × List MemPlace} (ht : Tryz.prog.underlying t = some (.slice e)) (h : DataW.trod enc Tryz.prog W 0 (fun _ => true) true n t [v] = some y) : ∃ a n c, v = .slice a n c := by
  rcases open_slice ht h with ⟨hcs, -⟩ | ⟨a, len, cap, m, k, D, Pl, hcs, -⟩
  · exact ⟨none, 0, 0, by injection hcs⟩
  · exact ⟨some a, len, cap, by injection hcs⟩
theorem field_ints {n : Nat} {v : Value} {y : DataW H × List MemPlace} (h : DataW.trod enc Tryz.prog W 0 (fun _ => true) true n 26 [v] = some y) (hz : (y.1.weights Tryz.prog 26).all (· ≤ reachBytes) = true) :
    ∃ l : List Int, Ints W v l ∧ l.length ≤ 140737488355328 ∧ ∀ x, x ∈ l → (Lit.int .i64 x).wf = true := by
  obtain ⟨a0, n0, c0, rfl⟩ := form_of Tryz.underlying26 h
  obtain ⟨l, a, b, o, c, e, h1, -, h2, h3⟩ := read_ints_form (d := y.1) (p := y.2) ⟨a0, n0, c0, rfl⟩ ⟨n, h⟩ hz
  exact ⟨l, by rw [e]; exact h1, h2, h3⟩
theorem field_strs {n : Nat} {v : Value} {y : DataW H × List MemPlace} (h : DataW.trod enc Tryz.prog W 0 (fun _ => true) true n 22 [v] = some y) (hz : (y.1.weights Tryz.prog 22).all (· ≤ reachBytes) = true) :
    ∃ l : List ByteArray, Strs W v l := by
  obtain ⟨a0, n0, c0, rfl⟩ := form_of Tryz.underlying22 h
  obtain ⟨l, a, b, o, c, e, h1, -⟩ := read_strs_form (d := y.1) (p := y.2) ⟨a0, n0, c0, rfl⟩ ⟨n, h⟩ hz
  exact ⟨l, by rw [e]; exact h1⟩
theorem field_string {n : Nat} {t : TypeId} {v : Value} {y : DataW H × List MemPlace} (ht : Tryz.prog.underlying t = some .string) (h : DataW.trod enc Tryz.prog W 0 (fun _ => true) true n t [v] = some y) (hz : (y.1.weights Tryz.prog t).all (· ≤ reachBytes) = true) :
    ∃ s : ByteArray, v = .string s ∧ s.size ≤ 140737488355328 := by
  obtain ⟨s, hcs, hy, hm⟩ := DataW.trod_string ht h
  obtain rfl : v = .string s := by injection hcs
  subst hy
  have hr := reach_le
  simp [DataW.weights] at hz
  exact ⟨s, rfl, by omega⟩
theorem field_int {n : Nat} {t : TypeId} {v : Value} {y : DataW H × List MemPlace} (ht : Tryz.prog.underlying t = some (.int .i64)) (h : DataW.trod enc Tryz.prog W 0 (fun _ => true) true n t [v] = some y) : ∃ x : Int, v = .int .i64 x := by
  obtain ⟨x, hcs, -⟩ := DataW.trod_int ht h
  exact ⟨x, by injection hcs⟩
theorem field_bool {n : Nat} {t : TypeId} {v : Value} {y : DataW H × List MemPlace} (ht : Tryz.prog.underlying t = some .bool) (h : DataW.trod enc Tryz.prog W 0 (fun _ => true) true n t [v] = some y) : ∃ x : Bool, v = .bool x := by
  obtain ⟨x, hcs, -⟩ := DataW.trod_bool ht h
  exact ⟨x, by injection hcs⟩
set_option maxRecDepth 100000 in
theorem field_fils {n : Nat} {v : Value} {y : DataW H × List MemPlace} (h : DataW.trod enc Tryz.prog W 0 (fun _ => true) true n 25 [v] = some y) (hz : (y.1.weights Tryz.prog 25).all (· ≤ reachBytes) = true) :
    ∃ l : List Fil, Fils W v l := by
  obtain ⟨l, a, c, hv, hr, -⟩ := open_row (α := Fil) (ec := encFil) Tryz.underlying25 Tryz.underlying40 (by kernel_rfl) (by kernel_rfl) (by decide) h hz (fun vs ys k hl hf => by
    match vs, hl with
    | [u0, u1], _ =>
      obtain ⟨x0, y0, e0, t0, z0⟩ := hf 0 _ rfl
      obtain ⟨x1, y1, e1, t1, z1⟩ := hf 1 _ rfl
      cases e0; cases e1
      obtain ⟨s0, rfl, h0⟩ := field_string (by kernel_rfl) t0 z0
      obtain ⟨s1, rfl, h1⟩ := field_string (by kernel_rfl) t1 z1
      exact ⟨⟨s0, s1⟩, rfl, h0, h1⟩)
  exact ⟨l, hr⟩
set_option maxRecDepth 100000 in
theorem field_stps {n : Nat} {v : Value} {y : DataW H × List MemPlace} (h : DataW.trod enc Tryz.prog W 0 (fun _ => true) true n 49 [v] = some y) (hz : (y.1.weights Tryz.prog 49).all (· ≤ reachBytes) = true) :
    ∃ l : List (Value × Stp), Stps W v l := by
  obtain ⟨l, a, c, hv, hr, -⟩ := open_row (α := Value × Stp) (ec := encStp) Tryz.underlying49 Tryz.underlying24 (by kernel_rfl) (by kernel_rfl) (by decide) h hz (fun vs ys k hl hf => by
    match vs, hl with
    | [u0, u1, u2, u3], _ =>
      obtain ⟨x0, y0, e0, t0, z0⟩ := hf 0 _ rfl
      obtain ⟨x1, y1, e1, t1, z1⟩ := hf 1 _ rfl
      obtain ⟨x2, y2, e2, t2, z2⟩ := hf 2 _ rfl
      obtain ⟨x3, y3, e3, t3, z3⟩ := hf 3 _ rfl
      cases e0; cases e1; cases e2; cases e3
      obtain ⟨i, rfl⟩ := field_int (by kernel_rfl) t0
      obtain ⟨ls, hls⟩ := field_strs t1 z1
      obtain ⟨s, rfl, hs⟩ := field_string (by kernel_rfl) t2 z2
      obtain ⟨q, rfl⟩ := field_bool (by kernel_rfl) t3
      exact ⟨(u1, ⟨i, ls, s, q⟩), rfl, hls, hs⟩)
  exact ⟨l, hr⟩
end
set_option maxRecDepth 100000 in
theorem read_rcp {H : Type} {enc : TypeId × Value → H} {W : World} {base : Nat} {v : Value} {d : DataW H} {p : List MemPlace} (hok : Value.okWide Tryz.prog W .any base 51 v) (h : DataW.Trod enc Tryz.prog W 0 (fun _ => true) true 51 v d p)
    (hz : (d.weights Tryz.prog 51).all (· ≤ reachBytes) = true) : ∃ (r : Rcp) (L : List (Value × Stp)) (vi vs : Value), v = rcpV vi vs r.output ∧ RcpIn r L vi vs W := by
  obtain ⟨v0, v1, v2, y0, y1, y2, n, rfl, rfl, -, h0, h1, h2⟩ := open_agg3 Tryz.underlying51 (by kernel_rfl) (by kernel_rfl) hok h
  rw [DataW.weights, Tryz.underlying51] at hz
  obtain ⟨fl, hf⟩ := field_fils h0 (weightsEach_at hz (j := 0) rfl rfl)
  obtain ⟨L, hL⟩ := field_stps h1 (weightsEach_at hz (j := 1) rfl rfl)
  obtain ⟨o, rfl, ho⟩ := field_string (by kernel_rfl) h2 (weightsEach_at hz (j := 2) rfl rfl)
  exact ⟨⟨fl, L.map (·.2), o⟩, L, v0, v1, rfl, hf, hL, rfl, ho⟩
set_option maxRecDepth 100000 in
theorem read_wld {H : Type} {enc : TypeId × Value → H} {W : World} {base : Nat} {v : Value} {d : DataW H} {p : List MemPlace} (hok : Value.okWide Tryz.prog W .any base 28 v) (h : DataW.Trod enc Tryz.prog W 0 (fun _ => true) true 28 v d p)
    (hz : (d.weights Tryz.prog 28).all (· ≤ reachBytes) = true) : ∃ (clock order next : List Int) (vc vo vn : Value), v = .agg #[vc, vo, vn] ∧ WldIn clock order next vc vo vn W := by
  obtain ⟨v0, v1, v2, y0, y1, y2, n, rfl, rfl, -, h0, h1, h2⟩ := open_agg3 Tryz.underlying28 (by kernel_rfl) (by kernel_rfl) hok h
  rw [DataW.weights, Tryz.underlying28] at hz
  obtain ⟨l0, a0, -, b0⟩ := field_ints h0 (weightsEach_at hz (j := 0) rfl rfl)
  obtain ⟨l1, a1, -, b1⟩ := field_ints h1 (weightsEach_at hz (j := 1) rfl rfl)
  obtain ⟨l2, a2, -, b2⟩ := field_ints h2 (weightsEach_at hz (j := 2) rfl rfl)
  exact ⟨l0, l1, l2, v0, v1, v2, rfl, a0, a1, a2, b0, b1, b2⟩
theorem weights_3 {H : Type} {t0 t1 t2 : TypeId} {us : List TypeId} {d0 d1 d2 : DataW H} (h : (DataW.weightsEach Tryz.prog ([t0, t1, t2] ++ us) [d0, d1, d2]).all (· ≤ reachBytes) = true) :
    (d0.weights Tryz.prog t0).all (· ≤ reachBytes) = true ∧ (d1.weights Tryz.prog t1).all (· ≤ reachBytes) = true ∧ (d2.weights Tryz.prog t2).all (· ≤ reachBytes) = true := by
  simp only [List.cons_append, DataW.weightsEach, List.all_append, Bool.and_eq_true] at h
  exact ⟨h.1, h.2.1, h.2.2.1⟩
end Go.Proofs.YtacgopankhpnbaaGreatDoor
/- How records that come in are read. -/
namespace Go.Proofs.YtacgopankhpnbaaGreatDoor
open Go.ChangeShapes Go.WideShapes Go.ChangeAt Go.RowKit Go.Deep Go.Joins

set_option maxRecDepth 100000 in
theorem field_dns {H : Type} {enc : TypeId × Value → H} {W : World} {n : Nat} {v : Value} {y : DataW H × List MemPlace} (h : DataW.trod enc Tryz.prog W 0 (fun _ => true) true n 54 [v] = some y) (hz : (y.1.weights Tryz.prog 54).all (· ≤ reachBytes) = true) :
    ∃ l : List (Value × Dn), Dns W v l := by
  obtain ⟨l, a, c, hv, hr, -⟩ := open_row (α := Value × Dn) (ec := encDn) Tryz.underlying54 Tryz.underlying59 (by kernel_rfl) (by kernel_rfl) (by decide) h hz (fun vs ys k hl hf => by
    match vs, hl with
    | [u0, u1, u2], _ =>
      obtain ⟨x0, y0, e0, t0, z0⟩ := hf 0 _ rfl
      obtain ⟨x1, y1, e1, t1, z1⟩ := hf 1 _ rfl
      obtain ⟨x2, y2, e2, t2, z2⟩ := hf 2 _ rfl
      cases e0; cases e1; cases e2
      obtain ⟨i, rfl⟩ := field_int (by kernel_rfl) t0
      obtain ⟨ls, hls⟩ := field_strs t1 z1
      obtain ⟨s, rfl, hs⟩ := field_string (by kernel_rfl) t2 z2
      exact ⟨(u1, ⟨i, ls, s⟩), rfl, hls, hs⟩)
  exact ⟨l, hr⟩
set_option maxRecDepth 100000 in
theorem read_dns {H : Type} {enc : TypeId × Value → H} {W : World} {base : Nat} {v : Value} {d : DataW H} {p : List MemPlace} (hok : Value.okWide Tryz.prog W .any base 54 v) (h : DataW.Trod enc Tryz.prog W 0 (fun _ => true) true 54 v d p)
    (hz : (d.weights Tryz.prog 54).all (· ≤ reachBytes) = true) : ∃ L : List (Value × Dn), Dns W v L := by
  obtain ⟨a0, len, cap, rfl⟩ := okWide_slice Tryz.underlying54 hok
  obtain ⟨n, h⟩ := h
  exact field_dns (y := (d, p)) h hz
end Go.Proofs.YtacgopankhpnbaaGreatDoor
