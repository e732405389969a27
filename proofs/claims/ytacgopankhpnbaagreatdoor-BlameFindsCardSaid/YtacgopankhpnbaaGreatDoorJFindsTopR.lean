/- Texts of this seat, joined: BlameG, BlameH, BlameI, BlameJ. -/
import Derived.Test.YtacgopankhpnbaaGreatDoorJFindsTopQ
import Derived.Test.YtacgopankhpnbaaGreatDoorJFindsTopG
/- Walks of package blame: Input, First. -/
namespace Go.Proofs.YtacgopankhpnbaaGreatDoor
open Go.RowKit

/-- slices.Equal at strings. -/
theorem equal_any (l m : List ByteArray) (v u : Value) (w : World) (hl : Strs w v l) (hm : Strs w u m) :
    Calls Tryz.prog 76 #[v, u] w fun e w' => e = .returned (.bool (decide (l = m))) ∧ ∃ q, w' = w.drewN q := by
  obtain ⟨a1, c1, rfl⟩ := strs_slice hl
  obtain ⟨a2, c2, rfl⟩ := strs_slice hm
  by_cases hlen : l.length = m.length
  · rcases hl.cases with ⟨rfl, -⟩ | ⟨b, o, c, e, h0, h1, h2, -, hc⟩
    · have e : m = [] := List.eq_nil_of_length_eq_zero (by simpa using hlen.symm)
      subst e
      refine (Tryz.slices_Equal_string_empty a1 a2 c1 0 c2 w (by omega)).mono ?_
      rintro e w' ⟨rfl, rfl⟩
      exact ⟨by simp, 0, rfl⟩
    · rcases hm.cases with ⟨rfl, -⟩ | ⟨b', o', c', e', h0', h1', h2', -, hc'⟩
      · simp at hlen; rw [hlen] at h0; simp at h0
      · obtain ⟨rfl, rfl⟩ : a1 = some ⟨b, o, none⟩ ∧ c1 = c := by injection e with e1 e2 e3; exact ⟨e1, e3⟩
        obtain ⟨rfl, rfl⟩ : a2 = some ⟨b', o', none⟩ ∧ c2 = c' := by injection e' with e1 e2 e3; exact ⟨e1, e3⟩
        refine (Tryz.slices_Equal_string b o l.length c1 b' o' m.length c2 l m w (Nat.le_refl _) (Nat.le_refl _) (by omega) (by omega) (fun j hj => ?_) (fun j hj => ?_)).mono ?_
        · obtain ⟨x, hx, -⟩ := getElem?_of_lt hj
          rw [(hc j x hx).1, List.getD_eq_getElem?_getD, hx]; rfl
        · obtain ⟨x, hx, -⟩ := getElem?_of_lt hj
          rw [(hc' j x hx).1, List.getD_eq_getElem?_getD, hx]; rfl
        · rintro e w' ⟨rfl, h⟩
          exact ⟨by rw [List.take_length, List.take_length], h⟩
  · refine (Tryz.slices_Equal_string_lens a1 a2 l.length c1 m.length c2 w hlen).mono ?_
    rintro e w' ⟨rfl, rfl⟩
    exact ⟨by rw [decide_eq_false (fun h => hlen (by rw [h]))], 0, rfl⟩

theorem BothPost.split {n : Nat} {La Lb : List (Value × Dn)} {a b : Option RSt} {w w' : World} {e : Ending} (h : BothPost n La Lb a b w e w') :
    Below w.heap.size w w' ∧ ((∃ x y ga ba Da gb bb Db, a = some x ∧ b = some y ∧ e = .returned (.tuple #[recV ga ba n, recV gb bb n, .bool true]) ∧ RecIs w' ga ba n x Da ∧ RecIs w' gb bb n y Db) ∨
      ((a = none ∨ b = none) ∧ ∃ s m p t k q, e = .returned (.tuple #[.agg #[.slice s m m, .map p], .agg #[.slice t k k, .map q], .bool false]))) := by
  obtain ⟨hb, x0, x1, y0, y1, rfl, hx, hy⟩ := h
  refine ⟨hb, ?_⟩
  obtain ⟨s, m, p, rfl, rfl⟩ := hx.form
  obtain ⟨t, k, q, rfl, rfl⟩ := hy.form
  cases a with
  | none => exact .inr ⟨.inl rfl, s, m, p, t, k, q, rfl⟩
  | some x =>
    cases b with
    | none => exact .inr ⟨.inr rfl, s, m, p, t, k, q, rfl⟩
    | some y =>
      obtain ⟨ga, ba, Da, e1, h1, -⟩ := hx
      obtain ⟨gb, bb, Db, e2, h2, -⟩ := hy
      refine .inl ⟨x, y, ga, ba, Da, gb, bb, Db, rfl, rfl, ?_, h1, h2⟩
      rw [e1, e2]; rfl

/-- Of two records, if both fit. -/
def ofBoth {α : Type} (f : RSt → RSt → Option α) (a b : Option RSt) : Option α := match a, b with
  | some x, some y => f x y
  | _, _ => none
theorem ofBoth_none {α : Type} {f : RSt → RSt → Option α} {a b : Option RSt} (h : a = none ∨ b = none) : ofBoth f a b = none := by
  rcases h with rfl | rfl
  · rfl
  · cases a <;> rfl
theorem find_step {α : Type} {l : List α} {k : Nat} {f : α} {p : α → Bool} (hf : l[k]? = some f) : (l.drop k).find? p = if p f = true then some f else (l.drop (k + 1)).find? p := by
  rw [getElem?_drop hf, List.find?_cons]
  cases h : p f <;> simp

set_option maxRecDepth 100000 in
set_option maxHeartbeats 4000000 in
theorem input_any (r : Rcp) (L : List (Value × Stp)) (La Lb : List (Value × Dn)) (vi vs va vb : Value) (w : World) (h : RcpIn r L vi vs w) (ha : Dns w va La) (hb : Dns w vb Lb) :
    Calls Tryz.prog 45 #[rcpV vi vs r.output, va, vb] w fun e w' => e = .returned (txV (ofBoth (inputL r) (readL r (La.map (·.2))) (readL r (Lb.map (·.2))))) ∧ Below w.heap.size w w' := by
  have HB0 := Lib.hid (below_alloc w (rcpBox vi vs r.output))
  have HBo := Lib.hid (both_any r L La Lb vi vs va vb _ (h.later HB0.out) (ha.later HB0.out) (hb.later HB0.out))
  have HR := Lib.hid h
  have HRb := Lib.hid (alloc_self w (rcpBox vi vs r.output))
  obtain ⟨ai, ci, av, cv, rfl, rfl⟩ := h.slices
  obtain ⟨aa, ca, rfl⟩ := dns_slice ha
  obtain ⟨ab, cb, rfl⟩ := dns_slice hb
  clear h ha hb
  generalize readL r (La.map (·.2)) = ra at HBo ⊢
  generalize readL r (Lb.map (·.2)) = rb at HBo ⊢
  generalize hres : ofBoth (inputL r) ra rb = res
  have HRes := Lib.hid hres
  clear hres
  go_enter Tryz.func45, Tryz.ntmps45
  go_wp2_with fail
  refine HBo.out.mono ?_
  rintro e w1 hp
  obtain ⟨hb, hp⟩ := hp.split
  replace HRb := Lib.hid (heap_up hb HRb.out)
  replace HB0 := Lib.hid (below_trans HB0.out hb)
  clear hb HBo
  rcases hp with ⟨x, y, ga, ba, Da, gb, bb, Db, rfl, rfl, rfl, hx, hy⟩ | ⟨hn, s, m, p, t, k, q, rfl⟩
  · have B1 := below_trans (below_alloc w1 (recBox (.slice (some ⟨ga, 0, none⟩) r.steps.length r.steps.length) (.map (some ba)))) (below_alloc _ (recBox (.slice (some ⟨gb, 0, none⟩) r.steps.length r.steps.length) (.map (some bb))))
    have HX := Lib.hid (hx.later B1)
    have HY := Lib.hid (hy.later B1)
    have HXb := Lib.hid (heap_up (below_alloc _ (recBox (.slice (some ⟨gb, 0, none⟩) r.steps.length r.steps.length) (.map (some bb)))) (alloc_self w1 (recBox (.slice (some ⟨ga, 0, none⟩) r.steps.length r.steps.length) (.map (some ba)))))
    have HYb := Lib.hid (alloc_self (w1.alloc (recBox (.slice (some ⟨ga, 0, none⟩) r.steps.length r.steps.length) (.map (some ba)))) (recBox (.slice (some ⟨gb, 0, none⟩) r.steps.length r.steps.length) (.map (some bb))))
    simp only [World.size_alloc] at HYb
    replace HRb := Lib.hid (heap_up B1 HRb.out)
    replace HB0 := Lib.hid (below_trans HB0.out B1)
    obtain ⟨r0, r1, r2⟩ := box3 HRb.out
    clear B1 hx hy
    go_wp2_with fail
    clear r0 r1 r2
    generalize (w1.alloc (recBox (.slice (some ⟨ga, 0, none⟩) r.steps.length r.steps.length) (.map (some ba)))).alloc (recBox (.slice (some ⟨gb, 0, none⟩) r.steps.length r.steps.length) (.map (some bb))) = w2 at HX HY HXb HYb HRb HB0 ⊢
    generalize w1.heap.size = p1 at HXb HYb ⊢
    have HIn := Lib.hid (HR.out.later HB0.out).inp
    go_loopw [30] (fun i wr => ∃ k : Nat, k ≤ r.inputs.length ∧ i = .int .i64 k ∧ Hid ((r.inputs.find? fun f => decide ((textL r x f.name).getD ⟨#[]⟩ ≠ (textL r y f.name).getD ⟨#[]⟩)) = (r.inputs.drop k).find? fun f => decide ((textL r x f.name).getD ⟨#[]⟩ ≠ (textL r y f.name).getD ⟨#[]⟩)) ∧ Hid (Below w2.heap.size w2 wr)) (fun i _ => r.inputs.length - (intOf i).toNat)
    case atStart => exact ⟨0, Nat.zero_le _, rfl, Lib.hid (by rw [List.drop_zero]), Lib.hid (Below.refl _ _)⟩
    case round =>
      obtain ⟨k, hk, rfl, HF, HBl⟩ := hrel
      rename World => wr
      by_cases hlt : k < r.inputs.length
      · obtain ⟨f, hf, -⟩ := getElem?_of_lt hlt
        have HFs := Lib.hid (find_step (p := fun f => decide ((textL r x f.name).getD ⟨#[]⟩ ≠ (textL r y f.name).getD ⟨#[]⟩)) hf)
        rcases (HIn.out.later HBl.out).cases with ⟨e, -⟩ | ⟨b, o, c, e, -, hl1, hl2, -, hc⟩
        · rw [e] at hlt; simp at hlt
        obtain ⟨rfl, rfl⟩ : ai = some ⟨b, o, none⟩ ∧ ci = c := by injection e with e1 e2 e3; exact ⟨e1, e3⟩
        obtain ⟨f0, f1, hfz, -⟩ := hc k f hf
        clear hc e hf
        obtain ⟨fn, ft⟩ := f
        simp only at f0 f1 HFs hfz
        have HBa := Lib.hid (below_trans HBl.out (below_alloc wr (.cells #[.string fn, .string ft] 40)))
        have HBw := Lib.hid (below_trans HB0.out HBa.out)
        have HTx := Lib.hid (text_any r L _ _ ga ba x Da fn _ (HR.out.later HBw.out) (HX.out.later HBa.out) hfz)
        have HTy := Lib.hid (fun W (hW : Below w2.heap.size w2 W) => text_any r L _ _ gb bb y Db fn W (HR.out.later (below_trans HB0.out hW)) (HY.out.later hW) hfz)
        have HFb := Lib.hid (alloc_self wr (.cells #[.string fn, .string ft] 40))
        obtain ⟨x0, x1, -, -⟩ := box2 (heap_up HBa.out HXb.out)
        obtain ⟨r0, r1, r2⟩ := box3 (heap_up HBa.out HRb.out)
        generalize textL r x fn = tx at HTx HFs
        generalize textL r y fn = ty at HTy HFs
        go_wp2_with fail
        refine HTx.out.mono ?_
        rintro e w3 ⟨rfl, hb⟩
        have HB3 := Lib.hid (below_trans HBa.out hb)
        have HF3 := Lib.hid (heap_up hb HFb.out)
        clear hb x0 x1 r0 r1 r2 f0 f1 HTx
        obtain ⟨y0, y1, -, -⟩ := box2 (heap_up HB3.out HYb.out)
        obtain ⟨r0, r1, r2⟩ := box3 (heap_up HB3.out HRb.out)
        obtain ⟨f0, f1, -, -⟩ := box2 HF3.out
        obtain ⟨sx, bx, hsx, hgx⟩ : ∃ (sx : ByteArray) (bx : Bool), txV tx = .tuple #[.string sx, .bool bx] ∧ tx.getD ⟨#[]⟩ = sx := by cases tx with | none => exact ⟨_, _, rfl, rfl⟩ | some s => exact ⟨_, _, rfl, rfl⟩
        rw [hsx]
        have HCy := Lib.hid (HTy.out _ HB3.out)
        go_wp2_with fail
        refine HCy.out.mono ?_
        rintro e w4 ⟨rfl, hb⟩
        have HB4 := Lib.hid (below_trans HB3.out hb)
        have HF4 := Lib.hid (heap_up hb HF3.out)
        clear hb y0 y1 r0 r1 r2 f0 f1 HCy HTy
        obtain ⟨f0, f1, -, -⟩ := box2 HF4.out
        obtain ⟨sy, by', hsy, hgy⟩ : ∃ (sy : ByteArray) (by' : Bool), txV ty = .tuple #[.string sy, .bool by'] ∧ ty.getD ⟨#[]⟩ = sy := by cases ty with | none => exact ⟨_, _, rfl, rfl⟩ | some s => exact ⟨_, _, rfl, rfl⟩
        rw [hsy]
        rw [hgx, hgy] at HFs
        clear hsx hsy hgx hgy
        by_cases hxy : sx = sy
        · have HE := Lib.hid (HF.out.trans (HFs.out.trans (if_neg (by simp [hxy]))))
          subst hxy
          go_wp2_with fail
          go_roundw
          case rel => exact ⟨k + 1, by omega, by go_num, HE, HB4⟩
          case measure => simp [intOf]; omega
        · have HE := Lib.hid (HF.out.trans (HFs.out.trans (if_pos (by simp [hxy]))))
          have hxy2 : (sx.toList == sy.toList) = false := by rw [beq_toList]; exact decide_eq_false hxy
          have HE2 := Lib.hid (show res = some fn by rw [← HRes.out]; show inputL r x y = _; unfold inputL; rw [HE.out]; rfl)
          go_wp2_with fail
          refine bodyPost_ret (v := txV (some fn)) (by simp [txV, results, Tryz.results45, go_sem]) rfl ?_
          exact ⟨by rw [HE2.out], below_trans HB0.out HB4.out⟩
      · obtain rfl : k = r.inputs.length := by omega
        have HE2 := Lib.hid (show res = none by rw [← HRes.out]; show inputL r x y = _; unfold inputL; rw [HF.out, List.drop_length]; rfl)
        go_wp2_with fail
        refine bodyPost_ret (v := txV none) (by simp [txV, results, Tryz.results45, go_sem]) rfl ?_
        exact ⟨by rw [HE2.out], below_trans HB0.out HBl.out⟩
  · rw [ofBoth_none hn] at HRes
    have HE := Lib.hid (below_trans (below_trans HB0.out (below_alloc w1 (recBox (.slice s m m) (.map p)))) (below_alloc _ (recBox (.slice t k k) (.map q))))
    go_wp2_with fail
    refine bodyPost_ret (v := txV none) (by simp [txV, results, Tryz.results45, go_sem]) rfl ?_
    exact ⟨by rw [← HRes.out], HE.out⟩
end Go.Proofs.YtacgopankhpnbaaGreatDoor
/- Walks of package blame: First. -/
namespace Go.Proofs.YtacgopankhpnbaaGreatDoor
open Go.RowKit

/-- What First hands back. -/
def fiV (t : Option Nat) : Value := match t with
  | some i => .tuple #[.int .i64 i, .bool true]
  | none => .tuple #[.int .i64 0, .bool false]
theorem readL_right {r : Rcp} {l : List Dn} {st : RSt} (h : readL r l = some st) : inspectE r = 0 := by
  by_cases he : inspectE r = 0
  · exact he
  · unfold readL at h; rw [if_pos (.inl he)] at h; cases h
theorem RecIs.at_ {w : World} {g bm n : Nat} {st : RSt} {D : List (Value × Dn)} (h : RecIs w g bm n st D) {i : Nat} (hi : i < n) :
    ∃ a c, (w.cell? ⟨g, i * 3, none⟩ = some (.int .i64 (st.of i).step) ∧ w.cell? ⟨g, i * 3 + 1, none⟩ = some (.slice a (st.of i).saw.length c) ∧ w.cell? ⟨g, i * 3 + 2, none⟩ = some (.string (st.of i).out)) ∧ Strs w (.slice a (st.of i).saw.length c) (st.of i).saw ∧ (st.of i).out.size ≤ 140737488355328 := by
  obtain ⟨v, hv⟩ := h.of i hi
  obtain ⟨⟨o0, o1, o2⟩, -⟩ := h.arr.at_ hv
  obtain ⟨hs, hz⟩ := h.saws _ (List.mem_of_getElem? hv)
  obtain ⟨a, c, e⟩ := strs_slice hs
  simp only at o0 o1 o2 hs hz e
  subst e
  exact ⟨a, c, ⟨o0, o1, o2⟩, hs, hz⟩

set_option maxRecDepth 100000 in
set_option maxHeartbeats 4000000 in
theorem first_any (r : Rcp) (L : List (Value × Stp)) (La Lb : List (Value × Dn)) (vi vs va vb : Value) (w : World) (h : RcpIn r L vi vs w) (ha : Dns w va La) (hb : Dns w vb Lb) :
    Calls Tryz.prog 46 #[rcpV vi vs r.output, va, vb] w fun e w' => e = .returned (fiV (ofBoth (firstL r) (readL r (La.map (·.2))) (readL r (Lb.map (·.2))))) ∧ Below w.heap.size w w' := by
  have HB0 := Lib.hid (below_alloc w (rcpBox vi vs r.output))
  have HBo := Lib.hid (both_any r L La Lb vi vs va vb _ (h.later HB0.out) (ha.later HB0.out) (hb.later HB0.out))
  have HR := Lib.hid h
  have HRb := Lib.hid (alloc_self w (rcpBox vi vs r.output))
  have HOk := Lib.hid (fun st (h : readL r (La.map (·.2)) = some st) => readL_right h)
  have h60 : r.steps.length ≤ 60 ∨ inspectE r ≠ 0 := by
    by_cases he : inspectE r = 0
    · exact .inl (by have := (inspectE_ok he).few; omega)
    · exact .inr he
  have H60 := Lib.hid h60
  obtain ⟨ai, ci, av, cv, rfl, rfl⟩ := h.slices
  obtain ⟨aa, ca, rfl⟩ := dns_slice ha
  obtain ⟨ab, cb, rfl⟩ := dns_slice hb
  clear h ha hb h60
  generalize readL r (La.map (·.2)) = ra at HBo HOk ⊢
  generalize readL r (Lb.map (·.2)) = rb at HBo ⊢
  generalize hres : ofBoth (firstL r) ra rb = res
  have HRes := Lib.hid hres
  clear hres
  go_enter Tryz.func46, Tryz.ntmps46
  go_wp2_with fail
  refine HBo.out.mono ?_
  rintro e w1 hp
  obtain ⟨hb, hp⟩ := hp.split
  replace HRb := Lib.hid (heap_up hb HRb.out)
  replace HB0 := Lib.hid (below_trans HB0.out hb)
  clear hb HBo
  rcases hp with ⟨x, y, ga, ba, Da, gb, bb, Db, rfl, rfl, rfl, hx, hy⟩ | ⟨hn, s, m, p, t, k, q, rfl⟩
  · have hok := HOk.out x rfl
    have HOrd := Lib.hid (show orderL r = orderAll r.steps by unfold orderL; rw [if_neg (by simp [hok])])
    have hn60 : r.steps.length ≤ 60 := by rcases H60.out with h | h; exact h; exact absurd hok h
    have B1 := below_trans (below_alloc w1 (recBox (.slice (some ⟨ga, 0, none⟩) r.steps.length r.steps.length) (.map (some ba)))) (below_alloc _ (recBox (.slice (some ⟨gb, 0, none⟩) r.steps.length r.steps.length) (.map (some bb))))
    have HX := Lib.hid (hx.later B1)
    have HY := Lib.hid (hy.later B1)
    have HXb := Lib.hid (heap_up (below_alloc _ (recBox (.slice (some ⟨gb, 0, none⟩) r.steps.length r.steps.length) (.map (some bb)))) (alloc_self w1 (recBox (.slice (some ⟨ga, 0, none⟩) r.steps.length r.steps.length) (.map (some ba)))))
    have HYb := Lib.hid (alloc_self (w1.alloc (recBox (.slice (some ⟨ga, 0, none⟩) r.steps.length r.steps.length) (.map (some ba)))) (recBox (.slice (some ⟨gb, 0, none⟩) r.steps.length r.steps.length) (.map (some bb))))
    simp only [World.size_alloc] at HYb
    replace HRb := Lib.hid (heap_up B1 HRb.out)
    replace HB0 := Lib.hid (below_trans HB0.out B1)
    have HOr := Lib.hid (order_any r L _ _ _ (HR.out.later HB0.out))
    rw [HOrd.out] at HOr
    obtain ⟨r0, r1, r2⟩ := box3 HRb.out
    clear B1 hx hy hok
    go_wp2_with fail
    refine HOr.out.mono ?_
    rintro e w2 ⟨v, rfl, hI, -, hb⟩
    replace HX := Lib.hid (HX.out.later hb)
    replace HY := Lib.hid (HY.out.later hb)
    replace HXb := Lib.hid (heap_up hb HXb.out)
    replace HYb := Lib.hid (heap_up hb HYb.out)
    replace HB0 := Lib.hid (below_trans HB0.out hb)
    have HLt : Hid (∀ i, i ∈ orderAll r.steps → i < r.steps.length) := Lib.hid (fun i hi => orderAll_lt hi)
    have HFi := Lib.hid (show (orderAll r.steps).find? (fun i => decide ((x.of i).saw = (y.of i).saw) && decide ((x.of i).out ≠ (y.of i).out)) = res from HRes.out)
    generalize orderAll r.steps = l at hI HLt HFi
    obtain ⟨va', ca', rfl⟩ : ∃ a c, v = .slice a l.length c := by obtain ⟨a, c, e, -⟩ := hI; exact ⟨a, c, by simpa using e⟩
    have HI := Lib.hid hI
    clear hb hI r0 r1 r2 HOr
    generalize w1.heap.size = p1 at HXb HYb ⊢
    go_wp2_with fail
    go_loopw [26] (fun j wr => ∃ k : Nat, k ≤ l.length ∧ j = .int .i64 k ∧ Hid ((l.drop k).find? (fun i => decide ((x.of i).saw = (y.of i).saw) && decide ((x.of i).out ≠ (y.of i).out)) = res) ∧ Hid (Below w2.heap.size w2 wr)) (fun j _ => l.length - (intOf j).toNat)
    case atStart => exact ⟨0, Nat.zero_le _, rfl, Lib.hid (by rw [List.drop_zero]; exact HFi.out), Lib.hid (Below.refl _ _)⟩
    case round =>
      obtain ⟨k, hk, rfl, HF, HBl⟩ := hrel
      rename World => wr
      by_cases hlt : k < l.length
      · obtain ⟨i, hi, him⟩ := getElem?_of_lt hlt
        have hin := HLt.out i him
        have HFs := Lib.hid (find_step (p := fun i => decide ((x.of i).saw = (y.of i).saw) && decide ((x.of i).out ≠ (y.of i).out)) hi)
        rcases (HI.out.later HBl.out).cases with ⟨e, -⟩ | ⟨b, o, c, e, -, hl1, hl2, -, hc⟩
        · have : l.length = 0 := by simpa [natInts] using congrArg List.length e
          omega
        have hce := hc k (i : Int) (by simp [natInts, List.getElem?_map, hi])
        obtain ⟨rfl, rfl⟩ : va' = some ⟨b, o, none⟩ ∧ ca' = c := by injection e with e1 e2 e3; exact ⟨e1, e3⟩
        have hlen' : (natInts l).length = l.length := by simp [natInts]
        rw [hlen'] at hl1
        obtain ⟨sx, cx, ⟨xc0, xc1, xc2⟩, hsx, -⟩ := (HX.out.later HBl.out).at_ hin
        obtain ⟨sy, cy, ⟨yc0, yc1, yc2⟩, hsy, -⟩ := (HY.out.later HBl.out).at_ hin
        obtain ⟨x0, x1, -, -⟩ := box2 (heap_up HBl.out HXb.out)
        obtain ⟨y0, y1, -, -⟩ := box2 (heap_up HBl.out HYb.out)
        have HEq := Lib.hid (equal_any _ _ _ _ wr.drew (hsx.later (Below.refl _ _).drew) (hsy.later (Below.refl _ _).drew))
        have HEqN := Lib.hid (fun n => equal_any _ _ _ _ (wr.drewN n) (hsx.later (below_drewN (Below.refl _ _) n)) (hsy.later (below_drewN (Below.refl _ _) n)))
        have hi0 : (0 : Int) ≤ (i : Int) := by omega
        have hi1 : (i : Int) < (r.steps.length : Int) := by omega
        clear hc e hi him hsx hsy xc0 yc0
        generalize x.of i = dx at HEq HEqN HFs xc1 xc2
        generalize y.of i = dy at HEq HEqN HFs yc1 yc2
        obtain ⟨xs, xw, xo⟩ := dx
        obtain ⟨ys, yw, yo⟩ := dy
        simp only at HEq HEqN HFs xc1 xc2 yc1 yc2
        cases hsame : decide (xw = yw) with
        | true =>
          rw [hsame] at HEq HFs
          by_cases hout : xo = yo
          · have HE := Lib.hid ((HFs.out.trans (if_neg (by simp [hout]))).symm.trans HF.out)
            subst hout
            clear hsame
            go_wp2_with fail
            go_region_held3 (fun W => (W.cell? ⟨p1, 0, none⟩ = some (.slice (some ⟨ga, 0, none⟩) r.steps.length r.steps.length) ∧ W.cell? ⟨p1 + 1, 0, none⟩ = some (.slice (some ⟨gb, 0, none⟩) r.steps.length r.steps.length)) ∧ (W.cell? ⟨ga, i * 3 + 1, none⟩ = some (.slice sx xw.length cx) ∧ W.cell? ⟨ga, i * 3 + 2, none⟩ = some (.string xo)) ∧ (W.cell? ⟨gb, i * 3 + 1, none⟩ = some (.slice sy yw.length cy) ∧ W.cell? ⟨gb, i * 3 + 2, none⟩ = some (.string xo)))
              (first | (with_reducible exact ⟨⟨x0, y0⟩, ⟨xc1, xc2⟩, yc1, yc2⟩) | exact ⟨⟨x0, y0⟩, ⟨xc1, xc2⟩, yc1, yc2⟩ | go_keep)
              (first | (go_at_call 76; (with_reducible refine HEq.out.mono ?_); rintro e w10 ⟨rfl, qn, rfl⟩))
            all_goals
              go_wp2_with fail
              go_roundw
              case rel => exact ⟨k + 1, by omega, by go_num, HE, Lib.hid (below_drewN HBl.out _)⟩
              case measure => simp [intOf]; omega
          · have HE := Lib.hid (show res = some i from HF.out.symm.trans (HFs.out.trans (if_pos (by simp [hout]))))
            have hout2 : (xo.toList == yo.toList) = false := by rw [beq_toList]; exact decide_eq_false hout
            clear hsame
            go_wp2_with fail
            go_region_held3 (fun W => (W.cell? ⟨p1, 0, none⟩ = some (.slice (some ⟨ga, 0, none⟩) r.steps.length r.steps.length) ∧ W.cell? ⟨p1 + 1, 0, none⟩ = some (.slice (some ⟨gb, 0, none⟩) r.steps.length r.steps.length)) ∧ (W.cell? ⟨ga, i * 3 + 1, none⟩ = some (.slice sx xw.length cx) ∧ W.cell? ⟨ga, i * 3 + 2, none⟩ = some (.string xo)) ∧ (W.cell? ⟨gb, i * 3 + 1, none⟩ = some (.slice sy yw.length cy) ∧ W.cell? ⟨gb, i * 3 + 2, none⟩ = some (.string yo)))
              (first | (with_reducible exact ⟨⟨x0, y0⟩, ⟨xc1, xc2⟩, yc1, yc2⟩) | exact ⟨⟨x0, y0⟩, ⟨xc1, xc2⟩, yc1, yc2⟩ | go_keep)
              (first | (go_at_call 76; (with_reducible refine HEq.out.mono ?_); rintro e w10 ⟨rfl, qn, rfl⟩))
            all_goals
              go_wp2_with fail
              refine bodyPost_ret (v := fiV (some i)) (by simp [fiV, results, Tryz.results46, go_sem]) rfl ?_
              exact ⟨by rw [HE.out], below_drewN (below_trans HB0.out HBl.out) _⟩
        | false =>
          rw [hsame] at HEq HFs
          simp only [hsame] at HEqN
          have HE := Lib.hid ((HFs.out.trans (if_neg (by simp))).symm.trans HF.out)
          clear hsame
          go_wp2_with fail
          go_quiet ((go_at_call 76; refine Calls.quiet_of (HEqN.out _)))
          all_goals
            go_wp2_with fail
            go_roundw
            case rel => exact ⟨k + 1, by omega, by go_num, HE, Lib.hid (below_drewN HBl.out _)⟩
            case measure => simp [intOf]; omega
      · obtain rfl : k = l.length := by omega
        have HE2 := Lib.hid (show res = none by rw [← HF.out, List.drop_length]; rfl)
        go_wp2_with fail
        refine bodyPost_ret (v := fiV none) (by simp [fiV, results, Tryz.results46, go_sem]) rfl ?_
        exact ⟨by rw [HE2.out], below_trans HB0.out HBl.out⟩
  · rw [ofBoth_none hn] at HRes
    have HE := Lib.hid (below_trans (below_trans HB0.out (below_alloc w1 (recBox (.slice s m m) (.map p)))) (below_alloc _ (recBox (.slice t k k) (.map q))))
    go_wp2_with fail
    refine bodyPost_ret (v := fiV none) (by simp [fiV, results, Tryz.results46, go_sem]) rfl ?_
    exact ⟨by rw [← HRes.out], HE.out⟩
end Go.Proofs.YtacgopankhpnbaaGreatDoor
/- Walks of package blame: Chain. -/
namespace Go.Proofs.YtacgopankhpnbaaGreatDoor
open Go.RowKit

/-! The plain steps. -/
theorem firstDiff_drop_eq {xs ys : List ByteArray} {j : Nat} {x : ByteArray} (hx : xs[j]? = some x) (hy : ys[j]? = some x) : firstDiff (xs.drop j) (ys.drop j) = (firstDiff (xs.drop (j + 1)) (ys.drop (j + 1))).map (· + 1) := by
  rw [getElem?_drop hx, getElem?_drop hy, firstDiff, if_pos rfl]
theorem firstDiff_drop_ne {xs ys : List ByteArray} {j : Nat} {x y : ByteArray} (hx : xs[j]? = some x) (hy : ys[j]? = some y) (hne : x ≠ y) : firstDiff (xs.drop j) (ys.drop j) = some 0 := by
  rw [getElem?_drop hx, getElem?_drop hy, firstDiff, if_neg hne]
/-- Behind j texts that are the same. -/
def DiffAt (xs ys : List ByteArray) (j : Nat) : Prop := firstDiff xs ys = (firstDiff (xs.drop j) (ys.drop j)).map (· + j)
theorem DiffAt.first (xs ys : List ByteArray) : DiffAt xs ys 0 := by unfold DiffAt; simp
theorem DiffAt.next_ {xs ys : List ByteArray} {j : Nat} {x : ByteArray} (h : DiffAt xs ys j) (hx : xs[j]? = some x) (hy : ys[j]? = some x) : DiffAt xs ys (j + 1) := by
  unfold DiffAt at h ⊢
  rw [h, firstDiff_drop_eq hx hy]
  cases firstDiff (xs.drop (j + 1)) (ys.drop (j + 1)) with
  | none => rfl
  | some k => simp; omega
theorem DiffAt.here {xs ys : List ByteArray} {j : Nat} {x y : ByteArray} (h : DiffAt xs ys j) (hx : xs[j]? = some x) (hy : ys[j]? = some y) (hne : x ≠ y) : firstDiff xs ys = some j := by
  unfold DiffAt at h
  rw [h, firstDiff_drop_ne hx hy hne]; simp
theorem DiffAt.last {xs ys : List ByteArray} {j : Nat} (h : DiffAt xs ys j) (hj : xs.length ≤ j) : firstDiff xs ys = none := by
  unfold DiffAt at h
  rw [h, List.drop_of_length_le hj]; rfl
theorem chainNext_here {steps : List Stp} {X Y : RSt} {i j : Nat} {s : Stp} {n : ByteArray} (h : firstDiff (X.of i).saw (Y.of i).saw = some j) (hs : steps[i]? = some s) (hn : s.src[j]? = some n) : chainNext steps X Y i = writerOf steps n := by
  unfold chainNext; rw [h]; simp only [hs, hn]
theorem chainNext_last {steps : List Stp} {X Y : RSt} {i : Nat} (h : firstDiff (X.of i).saw (Y.of i).saw = none) : chainNext steps X Y i = none := by
  unfold chainNext; rw [h]
/-- Where Chain stands: so many levels left, at a step or behind the last one; the steps so far. -/
def ChainAt (steps : List Stp) (X Y : RSt) (px : Nat → Nat) (fin : List Nat) (at_ : Option Nat) (out : List Nat) : Prop := match at_ with
  | some i => i < steps.length ∧ ∃ f, px i < f ∧ chainFrom steps X Y f i out = fin
  | none => out = fin
theorem ChainAt.step {r : Rcp} {la lb : List Dn} {X Y : RSt} {px py : Nat → Nat} {fin out : List Nat} {i : Nat} (hx : FitsR r la X px) (hy : FitsR r lb Y py) (h : ChainAt r.steps X Y px fin (some i) out) :
    ChainAt r.steps X Y px fin (chainNext r.steps X Y i) (out ++ [i]) ∧ ∀ j, chainNext r.steps X Y i = some j → px j < px i := by
  obtain ⟨hi, f, hf, he⟩ := h
  cases f with
  | zero => omega
  | succ f =>
    rw [chainFrom] at he
    cases hn : chainNext r.steps X Y i with
    | none => rw [hn] at he; exact ⟨he, fun j hj => by cases hj⟩
    | some j =>
      rw [hn] at he
      obtain ⟨h1, -, h3, -⟩ := chainNext_some hx hy (List.getElem?_eq_getElem hi) hn
      exact ⟨⟨h1, f, by omega, he⟩, fun k hk => by cases hk; exact h3⟩
def levelOf (px : Nat → Nat) (v : Value) : Nat := if 0 ≤ intOf v then px (intOf v).toNat + 1 else 0
theorem chainFrom_le (steps : List Stp) (X Y : RSt) : ∀ (f i : Nat) (out : List Nat), out.length ≤ (chainFrom steps X Y f i out).length
  | 0, i, out => Nat.le_refl _
  | f + 1, i, out => by
    rw [chainFrom]
    split
    · simp
    · exact Nat.le_trans (by simp) (chainFrom_le steps X Y f _ _)
theorem ChainAt.le {steps : List Stp} {X Y : RSt} {px : Nat → Nat} {fin out : List Nat} {a : Option Nat} (h : ChainAt steps X Y px fin a out) : out.length ≤ fin.length := by
  cases a with
  | none => rw [show out = fin from h]; exact Nat.le_refl _
  | some i => obtain ⟨-, f, -, rfl⟩ := h; exact chainFrom_le _ _ _ _ _ _

/-- slices.Reverse on a list that the call itself has gathered. -/
theorem reverse_any (W0 wr : World) (l : List Nat) (v : Value) (h : Gath W0 l v wr) (hne : l ≠ []) :
    Calls Tryz.prog 74 #[v] wr fun e w' => e = .returned (.tuple #[]) ∧ Ints w' v (natInts l.reverse) ∧ Below W0.heap.size W0 w' := by
  rcases h.own.2 with ⟨rfl, h0⟩ | ⟨g, cap, cur, rfl, hg, hgb, r1, r2, r3, r4⟩
  · exact absurd (List.eq_nil_of_length_eq_zero h0) hne
  have hlt : g < wr.heap.size := (Array.getElem?_eq_some_iff.1 hgb).1
  have hcap : cap ≤ 9223372036854775807 := r2
  have hlc : l.length ≤ cap := r1
  have hcell : ∀ j x, (natInts l)[j]? = some x → wr.cell? ⟨g, 0 + j, none⟩ = some (.int .i64 x) := fun j x hx => by
    have hj : j < l.length := by simpa [natInts] using (List.getElem?_eq_some_iff.1 hx).1
    have := congrArg (fun t : List Value => t[j]?) r4
    rw [List.getElem?_take, if_pos (by omega), List.getElem?_map, hx] at this
    have h2 : cur[j]? = some (.int .i64 x) := by simpa using this
    simp [World.cell?, hgb, h2]
  have hfz : ∀ j, wr.frozen? ⟨g, 0 + j, none⟩ = false := fun j => by simp [World.frozen?, hgb]
  have hlen : (natInts l).length = l.length := by simp [natInts]
  have hc := Tryz.slices_Reverse_int_cells g 0 l.length cap (natInts l) wr (by omega) (by omega) (fun j hj => by
    obtain ⟨x, hx, -⟩ := getElem?_of_lt hj
    rw [hcell j x hx, List.getD_eq_getElem?_getD, hx]; rfl) (fun j _ => hfz j)
  refine hc.mono ?_
  rintro e w' ⟨rfl, q, rfl⟩
  have e1 : ((natInts l).take l.length).reverse = natInts l.reverse := by rw [← hlen, List.take_length]; simp [natInts]
  rw [e1]
  have ho : Only g wr ((wr.drewN q).setCells g 0 ((natInts l.reverse).map (Value.int .i64))) := (Only.drewN q).trans (only_setCells g _ 0 _)
  refine ⟨rfl, ⟨_, cap, by simp [natInts], by simpa [natInts] using r1, r2, fun _ => ⟨g, 0, rfl, fun i x hx => ⟨[.int .i64 x], rfl, rfl, fun j u hu => ?_⟩⟩⟩, Only.below h.below ho hg h.below.size⟩
  match j, hu with
  | 0, hu =>
    cases hu
    have hi : i < ((natInts l.reverse).map (Value.int .i64)).length := by have := (List.getElem?_eq_some_iff.1 hx).1; simpa using this
    show World.cell? _ ⟨g, 0 + i * 1 + 0, none⟩ = _
    rw [Nat.mul_one, Nat.add_zero, World.cell?_setCells_in g _ 0 _ (fun j' hj' => ?_) i hi]
    · have := (List.getElem?_eq_some_iff.1 hx).2
      simp [← this]
    · obtain ⟨y, hy, -⟩ := getElem?_of_lt (l := natInts l) (k := j') (by simpa [natInts] using hj')
      show (wr.cell? _).isSome = true
      rw [hcell j' y hy]; rfl

/-- blame.Chain, of two records. -/
def chainOf (r : Rcp) (a b : Option RSt) : List Nat := match a, b with
  | some x, some y => chainL r x y
  | _, _ => []
theorem chainOf_none {r : Rcp} {a b : Option RSt} (h : a = none ∨ b = none) : chainOf r a b = [] := by
  rcases h with rfl | rfl
  · rfl
  · cases a <;> rfl
theorem ints_zero (w : World) : Ints w (.slice none 0 0) (natInts []) := ⟨none, 0, rfl, by simp [natInts], by simp, fun h => absurd rfl h⟩
/-- A list of numbers is handed back. -/
def IntsPost (l : List Nat) (w : World) (e : Ending) (w' : World) : Prop := ∃ v, e = .returned v ∧ Ints w' v (natInts l) ∧ Below w.heap.size w w'

set_option maxRecDepth 100000 in
set_option maxHeartbeats 8000000 in
theorem chain_any (r : Rcp) (L : List (Value × Stp)) (La Lb : List (Value × Dn)) (vi vs va vb : Value) (w : World) (h : RcpIn r L vi vs w) (ha : Dns w va La) (hb : Dns w vb Lb) :
    Calls Tryz.prog 40 #[rcpV vi vs r.output, va, vb] w (IntsPost (chainOf r (readL r (La.map (·.2))) (readL r (Lb.map (·.2)))) w) := by
  have HB0 := Lib.hid (below_alloc w (rcpBox vi vs r.output))
  have HBo := Lib.hid (both_any r L La Lb vi vs va vb _ (h.later HB0.out) (ha.later HB0.out) (hb.later HB0.out))
  have HR := Lib.hid h
  have HRb := Lib.hid (alloc_self w (rcpBox vi vs r.output))
  have HFx := Lib.hid (fun st (h : readL r (La.map (·.2)) = some st) => readL_ok h)
  have HFy := Lib.hid (fun st (h : readL r (Lb.map (·.2)) = some st) => readL_ok h)
  have HLen := Lib.hid h.len
  have hmap := h.map
  have HMap := Lib.hid hmap
  have HOz := Lib.hid h.out
  obtain ⟨ai, ci, av, cv, rfl, rfl⟩ := h.slices
  obtain ⟨aa, ca, rfl⟩ := dns_slice ha
  obtain ⟨ab, cb, rfl⟩ := dns_slice hb
  obtain ⟨i0, hi0, hz0, hz1, hz2⟩ := info_parts intInfo
  clear h ha hb hmap
  generalize readL r (La.map (·.2)) = ra at HBo HFx ⊢
  generalize readL r (Lb.map (·.2)) = rb at HBo HFy ⊢
  generalize hres : chainOf r ra rb = res
  have HRes := Lib.hid hres
  clear hres
  go_enter Tryz.func40, Tryz.ntmps40
  go_wp2_with fail
  refine HBo.out.mono ?_
  rintro e w1 hp
  obtain ⟨hb, hp⟩ := hp.split
  replace HRb := Lib.hid (heap_up hb HRb.out)
  replace HB0 := Lib.hid (below_trans HB0.out hb)
  clear hb HBo
  rcases hp with ⟨x, y, ga, ba, Da, gb, bb, Db, rfl, rfl, rfl, hx, hy⟩ | ⟨hn, s, m, p, t, k, q, rfl⟩
  · have B1 := below_trans (below_alloc w1 (recBox (.slice (some ⟨ga, 0, none⟩) r.steps.length r.steps.length) (.map (some ba)))) (below_alloc _ (recBox (.slice (some ⟨gb, 0, none⟩) r.steps.length r.steps.length) (.map (some bb))))
    have HX := Lib.hid (hx.later B1)
    have HY := Lib.hid (hy.later B1)
    have HXb := Lib.hid (heap_up (below_alloc _ (recBox (.slice (some ⟨gb, 0, none⟩) r.steps.length r.steps.length) (.map (some bb)))) (alloc_self w1 (recBox (.slice (some ⟨ga, 0, none⟩) r.steps.length r.steps.length) (.map (some ba)))))
    have HYb := Lib.hid (alloc_self (w1.alloc (recBox (.slice (some ⟨ga, 0, none⟩) r.steps.length r.steps.length) (.map (some ba)))) (recBox (.slice (some ⟨gb, 0, none⟩) r.steps.length r.steps.length) (.map (some bb))))
    simp only [World.size_alloc] at HYb
    replace HRb := Lib.hid (heap_up B1 HRb.out)
    replace HB0 := Lib.hid (below_trans HB0.out B1)
    have HWr := Lib.hid (writer_any r L _ _ r.output _ (HR.out.later HB0.out))
    obtain ⟨r0, r1, r2⟩ := box3 HRb.out
    clear B1 hx hy
    go_wp2_with fail
    refine HWr.out.mono ?_
    rintro e w2 ⟨rfl, hb⟩
    replace HX := Lib.hid (HX.out.later hb)
    replace HY := Lib.hid (HY.out.later hb)
    replace HXb := Lib.hid (heap_up hb HXb.out)
    replace HYb := Lib.hid (heap_up hb HYb.out)
    replace HRb := Lib.hid (heap_up hb HRb.out)
    replace HB0 := Lib.hid (below_trans HB0.out hb)
    clear hb r0 r1 r2 HWr
    generalize w1.heap.size = p1 at HXb HYb ⊢
    obtain ⟨px, hfx⟩ := HFx.out x rfl
    obtain ⟨py, hfy⟩ := HFy.out y rfl
    have HPx := Lib.hid hfx
    have HPy := Lib.hid hfy
    have h60 : r.steps.length ≤ 60 := by have := hfx.right.few; omega
    clear hfx hfy HFx HFy
    obtain ⟨x0, x1, -, -⟩ := box2 HXb.out
    obtain ⟨y0, y1, -, -⟩ := box2 HYb.out
    have hcl : chainL r x y = res := HRes.out
    have HCl := Lib.hid hcl
    clear hcl
    cases hwr : writerOf r.steps r.output with
    | none =>
      have HE := Lib.hid (show res = [] by rw [← HCl.out]; unfold chainL; rw [hwr])
      have hw1 : wIdx none = (-1 : Int) := rfl
      rw [hw1]
      clear hw1 hwr
      go_wp2_with fail
      go_quiet (fail)
      go_wp2_with fail
      go_ret
      exact ⟨_, rfl, by rw [HE.out]; exact ints_zero _, below_drewN HB0.out _⟩
    | some e0 =>
      have he0 : e0 < r.steps.length := (List.findIdx?_eq_some_iff_getElem.1 hwr).1
      have hw1 : wIdx (some e0) = (e0 : Int) := rfl
      rw [hw1]
      clear hw1
      have hi0' : (0 : Int) ≤ (e0 : Int) := by omega
      have hi1' : (e0 : Int) < (r.steps.length : Int) := by omega
      have hneg : decide ((e0 : Int) < 0) = false := decide_eq_false (by omega)
      obtain ⟨sx, cx, ⟨xc0, xc1, xc2⟩, -, -⟩ := HX.out.at_ he0
      obtain ⟨sy, cy, ⟨yc0, yc1, yc2⟩, -, -⟩ := HY.out.at_ he0
      by_cases hout : (x.of e0).out = (y.of e0).out
      · have HE := Lib.hid (show res = [] by rw [← HCl.out]; unfold chainL; rw [hwr]; simp only; rw [if_pos hout])
        rw [← hout] at yc2
        clear hwr hout
        go_wp2_with fail
        go_quiet (fail)
        go_wp2_with fail
        go_ret
        exact ⟨_, rfl, by rw [HE.out]; exact ints_zero _, below_drewN HB0.out _⟩
      · obtain ⟨Lc, hLc, hCh⟩ := chainL_is HPx.out HPy.out hwr hout
        have HFin := Lib.hid (show (chainFrom r.steps x y (r.steps.length + 1) e0 []).reverse = res by rw [← HCl.out]; unfold chainL; rw [hwr]; simp only; rw [if_neg hout])
        have HFn : Hid (chainFrom r.steps x y (r.steps.length + 1) e0 [] ≠ [] ∧ (chainFrom r.steps x y (r.steps.length + 1) e0 []).length ≤ r.steps.length) := Lib.hid (by
          have e1 : (chainFrom r.steps x y (r.steps.length + 1) e0 []).reverse = Lc.reverse := by rw [HFin.out, ← HCl.out, hLc]
          have e2 : chainFrom r.steps x y (r.steps.length + 1) e0 [] = Lc := by simpa using congrArg List.reverse e1
          rw [e2]
          exact ⟨fun h => by rw [h] at hCh; have := hCh.head; simp at this, hCh.len⟩)
        have HAt0 : Hid (ChainAt r.steps x y px (chainFrom r.steps x y (r.steps.length + 1) e0 []) (some e0) []) := Lib.hid ⟨he0, _, by have := HPx.out.pos_lt he0; omega, rfl⟩
        generalize chainFrom r.steps x y (r.steps.length + 1) e0 [] = fin at HFin HFn HAt0
        have hout2 : ((x.of e0).out.toList == (y.of e0).out.toList) = false := by rw [beq_toList]; exact decide_eq_false hout
        clear hLc hCh hwr hout
        go_wp2_with fail
        go_quiet (fail)
        go_wp2_with fail
        clear xc0 xc1 xc2 yc0 yc1 yc2 hout2 x0 x1 y0 y1 hneg hi0' hi1'
        have HB1 := Lib.hid (below_drewN (Below.refl w2.heap.size w2) nq)
        replace HX := Lib.hid (HX.out.later HB1.out)
        replace HY := Lib.hid (HY.out.later HB1.out)
        replace HXb := Lib.hid (heap_up HB1.out HXb.out)
        replace HYb := Lib.hid (heap_up HB1.out HYb.out)
        replace HRb := Lib.hid (heap_up HB1.out HRb.out)
        replace HB0 := Lib.hid (below_trans HB0.out HB1.out)
        generalize w2.drewN nq = w3 at HX HY HXb HYb HRb HB0 ⊢
        clear HB1
        go_loopw [10, 11] (fun av ov wr => ∃ (a : Option Nat) (o : List Nat), av = .int .i64 (wIdx a) ∧ Hid (ChainAt r.steps x y px fin a o) ∧ Hid (Gath w3 o ov wr)) (fun av _ _ => levelOf px av)
        case atStart => exact ⟨some e0, [], rfl, HAt0, Lib.hid (Gath.first w3)⟩
        case round =>
          obtain ⟨a, o, rfl, HAt, HG⟩ := hrel
          rename World => wr
          have ho60 : o.length ≤ 60 := by have := HAt.out.le; have := HFn.out.2; omega
          cases a with
          | none =>
            have hw1 : wIdx none = (-1 : Int) := rfl
            rw [hw1]
            clear hw1
            obtain rfl : o = fin := HAt.out
            have HRv := Lib.hid (reverse_any w3 wr o _ HG.out HFn.out.1)
            go_wp2_with fail
            refine HRv.out.mono ?_
            rintro e w9 ⟨rfl, hI, hb⟩
            have HI := Lib.hid hI
            have HB9 := Lib.hid hb
            clear hI hb
            go_wp2_with fail
            go_ret
            exact ⟨_, rfl, by rw [← HFin.out]; exact HI.out, below_trans HB0.out HB9.out⟩
          | some i =>
            have hw1 : wIdx (some i) = (i : Int) := rfl
            rw [hw1]
            clear hw1
            have hi : i < r.steps.length := HAt.out.1
            have HStep := Lib.hid (HAt.out.step HPx.out HPy.out)
            have hi0' : (0 : Int) ≤ (i : Int) := by omega
            have hi1' : (i : Int) < (r.steps.length : Int) := by omega
            have hbw := HG.out.below.size
            go_wp2_with (at_builtin; refine wpList_append_own _ rfl _ _ 26 rfl w3.heap.size 3 i0 (.int .i64 0) 1 8 Tryz.underlying26 hi0 hz0 hz1 hz2 rfl (by decide) _ _ _ rfl (HG.out.own.alloc _) ⟨wr.heap.size, 0, none⟩ 1 1 [.int .i64 i] rfl rfl (cell_one_new _ _ _) (by simp [Value.oneCell']) (by unfold maxLen; omega) (by omega) (by simp; omega) ?_)
            intro v' w4 hown hgrow _
            have HNew := Lib.hid (HG.out.added (by simpa [natInts] using hown) hgrow)
            clear hown hgrow
            have HB4 := Lib.hid (below_trans HB0.out HNew.out.below)
            have HX4 := Lib.hid (HX.out.later HNew.out.below)
            have HY4 := Lib.hid (HY.out.later HNew.out.below)
            have HXb4 := Lib.hid (heap_up HNew.out.below HXb.out)
            have HYb4 := Lib.hid (heap_up HNew.out.below HYb.out)
            have HRb4 := Lib.hid (heap_up HNew.out.below HRb.out)
            obtain ⟨sx, cx, ⟨-, xc1, -⟩, hsx, -⟩ := HX4.out.at_ hi
            obtain ⟨sy, cy, ⟨-, yc1, -⟩, hsy, -⟩ := HY4.out.at_ hi
            obtain ⟨x0, x1, -, -⟩ := box2 HXb4.out
            have HSx := Lib.hid hsx
            have HSy := Lib.hid hsy
            obtain ⟨s, hs⟩ : ∃ s, r.steps[i]? = some s := ⟨_, List.getElem?_eq_getElem hi⟩
            obtain ⟨hls, hlt⟩ := saw_len HPx.out HPy.out hs
            have HLs := Lib.hid hls
            have HLt := Lib.hid hlt
            have HS := Lib.hid hs
            clear hls hlt hs hsx hsy
            obtain ⟨ys, hys, hys2⟩ : ∃ ys, L[i]? = some ys ∧ ys.2 = s := by
              have := HS.out
              rw [← HMap.out, List.getElem?_map] at this
              cases hq : L[i]? with
              | none => rw [hq] at this; cases this
              | some ys => rw [hq] at this; exact ⟨ys, rfl, by simpa using this⟩
            subst hys2
            have HYs := Lib.hid hys
            clear hys
            have HN1 := Lib.hid (fun (j : Nat) (h : firstDiff (x.of i).saw (y.of i).saw = some j) (n : ByteArray) (hn : ys.2.src[j]? = some n) => chainNext_here h HS.out hn)
            have HN2 := Lib.hid (fun (h : firstDiff (x.of i).saw (y.of i).saw = none) => chainNext_last (steps := r.steps) h)
            generalize chainNext r.steps x y i = nx at HStep HN1 HN2
            generalize (x.of i).saw = xw at xc1 HSx HLs HN1 HN2
            generalize (y.of i).saw = yw at yc1 HSy HLt HN1 HN2
            have HYc1 := Lib.hid yc1
            go_wp2_with fail
            clear xc1 yc1 x0 x1
            go_loopw [12, 61] (fun nv jv wr2 => ∃ j : Nat, nv = .int .i64 (-1) ∧ j ≤ xw.length ∧ jv = .int .i64 j ∧ Hid (DiffAt xw yw j) ∧ Hid (Below w4.heap.size w4 wr2)) (fun _ jv _ => xw.length - (intOf jv).toNat)
            case atStart => exact ⟨0, rfl, Nat.zero_le _, rfl, Lib.hid (DiffAt.first _ _), Lib.hid (Below.refl _ _)⟩
            case round =>
              obtain ⟨j, rfl, hj, rfl, HD, HBl⟩ := hrel
              rename World => wr2
              by_cases hjl : j < xw.length
              · obtain ⟨sxj, hxj, -⟩ := getElem?_of_lt hjl
                obtain ⟨syj, hyj, -⟩ := getElem?_of_lt (l := yw) (k := j) (by have := HLs.out; have := HLt.out; omega)
                rcases (HSx.out.later HBl.out).cases with ⟨e, -⟩ | ⟨bx, ox, cx', e, -, hl1, hl2, -, hcx⟩
                · rw [e] at hjl; simp at hjl
                obtain ⟨rfl, rfl⟩ : sx = some ⟨bx, ox, none⟩ ∧ cx = cx' := by injection e with e1 e2 e3; exact ⟨e1, e3⟩
                rcases (HSy.out.later HBl.out).cases with ⟨e', -⟩ | ⟨by', oy, cy', e', -, -, -, -, hcy⟩
                · rw [e'] at hyj; simp at hyj
                obtain ⟨rfl, rfl⟩ : sy = some ⟨by', oy, none⟩ ∧ cy = cy' := by injection e' with e1 e2 e3; exact ⟨e1, e3⟩
                obtain ⟨xc, -⟩ := hcx j _ hxj
                obtain ⟨yc, -⟩ := hcy j _ hyj
                have yc1 := cell_later HBl.out HYc1.out
                obtain ⟨y0, y1, -, -⟩ := box2 (heap_up HBl.out HYb4.out)
                have hj1 : (j : Int) < (yw.length : Int) := by have := HLs.out; have := HLt.out; omega
                have HXj := Lib.hid hxj
                have HYj := Lib.hid hyj
                clear hcx hcy e e' hxj hyj
                by_cases hxy : sxj = syj
                · have HD2 := Lib.hid (HD.out.next_ HXj.out (by rw [HYj.out, hxy]))
                  subst hxy
                  go_wp2_with fail
                  go_roundw
                  case rel => exact ⟨j + 1, rfl, by omega, by go_num, HD2, HBl⟩
                  case measure => simp [intOf]; omega
                · have hxy2 : (sxj.toList == syj.toList) = false := by rw [beq_toList]; exact decide_eq_false hxy
                  have HDj := Lib.hid (HD.out.here HXj.out HYj.out hxy)
                  have hjs : j < ys.2.src.length := by have := HLs.out; have := sees_le ys.2; omega
                  obtain ⟨n, hn, -⟩ := getElem?_of_lt hjs
                  obtain rfl : nx = writerOf r.steps n := HN1.out j HDj.out n hn
                  have HB5 := Lib.hid (below_trans HB4.out HBl.out)
                  rcases (HR.out.later HB5.out).stp.cases with ⟨e, -⟩ | ⟨bs, os, c, e, -, -, -, -, hc⟩
                  · have h1 := HYs.out; rw [e] at h1; simp at h1
                  obtain ⟨rfl, rfl⟩ : av = some ⟨bs, os, none⟩ ∧ cv = c := by injection e with e1 e2 e3; exact ⟨e1, e3⟩
                  obtain ⟨-, s1, -, -, hsrc, -⟩ := hc i ys HYs.out
                  obtain ⟨ysv, kind, src, yo, sorted⟩ := ys
                  simp only at s1 hsrc hjs hn
                  obtain ⟨ya, yc', rfl⟩ := strs_slice hsrc
                  rcases hsrc.cases with ⟨e', -⟩ | ⟨bn, on_, cn, e', -, -, -, -, hcn⟩
                  · rw [e'] at hjs; simp at hjs
                  obtain ⟨rfl, rfl⟩ : ya = some ⟨bn, on_, none⟩ ∧ yc' = cn := by injection e' with e1 e2 e3; exact ⟨e1, e3⟩
                  obtain ⟨n0, nz⟩ := hcn j n hn
                  obtain ⟨r0, r1, r2⟩ := box3 (heap_up HBl.out HRb4.out)
                  have HWn := Lib.hid (writer_any r L _ _ n wr2.drew (HR.out.later HB5.out.drew))
                  have hL : r.steps.length = L.length := HLen.out
                  have hi2 : (i : Int) < (L.length : Int) := by omega
                  have hj2 : (j : Int) < (src.length : Int) := by omega
                  have hj3 : (0 : Int) ≤ (j : Int) := by omega
                  clear hL hc hcn e e' hsrc hn nz hxy
                  go_wp2_with fail
                  go_region_held3 (fun W => (W.cell? ⟨w.heap.size, 0, none⟩ = some (.slice ai r.inputs.length ci) ∧ W.cell? ⟨w.heap.size, 1, none⟩ = some (.slice (some ⟨bs, os, none⟩) L.length cv) ∧ W.cell? ⟨w.heap.size, 2, none⟩ = some (.string r.output)) ∧ W.cell? ⟨bs, os + i * 4 + 1, none⟩ = some (.slice (some ⟨bn, on_, none⟩) src.length yc') ∧ W.cell? ⟨bn, on_ + j, none⟩ = some (.string n))
                    (first | (with_reducible exact ⟨⟨r0, r1, r2⟩, s1, n0⟩) | exact ⟨⟨r0, r1, r2⟩, s1, n0⟩ | (with_reducible exact HC10.out) | go_keep)
                    (first | (go_at_call 73; (with_reducible refine HWn.out.mono ?_); rintro e w10 ⟨rfl, hb⟩; have HB10 : Hid (Below wr2.heap.size wr2 w10) := Lib.hid ((Below.refl _ wr2).drew.trans hb); have HC10 : Hid ((_ ∧ _ ∧ _) ∧ _ ∧ _) := Lib.hid ⟨⟨cell_later HB10.out r0, cell_later HB10.out r1, cell_later HB10.out r2⟩, cell_later HB10.out s1, cell_later HB10.out n0⟩; clear hb))
                  all_goals
                    go_wp2_with fail
                    go_roundw
                    case rel => exact ⟨writerOf r.steps n, _, rfl, Lib.hid HStep.out.1, Lib.hid (HNew.out.later (below_trans HBl.out HB10.out))⟩
                    case measure =>
                      have hs2 := HStep.out.2
                      cases hq : writerOf r.steps n with
                      | none => simp [levelOf, wIdx, intOf]
                      | some k =>
                        have := hs2 k hq
                        simp [levelOf, wIdx, intOf]
                        exact this
              · obtain rfl : j = xw.length := by omega
                obtain rfl : nx = none := HN2.out (HD.out.last (Nat.le_refl _))
                go_wp2_with fail
                go_roundw
                case rel => exact ⟨none, _, rfl, Lib.hid HStep.out.1, Lib.hid (HNew.out.later HBl.out)⟩
                case measure => simp [levelOf, intOf]
  · have HE := Lib.hid (show res = [] by rw [← HRes.out, chainOf_none hn])
    have HB2 := Lib.hid (below_trans (below_trans HB0.out (below_alloc w1 (recBox (.slice s m m) (.map p)))) (below_alloc _ (recBox (.slice t k k) (.map q))))
    have HWr := Lib.hid (writer_any r L _ _ r.output _ (HR.out.later HB2.out))
    obtain ⟨r0, r1, r2⟩ := box3 (heap_up (below_trans (below_alloc w1 (recBox (.slice s m m) (.map p))) (below_alloc _ (recBox (.slice t k k) (.map q)))) HRb.out)
    go_wp2_with fail
    refine HWr.out.mono ?_
    rintro e w2 ⟨rfl, hb⟩
    have HB3 := Lib.hid (below_trans HB2.out hb)
    clear hb r0 r1 r2
    go_wp2_with fail
    go_quiet (fail)
    go_wp2_with fail
    go_ret
    exact ⟨_, rfl, by rw [HE.out]; exact ints_zero _, below_drewN HB3.out _⟩
end Go.Proofs.YtacgopankhpnbaaGreatDoor
/- Walks of package blame: Replay, of a recipe that is right and an element that fits its step. -/
namespace Go.Proofs.YtacgopankhpnbaaGreatDoor
open Go.RowKit

/-- Replay's files: one more, if there is none of that name; else it must be the same. -/
def addFile (files : List Fil) (f : Fil) : Option (List Fil) := match files.findIdx? (fun x => decide (x.name = f.name)) with
  | none => some (files ++ [f])
  | some i => match files[i]? with
    | none => none
    | some g => if g.text = f.text then some files else none
def sawText (saw : List ByteArray) (k : Nat) : ByteArray := if saw = [] then ⟨#[]⟩ else saw.getD k ⟨#[]⟩
def replayFiles (saw : List ByteArray) : Nat → List ByteArray → List Fil → Option (List Fil)
  | _, [], files => some files
  | k, n :: l, files => match addFile files ⟨n, sawText saw k⟩ with
    | none => none
    | some fs => replayFiles saw (k + 1) l fs
/-- Replay, behind its checks. -/
def replayL (C : ByteArray → Int × ByteArray) (s : Stp) (saw : List ByteArray) (clock order : List Int) : Except Int ByteArray := match replayFiles saw 0 s.src [] with
  | none => .error 1
  | some files => match doStep C s files clock order 0 0 with
    | .error e => .error e
    | .ok (text, _, _, _) => .ok text
def RpAt (saw src : List ByteArray) (k : Nat) (files : List Fil) : Prop := replayFiles saw 0 src [] = replayFiles saw k (src.drop k) files
section
variable {saw src : List ByteArray} {k : Nat} {files fs : List Fil} {n : ByteArray}
theorem RpAt.first (saw src : List ByteArray) : RpAt saw src 0 [] := by unfold RpAt; rw [List.drop_zero]
theorem RpAt.last (h : RpAt saw src k files) (hk : src.length ≤ k) : replayFiles saw 0 src [] = some files := by unfold RpAt at h; rw [h, List.drop_of_length_le hk]; rfl
theorem RpAt.bad (h : RpAt saw src k files) (hn : src[k]? = some n) (ha : addFile files ⟨n, sawText saw k⟩ = none) : replayFiles saw 0 src [] = none := by
  unfold RpAt at h; rw [h, getElem?_drop hn, replayFiles, ha]
theorem RpAt.next_ (h : RpAt saw src k files) (hn : src[k]? = some n) (ha : addFile files ⟨n, sawText saw k⟩ = some fs) : RpAt saw src (k + 1) fs := by
  unfold RpAt at h ⊢; rw [h, getElem?_drop hn, replayFiles, ha]
end
/-- A list of files that the call gathers. -/
structure GathF (W0 : World) (l : List Fil) (v : Value) (wr : World) : Prop where
  own : wr.ownsRow W0.heap.size 40 2 v l.length (filCells l)
  below : Below W0.heap.size W0 wr
  sizes : ∀ f, f ∈ l → f.name.size ≤ 140737488355328 ∧ f.text.size ≤ 140737488355328
theorem GathF.first (W0 : World) : GathF W0 [] (.slice none 0 0) W0 := ⟨World.ownsRow_nil _ _ _ _, Below.refl _ _, fun f h => by cases h⟩
theorem GathF.later {W0 wr w2 : World} {l : List Fil} {v : Value} (h : GathF W0 l v wr) (hb : Below wr.heap.size wr w2) : GathF W0 l v w2 :=
  ⟨h.own.kept (row := none) ⟨hb.os, hb.tape, hb.output, hb.size, fun k hk _ => hb.block k hk⟩ (Classical.em _), h.below.trans (hb.mono h.below.size), h.sizes⟩
theorem GathF.added {W0 wr w3 : World} {l : List Fil} {v v' : Value} {f : Fil} {o : Obj} (h : GathF W0 l v wr) (hown : w3.ownsRow W0.heap.size 40 2 v' (l.length + 1) (filCells l ++ [.string f.name, .string f.text])) (hg : (wr.alloc o).grownBy w3 v.ownBlock)
    (hf : f.name.size ≤ 140737488355328 ∧ f.text.size ≤ 140737488355328) : GathF W0 (l ++ [f]) v' w3 := by
  have hz : wr.heap.size + 1 ≤ w3.heap.size := by have := hg.size; simpa using this
  have hbb := h.below
  refine ⟨by rw [List.length_append, show filCells (l ++ [f]) = filCells l ++ [.string f.name, .string f.text] by simp [filCells]]; exact hown, ?_, fun g hg => ?_⟩
  · refine ⟨hg.os.trans hbb.os, hg.tape.trans hbb.tape, hg.output.trans hbb.output, by have := hbb.size; omega, fun j hj => ?_⟩
    have := hbb.size
    rw [hg.block j (by simp; omega) (fun e => by have := (h.own.lt j e.symm).1; omega), Below.heap_alloc _ _ _ (by omega)]
    exact hbb.block j hj
  · rcases List.mem_append.1 hg with h1 | h1
    · exact h.sizes g h1
    · rw [List.mem_singleton.1 h1]; exact hf
theorem GathF.fils {W0 wr : World} {l : List Fil} {v : Value} (h : GathF W0 l v wr) : Fils wr v l := by
  rcases h.own.2 with ⟨rfl, h0⟩ | ⟨g, cap, cur, rfl, hg, hgb, r1, r2, r3, r4⟩
  · have := List.eq_nil_of_length_eq_zero h0
    subst this
    exact ⟨none, 0, rfl, by simp, by simp, fun h => absurd rfl h⟩
  · refine ⟨_, cap, rfl, r1, r2, fun _ => ⟨g, 0, rfl, fun i f hf => ⟨_, ⟨rfl, h.sizes f (List.mem_of_getElem? hf)⟩, rfl, fun j u hu => ?_⟩⟩⟩
    have hi := (List.getElem?_eq_some_iff.1 hf).1
    obtain ⟨d0, d1⟩ := filCells_at l i f hf
    have get : ∀ k u, k < l.length * 2 → (filCells l)[k]? = some u → wr.cell? ⟨g, 0 + k, none⟩ = some u := fun k u hk hu => by
      have := congrArg (fun t : List Value => t[k]?) r4
      rw [List.getElem?_take, if_pos hk, hu] at this
      have h2 : cur[k]? = some u := by simpa using this
      simp [World.cell?, hgb, h2]
    match j, hu with
    | 0, hu => cases hu; exact get _ _ (by omega) d0
    | 1, hu => cases hu; rw [Nat.add_assoc]; exact get _ _ (by omega) d1

theorem replay1_any (x fn ft : ByteArray) (b : Nat) (w : World) (hb : w.cell? ⟨b, 0, none⟩ = some (.string x)) :
    Calls Tryz.prog 78 #[.agg #[.string fn, .string ft], .pointer (some ⟨b, 0, none⟩)] w fun e w' => e = .returned (.bool (decide (fn = x))) ∧ Below w.heap.size w w' := by
  have hlt := cell_lt hb
  go_enter Tryz.func78, Tryz.ntmps78
  go_wp2_with fail
  go_ret
  exact ⟨ret_bool (beq_toList _ _), (Below.refl _ _).alloc (Nat.le_refl _) _⟩
theorem enters_replay1 (args : Array Value) (w : World) : (callFunc 78 args).run Tryz.prog w = .ok (.enter 78 args) w := by kernel_rfl

/-- What Replay hands back. -/
def RePost (res : Except Int ByteArray) (w : World) (e : Ending) (w' : World) : Prop := Below w.heap.size w w' ∧ match res with
  | .error c => e = .returned (.tuple #[.string ⟨#[]⟩, .int .i64 c])
  | .ok t => e = .returned (.tuple #[.string t, .int .i64 0])

set_option maxRecDepth 100000 in
set_option maxHeartbeats 8000000 in
theorem replay_good (C : ByteArray → Int × ByteArray) (r : Rcp) (L : List (Value × Stp)) (vi vs vd vc vo vn : Value) (s : Stp) (i : Nat) (saw : List ByteArray) (out : ByteArray) (clock order next : List Int) (w : World) (h : RcpIn r L vi vs w) (hw : WldIn clock order next vc vo vn w) (hG : Glob w)
    (he : inspectE r = 0) (hs : r.steps[i]? = some s) (hd : Strs w vd saw) (hl : saw.length = seesN s) (hD : DoAll C s) :
    Calls Tryz.prog 49 #[rcpV vi vs r.output, .agg #[.int .i64 i, vd, .string out], .agg #[vc, vo, vn]] w (RePost (replayL C s saw clock order) w) := by
  have HR := Lib.hid h
  have HW := Lib.hid hw
  have HGl := Lib.hid hG
  have HD := Lib.hid hD
  have HSd := Lib.hid hd
  have HLen := Lib.hid h.len
  have HOk := Lib.hid (inspectE_ok he)
  have hi : i < L.length := by have := (List.getElem?_eq_some_iff.1 hs).1; have := h.len; omega
  obtain ⟨y, hy, hy2⟩ : ∃ y, L[i]? = some y ∧ y.2 = s := by
    rw [← h.map, List.getElem?_map] at hs
    cases hq : L[i]? with
    | none => rw [hq] at hs; cases hs
    | some y => rw [hq] at hs; exact ⟨y, rfl, by simpa using hs⟩
  subst hy2
  have hsr := HOk.out.steps y.2 (List.mem_of_getElem? hs)
  have hsrc60 := (stepRight_parts hsr).2.2.1
  obtain ⟨⟨a1, c1, rfl⟩, ⟨a2, c2, rfl⟩, ⟨a3, c3, rfl⟩⟩ := hw.slices
  obtain ⟨ai, ci, av, cv, rfl, rfl⟩ := h.slices
  obtain ⟨ad, cd, rfl⟩ := strs_slice hd
  rcases h.stp.cases with ⟨e, -⟩ | ⟨bs, os, c, e, -, -, -, -, hc⟩
  · rw [e] at hi; simp at hi
  obtain ⟨rfl, rfl⟩ : av = some ⟨bs, os, none⟩ ∧ cv = c := by injection e with e1 e2 e3; exact ⟨e1, e3⟩
  obtain ⟨s0, s1, s2, s3, hsrc, hso⟩ := hc i y hy
  obtain ⟨yv, kind, src, yo, sorted⟩ := y
  simp only at s0 s1 s2 s3 hsrc hso hsrc60 HD
  obtain ⟨ya, yc, rfl⟩ := strs_slice hsrc
  have HSrc := Lib.hid hsrc
  have HSo := Lib.hid hso
  have hns : saw.length = seesN ⟨kind, src, yo, sorted⟩ := hl
  generalize hne : seesN ⟨kind, src, yo, sorted⟩ = ns at hns
  subst hns
  have HNs := Lib.hid hne
  have hRc := Lib.hid (show replayL C ⟨kind, src, yo, sorted⟩ saw clock order = match replayFiles saw 0 src [] with
    | none => .error 1
    | some files => match doStep C ⟨kind, src, yo, sorted⟩ files clock order 0 0 with
      | .error e => .error e
      | .ok (text, _, _, _) => .ok text from rfl)
  show Calls _ _ _ _ (RePost (replayL C ⟨kind, src, yo, sorted⟩ saw clock order) w)
  generalize replayL C ⟨kind, src, yo, sorted⟩ saw clock order = res at hRc ⊢
  have B1 := below_alloc w (rcpBox (.slice ai r.inputs.length ci) (.slice (some ⟨bs, os, none⟩) L.length cv) r.output)
  have B2 := below_alloc (w.alloc (rcpBox (.slice ai r.inputs.length ci) (.slice (some ⟨bs, os, none⟩) L.length cv) r.output)) (.cells #[.int .i64 i, .slice ad saw.length cd, .string out] 59)
  have B3 := below_alloc ((w.alloc (rcpBox (.slice ai r.inputs.length ci) (.slice (some ⟨bs, os, none⟩) L.length cv) r.output)).alloc (.cells #[.int .i64 i, .slice ad saw.length cd, .string out] 59)) (wldBox (.slice a1 clock.length c1) (.slice a2 order.length c2) (.slice a3 next.length c3))
  have HB0 := Lib.hid (below_trans (below_trans B1 B2) B3)
  have HRb := Lib.hid (heap_up (below_trans B2 B3) (alloc_self w (rcpBox (.slice ai r.inputs.length ci) (.slice (some ⟨bs, os, none⟩) L.length cv) r.output)))
  have HDb := Lib.hid (heap_up B3 (alloc_self (w.alloc (rcpBox (.slice ai r.inputs.length ci) (.slice (some ⟨bs, os, none⟩) L.length cv) r.output)) (.cells #[.int .i64 i, .slice ad saw.length cd, .string out] 59)))
  have HWb := Lib.hid (alloc_self ((w.alloc (rcpBox (.slice ai r.inputs.length ci) (.slice (some ⟨bs, os, none⟩) L.length cv) r.output)).alloc (.cells #[.int .i64 i, .slice ad saw.length cd, .string out] 59)) (wldBox (.slice a1 clock.length c1) (.slice a2 order.length c2) (.slice a3 next.length c3)))
  simp only [World.size_alloc] at HDb HWb
  clear B1 B2 B3 h hw hG hD hd hs hy e hc hsr hsrc hso hl hne
  go_enter Tryz.func49, Tryz.ntmps49
  go_wp2_with fail
  generalize ((w.alloc (rcpBox (.slice ai r.inputs.length ci) (.slice (some ⟨bs, os, none⟩) L.length cv) r.output)).alloc (.cells #[.int .i64 i, .slice ad saw.length cd, .string out] 59)).alloc (wldBox (.slice a1 clock.length c1) (.slice a2 order.length c2) (.slice a3 next.length c3)) = w0 at HB0 HRb HDb HWb ⊢
  replace s0 := cell_later HB0.out s0
  replace s1 := cell_later HB0.out s1
  replace s2 := cell_later HB0.out s2
  replace s3 := cell_later HB0.out s3
  obtain ⟨r0, r1, r2⟩ := box3 HRb.out
  obtain ⟨d0, d1, d2⟩ := box3 HDb.out
  have HRt := Lib.hid (right_any r L _ _ w0.drew (HR.out.later HB0.out.drew))
  rw [he] at HRt
  have HSe := Lib.hid (fun W (hW : Below w0.heap.size w0 W) => sees_any (.slice ya src.length yc, ⟨kind, src, yo, sorted⟩) W (HSrc.out.later (below_trans HB0.out hW)))
  rw [HNs.out] at HSe
  have hn0 : decide ((i : Int) < 0) = false := decide_eq_false (by omega)
  have hn1 : decide ((L.length : Int) ≤ (i : Int)) = false := decide_eq_false (by omega)
  have hn2 : decide (L.length ≤ i) = false := decide_eq_false (by omega)
  have hn3 : ¬ L.length ≤ i := by omega
  have hi0 : (0 : Int) ≤ (i : Int) := by omega
  have hi1 : (i : Int) < (L.length : Int) := by omega
  go_region_held3 (fun W => (W.cell? ⟨w.heap.size, 0, none⟩ = some (.slice ai r.inputs.length ci) ∧ W.cell? ⟨w.heap.size, 1, none⟩ = some (.slice (some ⟨bs, os, none⟩) L.length cv) ∧ W.cell? ⟨w.heap.size, 2, none⟩ = some (.string r.output)) ∧ (W.cell? ⟨w.heap.size + 1, 0, none⟩ = some (.int .i64 (i : Int)) ∧ W.cell? ⟨w.heap.size + 1, 1, none⟩ = some (.slice ad saw.length cd)) ∧ (W.cell? ⟨bs, os + i * 4, none⟩ = some (.int .i64 kind) ∧ W.cell? ⟨bs, os + i * 4 + 1, none⟩ = some (.slice ya src.length yc) ∧ W.cell? ⟨bs, os + i * 4 + 2, none⟩ = some (.string yo) ∧ W.cell? ⟨bs, os + i * 4 + 3, none⟩ = some (.bool sorted)))
    (first | exact ⟨⟨r0, r1, r2⟩, ⟨d0, d1⟩, s0, s1, s2, s3⟩ | (with_reducible exact HC2.out) | (with_reducible exact HC1.out) | go_keep)
    (first | (go_at_call 35; (with_reducible refine HRt.out.mono ?_); rintro e wa ⟨rfl, hb⟩; have HB1 : Hid (Below w0.heap.size w0 wa) := Lib.hid ((Below.refl _ w0).drew.trans hb); have HC1 : Hid ((_ ∧ _ ∧ _) ∧ (_ ∧ _) ∧ _ ∧ _ ∧ _ ∧ _) := Lib.hid ⟨⟨cell_later HB1.out r0, cell_later HB1.out r1, cell_later HB1.out r2⟩, ⟨cell_later HB1.out d0, cell_later HB1.out d1⟩, cell_later HB1.out s0, cell_later HB1.out s1, cell_later HB1.out s2, cell_later HB1.out s3⟩; clear hb) | (have _g := HB1; go_at_call 77; (with_reducible refine (HSe.out _ HB1.out).mono ?_); rintro e wb ⟨rfl, hb⟩; have HB2 : Hid (Below w0.heap.size w0 wb) := Lib.hid (below_trans HB1.out hb); have HC2 : Hid ((_ ∧ _ ∧ _) ∧ (_ ∧ _) ∧ _ ∧ _ ∧ _ ∧ _) := Lib.hid ⟨⟨cell_later HB2.out r0, cell_later HB2.out r1, cell_later HB2.out r2⟩, ⟨cell_later HB2.out d0, cell_later HB2.out d1⟩, cell_later HB2.out s0, cell_later HB2.out s1, cell_later HB2.out s2, cell_later HB2.out s3⟩; clear hb))
  all_goals
    obtain ⟨⟨r0, r1, r2⟩, ⟨d0, d1⟩, s0, s1, s2, s3⟩ := HC2.out
    have HBb := Lib.hid (below_trans HB2.out (below_alloc wb (.cells #[.int .i64 kind, .slice ya src.length yc, .string yo, .bool sorted] 24)))
    have HTb := Lib.hid (alloc_self wb (.cells #[.int .i64 kind, .slice ya src.length yc, .string yo, .bool sorted] 24))
    go_wp2_with fail
    clear r0 r1 r2 d0 d1 s0 s1 s2 s3 HC2 HC1 HB2 HB1
    replace HDb := Lib.hid (heap_up HBb.out HDb.out)
    replace HWb := Lib.hid (heap_up HBb.out HWb.out)
    replace HB0 := Lib.hid (below_trans HB0.out HBb.out)
    have hq8 : wb.heap.size < (wb.alloc (.cells #[.int .i64 kind, .slice ya src.length yc, .string yo, .bool sorted] 24)).heap.size := by simp
    generalize wb.alloc (.cells #[.int .i64 kind, .slice ya src.length yc, .string yo, .bool sorted] 24) = w1 at HTb HDb HWb HB0 hq8 ⊢
    generalize wb.heap.size = q8 at HTb hq8 ⊢
    clear HBb
    obtain ⟨i0, hi0', hz0, hz1, hz2⟩ := info_parts filInfo
    go_loopw [9, 56] (fun v kv wr => ∃ (k : Nat) (fs : List Fil), k ≤ src.length ∧ fs.length ≤ k ∧ kv = .int .i64 k ∧ Hid (RpAt saw src k fs) ∧ Hid (GathF w1 fs v wr)) (fun _ kv _ => src.length - (intOf kv).toNat)
    case atStart => exact ⟨0, [], Nat.zero_le _, Nat.zero_le _, rfl, Lib.hid (RpAt.first _ _), Lib.hid (GathF.first w1)⟩
    case round =>
      obtain ⟨k, fs, hk, hfl, rfl, HAt, HG⟩ := hrel
      rename World => wr
      rename Value => v
      have HBr := Lib.hid HG.out.below
      have HBw := Lib.hid (below_trans HB0.out HBr.out)
      have hsz := HBr.out.size
      obtain ⟨af, cf, rfl⟩ := fils_form HG.out.fils
      by_cases hlt : k < src.length
      · obtain ⟨n, hn, -⟩ := getElem?_of_lt hlt
        rcases (HSrc.out.later HBw.out).cases with ⟨e, -⟩ | ⟨bx, ox, cx, e, -, -, -, -, hcx⟩
        · rw [e] at hlt; simp at hlt
        obtain ⟨rfl, rfl⟩ : ya = some ⟨bx, ox, none⟩ ∧ yc = cx := by injection e with e1 e2 e3; exact ⟨e1, e3⟩
        obtain ⟨n0, nz⟩ := hcx k n hn
        have HN := Lib.hid hn
        have HNz := Lib.hid nz
        clear hcx e hn nz
        obtain ⟨d0, d1, d2⟩ := box3 (heap_up HBr.out HDb.out)
        have hb0 := below_trans (below_alloc wr (.cells #[.string n] 9)) (below_alloc _ (.cells #[.string n, .string ⟨#[]⟩] 40))
        have HBe := Lib.hid hb0
        replace d0 := cell_later hb0 d0
        replace d1 := cell_later hb0 d1
        clear hb0 d2
        -- what stands behind the box of f, with its text
        obtain ⟨t, ht, HTz⟩ : ∃ t, sawText saw k = t ∧ Hid (t.size ≤ 140737488355328) := by
          refine ⟨_, rfl, Lib.hid ?_⟩
          unfold sawText
          split
          · decide
          · rw [List.getD_eq_getElem?_getD]
            cases hq : saw[k]? with
            | none => decide
            | some t => exact strs_size HSd.out (List.mem_of_getElem? hq)
        have HT := Lib.hid ht
        have B1 := below_alloc wr (.cells #[.string n] 9)
        have B2 := below_alloc (wr.alloc (.cells #[.string n] 9)) (.cells #[.string n, .string t] 40)
        have HB2 := Lib.hid (below_trans B1 B2)
        have hcn := box1 (heap_up B2 (alloc_self wr (.cells #[.string n] 9)))
        have HFb := Lib.hid (alloc_self (wr.alloc (.cells #[.string n] 9)) (.cells #[.string n, .string t] 40))
        simp only [World.size_alloc] at HFb
        have HI := Lib.hid (indexFunc_fil 78 #[.pointer (some ⟨wr.heap.size, 0, none⟩)] (fun f => decide (f.name = n)) fs (.slice af fs.length cf) _ (HG.out.fils.later HB2.out) enters_replay1 (fun f _ W hW => replay1_any n f.name f.text _ W (cell_later hW hcn)))
        have HG2 := Lib.hid (HG.out.later HB2.out)
        clear B1 B2 hcn
        by_cases hsn : saw = []
        · obtain rfl : t = ⟨#[]⟩ := by rw [← HT.out]; unfold sawText; rw [if_pos hsn]
          have hz0 : saw.length = 0 := by rw [hsn]; rfl
          have hz1' : ¬ (0 : Int) < (saw.length : Int) := by omega
          have hz2' : ¬ 0 < saw.length := by omega
          have hz3' : decide ((0 : Int) < (saw.length : Int)) = false := decide_eq_false hz1'
          have hz4' : decide (0 < saw.length) = false := decide_eq_false hz2'
          clear hz0
          clear hsn
          go_wp2_with fail
          refine HI.out.mono ?_
          rintro e w3 ⟨rfl, hb⟩
          have HG3 := Lib.hid (HG2.out.later hb)
          have HB3 := Lib.hid (below_trans HB2.out hb)
          obtain ⟨c0, c1, -, -⟩ := box2 (heap_up hb HFb.out)
          clear hb HI HG2
          cases hfi : fs.findIdx? (fun f => decide (f.name = n)) with
          | none =>
            have hix : idxOf (fun f : Fil => decide (f.name = n)) fs = -1 := idxOf_none hfi
            rw [hix]
            have HAt2 := Lib.hid (HAt.out.next_ HN.out (show addFile fs ⟨n, sawText saw k⟩ = some (fs ++ [⟨n, ⟨#[]⟩⟩]) by rw [HT.out]; unfold addFile; simp only [hfi]))
            clear hix hfi
            go_wp2_with fail
            go_quiet (fail)
            have HG4 := Lib.hid (HG3.out.later (below_drewN (Below.refl w3.heap.size w3) nq))
            have h4 := HG4.out.below.size
            have c0' : (w3.drewN nq).cell? ⟨wr.heap.size + 1, 0, none⟩ = some (.string n) := c0
            have c1' : (w3.drewN nq).cell? ⟨wr.heap.size + 1, 1, none⟩ = some (.string ⟨#[]⟩) := c1
            clear c0 c1
            generalize w3.drewN nq = w4 at HG4 h4 c0' c1' ⊢
            go_wp2_with (at_builtin; refine wpList_append_own _ rfl _ _ 25 rfl w1.heap.size 40 i0 (.agg #[.string ByteArray.empty, .string ByteArray.empty]) 2 32 Tryz.underlying25 hi0' hz0 hz1 hz2 rfl (by decide) _ _ _ rfl (HG4.out.own.alloc _) ⟨w4.heap.size, 0, none⟩ 1 1 [.string n, .string ⟨#[]⟩] rfl rfl (World.news_of_block (cs := #[.string n, .string ⟨#[]⟩]) (t := 40) (fr := (0, 0)) (heap_alloc_new w4 _)) (by simp [Value.oneCell']) (by unfold maxLen; omega) (by omega) (by simp; omega) ?_)
            intro v' w5 hown hgrow _
            have HNew := Lib.hid (HG4.out.added (f := ⟨n, ⟨#[]⟩⟩) hown hgrow ⟨HNz.out, HTz.out⟩)
            clear hown hgrow c0' c1'
            go_wp2_with fail
            go_roundw
            case rel => exact ⟨k + 1, _, by omega, by simp; omega, by go_num, HAt2, HNew⟩
            case measure => simp [intOf]; omega
          | some j =>
            have hix : idxOf (fun f : Fil => decide (f.name = n)) fs = (j : Int) := idxOf_some hfi
            rw [hix]
            obtain ⟨hjl, hp, -⟩ := List.findIdx?_eq_some_iff_getElem.1 hfi
            obtain ⟨g, hg, -⟩ := getElem?_of_lt hjl
            have hgn : g.name = n := by rw [List.getElem?_eq_getElem hjl] at hg; cases hg; simpa using hp
            rcases HG3.out.fils.cases with ⟨e, -⟩ | ⟨b', o', c', e, -, -, -, -, hc'⟩
            · rw [e] at hjl; simp at hjl
            obtain ⟨rfl, rfl⟩ : af = some ⟨b', o', none⟩ ∧ cf = c' := by injection e with e1 e2 e3; exact ⟨e1, e3⟩
            obtain ⟨g0, g1, -, -⟩ := hc' j g hg
            have HAd := Lib.hid (show addFile fs ⟨n, sawText saw k⟩ = if g.text = ⟨#[]⟩ then some fs else none by rw [HT.out]; unfold addFile; simp only [hfi, hg])
            obtain ⟨gn, gt⟩ := g
            simp only at g0 g1 hgn HAd
            subst hgn
            have hj0 : (0 : Int) ≤ (j : Int) := by omega
            have hj1 : (j : Int) < (fs.length : Int) := by omega
            have hj2 : decide ((j : Int) < 0) = false := decide_eq_false (by omega)
            clear hix hfi hp hg hc' e
            by_cases hgt : gt = ⟨#[]⟩
            · have HAt2 := Lib.hid (HAt.out.next_ HN.out (HAd.out.trans (if_pos hgt)))
              subst hgt
              go_wp2_with fail
              go_quiet (fail)
              go_wp2_with fail
              go_roundw
              case rel => exact ⟨k + 1, fs, by omega, by omega, by go_num, HAt2, Lib.hid (HG3.out.later (below_drewN (Below.refl _ _) _))⟩
              case measure => simp [intOf]; omega
            · have hbad := HAt.out.bad HN.out (HAd.out.trans (if_neg hgt))
              obtain rfl : res = .error 1 := by rw [hRc.out, hbad]
              have hgt2 : (gt.toList == (⟨#[]⟩ : ByteArray).toList) = false := by rw [beq_toList]; exact decide_eq_false hgt
              have hgt3 : (gt.toList == []) = false := by have e0 : (⟨#[]⟩ : ByteArray).toList = [] := by rw [toList_eq]
                                                          rw [e0] at hgt2; exact hgt2
              have hgt4 : gt.toList ≠ [] := fun h => by rw [h] at hgt3; cases hgt3
              clear hbad
              go_wp2_with fail
              go_quiet (fail)
              go_wp2_with fail
              refine bodyPost_ret (v := .tuple #[.string ⟨#[]⟩, .int .i64 1]) (by simp [results, Tryz.results49, go_sem]) rfl ?_
              exact ⟨below_drewN (below_trans HBw.out HB3.out) _, rfl⟩
        · have hsl : ¬ saw.length = 0 := fun h => hsn (List.eq_nil_of_length_eq_zero h)
          have hsl2 : (0 : Int) < (saw.length : Int) := by omega
          have hks : k < saw.length := by
            have := HNs.out
            unfold seesN at this
            simp only at this
            split at this
            · omega
            · omega
          rcases (HSd.out.later (below_trans HBw.out HBe.out)).cases with ⟨e, -⟩ | ⟨by', oy, cy, e, -, -, -, -, hcy⟩
          · exact absurd e hsn
          obtain ⟨rfl, rfl⟩ : ad = some ⟨by', oy, none⟩ ∧ cd = cy := by injection e with e1 e2 e3; exact ⟨e1, e3⟩
          obtain ⟨t', ht', -⟩ := getElem?_of_lt hks
          obtain ⟨y0, -⟩ := hcy k t' ht'
          obtain rfl : t = t' := by rw [← HT.out]; unfold sawText; rw [if_neg hsn, List.getD_eq_getElem?_getD, ht']; rfl
          have hk0 : (0 : Int) ≤ (k : Int) := by omega
          have hk1 : (k : Int) < (saw.length : Int) := by omega
          clear hsn hcy e ht'
          go_wp2_with fail
          refine HI.out.mono ?_
          rintro e w3 ⟨rfl, hb⟩
          have HG3 := Lib.hid (HG2.out.later hb)
          have HB3 := Lib.hid (below_trans HB2.out hb)
          obtain ⟨c0, c1, -, -⟩ := box2 (heap_up hb HFb.out)
          clear hb HI HG2
          cases hfi : fs.findIdx? (fun f => decide (f.name = n)) with
          | none =>
            have hix : idxOf (fun f : Fil => decide (f.name = n)) fs = -1 := idxOf_none hfi
            rw [hix]
            have HAt2 := Lib.hid (HAt.out.next_ HN.out (show addFile fs ⟨n, sawText saw k⟩ = some (fs ++ [⟨n, t⟩]) by rw [HT.out]; unfold addFile; simp only [hfi]))
            clear hix hfi
            go_wp2_with fail
            go_quiet (fail)
            have HG4 := Lib.hid (HG3.out.later (below_drewN (Below.refl w3.heap.size w3) nq))
            have h4 := HG4.out.below.size
            have c0' : (w3.drewN nq).cell? ⟨wr.heap.size + 1, 0, none⟩ = some (.string n) := c0
            have c1' : (w3.drewN nq).cell? ⟨wr.heap.size + 1, 1, none⟩ = some (.string t) := c1
            clear c0 c1
            generalize w3.drewN nq = w4 at HG4 h4 c0' c1' ⊢
            go_wp2_with (at_builtin; refine wpList_append_own _ rfl _ _ 25 rfl w1.heap.size 40 i0 (.agg #[.string ByteArray.empty, .string ByteArray.empty]) 2 32 Tryz.underlying25 hi0' hz0 hz1 hz2 rfl (by decide) _ _ _ rfl (HG4.out.own.alloc _) ⟨w4.heap.size, 0, none⟩ 1 1 [.string n, .string t] rfl rfl (World.news_of_block (cs := #[.string n, .string t]) (t := 40) (fr := (0, 0)) (heap_alloc_new w4 _)) (by simp [Value.oneCell']) (by unfold maxLen; omega) (by omega) (by simp; omega) ?_)
            intro v' w5 hown hgrow _
            have HNew := Lib.hid (HG4.out.added (f := ⟨n, t⟩) hown hgrow ⟨HNz.out, HTz.out⟩)
            clear hown hgrow c0' c1'
            go_wp2_with fail
            go_roundw
            case rel => exact ⟨k + 1, _, by omega, by simp; omega, by go_num, HAt2, HNew⟩
            case measure => simp [intOf]; omega
          | some j =>
            have hix : idxOf (fun f : Fil => decide (f.name = n)) fs = (j : Int) := idxOf_some hfi
            rw [hix]
            obtain ⟨hjl, hp, -⟩ := List.findIdx?_eq_some_iff_getElem.1 hfi
            obtain ⟨g, hg, -⟩ := getElem?_of_lt hjl
            have hgn : g.name = n := by rw [List.getElem?_eq_getElem hjl] at hg; cases hg; simpa using hp
            rcases HG3.out.fils.cases with ⟨e, -⟩ | ⟨b', o', c', e, -, -, -, -, hc'⟩
            · rw [e] at hjl; simp at hjl
            obtain ⟨rfl, rfl⟩ : af = some ⟨b', o', none⟩ ∧ cf = c' := by injection e with e1 e2 e3; exact ⟨e1, e3⟩
            obtain ⟨g0, g1, -, -⟩ := hc' j g hg
            have HAd := Lib.hid (show addFile fs ⟨n, sawText saw k⟩ = if g.text = t then some fs else none by rw [HT.out]; unfold addFile; simp only [hfi, hg])
            obtain ⟨gn, gt⟩ := g
            simp only at g0 g1 hgn HAd
            subst hgn
            have hj0 : (0 : Int) ≤ (j : Int) := by omega
            have hj1 : (j : Int) < (fs.length : Int) := by omega
            have hj2 : decide ((j : Int) < 0) = false := decide_eq_false (by omega)
            clear hix hfi hp hg hc' e
            by_cases hgt : gt = t
            · have HAt2 := Lib.hid (HAt.out.next_ HN.out (HAd.out.trans (if_pos hgt)))
              subst hgt
              go_wp2_with fail
              go_quiet (fail)
              go_wp2_with fail
              go_roundw
              case rel => exact ⟨k + 1, fs, by omega, by omega, by go_num, HAt2, Lib.hid (HG3.out.later (below_drewN (Below.refl _ _) _))⟩
              case measure => simp [intOf]; omega
            · have hbad := HAt.out.bad HN.out (HAd.out.trans (if_neg hgt))
              obtain rfl : res = .error 1 := by rw [hRc.out, hbad]
              have hgt2 : (gt.toList == t.toList) = false := by rw [beq_toList]; exact decide_eq_false hgt
              clear hbad
              go_wp2_with fail
              go_quiet (fail)
              go_wp2_with fail
              refine bodyPost_ret (v := .tuple #[.string ⟨#[]⟩, .int .i64 1]) (by simp [results, Tryz.results49, go_sem]) rfl ?_
              exact ⟨below_drewN (below_trans HBw.out HB3.out) _, rfl⟩
      · obtain rfl : k = src.length := by omega
        have hlast := HAt.out.last (Nat.le_refl _)
        have HRc2 : Hid (res = match doStep C ⟨kind, src, yo, sorted⟩ fs clock order 0 0 with
          | .error e => .error e
          | .ok (text, _, _, _) => .ok text) := Lib.hid (by rw [hRc.out, hlast])
        have HDo := Lib.hid (HD.out fs clock order (.slice ya src.length yc) (.slice af fs.length cf) (.slice a1 clock.length c1) (.slice a2 order.length c2) (.slice a3 next.length c3) 0 0 wr ⟨HGl.out.later HBw.out, HSrc.out.later HBw.out, HSo.out, HG.out.fils, (HW.out.later HBw.out).clk, (HW.out.later HBw.out).ord, ⟨_, _, _, rfl⟩, by decide, by decide, HW.out.cwf, HW.out.owf⟩)
        obtain ⟨t0, t1, t2, t3⟩ := box4' (heap_up HBr.out HTb.out)
        obtain ⟨x0, x1, x2⟩ := box3 (heap_up HBr.out HWb.out)
        clear hlast
        go_wp2_with fail
        refine HDo.out.mono ?_
        rintro e w5 ⟨hb, hpo⟩
        have HB5 := Lib.hid (below_trans HBw.out hb)
        clear hb t0 t1 t2 t3 x0 x1 x2 HDo
        have hRc2 := HRc2.out
        clear HRc2
        cases hds : doStep C ⟨kind, src, yo, sorted⟩ fs clock order 0 0 with
        | error q =>
          rw [hds] at hpo hRc2
          have hq := doStep_err hds
          have hq0 : (q == 0) = false := beq_eq_false_iff_ne.2 hq
          have hq1 : (q != 0) = true := by rw [bne_iff_ne]; exact hq
          subst hRc2
          subst hpo
          clear hds hq
          go_wp2_with fail
          refine bodyPost_ret (v := .tuple #[.string ⟨#[]⟩, .int .i64 q]) (by simp [results, Tryz.results49, go_sem]) rfl ?_
          exact ⟨below_trans HB5.out (below_alloc _ _), rfl⟩
        | ok p =>
          obtain ⟨text, saw', ua, ub⟩ := p
          rw [hds] at hpo hRc2
          subst hRc2
          obtain ⟨vfl, vsaw, rfl, hF, hS, -⟩ := hpo
          obtain ⟨sa, sc, rfl⟩ := strs_slice hS
          rcases (hF.later (below_alloc w5 (.cells #[.int .i64 ua, .int .i64 ub] 31))).cases with ⟨e, -⟩ | ⟨bf, of_, cf', rfl, -, hl1, hl2, -, hcf⟩
          · simp [doFiles] at e
          obtain ⟨-, f1, -, -⟩ := hcf fs.length ⟨yo, text⟩ (by simp [doFiles])
          have hdl : (doFiles ⟨kind, src, yo, sorted⟩ fs text).length = fs.length + 1 := by simp [doFiles]
          rw [hdl] at hl1 ⊢
          clear hcf hF hS hds hdl
          go_wp2_with fail
          refine bodyPost_ret (v := .tuple #[.string text, .int .i64 0]) (by simp [results, Tryz.results49, go_sem]) rfl ?_
          exact ⟨below_trans HB5.out (below_alloc _ _), rfl⟩
end Go.Proofs.YtacgopankhpnbaaGreatDoor
