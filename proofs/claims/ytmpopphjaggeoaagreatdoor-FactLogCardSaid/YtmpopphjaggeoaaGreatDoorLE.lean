/- Walk: FactLog (printed by gen_gdf.py). -/
import Derived.Test.YtmpopphjaggeoaaGreatDoorTopK
import Derived.Test.YtmpopphjaggeoaaGreatDoorLA
import Derived.Test.YtmpopphjaggeoaaGreatDoorLB
import Derived.Test.YtmpopphjaggeoaaGreatDoorLC
import Derived.Test.YtmpopphjaggeoaaGreatDoorLD
import Derived.Great.BuildSlice
namespace Go.Proofs.YtmpopphjaggeoaaGreatDoor
open Go.RowKit Go.Shelf
set_option linter.unusedSimpArgs false
set_option linter.unusedVariables false

theorem factInfo24 : (Tryz.prog.info? 37).map (fun i => (i.zero, i.size, i.bytes)) = some (some (.agg aI), 29, 408) := by kernel_rfl
theorem fcC_cells {f : Fc} {p : FcP} {N : Nat → Prop} {w : World} (h : FcV N w f p) : ∀ u ∈ fcC f p, u.oneCell' = true := fun u hu => by
  have h1 := gZ h
  rw [Array.all_eq_true_iff_forall_mem] at h1
  exact h1 u (by simpa using hu)
theorem facts_parts {l : List Fc} {N : Nat → Prop} {w : World} {al : Option Addr} {cl : Nat} (hl : aK 29 encFc N w (.slice al l.length cl) l) :
    ∃ css : List (List Value), css.length = l.length ∧ (∀ c ∈ css, c.length = 29) ∧ ∀ W, Below w.heap.size w W → Src W (.slice al l.length cl) l.length 29 css.flatten ∧ ∀ (i : Nat) (x : Fc) (c : List Value), l[i]? = some x → css[i]? = some c → encFc N W x c := by
  by_cases h0 : l = []
  · subst h0
    exact ⟨[], rfl, (fun c h => by cases h), fun W hW => ⟨.inl ⟨rfl, rfl, al, cl, rfl⟩, fun i x c hx => by simp at hx⟩⟩
  · obtain ⟨a, c, e, h1, h2, h3⟩ := id hl
    cases e
    obtain ⟨b, o, rfl, -⟩ := h3 h0
    obtain ⟨css, hcs⟩ := hl.parts
    refine ⟨css, hcs.1, hcs.ks, fun W hW => ⟨?_, fun i x c hx hc => ?_⟩⟩
    · have h9 := CssOf.src (hcs.later encFc_ok hW) (by decide) (fun x cs hx => by obtain ⟨p, rfl, hv⟩ := hx; exact fcC_cells hv) (Nat.zero_le l.length) (Nat.le_refl _) (some ⟨b, o, none⟩) (fun _ => by rw [Nat.zero_mul, Nat.add_zero]) cl
      simp only [Nat.sub_zero, List.drop_zero] at h9
      rwa [List.take_of_length_le (by rw [hcs.1]; exact Nat.le_refl _)] at h9
    · obtain ⟨y, hy, h5, -, -⟩ := (hcs.later encFc_ok hW).at_ hc
      rw [hx] at hy
      cases hy
      exact h5
theorem row_more {l : List Fc} {f : Fc} {p : FcP} {css : List (List Value)} {A : Array Value} {N N' : Nat → Prop} {wg : World} {B g2 cap2 : Nat} (hcl : css.length = l.length) (hck : ∀ c ∈ css, c.length = 29)
    (he : ∀ (i : Nat) (x : Fc) (c : List Value), l[i]? = some x → css[i]? = some c → encFc N wg x c) (hf : FcV N' wg f p) (hA : A = (fcC f p).toArray)
    (hown : wg.ownsRow B 37 29 (.slice (some ⟨g2, 0, none⟩) (l.length + 1) cap2) (l.length + 1) (css.flatten ++ A.toList)) :
    aK 29 encFc (fun _ => True) wg (.slice (some ⟨g2, 0, none⟩) (l.length + 1) cap2) (l ++ [f]) := by
  have hmv : ∀ M : Nat → Prop, aM M wg (fun _ => True) wg := fun M b hb hlt => ⟨trivial, fun _ _ h => h⟩
  refine aK.of_owns (css := css ++ [fcC f p]) (n := l.length + 1) (T := 37) (B := B) ?_ (by simp) (by simp [hcl]) ?_ ?_
  · rw [List.flatten_append]
    rw [hA] at hown
    simpa using hown
  · intro c hc
    rcases List.mem_append.1 hc with hc | hc
    · exact hck c hc
    · simp at hc; subst hc; rfl
  · intro i x c hx hc
    by_cases hi : i < l.length
    · rw [List.getElem?_append_left hi] at hx
      rw [List.getElem?_append_left (by omega)] at hc
      exact encFc_ok _ _ _ _ _ _ (hmv N) (he i x c hx hc)
    · have hi2 : i = l.length := by
        have := (List.getElem?_eq_some_iff.1 hx).1
        simp at this; omega
      subst hi2
      rw [List.getElem?_append_right (Nat.le_refl _)] at hx
      rw [List.getElem?_append_right (by omega)] at hc
      simp at hx
      rw [hcl] at hc
      simp at hc
      subst hx hc
      exact ⟨p, rfl, hf.moves (hmv N')⟩
structure RlsU (l : List Fc) (s : ByteArray) (v : Ver) (b : Bool) (w : World) (e : Ending) (w' : World) : Prop where
  below : Below w.heap.size w w'
  val : ∃ (R : Array Value) (i : Int), e = .returned (.tuple #[.agg R, .int .i64 i, .bool b]) ∧ R.size = 9 ∧ R.all (fun x => x.oneCell') = true ∧ ∀ (j : Nat) (g : Fc), releaseF l s v = some j → l[j]? = some g → i = (j : Int) ∧ ∃ (N : Nat → Prop) (vn vf vp : Value), R = (rlC g.rel vn vf vp).toArray ∧ RlV N w' g.rel vn vf vp
theorem frel_u (l : List Fc) (s : ByteArray) (v : Ver) {N : Nat → Prop} {vl : Value} {b : Bool} (w : World) (hl : aK 29 encFc N w vl l) (hlen : l.length ≤ 1000000) (hb : (releaseF l s v).isSome = b) :
    Calls Tryz.prog 20 #[vl, .string s, .agg #[.int .i64 v.a, .int .i64 v.b, .int .i64 v.c]] w fun e w' => RlsU l s v b w e w' := by
  refine (frelease_any l s v w hl hlen).mono ?_
  rintro e w' ⟨h1, h2, h3⟩
  refine ⟨h1, ?_⟩
  cases hq : releaseF l s v with
  | none =>
    rw [hq] at hb
    subst hb
    exact ⟨zeroRl, 0, h2 hq, rfl, oneRl, fun j g hj _ => by cases hj⟩
  | some i =>
    rw [hq] at hb
    subst hb
    obtain ⟨f, hf, -⟩ := release_at hq
    obtain ⟨vn, vf, vp, rfl, hv⟩ := h3 i f hq hf
    refine ⟨_, _, rfl, rfl, rlC_one hv, fun j g hj hg => ?_⟩
    cases hj
    rw [hf] at hg
    cases hg
    exact ⟨rfl, N, vn, vf, vp, rfl, hv⟩
theorem loadRd {ops : Array Oper} {rest : List Oper} {o : Oper} {a : Act} {w : World} {Q : Exit → Act → World → Prop} {n : Nat} (hd : o.dst = some n) {x : Operand} (ho : o.op = .load 28 x) (hw : Region.wanted o (yielded ops a.tmps) = true)
    (g : Nat) (hx : a.eval x = .pointer (some ⟨g, 0, none⟩)) (cs : Array Value) (hg : w.heap[g]? = some (.cells cs 28)) (hsz : cs.size = 9)
    (h : wpList Tryz.prog ops Q rest (a.put o.dst (.agg cs)) w) : wpList Tryz.prog ops Q (o :: rest) a w :=
  wpList_step fun K hK => by rw [if_pos hw]; exact wp_load_row _ x ho g hx _ cs _ _ hg Tryz.underlying28 rfl (by rw [hsz]; kernel_rfl) (hK _ _ h)
theorem rel_found {l : List Fc} {s : ByteArray} {x : Ver} (hx : x ∈ releasesF l s) : ∃ i g, releaseF l s x = some i ∧ l[i]? = some g ∧ g.kind = 0 ∧ g.rel.name = s ∧ g.rel.ver = x := by
  have h1 := release_is l s x
  rw [decide_eq_true hx] at h1
  obtain ⟨i, hi⟩ := Option.isSome_iff_exists.1 h1
  obtain ⟨g, h2, h3, h4, h5⟩ := release_at hi
  exact ⟨i, g, hi, h2, h3, h4, h5⟩
theorem yRel {ops : Array Oper} {S : World → Prop} {op : Oper} {a : Act} {x : Operand} {b o : Nat} {r : Rl} {v0 v1 v2 : Value} {A : Array Value} (hw : Region.wanted op (yielded ops a.tmps) = true) (ho : op.op = .load 28 x)
    (hx : a.eval x = .pointer (some ⟨b, o, none⟩)) (hA : A = (rlC r v0 v1 v2).toArray) (hS : ∀ w, S w → w.rangeAt b o (rlC r v0 v1 v2)) : YieldsIf Tryz.prog ops S op (.agg A) a := by
  subst hA
  exact yieldsIf_load_mid hw 28 x ho b o hx (rlC r v0 v1 v2) _ hS Tryz.underlying28 rfl (by kernel_rfl)
theorem yRl {ops : Array Oper} {S : World → Prop} {op : Oper} {a : Act} {x : Operand} {b : Nat} {A : Array Value} (hw : Region.wanted op (yielded ops a.tmps) = true) (ho : op.op = .load 28 x)
    (hx : a.eval x = .pointer (some ⟨b, 0, none⟩)) (hz : A.size = 9) (hS : ∀ w, S w → w.heap[b]? = some (.cells A 28)) : YieldsIf Tryz.prog ops S op (.agg A) a :=
  .inl ⟨hw, fun w hw' => by
    unfold execOp
    simp only [ho, hx, Instr.loadAt, Instr.sureAddr, Sem.run_bind, Sem.run_pure, Result.andThen_ok, run_loadVar_row w b 28 28 A (0, 0) _ (hS w hw') Tryz.underlying28 rfl (by rw [hz]; kernel_rfl)]⟩
set_option maxRecDepth 100000 in
set_option maxHeartbeats 128000000 in
theorem factLog_any (l : List Fc) (f : Fc) (s : ByteArray) (v : Ver) {N N' : Nat → Prop} {p : FcP} (vl : Value) (w : World) (hG : bC w) (hE : ErrV w) (hl : aK 29 encFc N w vl l) (hf : FcV N' w f p) :
    Calls Tryz.prog 5 #[vl, .agg (fcC f p).toArray, .string s, .agg #[.int .i64 v.a, .int .i64 v.b, .int .i64 v.c]] w fun e w' => e = .returned (.bool true) ∧ Below w.heap.size w w' := by
  obtain ⟨al, cl, hvl, la1, la2, -⟩ := hl.at
  subst hvl
  obtain ⟨A, HA⟩ : ∃ c : Array Value, Hid (c = (fcC f p).toArray) := ⟨_, Lib.hid rfl⟩
  have HZA : Hid (A.size = 29) := Lib.hid (by rw [HA.out]; rfl)
  have HOA : Hid (A.all (fun x => x.oneCell') = true) := Lib.hid (by rw [HA.out]; exact gZ hf)
  rw [← HA.out]
  have HQ0 : Hid (A[0]? = some (.int .i64 f.kind)) := Lib.hid (by rw [HA.out]; rfl)
  have HQ1 : Hid (A[1]? = some (.string f.name)) := Lib.hid (by rw [HA.out]; rfl)
  have HQ2 : Hid (A[2]? = some (.int .i64 f.ver.a)) := Lib.hid (by rw [HA.out]; rfl)
  have HQ3 : Hid (A[3]? = some (.int .i64 f.ver.b)) := Lib.hid (by rw [HA.out]; rfl)
  have HQ4 : Hid (A[4]? = some (.int .i64 f.ver.c)) := Lib.hid (by rw [HA.out]; rfl)
  have HQ27 : Hid (A[27]? = some (.int .i64 f.print)) := Lib.hid (by rw [HA.out]; rfl)
  have HSm : Hid (∀ W, Below w.heap.size w W → Calls Tryz.prog 7 #[] W fun e w' => e = .returned (.bool true) ∧ Below W.heap.size W w') := Lib.hid (fun W hW => small24_any W (hG.later hW) (hE.later hW))
  have HFF : Hid (∀ W, Below w.heap.size w W → Calls Tryz.prog 18 #[.slice al l.length cl, .int .i64 12] W fun e w' => SayB (l.length ≤ 12 ∧ ∀ g ∈ l, g.rel.feats.length ≤ 14) e ∧ Below W.heap.size W w') := Lib.hid (fun W hW => fewFacts_any l W (hl.moves encFc_ok (aM.later hW) (by decide)))
  have HFw : Hid (∀ W, Below w.heap.size w W → Calls Tryz.prog 8 #[.agg A] W fun e w' => SayB (f.rel.feats.length ≤ 14) e ∧ Below W.heap.size W w') := Lib.hid (fun W hW => by rw [HA.out]; exact few24_any f W (hf.later hW))
  have HRow : Hid (∀ W, Below w.heap.size w W → aK 29 encFc N W (.slice al l.length cl) l) := Lib.hid (fun W hW => hl.moves encFc_ok (aM.later hW) (by decide))
  have HFf : Hid (∀ W, Below w.heap.size w W → FcV N' W f p) := Lib.hid (fun W hW => hf.later hW)
  have HPt := Lib.hid (facts_parts hl)
  obtain ⟨i1, hi1, hy0, hy1, hy2⟩ := info_parts factInfo24
  have HFill : Hid (Instr.fill (fun i => some (i * 29, 29)) ((Array.range (1 * 29)).map ((Value.agg aI).cells[· % (Value.agg aI).cells.size]!)) [(0, .agg A)] = some A) := Lib.hid (by rw [HA.out]; kernel_rfl)
  have HX1 := Lib.hid (aC (aB (w.alloc (.cells A 37)) (.cells #[.int .i64 v.a, .int .i64 v.b, .int .i64 v.c] 23)) (heap_alloc_new w (.cells A 37)))
  have HX2z := heap_alloc_new (w.alloc (.cells A 37)) (.cells #[.int .i64 v.a, .int .i64 v.b, .int .i64 v.c] 23)
  rw [show (w.alloc (.cells A 37)).heap.size = w.heap.size + 1 by simp] at HX2z
  have HX2 := Lib.hid HX2z
  clear HX2z
  have HB0 := Lib.hid (aA (aB w (.cells A 37)) (aB (w.alloc (.cells A 37)) (.cells #[.int .i64 v.a, .int .i64 v.b, .int .i64 v.c] 23)))
  clear hG hE hf hl
  go_enter Tryz.func5, Tryz.ntmps5
  go_upto_region 1 with (fail)
  generalize (w.alloc (.cells A 37)).alloc (.cells #[.int .i64 v.a, .int .i64 v.b, .int .i64 v.c] 23) = W0 at *
  go_wp2_with fail
  go_at_call 7
  refine (HSm.out _ HB0.out).mono ?_
  rintro e w1 ⟨rfl, hb⟩
  have HB1 := Lib.hid (aA HB0.out hb)
  have HX1z := Lib.hid (aC hb HX1.out)
  have HX2z := Lib.hid (aC hb HX2.out)
  clear HX1 HX2
  have HX1 := Lib.hid HX1z.out
  have HX2 := Lib.hid HX2z.out
  clear HX1z HX2z hb
  go_wp2_with fail
  go_at_call 18
  refine (HFF.out _ HB1.out).mono ?_
  rintro e w2 ⟨⟨b1, rfl, hb1⟩, hb⟩
  have HF1 := Lib.hid hb1
  clear hb1
  have HB2 := Lib.hid (aA HB1.out hb)
  have HX1z := Lib.hid (aC hb HX1.out)
  have HX2z := Lib.hid (aC hb HX2.out)
  clear HX1 HX2
  have HX1 := Lib.hid HX1z.out
  have HX2 := Lib.hid HX2z.out
  clear HX1z HX2z hb
  cases b1 with
  | false =>
    go_wp2_with fail
    go_ret
    exact ⟨rfl, HB2.out⟩
  | true =>
    obtain ⟨hl12, hl14⟩ := HF1.out (by first | rfl | trivial)
    have HL14 := Lib.hid hl14
    clear hl14 HF1
    go_wp2_with (refine loadFd (n := 37) rfl (x := .tmp 5) rfl (by kernel_rfl) w.heap.size rfl A HX1.out HZA.out ?_)
    go_at_call 8
    refine (HFw.out _ HB2.out).mono ?_
    rintro e w3 ⟨⟨b2, rfl, -⟩, hb⟩
    have HB3 := Lib.hid (aA HB2.out hb)
    have HX1z := Lib.hid (aC hb HX1.out)
    have HX2z := Lib.hid (aC hb HX2.out)
    clear HX1 HX2
    have HX1 := Lib.hid HX1z.out
    have HX2 := Lib.hid HX2z.out
    clear HX1z HX2z hb
    cases b2 with
    | false =>
      go_wp2_with fail
      go_ret
      exact ⟨rfl, HB3.out⟩
    | true =>
      by_cases hs40 : (40 : Int) < (s.size : Int)
      · go_wp2_with fail
        go_ret
        exact ⟨rfl, HB3.out⟩
      · have hlm : l.length ≤ 1000000 := by omega
        go_wp2_with fail
        go_at_call 19
        refine (releasesAll_any l s w3 (HRow.out _ HB3.out) hlm).mono ?_
        rintro e w5 ⟨hb, Nv, av, cv, rfl, hrv⟩
        have HRv := Lib.hid hrv
        clear hrv
        have HB5 := Lib.hid (aA HB3.out hb)
        have HX1z := Lib.hid (aC hb HX1.out)
        have HX2z := Lib.hid (aC hb HX2.out)
        clear HX1 HX2
        have HX1 := Lib.hid HX1z.out
        have HX2 := Lib.hid HX2z.out
        clear HX1z HX2z hb
        have HMem : Hid (∀ x ∈ releasesF l s, ∃ i g, releaseF l s x = some i ∧ l[i]? = some g ∧ g.kind = 0 ∧ g.rel.name = s ∧ g.rel.ver = x) := Lib.hid (fun x hx => rel_found hx)
        have HAsc := Lib.hid (ascV_at _ (releases_asc l s))
        have HIs := Lib.hid (release_is l s v)
        have HRln := Lib.hid (fun (h : dZ f ≠ s) => releases_none (l := l) h)
        obtain ⟨vs, hvs⟩ : ∃ x, x = releasesF l s := ⟨_, rfl⟩
        rw [← hvs] at HRv HMem HAsc HIs HRln ⊢
        have HVs := Lib.hid hvs
        clear hvs
        obtain ⟨av', cv', hav, lv1, lv2, hvr⟩ := HRv.out.at
        cases hav
        have HVr := Lib.hid hvr
        clear hvr HRv
        have hvl : vs.length ≤ 12 := by
          have h1 := dedup_len ((dG l s).mergeSort leV)
          have h2 : ((dG l s).mergeSort leV).length = (dG l s).length := List.length_mergeSort _
          have h3 := relVers_len l s
          have h4 : vs.length = (dedupV ((dG l s).mergeSort leV)).length := by rw [HVs.out]; rfl
          omega
        go_wp2_with fail
        go_loopw [11, 12] (fun lv iv wr => ∃ q : Nat, q ≤ vs.length ∧ lv = .bool ((vs.take q).any fun x => decide (x = v)) ∧ iv = .int .i64 (q : Int) ∧ Hid (Below w5.heap.size w5 wr)) (fun _ iv _ => vs.length - (intOf iv).toNat)
        case atStart => exact ⟨0, Nat.zero_le _, rfl, rfl, Lib.hid (Below.refl _ _)⟩
        case round =>
          obtain ⟨q, hq, rfl, rfl, HW⟩ := hrel
          rename World => wr
          have HWw := Lib.hid (aA HB5.out HW.out)
          have HXa := Lib.hid (aC HW.out HX1.out)
          have HXv := Lib.hid (aC HW.out HX2.out)
          by_cases hlt : q < vs.length
          · obtain ⟨x, hx, -⟩ := getElem?_of_lt hlt
            have hq0 : (0 : Int) ≤ (q : Int) ∧ (q : Int) < (vs.length : Int) := by omega
            obtain ⟨b1, o1, rfl, -, cs1, e1, -, j1⟩ := HVr.out q x hx
            obtain rfl : cs1 = verC x := e1
            have R1 : Hid (wr.rangeAt b1 (o1 + q * 3) (verC x)) := Lib.hid (fun j u hu => aD HW.out (j1 j u hu))
            have HPv : Hid (0 < q → ∃ y, bB y x < 0 ∧ wr.rangeAt b1 (o1 + (q - 1) * 3) (verC y)) := Lib.hid (fun h0 => by
              obtain ⟨y, hy, -⟩ := getElem?_of_lt (l := vs) (k := q - 1) (by omega)
              obtain ⟨b3, o3, e3, -, cs3, e4, -, j3⟩ := HVr.out (q - 1) y hy
              cases e3
              obtain rfl : cs3 = verC y := e4
              exact ⟨y, HAsc.out (q - 1) y x hy (by rw [show q - 1 + 1 = q by omega]; exact hx), fun j u hu => aD HW.out (j3 j u hu)⟩)
            have HTk : Hid ((vs.take (q + 1)).any (fun x => decide (x = v)) = ((vs.take q).any (fun x => decide (x = v)) || decide (x = v))) := Lib.hid (by rw [List.take_add_one, hx, List.any_append]; simp)
            obtain ⟨i, g, hri, hli, hgk, hgn, hgv⟩ := HMem.out x (List.mem_of_getElem? hx)
            have hil := (List.getElem?_eq_some_iff.1 hli).1
            have hi0 : (0 : Int) ≤ (i : Int) ∧ (i : Int) < (l.length : Int) := by omega
            have HRow5 := HRow.out _ HWw.out
            obtain ⟨al', cl', hal, -, -, hlr⟩ := HRow5.at
            cases hal
            obtain ⟨b2, o2, rfl, -, cs2, ⟨pg, rfl, hgf⟩, -, j2⟩ := hlr i g hli
            have p0 : wr.cell? ⟨b2, o2 + i * 29, none⟩ = some (.int .i64 0) := by have h9 := j2 0 (.int .i64 g.kind) rfl; rw [hgk] at h9; exact h9
            have HRg : Hid (wr.rangeAt b2 (o2 + i * 29 + 5) (rlC g.rel pg.vn pg.vf pg.vp)) := Lib.hid (fun j u hu => by rw [Nat.add_assoc]; exact j2 (5 + j) u (fc_rel hu))
            have HGv : Hid (∀ W, Below wr.heap.size wr W → RlV N W g.rel pg.vn pg.vf pg.vp) := Lib.hid (fun W hW => hgf.rel.later hW)
            have HRel := Lib.hid (frelease_any l s x wr HRow5 hlm)
            have HRi := Lib.hid hri
            have HLi := Lib.hid hli
            have HP0 := Lib.hid p0
            clear p0 j1 j2 hlr hri hli hgf
            go_wp2_with (refine wpList_load_mid rfl 23 (.tmp 61) rfl b1 (o1 + q * 3) rfl (verC x) _ R1.out Tryz.underlying23 rfl (by kernel_rfl) ?_)
            go_at_call 20
            refine HRel.out.mono ?_
            rintro e w6 ⟨hb, -, hsome⟩
            obtain ⟨vn, vf, vp, rfl, hrv⟩ := hsome i g HRi.out HLi.out
            clear hsome HRel
            obtain ⟨RA, HRA⟩ : ∃ c : Array Value, Hid (c = (rlC g.rel vn vf vp).toArray) := ⟨_, Lib.hid rfl⟩
            rw [← HRA.out]
            have HZR : Hid (RA.size = 9) := Lib.hid (by rw [HRA.out]; rfl)
            have HOR : Hid (RA.all (fun x => x.oneCell') = true) := Lib.hid (by rw [HRA.out]; exact rlC_one hrv)
            have HQr0 : Hid (RA[0]? = some (.string s)) := Lib.hid (by rw [HRA.out, ← hgn]; rfl)
            have HQr1 : Hid (RA[1]? = some (.int .i64 x.a)) := Lib.hid (by rw [HRA.out, ← hgv]; rfl)
            have HQr2 : Hid (RA[2]? = some (.int .i64 x.b)) := Lib.hid (by rw [HRA.out, ← hgv]; rfl)
            have HQr3 : Hid (RA[3]? = some (.int .i64 x.c)) := Lib.hid (by rw [HRA.out, ← hgv]; rfl)
            have HB6 := Lib.hid hb
            have HNw := Lib.hid (heap_alloc_new w6 (.cells #[.string ⟨#[]⟩, .int .i64 0, .int .i64 0, .int .i64 0, .string ⟨#[]⟩, .slice none 0 0, .slice none 0 0, .slice none 0 0, .string ⟨#[]⟩] 28))
            have HB7 : Hid (Below w6.heap.size w6 ((w6.alloc (.cells #[.string ⟨#[]⟩, .int .i64 0, .int .i64 0, .int .i64 0, .string ⟨#[]⟩, .slice none 0 0, .slice none 0 0, .slice none 0 0, .string ⟨#[]⟩] 28)).setRow w6.heap.size RA)) := Lib.hid (below_setRow (aB w6 _) (Nat.le_refl _) _)
            have HXr : Hid (((w6.alloc (.cells #[.string ⟨#[]⟩, .int .i64 0, .int .i64 0, .int .i64 0, .string ⟨#[]⟩, .slice none 0 0, .slice none 0 0, .slice none 0 0, .string ⟨#[]⟩] 28)).setRow w6.heap.size RA).heap[w6.heap.size]? = some (.cells RA 28)) := Lib.hid (setRow_heap _ _ _ _ _ _ HNw.out)
            have HRv2 := Lib.hid (hrv.later HB7.out)
            have HBr := Lib.hid (aA hb HB7.out)
            clear hb hrv
            go_upto_region 10 with (refine wpList_store_rowTo rfl 28 (.tmp 13) (.tmp 64) rfl rfl w6.heap.size RA rfl rfl 28 #[.string ⟨#[]⟩, .int .i64 0, .int .i64 0, .int .i64 0, .string ⟨#[]⟩, .slice none 0 0, .slice none 0 0, .slice none 0 0, .string ⟨#[]⟩] ?hg (by rw [HZR.out]; kernel_rfl) (by rw [HZR.out]; rfl) HOR.out ?_; (case hg => exact HNw.out))
            try simp only [Act.put, List.getElem_toArray, List.getElem_cons_zero, List.getElem_cons_succ, List.setIfInBounds_toArray, List.set_cons_zero, List.set_cons_succ]
            clear HNw
            generalize ((w6.alloc (.cells #[.string ⟨#[]⟩, .int .i64 0, .int .i64 0, .int .i64 0, .string ⟨#[]⟩, .slice none 0 0, .slice none 0 0, .slice none 0 0, .string ⟨#[]⟩] 28)).setRow w6.heap.size RA) = w7 at *
            obtain ⟨br, hbr⟩ : ∃ n, n = w6.heap.size := ⟨_, rfl⟩
            rw [← hbr] at HXr ⊢
            clear hbr
            have HR7 := Lib.hid (range_later HBr.out R1.out)
            have HRg7 := Lib.hid (range_later HBr.out HRg.out)
            have HP7 := Lib.hid (aD HBr.out HP0.out)
            have HPv7 : Hid (0 < q → ∃ y, bB y x < 0 ∧ w7.rangeAt b1 (o1 + (q - 1) * 3) (verC y)) := Lib.hid (fun h0 => by obtain ⟨y, h1, h2⟩ := HPv.out h0; exact ⟨y, h1, range_later HBr.out h2⟩)
            have HWc := Lib.hid (aA HW.out HBr.out)
            have HGv7 : Hid (∀ W, Below w7.heap.size w7 W → RlV N W g.rel pg.vn pg.vf pg.vp) := Lib.hid (fun W hW => HGv.out W (aA HBr.out hW))
            have HXv7 := Lib.hid (aC HBr.out HXv.out)
            clear HPv R1 HRg HP0 HGv HB6 HB7 HXv hgk hgn hgv HRi HLi
            go_cut [95] from 50 to 135 (fun bv wx => bv = .bool false ∧ Hid (Below w7.heap.size w7 wx))
            case first =>
              by_cases hqq : q = 0
              · have hqz : ¬ (0 : Int) < (q : Int) := by omega
                have HQq := Lib.hid hqq
                clear hqq
                refine wp_region_held_drew (S := fun W => Below w7.heap.size w7 W) (by kernel_rfl) (aL w7) fun hS => ?_
                refine wpAnyH_take (i := 0) (v := .bool true) rfl (by kernel_rfl) (by kernel_rfl) (by kernel_rfl) (fun _ _ _ h => h) (Or.inl ⟨by kernel_rfl, fun W hW => by go_simp⟩) hS ?_
                try simp only [Act.put, List.getElem_toArray, List.getElem_cons_zero, List.getElem_cons_succ, List.setIfInBounds_toArray, List.set_cons_zero, List.set_cons_succ]
                refine wpAnyH_take (i := 1) (v := .bool false) rfl (by kernel_rfl) (by kernel_rfl) (by kernel_rfl) (fun _ _ _ h => h) (Or.inl ⟨by kernel_rfl, fun W hW => by go_simp⟩) hS ?_
                try simp only [Act.put, List.getElem_toArray, List.getElem_cons_zero, List.getElem_cons_succ, List.setIfInBounds_toArray, List.set_cons_zero, List.set_cons_succ]
                refine wpAnyH_take (i := 2) (v := .bool false) rfl (by kernel_rfl) (by kernel_rfl) (by kernel_rfl) (fun _ _ _ h => h) (Or.inl ⟨by kernel_rfl, fun W hW => by go_simp⟩) hS ?_
                try simp only [Act.put, List.getElem_toArray, List.getElem_cons_zero, List.getElem_cons_succ, List.setIfInBounds_toArray, List.set_cons_zero, List.set_cons_succ]
                refine wpAnyH_take (i := 3) (v := .int .i64 (i : Int)) rfl (by kernel_rfl) (by kernel_rfl) (by kernel_rfl) (fun _ _ _ h => h) (Or.inl ⟨by kernel_rfl, fun W hW => by go_simp⟩) hS ?_
                try simp only [Act.put, List.getElem_toArray, List.getElem_cons_zero, List.getElem_cons_succ, List.setIfInBounds_toArray, List.set_cons_zero, List.set_cons_succ]
                refine wpAnyH_take (i := 4) (v := .bool false) rfl (by kernel_rfl) (by kernel_rfl) (by kernel_rfl) (fun _ _ _ h => h) (Or.inl ⟨by kernel_rfl, fun W hW => by go_simp⟩) hS ?_
                try simp only [Act.put, List.getElem_toArray, List.getElem_cons_zero, List.getElem_cons_succ, List.setIfInBounds_toArray, List.set_cons_zero, List.set_cons_succ]
                refine wpAnyH_take (i := 5) (v := .bool false) rfl (by kernel_rfl) (by kernel_rfl) (by kernel_rfl) (fun _ _ _ h => h) (Or.inl ⟨by kernel_rfl, fun W hW => by go_simp⟩) hS ?_
                try simp only [Act.put, List.getElem_toArray, List.getElem_cons_zero, List.getElem_cons_succ, List.setIfInBounds_toArray, List.set_cons_zero, List.set_cons_succ]
                refine wpAnyH_take (i := 6) (v := .bool false) rfl (by kernel_rfl) (by kernel_rfl) (by kernel_rfl) (fun _ _ _ h => h) (Or.inl ⟨by kernel_rfl, fun W hW => by go_simp⟩) hS ?_
                try simp only [Act.put, List.getElem_toArray, List.getElem_cons_zero, List.getElem_cons_succ, List.setIfInBounds_toArray, List.set_cons_zero, List.set_cons_succ]
                refine wpAnyH_take (i := 7) (v := .int .i64 (i : Int)) rfl (by kernel_rfl) (by kernel_rfl) (by kernel_rfl) (fun _ _ _ h => h) (Or.inl ⟨by kernel_rfl, fun W hW => by go_simp⟩) hS ?_
                try simp only [Act.put, List.getElem_toArray, List.getElem_cons_zero, List.getElem_cons_succ, List.setIfInBounds_toArray, List.set_cons_zero, List.set_cons_succ]
                refine wpAnyH_take (i := 8) (v := .slice (some ⟨b2, o2, none⟩) l.length cl) rfl (by kernel_rfl) (by kernel_rfl) (by kernel_rfl) (fun _ _ _ h => h) (Or.inl ⟨by kernel_rfl, fun W hW => by go_simp⟩) hS ?_
                try simp only [Act.put, List.getElem_toArray, List.getElem_cons_zero, List.getElem_cons_succ, List.setIfInBounds_toArray, List.set_cons_zero, List.set_cons_succ]
                refine wpAnyH_take (i := 9) (v := .int .i64 (l.length : Int)) rfl (by kernel_rfl) (by kernel_rfl) (by kernel_rfl) (fun _ _ _ h => h) (Or.inl ⟨by kernel_rfl, fun W hW => by go_simp⟩) hS ?_
                try simp only [Act.put, List.getElem_toArray, List.getElem_cons_zero, List.getElem_cons_succ, List.setIfInBounds_toArray, List.set_cons_zero, List.set_cons_succ]
                refine wpAnyH_take (i := 10) (v := .bool false) rfl (by kernel_rfl) (by kernel_rfl) (by kernel_rfl) (fun _ _ _ h => h) (Or.inl ⟨by kernel_rfl, fun W hW => by go_simp⟩) hS ?_
                try simp only [Act.put, List.getElem_toArray, List.getElem_cons_zero, List.getElem_cons_succ, List.setIfInBounds_toArray, List.set_cons_zero, List.set_cons_succ]
                refine wpAnyH_take (i := 11) (v := .bool false) rfl (by kernel_rfl) (by kernel_rfl) (by kernel_rfl) (fun _ _ _ h => h) (Or.inl ⟨by kernel_rfl, fun W hW => by go_simp⟩) hS ?_
                try simp only [Act.put, List.getElem_toArray, List.getElem_cons_zero, List.getElem_cons_succ, List.setIfInBounds_toArray, List.set_cons_zero, List.set_cons_succ]
                refine wpAnyH_take (i := 12) (v := .bool false) rfl (by kernel_rfl) (by kernel_rfl) (by kernel_rfl) (fun _ _ _ h => h) (Or.inl ⟨by kernel_rfl, fun W hW => by go_simp⟩) hS ?_
                try simp only [Act.put, List.getElem_toArray, List.getElem_cons_zero, List.getElem_cons_succ, List.setIfInBounds_toArray, List.set_cons_zero, List.set_cons_succ]
                refine wpAnyH_take (i := 13) (v := .int .i64 (q : Int)) rfl (by kernel_rfl) (by kernel_rfl) (by kernel_rfl) (fun _ _ _ h => h) (Or.inl ⟨by kernel_rfl, fun W hW => by go_simp⟩) hS ?_
                try simp only [Act.put, List.getElem_toArray, List.getElem_cons_zero, List.getElem_cons_succ, List.setIfInBounds_toArray, List.set_cons_zero, List.set_cons_succ]
                refine wpAnyH_take (i := 14) (v := .bool false) rfl (by kernel_rfl) (by kernel_rfl) (by kernel_rfl) (fun _ _ _ h => h) (Or.inl ⟨by kernel_rfl, fun W hW => by have hq9 := HQq.out; go_simp⟩) hS ?_
                try simp only [Act.put, List.getElem_toArray, List.getElem_cons_zero, List.getElem_cons_succ, List.setIfInBounds_toArray, List.set_cons_zero, List.set_cons_succ]
                refine wpAnyH_take (i := 15) (v := .bool false) rfl (by kernel_rfl) (by kernel_rfl) (by kernel_rfl) (fun _ _ _ h => h) (Or.inl ⟨by kernel_rfl, fun W hW => by go_simp⟩) hS ?_
                try simp only [Act.put, List.getElem_toArray, List.getElem_cons_zero, List.getElem_cons_succ, List.setIfInBounds_toArray, List.set_cons_zero, List.set_cons_succ]
                refine wpAnyH_take (i := 16) (v := undef) rfl (by kernel_rfl) (by kernel_rfl) (by kernel_rfl) (fun _ _ _ h => h) (Or.inr ⟨by kernel_rfl, rfl⟩) hS ?_
                try simp only [Act.put, List.getElem_toArray, List.getElem_cons_zero, List.getElem_cons_succ, List.setIfInBounds_toArray, List.set_cons_zero, List.set_cons_succ]
                refine wpAnyH_take (i := 17) (v := undef) rfl (by kernel_rfl) (by kernel_rfl) (by kernel_rfl) (fun _ _ _ h => h) (Or.inr ⟨by kernel_rfl, rfl⟩) hS ?_
                try simp only [Act.put, List.getElem_toArray, List.getElem_cons_zero, List.getElem_cons_succ, List.setIfInBounds_toArray, List.set_cons_zero, List.set_cons_succ]
                refine wpAnyH_take (i := 18) (v := undef) rfl (by kernel_rfl) (by kernel_rfl) (by kernel_rfl) (fun _ _ _ h => h) (Or.inr ⟨by kernel_rfl, rfl⟩) hS ?_
                try simp only [Act.put, List.getElem_toArray, List.getElem_cons_zero, List.getElem_cons_succ, List.setIfInBounds_toArray, List.set_cons_zero, List.set_cons_succ]
                refine wpAnyH_take (i := 19) (v := undef) rfl (by kernel_rfl) (by kernel_rfl) (by kernel_rfl) (fun _ _ _ h => h) (Or.inr ⟨by kernel_rfl, rfl⟩) hS ?_
                try simp only [Act.put, List.getElem_toArray, List.getElem_cons_zero, List.getElem_cons_succ, List.setIfInBounds_toArray, List.set_cons_zero, List.set_cons_succ]
                refine wpAnyH_take (i := 20) (v := undef) rfl (by kernel_rfl) (by kernel_rfl) (by kernel_rfl) (fun _ _ _ h => h) (Or.inr ⟨by kernel_rfl, rfl⟩) hS ?_
                try simp only [Act.put, List.getElem_toArray, List.getElem_cons_zero, List.getElem_cons_succ, List.setIfInBounds_toArray, List.set_cons_zero, List.set_cons_succ]
                refine wpAnyH_take (i := 21) (v := undef) rfl (by kernel_rfl) (by kernel_rfl) (by kernel_rfl) (fun _ _ _ h => h) (Or.inr ⟨by kernel_rfl, rfl⟩) hS ?_
                try simp only [Act.put, List.getElem_toArray, List.getElem_cons_zero, List.getElem_cons_succ, List.setIfInBounds_toArray, List.set_cons_zero, List.set_cons_succ]
                refine wpAnyH_take (i := 22) (v := undef) rfl (by kernel_rfl) (by kernel_rfl) (by kernel_rfl) (fun _ _ _ h => h) (Or.inr ⟨by kernel_rfl, rfl⟩) hS ?_
                try simp only [Act.put, List.getElem_toArray, List.getElem_cons_zero, List.getElem_cons_succ, List.setIfInBounds_toArray, List.set_cons_zero, List.set_cons_succ]
                refine wpAnyH_take (i := 23) (v := undef) rfl (by kernel_rfl) (by kernel_rfl) (by kernel_rfl) (fun _ _ _ h => h) (Or.inr ⟨by kernel_rfl, rfl⟩) hS ?_
                try simp only [Act.put, List.getElem_toArray, List.getElem_cons_zero, List.getElem_cons_succ, List.setIfInBounds_toArray, List.set_cons_zero, List.set_cons_succ]
                refine wpAnyH_take (i := 24) (v := undef) rfl (by kernel_rfl) (by kernel_rfl) (by kernel_rfl) (fun _ _ _ h => h) (Or.inr ⟨by kernel_rfl, rfl⟩) hS ?_
                try simp only [Act.put, List.getElem_toArray, List.getElem_cons_zero, List.getElem_cons_succ, List.setIfInBounds_toArray, List.set_cons_zero, List.set_cons_succ]
                refine wpAnyH_take (i := 25) (v := undef) rfl (by kernel_rfl) (by kernel_rfl) (by kernel_rfl) (fun _ _ _ h => h) (Or.inr ⟨by kernel_rfl, rfl⟩) hS ?_
                try simp only [Act.put, List.getElem_toArray, List.getElem_cons_zero, List.getElem_cons_succ, List.setIfInBounds_toArray, List.set_cons_zero, List.set_cons_succ]
                refine wpAnyH_take (i := 26) (v := undef) rfl (by kernel_rfl) (by kernel_rfl) (by kernel_rfl) (fun _ _ _ h => h) (Or.inr ⟨by kernel_rfl, rfl⟩) hS ?_
                try simp only [Act.put, List.getElem_toArray, List.getElem_cons_zero, List.getElem_cons_succ, List.setIfInBounds_toArray, List.set_cons_zero, List.set_cons_succ]
                refine wpAnyH_take (i := 27) (v := .bool false) rfl (by kernel_rfl) (by kernel_rfl) (by kernel_rfl) (fun _ _ _ h => h) (Or.inl ⟨by kernel_rfl, fun W hW => by go_simp⟩) hS ?_
                try simp only [Act.put, List.getElem_toArray, List.getElem_cons_zero, List.getElem_cons_succ, List.setIfInBounds_toArray, List.set_cons_zero, List.set_cons_succ]
                refine wpAnyH_take (i := 28) (v := .bool false) rfl (by kernel_rfl) (by kernel_rfl) (by kernel_rfl) (fun _ _ _ h => h) (Or.inl ⟨by kernel_rfl, fun W hW => by go_simp⟩) hS ?_
                try simp only [Act.put, List.getElem_toArray, List.getElem_cons_zero, List.getElem_cons_succ, List.setIfInBounds_toArray, List.set_cons_zero, List.set_cons_succ]
                refine wpAnyH_done (by kernel_rfl) ?_ _
                go_wp2_with fail
                go_meet
                exact ⟨rfl, Lib.hid (aL w7)⟩
              · have hqz : (0 : Int) < (q : Int) := by omega
                have hqn : 0 < q := by omega
                obtain ⟨y, hyx, hyr⟩ := HPv7.out (by omega)
                have HYr := Lib.hid hyr
                have hcm : ¬ (0 : Int) ≤ bB y x := by omega
                have hw1 : IntKind.i64.wrap ((q : Int) - 1) = (q : Int) - 1 := bN (by omega) (by omega)
                have hkn : ((q : Int) - 1).toNat = q - 1 := by omega
                have hq1 : (0 : Int) ≤ (q : Int) - 1 ∧ (q : Int) - 1 < (vs.length : Int) := by omega
                have hk1i : ¬ (q : Int) < 1 := by omega
                clear hyr hyx hqq
                refine wp_region_held_drew (S := fun W => Below w7.heap.size w7 W) (by kernel_rfl) (aL w7) fun hS => ?_
                refine wpAnyH_take (i := 0) (v := .bool true) rfl (by kernel_rfl) (by kernel_rfl) (by kernel_rfl) (fun _ _ _ h => h) (Or.inl ⟨by kernel_rfl, fun W hW => by go_simp⟩) hS ?_
                try simp only [Act.put, List.getElem_toArray, List.getElem_cons_zero, List.getElem_cons_succ, List.setIfInBounds_toArray, List.set_cons_zero, List.set_cons_succ]
                refine wpAnyH_take (i := 1) (v := .bool false) rfl (by kernel_rfl) (by kernel_rfl) (by kernel_rfl) (fun _ _ _ h => h) (Or.inl ⟨by kernel_rfl, fun W hW => by go_simp⟩) hS ?_
                try simp only [Act.put, List.getElem_toArray, List.getElem_cons_zero, List.getElem_cons_succ, List.setIfInBounds_toArray, List.set_cons_zero, List.set_cons_succ]
                refine wpAnyH_take (i := 2) (v := .bool false) rfl (by kernel_rfl) (by kernel_rfl) (by kernel_rfl) (fun _ _ _ h => h) (Or.inl ⟨by kernel_rfl, fun W hW => by go_simp⟩) hS ?_
                try simp only [Act.put, List.getElem_toArray, List.getElem_cons_zero, List.getElem_cons_succ, List.setIfInBounds_toArray, List.set_cons_zero, List.set_cons_succ]
                refine wpAnyH_take (i := 3) (v := .int .i64 (i : Int)) rfl (by kernel_rfl) (by kernel_rfl) (by kernel_rfl) (fun _ _ _ h => h) (Or.inl ⟨by kernel_rfl, fun W hW => by go_simp⟩) hS ?_
                try simp only [Act.put, List.getElem_toArray, List.getElem_cons_zero, List.getElem_cons_succ, List.setIfInBounds_toArray, List.set_cons_zero, List.set_cons_succ]
                refine wpAnyH_take (i := 4) (v := .bool false) rfl (by kernel_rfl) (by kernel_rfl) (by kernel_rfl) (fun _ _ _ h => h) (Or.inl ⟨by kernel_rfl, fun W hW => by go_simp⟩) hS ?_
                try simp only [Act.put, List.getElem_toArray, List.getElem_cons_zero, List.getElem_cons_succ, List.setIfInBounds_toArray, List.set_cons_zero, List.set_cons_succ]
                refine wpAnyH_take (i := 5) (v := .bool false) rfl (by kernel_rfl) (by kernel_rfl) (by kernel_rfl) (fun _ _ _ h => h) (Or.inl ⟨by kernel_rfl, fun W hW => by go_simp⟩) hS ?_
                try simp only [Act.put, List.getElem_toArray, List.getElem_cons_zero, List.getElem_cons_succ, List.setIfInBounds_toArray, List.set_cons_zero, List.set_cons_succ]
                refine wpAnyH_take (i := 6) (v := .bool false) rfl (by kernel_rfl) (by kernel_rfl) (by kernel_rfl) (fun _ _ _ h => h) (Or.inl ⟨by kernel_rfl, fun W hW => by go_simp⟩) hS ?_
                try simp only [Act.put, List.getElem_toArray, List.getElem_cons_zero, List.getElem_cons_succ, List.setIfInBounds_toArray, List.set_cons_zero, List.set_cons_succ]
                refine wpAnyH_take (i := 7) (v := .int .i64 (i : Int)) rfl (by kernel_rfl) (by kernel_rfl) (by kernel_rfl) (fun _ _ _ h => h) (Or.inl ⟨by kernel_rfl, fun W hW => by go_simp⟩) hS ?_
                try simp only [Act.put, List.getElem_toArray, List.getElem_cons_zero, List.getElem_cons_succ, List.setIfInBounds_toArray, List.set_cons_zero, List.set_cons_succ]
                refine wpAnyH_take (i := 8) (v := .slice (some ⟨b2, o2, none⟩) l.length cl) rfl (by kernel_rfl) (by kernel_rfl) (by kernel_rfl) (fun _ _ _ h => h) (Or.inl ⟨by kernel_rfl, fun W hW => by go_simp⟩) hS ?_
                try simp only [Act.put, List.getElem_toArray, List.getElem_cons_zero, List.getElem_cons_succ, List.setIfInBounds_toArray, List.set_cons_zero, List.set_cons_succ]
                refine wpAnyH_take (i := 9) (v := .int .i64 (l.length : Int)) rfl (by kernel_rfl) (by kernel_rfl) (by kernel_rfl) (fun _ _ _ h => h) (Or.inl ⟨by kernel_rfl, fun W hW => by go_simp⟩) hS ?_
                try simp only [Act.put, List.getElem_toArray, List.getElem_cons_zero, List.getElem_cons_succ, List.setIfInBounds_toArray, List.set_cons_zero, List.set_cons_succ]
                refine wpAnyH_take (i := 10) (v := .bool false) rfl (by kernel_rfl) (by kernel_rfl) (by kernel_rfl) (fun _ _ _ h => h) (Or.inl ⟨by kernel_rfl, fun W hW => by go_simp⟩) hS ?_
                try simp only [Act.put, List.getElem_toArray, List.getElem_cons_zero, List.getElem_cons_succ, List.setIfInBounds_toArray, List.set_cons_zero, List.set_cons_succ]
                refine wpAnyH_take (i := 11) (v := .bool false) rfl (by kernel_rfl) (by kernel_rfl) (by kernel_rfl) (fun _ _ _ h => h) (Or.inl ⟨by kernel_rfl, fun W hW => by go_simp⟩) hS ?_
                try simp only [Act.put, List.getElem_toArray, List.getElem_cons_zero, List.getElem_cons_succ, List.setIfInBounds_toArray, List.set_cons_zero, List.set_cons_succ]
                refine wpAnyH_take (i := 12) (v := .bool false) rfl (by kernel_rfl) (by kernel_rfl) (by kernel_rfl) (fun _ _ _ h => h) (Or.inl ⟨by kernel_rfl, fun W hW => by go_simp⟩) hS ?_
                try simp only [Act.put, List.getElem_toArray, List.getElem_cons_zero, List.getElem_cons_succ, List.setIfInBounds_toArray, List.set_cons_zero, List.set_cons_succ]
                refine wpAnyH_take (i := 13) (v := .int .i64 (q : Int)) rfl (by kernel_rfl) (by kernel_rfl) (by kernel_rfl) (fun _ _ _ h => h) (Or.inl ⟨by kernel_rfl, fun W hW => by go_simp⟩) hS ?_
                try simp only [Act.put, List.getElem_toArray, List.getElem_cons_zero, List.getElem_cons_succ, List.setIfInBounds_toArray, List.set_cons_zero, List.set_cons_succ]
                refine wpAnyH_take (i := 14) (v := .bool true) rfl (by kernel_rfl) (by kernel_rfl) (by kernel_rfl) (fun _ _ _ h => h) (Or.inl ⟨by kernel_rfl, fun W hW => by go_simp⟩) hS ?_
                try simp only [Act.put, List.getElem_toArray, List.getElem_cons_zero, List.getElem_cons_succ, List.setIfInBounds_toArray, List.set_cons_zero, List.set_cons_succ]
                refine wpAnyH_take (i := 15) (v := .bool true) rfl (by kernel_rfl) (by kernel_rfl) (by kernel_rfl) (fun _ _ _ h => h) (Or.inl ⟨by kernel_rfl, fun W hW => by go_simp⟩) hS ?_
                try simp only [Act.put, List.getElem_toArray, List.getElem_cons_zero, List.getElem_cons_succ, List.setIfInBounds_toArray, List.set_cons_zero, List.set_cons_succ]
                refine wpAnyH_take (i := 16) (v := .slice (some ⟨b1, o1, none⟩) vs.length cv) rfl (by kernel_rfl) (by kernel_rfl) (by kernel_rfl) (fun _ _ _ h => h) (Or.inl ⟨by kernel_rfl, fun W hW => by go_simp⟩) hS ?_
                try simp only [Act.put, List.getElem_toArray, List.getElem_cons_zero, List.getElem_cons_succ, List.setIfInBounds_toArray, List.set_cons_zero, List.set_cons_succ]
                refine wpAnyH_take (i := 17) (v := .int .i64 (q : Int)) rfl (by kernel_rfl) (by kernel_rfl) (by kernel_rfl) (fun _ _ _ h => h) (Or.inl ⟨by kernel_rfl, fun W hW => by go_simp⟩) hS ?_
                try simp only [Act.put, List.getElem_toArray, List.getElem_cons_zero, List.getElem_cons_succ, List.setIfInBounds_toArray, List.set_cons_zero, List.set_cons_succ]
                refine wpAnyH_take (i := 18) (v := .int .i64 ((q : Int) - 1)) rfl (by kernel_rfl) (by kernel_rfl) (by kernel_rfl) (fun _ _ _ h => h) (Or.inl ⟨by kernel_rfl, fun W hW => by go_simp⟩) hS ?_
                try simp only [Act.put, List.getElem_toArray, List.getElem_cons_zero, List.getElem_cons_succ, List.setIfInBounds_toArray, List.set_cons_zero, List.set_cons_succ]
                refine wpAnyH_take (i := 19) (v := .pointer (some ⟨b1, o1 + (q - 1) * 3, none⟩)) rfl (by kernel_rfl) (by kernel_rfl) (by kernel_rfl) (fun _ _ _ h => h) (Or.inl ⟨by kernel_rfl, fun W hW => by go_simp⟩) hS ?_
                try simp only [Act.put, List.getElem_toArray, List.getElem_cons_zero, List.getElem_cons_succ, List.setIfInBounds_toArray, List.set_cons_zero, List.set_cons_succ]
                refine wpAnyH_take (i := 20) (v := .agg #[.int .i64 y.a, .int .i64 y.b, .int .i64 y.c]) rfl (by kernel_rfl) (by kernel_rfl) (by kernel_rfl) (fun _ _ _ h => h) (yieldsIf_load_mid (by kernel_rfl) 23 (.tmp 86) rfl b1 (o1 + (q - 1) * 3) rfl (verC y) _ (fun W hW => range_later hW HYr.out) Tryz.underlying23 rfl (by kernel_rfl)) hS ?_
                try simp only [Act.put, List.getElem_toArray, List.getElem_cons_zero, List.getElem_cons_succ, List.setIfInBounds_toArray, List.set_cons_zero, List.set_cons_succ]
                refine wpAnyH_take (i := 21) (v := .slice (some ⟨b1, o1, none⟩) vs.length cv) rfl (by kernel_rfl) (by kernel_rfl) (by kernel_rfl) (fun _ _ _ h => h) (Or.inl ⟨by kernel_rfl, fun W hW => by go_simp⟩) hS ?_
                try simp only [Act.put, List.getElem_toArray, List.getElem_cons_zero, List.getElem_cons_succ, List.setIfInBounds_toArray, List.set_cons_zero, List.set_cons_succ]
                refine wpAnyH_take (i := 22) (v := .int .i64 (q : Int)) rfl (by kernel_rfl) (by kernel_rfl) (by kernel_rfl) (fun _ _ _ h => h) (Or.inl ⟨by kernel_rfl, fun W hW => by go_simp⟩) hS ?_
                try simp only [Act.put, List.getElem_toArray, List.getElem_cons_zero, List.getElem_cons_succ, List.setIfInBounds_toArray, List.set_cons_zero, List.set_cons_succ]
                refine wpAnyH_take (i := 23) (v := .pointer (some ⟨b1, o1 + q * 3, none⟩)) rfl (by kernel_rfl) (by kernel_rfl) (by kernel_rfl) (fun _ _ _ h => h) (Or.inl ⟨by kernel_rfl, fun W hW => by go_simp⟩) hS ?_
                try simp only [Act.put, List.getElem_toArray, List.getElem_cons_zero, List.getElem_cons_succ, List.setIfInBounds_toArray, List.set_cons_zero, List.set_cons_succ]
                refine wpAnyH_take (i := 24) (v := .agg #[.int .i64 x.a, .int .i64 x.b, .int .i64 x.c]) rfl (by kernel_rfl) (by kernel_rfl) (by kernel_rfl) (fun _ _ _ h => h) (yieldsIf_load_mid (by kernel_rfl) 23 (.tmp 90) rfl b1 (o1 + q * 3) rfl (verC x) _ (fun W hW => range_later hW HR7.out) Tryz.underlying23 rfl (by kernel_rfl)) hS ?_
                try simp only [Act.put, List.getElem_toArray, List.getElem_cons_zero, List.getElem_cons_succ, List.setIfInBounds_toArray, List.set_cons_zero, List.set_cons_succ]
                refine wpAnyH_ready (rs := [25]) (by kernel_rfl) (by simp) ?_
                refine AllReadyH.cons rfl (fun K hK => ?_) AllReadyH.nil
                rw [if_pos (by kernel_rfl)]
                try simp only [List.getElem_toArray, List.getElem_cons_zero, List.getElem_cons_succ]
                go_simp
                have hpre := aL w7
                refine (fS y x _).mono ?_
                rintro e c1 ⟨rfl, hgw⟩
                have hc1 := aA hpre hgw.below
                clear hpre
                refine hK.out _ _ hc1 (fun hS => ?_)
                clear hK K
                try simp only [Act.put, List.getElem_toArray, List.getElem_cons_zero, List.getElem_cons_succ, List.setIfInBounds_toArray, List.set_cons_zero, List.set_cons_succ]
                refine wpAnyH_take (i := 26) (v := .bool false) rfl (by kernel_rfl) (by kernel_rfl) (by kernel_rfl) (fun _ _ _ h => h) (Or.inl ⟨by kernel_rfl, fun W hW => by go_simp⟩) hS ?_
                try simp only [Act.put, List.getElem_toArray, List.getElem_cons_zero, List.getElem_cons_succ, List.setIfInBounds_toArray, List.set_cons_zero, List.set_cons_succ]
                refine wpAnyH_take (i := 27) (v := .bool false) rfl (by kernel_rfl) (by kernel_rfl) (by kernel_rfl) (fun _ _ _ h => h) (Or.inl ⟨by kernel_rfl, fun W hW => by go_simp⟩) hS ?_
                try simp only [Act.put, List.getElem_toArray, List.getElem_cons_zero, List.getElem_cons_succ, List.setIfInBounds_toArray, List.set_cons_zero, List.set_cons_succ]
                refine wpAnyH_take (i := 28) (v := .bool false) rfl (by kernel_rfl) (by kernel_rfl) (by kernel_rfl) (fun _ _ _ h => h) (Or.inl ⟨by kernel_rfl, fun W hW => by go_simp⟩) hS ?_
                try simp only [Act.put, List.getElem_toArray, List.getElem_cons_zero, List.getElem_cons_succ, List.setIfInBounds_toArray, List.set_cons_zero, List.set_cons_succ]
                refine wpAnyH_done (by kernel_rfl) ?_ _
                go_wp2_with fail
                go_meet
                exact ⟨rfl, Lib.hid hc1⟩
            case rest =>
              obtain ⟨rfl, hd⟩ := hcut
              rename World => w8
              have HB8 := Lib.hid hd.out
              have HXr8 := Lib.hid (aC hd.out HXr.out)
              have x0 := cfA HXr8.out HQr0.out
              have x1 := cfA HXr8.out HQr1.out
              have x2 := cfA HXr8.out HQr2.out
              have x3 := cfA HXr8.out HQr3.out
              have HR8 := Lib.hid (range_later hd.out HR7.out)
              have HRg8 := Lib.hid (range_later hd.out HRg7.out)
              have p0 := aD hd.out HP7.out
              have HWd := Lib.hid (aA HWc.out hd.out)
              have HXv8 := Lib.hid (aC hd.out HXv7.out)
              have HSr : Hid (∀ W, Below w8.heap.size w8 W → Calls Tryz.prog 22 #[.agg (rlC g.rel pg.vn pg.vf pg.vp).toArray, .agg RA] W fun e w' => e = .returned (.bool true) ∧ Below W.heap.size W w') := Lib.hid (fun W hW => by rw [HRA.out]; exact sameRelease_true g.rel W (HGv7.out W (aA hd.out hW)) (HRv2.out.later (aA hd.out hW)))
              have hneq := fun W => neqVer x x W
              rw [decide_eq_true (rfl : x = x)] at hneq
              obtain ⟨GA, HGA⟩ : ∃ c : Array Value, Hid (c = (rlC g.rel pg.vn pg.vf pg.vp).toArray) := ⟨_, Lib.hid rfl⟩
              rw [← HGA.out] at HSr
              clear hd HR7 HRg7 HP7 HXr HGv7 HPv7 HXv7
              go_wp2_with fail
              go_cut [126] from 50 to 135 (fun bv wx => bv = .bool false ∧ Hid (Below w8.heap.size w8 wx))
              case first =>
                refine wp_region_held_drew (S := fun W => Below w8.heap.size w8 W) (by kernel_rfl) (aL w8) fun hS => ?_
                refine wpAnyH_take (i := 0) (v := .slice (some ⟨b2, o2, none⟩) l.length cl) rfl (by kernel_rfl) (by kernel_rfl) (by kernel_rfl) (fun _ _ _ h => h) (Or.inl ⟨by kernel_rfl, fun W hW => by go_simp⟩) hS ?_
                try simp only [Act.put, List.getElem_toArray, List.getElem_cons_zero, List.getElem_cons_succ, List.setIfInBounds_toArray, List.set_cons_zero, List.set_cons_succ]
                refine wpAnyH_take (i := 1) (v := .int .i64 (i : Int)) rfl (by kernel_rfl) (by kernel_rfl) (by kernel_rfl) (fun _ _ _ h => h) (Or.inl ⟨by kernel_rfl, fun W hW => by go_simp⟩) hS ?_
                try simp only [Act.put, List.getElem_toArray, List.getElem_cons_zero, List.getElem_cons_succ, List.setIfInBounds_toArray, List.set_cons_zero, List.set_cons_succ]
                refine wpAnyH_take (i := 2) (v := .pointer (some ⟨b2, o2 + i * 29, none⟩)) rfl (by kernel_rfl) (by kernel_rfl) (by kernel_rfl) (fun _ _ _ h => h) (Or.inl ⟨by kernel_rfl, fun W hW => by go_simp⟩) hS ?_
                try simp only [Act.put, List.getElem_toArray, List.getElem_cons_zero, List.getElem_cons_succ, List.setIfInBounds_toArray, List.set_cons_zero, List.set_cons_succ]
                refine wpAnyH_take (i := 3) (v := .pointer (some ⟨b2, o2 + i * 29, none⟩)) rfl (by kernel_rfl) (by kernel_rfl) (by kernel_rfl) (fun _ _ _ h => h) (Or.inl ⟨by kernel_rfl, fun W hW => by go_simp⟩) hS ?_
                try simp only [Act.put, List.getElem_toArray, List.getElem_cons_zero, List.getElem_cons_succ, List.setIfInBounds_toArray, List.set_cons_zero, List.set_cons_succ]
                refine wpAnyH_take (i := 4) (v := .int .i64 0) rfl (by kernel_rfl) (by kernel_rfl) (by kernel_rfl) (fun _ _ _ h => h) (Or.inl ⟨by kernel_rfl, fun W hW => by have p0 := aD hW p0; go_simp⟩) hS ?_
                try simp only [Act.put, List.getElem_toArray, List.getElem_cons_zero, List.getElem_cons_succ, List.setIfInBounds_toArray, List.set_cons_zero, List.set_cons_succ]
                refine wpAnyH_take (i := 5) (v := .bool false) rfl (by kernel_rfl) (by kernel_rfl) (by kernel_rfl) (fun _ _ _ h => h) (Or.inl ⟨by kernel_rfl, fun W hW => by go_simp⟩) hS ?_
                try simp only [Act.put, List.getElem_toArray, List.getElem_cons_zero, List.getElem_cons_succ, List.setIfInBounds_toArray, List.set_cons_zero, List.set_cons_succ]
                refine wpAnyH_take (i := 6) (v := .bool false) rfl (by kernel_rfl) (by kernel_rfl) (by kernel_rfl) (fun _ _ _ h => h) (Or.inl ⟨by kernel_rfl, fun W hW => by go_simp⟩) hS ?_
                try simp only [Act.put, List.getElem_toArray, List.getElem_cons_zero, List.getElem_cons_succ, List.setIfInBounds_toArray, List.set_cons_zero, List.set_cons_succ]
                refine wpAnyH_take (i := 7) (v := .pointer (some ⟨br, 0, none⟩)) rfl (by kernel_rfl) (by kernel_rfl) (by kernel_rfl) (fun _ _ _ h => h) (Or.inl ⟨by kernel_rfl, fun W hW => by go_simp⟩) hS ?_
                try simp only [Act.put, List.getElem_toArray, List.getElem_cons_zero, List.getElem_cons_succ, List.setIfInBounds_toArray, List.set_cons_zero, List.set_cons_succ]
                refine wpAnyH_take (i := 8) (v := .string s) rfl (by kernel_rfl) (by kernel_rfl) (by kernel_rfl) (fun _ _ _ h => h) (Or.inl ⟨by kernel_rfl, fun W hW => by have x0 := aD hW x0; go_simp⟩) hS ?_
                try simp only [Act.put, List.getElem_toArray, List.getElem_cons_zero, List.getElem_cons_succ, List.setIfInBounds_toArray, List.set_cons_zero, List.set_cons_succ]
                refine wpAnyH_take (i := 9) (v := .string s) rfl (by kernel_rfl) (by kernel_rfl) (by kernel_rfl) (fun _ _ _ h => h) (Or.inl ⟨by kernel_rfl, fun W hW => by go_simp⟩) hS ?_
                try simp only [Act.put, List.getElem_toArray, List.getElem_cons_zero, List.getElem_cons_succ, List.setIfInBounds_toArray, List.set_cons_zero, List.set_cons_succ]
                refine wpAnyH_take (i := 10) (v := .bool false) rfl (by kernel_rfl) (by kernel_rfl) (by kernel_rfl) (fun _ _ _ h => h) (Or.inl ⟨by kernel_rfl, fun W hW => by go_simp⟩) hS ?_
                try simp only [Act.put, List.getElem_toArray, List.getElem_cons_zero, List.getElem_cons_succ, List.setIfInBounds_toArray, List.set_cons_zero, List.set_cons_succ]
                refine wpAnyH_take (i := 11) (v := .bool false) rfl (by kernel_rfl) (by kernel_rfl) (by kernel_rfl) (fun _ _ _ h => h) (Or.inl ⟨by kernel_rfl, fun W hW => by go_simp⟩) hS ?_
                try simp only [Act.put, List.getElem_toArray, List.getElem_cons_zero, List.getElem_cons_succ, List.setIfInBounds_toArray, List.set_cons_zero, List.set_cons_succ]
                refine wpAnyH_take (i := 12) (v := .bool false) rfl (by kernel_rfl) (by kernel_rfl) (by kernel_rfl) (fun _ _ _ h => h) (Or.inl ⟨by kernel_rfl, fun W hW => by go_simp⟩) hS ?_
                try simp only [Act.put, List.getElem_toArray, List.getElem_cons_zero, List.getElem_cons_succ, List.setIfInBounds_toArray, List.set_cons_zero, List.set_cons_succ]
                refine wpAnyH_take (i := 13) (v := .pointer (some ⟨br, 1, none⟩)) rfl (by kernel_rfl) (by kernel_rfl) (by kernel_rfl) (fun _ _ _ h => h) (Or.inl ⟨by kernel_rfl, fun W hW => by go_simp⟩) hS ?_
                try simp only [Act.put, List.getElem_toArray, List.getElem_cons_zero, List.getElem_cons_succ, List.setIfInBounds_toArray, List.set_cons_zero, List.set_cons_succ]
                refine wpAnyH_take (i := 14) (v := .agg #[.int .i64 x.a, .int .i64 x.b, .int .i64 x.c]) rfl (by kernel_rfl) (by kernel_rfl) (by kernel_rfl) (fun _ _ _ h => h) (Or.inl ⟨by kernel_rfl, fun W hW => by have x1 := aD hW x1; have x2 := aD hW x2; have x3 := aD hW x3; go_simp⟩) hS ?_
                try simp only [Act.put, List.getElem_toArray, List.getElem_cons_zero, List.getElem_cons_succ, List.setIfInBounds_toArray, List.set_cons_zero, List.set_cons_succ]
                refine wpAnyH_take (i := 15) (v := .slice (some ⟨b1, o1, none⟩) vs.length cv) rfl (by kernel_rfl) (by kernel_rfl) (by kernel_rfl) (fun _ _ _ h => h) (Or.inl ⟨by kernel_rfl, fun W hW => by go_simp⟩) hS ?_
                try simp only [Act.put, List.getElem_toArray, List.getElem_cons_zero, List.getElem_cons_succ, List.setIfInBounds_toArray, List.set_cons_zero, List.set_cons_succ]
                refine wpAnyH_take (i := 16) (v := .int .i64 (q : Int)) rfl (by kernel_rfl) (by kernel_rfl) (by kernel_rfl) (fun _ _ _ h => h) (Or.inl ⟨by kernel_rfl, fun W hW => by go_simp⟩) hS ?_
                try simp only [Act.put, List.getElem_toArray, List.getElem_cons_zero, List.getElem_cons_succ, List.setIfInBounds_toArray, List.set_cons_zero, List.set_cons_succ]
                refine wpAnyH_take (i := 17) (v := .pointer (some ⟨b1, o1 + q * 3, none⟩)) rfl (by kernel_rfl) (by kernel_rfl) (by kernel_rfl) (fun _ _ _ h => h) (Or.inl ⟨by kernel_rfl, fun W hW => by go_simp⟩) hS ?_
                try simp only [Act.put, List.getElem_toArray, List.getElem_cons_zero, List.getElem_cons_succ, List.setIfInBounds_toArray, List.set_cons_zero, List.set_cons_succ]
                refine wpAnyH_take (i := 18) (v := .agg #[.int .i64 x.a, .int .i64 x.b, .int .i64 x.c]) rfl (by kernel_rfl) (by kernel_rfl) (by kernel_rfl) (fun _ _ _ h => h) (yieldsIf_load_mid (by kernel_rfl) 23 (.tmp 113) rfl b1 (o1 + q * 3) rfl (verC x) _ (fun W hW => range_later hW HR8.out) Tryz.underlying23 rfl (by kernel_rfl)) hS ?_
                try simp only [Act.put, List.getElem_toArray, List.getElem_cons_zero, List.getElem_cons_succ, List.setIfInBounds_toArray, List.set_cons_zero, List.set_cons_succ]
                refine wpAnyH_take (i := 19) (v := .bool false) rfl (by kernel_rfl) (by kernel_rfl) (by kernel_rfl) (fun _ _ _ h => h) (Or.inl ⟨by kernel_rfl, fun W hW => by go_simp⟩) hS ?_
                try simp only [Act.put, List.getElem_toArray, List.getElem_cons_zero, List.getElem_cons_succ, List.setIfInBounds_toArray, List.set_cons_zero, List.set_cons_succ]
                refine wpAnyH_take (i := 20) (v := .bool false) rfl (by kernel_rfl) (by kernel_rfl) (by kernel_rfl) (fun _ _ _ h => h) (Or.inl ⟨by kernel_rfl, fun W hW => by go_simp⟩) hS ?_
                try simp only [Act.put, List.getElem_toArray, List.getElem_cons_zero, List.getElem_cons_succ, List.setIfInBounds_toArray, List.set_cons_zero, List.set_cons_succ]
                refine wpAnyH_take (i := 21) (v := .bool false) rfl (by kernel_rfl) (by kernel_rfl) (by kernel_rfl) (fun _ _ _ h => h) (Or.inl ⟨by kernel_rfl, fun W hW => by go_simp⟩) hS ?_
                try simp only [Act.put, List.getElem_toArray, List.getElem_cons_zero, List.getElem_cons_succ, List.setIfInBounds_toArray, List.set_cons_zero, List.set_cons_succ]
                refine wpAnyH_take (i := 22) (v := .slice (some ⟨b2, o2, none⟩) l.length cl) rfl (by kernel_rfl) (by kernel_rfl) (by kernel_rfl) (fun _ _ _ h => h) (Or.inl ⟨by kernel_rfl, fun W hW => by go_simp⟩) hS ?_
                try simp only [Act.put, List.getElem_toArray, List.getElem_cons_zero, List.getElem_cons_succ, List.setIfInBounds_toArray, List.set_cons_zero, List.set_cons_succ]
                refine wpAnyH_take (i := 23) (v := .int .i64 (i : Int)) rfl (by kernel_rfl) (by kernel_rfl) (by kernel_rfl) (fun _ _ _ h => h) (Or.inl ⟨by kernel_rfl, fun W hW => by go_simp⟩) hS ?_
                try simp only [Act.put, List.getElem_toArray, List.getElem_cons_zero, List.getElem_cons_succ, List.setIfInBounds_toArray, List.set_cons_zero, List.set_cons_succ]
                refine wpAnyH_take (i := 24) (v := .pointer (some ⟨b2, o2 + i * 29, none⟩)) rfl (by kernel_rfl) (by kernel_rfl) (by kernel_rfl) (fun _ _ _ h => h) (Or.inl ⟨by kernel_rfl, fun W hW => by go_simp⟩) hS ?_
                try simp only [Act.put, List.getElem_toArray, List.getElem_cons_zero, List.getElem_cons_succ, List.setIfInBounds_toArray, List.set_cons_zero, List.set_cons_succ]
                refine wpAnyH_take (i := 25) (v := .pointer (some ⟨b2, o2 + i * 29 + 5, none⟩)) rfl (by kernel_rfl) (by kernel_rfl) (by kernel_rfl) (fun _ _ _ h => h) (Or.inl ⟨by kernel_rfl, fun W hW => by go_simp⟩) hS ?_
                try simp only [Act.put, List.getElem_toArray, List.getElem_cons_zero, List.getElem_cons_succ, List.setIfInBounds_toArray, List.set_cons_zero, List.set_cons_succ]
                refine wpAnyH_take (i := 26) (v := .agg GA) rfl (by kernel_rfl) (by kernel_rfl) (by kernel_rfl) (fun _ _ _ h => h) (yRel (by kernel_rfl) (x := .tmp 121) rfl rfl HGA.out (fun W hW => range_later hW HRg8.out)) hS ?_
                try simp only [Act.put, List.getElem_toArray, List.getElem_cons_zero, List.getElem_cons_succ, List.setIfInBounds_toArray, List.set_cons_zero, List.set_cons_succ]
                refine wpAnyH_take (i := 27) (v := .agg RA) rfl (by kernel_rfl) (by kernel_rfl) (by kernel_rfl) (fun _ _ _ h => h) (yRl (by kernel_rfl) (x := .tmp 13) rfl rfl HZR.out (fun W hW => aC hW HXr8.out)) hS ?_
                try simp only [Act.put, List.getElem_toArray, List.getElem_cons_zero, List.getElem_cons_succ, List.setIfInBounds_toArray, List.set_cons_zero, List.set_cons_succ]
                refine wpAnyH_ready (rs := [28]) (by kernel_rfl) (by simp) ?_
                refine AllReadyH.cons rfl (fun K hK => ?_) AllReadyH.nil
                rw [if_pos (by kernel_rfl)]
                try simp only [List.getElem_toArray, List.getElem_cons_zero, List.getElem_cons_succ]
                go_simp
                have hpre := (aL w8)
                refine (HSr.out _ hpre).mono ?_
                rintro e c1 ⟨rfl, hc'⟩
                have hc1 := aA hpre hc'
                clear hpre hc'
                refine hK.out _ _ hc1 (fun hS => ?_)
                clear hK K
                try simp only [Act.put, List.getElem_toArray, List.getElem_cons_zero, List.getElem_cons_succ, List.setIfInBounds_toArray, List.set_cons_zero, List.set_cons_succ]
                refine wpAnyH_take (i := 29) (v := .bool false) rfl (by kernel_rfl) (by kernel_rfl) (by kernel_rfl) (fun _ _ _ h => h) (Or.inl ⟨by kernel_rfl, fun W hW => by go_simp⟩) hS ?_
                try simp only [Act.put, List.getElem_toArray, List.getElem_cons_zero, List.getElem_cons_succ, List.setIfInBounds_toArray, List.set_cons_zero, List.set_cons_succ]
                refine wpAnyH_take (i := 30) (v := .bool false) rfl (by kernel_rfl) (by kernel_rfl) (by kernel_rfl) (fun _ _ _ h => h) (Or.inl ⟨by kernel_rfl, fun W hW => by go_simp⟩) hS ?_
                try simp only [Act.put, List.getElem_toArray, List.getElem_cons_zero, List.getElem_cons_succ, List.setIfInBounds_toArray, List.set_cons_zero, List.set_cons_succ]
                refine wpAnyH_done (by kernel_rfl) ?_ _
                go_wp2_with fail
                go_meet
                exact ⟨rfl, Lib.hid hc1⟩
              case rest =>
                obtain ⟨rfl, hd⟩ := hcut
                rename World => w9
                have HR9 := Lib.hid (range_later hd.out HR8.out)
                have HXv9 := Lib.hid (aC hd.out HXv8.out)
                have HWe := Lib.hid (aA HWd.out hd.out)
                obtain ⟨⟨v0, v1, v2⟩, -⟩ := bx3 HXv9.out
                clear hd HR8 HXv8 x0 x1 x2 x3 p0 hneq HSr HRg8
                go_wp2_with fail
                generalize hlb : (vs.take q).any (fun x => decide (x = v)) = lb at *
                have HLb := Lib.hid hlb
                clear hlb
                have HTk2 : Hid ((vs.take (q + 1)).any (fun x => decide (x = v)) = (lb || decide (x = v))) := Lib.hid (by rw [HTk.out])
                have HWf := Lib.hid (aA HWe.out (aL w9))
                cases lb with
                | true =>
                  refine wp_region_held_drew (S := fun W => Below w9.heap.size w9 W) (by kernel_rfl) (aL w9) fun hS => ?_
                  refine wpAnyH_take (i := 0) (v := .bool true) rfl (by kernel_rfl) (by kernel_rfl) (by kernel_rfl) (fun _ _ _ h => h) (Or.inl ⟨by kernel_rfl, fun W hW => by go_simp⟩) hS ?_
                  try simp only [Act.put, List.getElem_toArray, List.getElem_cons_zero, List.getElem_cons_succ, List.setIfInBounds_toArray, List.set_cons_zero, List.set_cons_succ]
                  refine wpAnyH_take (i := 1) (v := .bool true) rfl (by kernel_rfl) (by kernel_rfl) (by kernel_rfl) (fun _ _ _ h => h) (Or.inl ⟨by kernel_rfl, fun W hW => by go_simp⟩) hS ?_
                  try simp only [Act.put, List.getElem_toArray, List.getElem_cons_zero, List.getElem_cons_succ, List.setIfInBounds_toArray, List.set_cons_zero, List.set_cons_succ]
                  refine wpAnyH_take (i := 2) (v := undef) rfl (by kernel_rfl) (by kernel_rfl) (by kernel_rfl) (fun _ _ _ h => h) (Or.inr ⟨by kernel_rfl, rfl⟩) hS ?_
                  try simp only [Act.put, List.getElem_toArray, List.getElem_cons_zero, List.getElem_cons_succ, List.setIfInBounds_toArray, List.set_cons_zero, List.set_cons_succ]
                  refine wpAnyH_take (i := 3) (v := undef) rfl (by kernel_rfl) (by kernel_rfl) (by kernel_rfl) (fun _ _ _ h => h) (Or.inr ⟨by kernel_rfl, rfl⟩) hS ?_
                  try simp only [Act.put, List.getElem_toArray, List.getElem_cons_zero, List.getElem_cons_succ, List.setIfInBounds_toArray, List.set_cons_zero, List.set_cons_succ]
                  refine wpAnyH_take (i := 4) (v := undef) rfl (by kernel_rfl) (by kernel_rfl) (by kernel_rfl) (fun _ _ _ h => h) (Or.inr ⟨by kernel_rfl, rfl⟩) hS ?_
                  try simp only [Act.put, List.getElem_toArray, List.getElem_cons_zero, List.getElem_cons_succ, List.setIfInBounds_toArray, List.set_cons_zero, List.set_cons_succ]
                  refine wpAnyH_take (i := 5) (v := undef) rfl (by kernel_rfl) (by kernel_rfl) (by kernel_rfl) (fun _ _ _ h => h) (Or.inr ⟨by kernel_rfl, rfl⟩) hS ?_
                  try simp only [Act.put, List.getElem_toArray, List.getElem_cons_zero, List.getElem_cons_succ, List.setIfInBounds_toArray, List.set_cons_zero, List.set_cons_succ]
                  refine wpAnyH_take (i := 6) (v := undef) rfl (by kernel_rfl) (by kernel_rfl) (by kernel_rfl) (fun _ _ _ h => h) (Or.inr ⟨by kernel_rfl, rfl⟩) hS ?_
                  try simp only [Act.put, List.getElem_toArray, List.getElem_cons_zero, List.getElem_cons_succ, List.setIfInBounds_toArray, List.set_cons_zero, List.set_cons_succ]
                  refine wpAnyH_take (i := 7) (v := undef) rfl (by kernel_rfl) (by kernel_rfl) (by kernel_rfl) (fun _ _ _ h => h) (Or.inr ⟨by kernel_rfl, rfl⟩) hS ?_
                  try simp only [Act.put, List.getElem_toArray, List.getElem_cons_zero, List.getElem_cons_succ, List.setIfInBounds_toArray, List.set_cons_zero, List.set_cons_succ]
                  refine wpAnyH_take (i := 8) (v := .bool true) rfl (by kernel_rfl) (by kernel_rfl) (by kernel_rfl) (fun _ _ _ h => h) (Or.inl ⟨by kernel_rfl, fun W hW => by go_simp⟩) hS ?_
                  try simp only [Act.put, List.getElem_toArray, List.getElem_cons_zero, List.getElem_cons_succ, List.setIfInBounds_toArray, List.set_cons_zero, List.set_cons_succ]
                  refine wpAnyH_take (i := 9) (v := .bool true) rfl (by kernel_rfl) (by kernel_rfl) (by kernel_rfl) (fun _ _ _ h => h) (Or.inl ⟨by kernel_rfl, fun W hW => by go_simp⟩) hS ?_
                  try simp only [Act.put, List.getElem_toArray, List.getElem_cons_zero, List.getElem_cons_succ, List.setIfInBounds_toArray, List.set_cons_zero, List.set_cons_succ]
                  refine wpAnyH_done (by kernel_rfl) ?_ _
                  clear hS v0 v1 v2 HXv9 HR9
                  generalize w9.drew = wz at *
                  go_wp2_with fail
                  go_roundw
                  case rel => exact ⟨q + 1, by omega, by rw [HTk2.out]; rfl, by go_num, HWf⟩
                  case measure => simp [intOf] <;> omega
                | false =>
                  have hveq := fun W => eqVer x v W
                  refine wp_region_held_drew (S := fun W => Below w9.heap.size w9 W) (by kernel_rfl) (aL w9) fun hS => ?_
                  refine wpAnyH_take (i := 0) (v := .bool false) rfl (by kernel_rfl) (by kernel_rfl) (by kernel_rfl) (fun _ _ _ h => h) (Or.inl ⟨by kernel_rfl, fun W hW => by go_simp⟩) hS ?_
                  try simp only [Act.put, List.getElem_toArray, List.getElem_cons_zero, List.getElem_cons_succ, List.setIfInBounds_toArray, List.set_cons_zero, List.set_cons_succ]
                  refine wpAnyH_take (i := 1) (v := .bool false) rfl (by kernel_rfl) (by kernel_rfl) (by kernel_rfl) (fun _ _ _ h => h) (Or.inl ⟨by kernel_rfl, fun W hW => by go_simp⟩) hS ?_
                  try simp only [Act.put, List.getElem_toArray, List.getElem_cons_zero, List.getElem_cons_succ, List.setIfInBounds_toArray, List.set_cons_zero, List.set_cons_succ]
                  refine wpAnyH_take (i := 2) (v := .slice (some ⟨b1, o1, none⟩) vs.length cv) rfl (by kernel_rfl) (by kernel_rfl) (by kernel_rfl) (fun _ _ _ h => h) (Or.inl ⟨by kernel_rfl, fun W hW => by go_simp⟩) hS ?_
                  try simp only [Act.put, List.getElem_toArray, List.getElem_cons_zero, List.getElem_cons_succ, List.setIfInBounds_toArray, List.set_cons_zero, List.set_cons_succ]
                  refine wpAnyH_take (i := 3) (v := .int .i64 (q : Int)) rfl (by kernel_rfl) (by kernel_rfl) (by kernel_rfl) (fun _ _ _ h => h) (Or.inl ⟨by kernel_rfl, fun W hW => by go_simp⟩) hS ?_
                  try simp only [Act.put, List.getElem_toArray, List.getElem_cons_zero, List.getElem_cons_succ, List.setIfInBounds_toArray, List.set_cons_zero, List.set_cons_succ]
                  refine wpAnyH_take (i := 4) (v := .pointer (some ⟨b1, o1 + q * 3, none⟩)) rfl (by kernel_rfl) (by kernel_rfl) (by kernel_rfl) (fun _ _ _ h => h) (Or.inl ⟨by kernel_rfl, fun W hW => by go_simp⟩) hS ?_
                  try simp only [Act.put, List.getElem_toArray, List.getElem_cons_zero, List.getElem_cons_succ, List.setIfInBounds_toArray, List.set_cons_zero, List.set_cons_succ]
                  refine wpAnyH_take (i := 5) (v := .agg #[.int .i64 x.a, .int .i64 x.b, .int .i64 x.c]) rfl (by kernel_rfl) (by kernel_rfl) (by kernel_rfl) (fun _ _ _ h => h) (yieldsIf_load_mid (by kernel_rfl) 23 (.tmp 131) rfl b1 (o1 + q * 3) rfl (verC x) _ (fun W hW => range_later hW HR9.out) Tryz.underlying23 rfl (by kernel_rfl)) hS ?_
                  try simp only [Act.put, List.getElem_toArray, List.getElem_cons_zero, List.getElem_cons_succ, List.setIfInBounds_toArray, List.set_cons_zero, List.set_cons_succ]
                  refine wpAnyH_take (i := 6) (v := .agg #[.int .i64 v.a, .int .i64 v.b, .int .i64 v.c]) rfl (by kernel_rfl) (by kernel_rfl) (by kernel_rfl) (fun _ _ _ h => h) (Or.inl ⟨by kernel_rfl, fun W hW => by have v0 := aD hW v0; have v1 := aD hW v1; have v2 := aD hW v2; go_simp⟩) hS ?_
                  try simp only [Act.put, List.getElem_toArray, List.getElem_cons_zero, List.getElem_cons_succ, List.setIfInBounds_toArray, List.set_cons_zero, List.set_cons_succ]
                  refine wpAnyH_take (i := 7) (v := .bool (decide (x = v))) rfl (by kernel_rfl) (by kernel_rfl) (by kernel_rfl) (fun _ _ _ h => h) (Or.inl ⟨by kernel_rfl, fun W hW => by go_simp⟩) hS ?_
                  try simp only [Act.put, List.getElem_toArray, List.getElem_cons_zero, List.getElem_cons_succ, List.setIfInBounds_toArray, List.set_cons_zero, List.set_cons_succ]
                  refine wpAnyH_take (i := 8) (v := .bool (decide (x = v))) rfl (by kernel_rfl) (by kernel_rfl) (by kernel_rfl) (fun _ _ _ h => h) (Or.inl ⟨by kernel_rfl, fun W hW => by go_simp⟩) hS ?_
                  try simp only [Act.put, List.getElem_toArray, List.getElem_cons_zero, List.getElem_cons_succ, List.setIfInBounds_toArray, List.set_cons_zero, List.set_cons_succ]
                  refine wpAnyH_take (i := 9) (v := .bool (decide (x = v))) rfl (by kernel_rfl) (by kernel_rfl) (by kernel_rfl) (fun _ _ _ h => h) (Or.inl ⟨by kernel_rfl, fun W hW => by go_simp⟩) hS ?_
                  try simp only [Act.put, List.getElem_toArray, List.getElem_cons_zero, List.getElem_cons_succ, List.setIfInBounds_toArray, List.set_cons_zero, List.set_cons_succ]
                  refine wpAnyH_done (by kernel_rfl) ?_ _
                  clear hveq
                  clear hS v0 v1 v2 HXv9 HR9
                  generalize w9.drew = wz at *
                  go_wp2_with fail
                  go_roundw
                  case rel => exact ⟨q + 1, by omega, by rw [HTk2.out, Bool.false_or], by go_num, HWf⟩
                  case measure => simp [intOf] <;> omega
          · go_upto_region 15 with (fail)
            try simp only [Act.put, List.getElem_toArray, List.getElem_cons_zero, List.getElem_cons_succ, List.setIfInBounds_toArray, List.set_cons_zero, List.set_cons_succ]
            have hqe : q = vs.length := by omega
            have hlb : (vs.take q).any (fun x => decide (x = v)) = (releaseF l s v).isSome := by
              rw [HIs.out, hqe, List.take_length]
              rw [Bool.eq_iff_iff, List.any_eq_true, decide_eq_true_eq]
              constructor
              · rintro ⟨y, h1, h2⟩
                rw [decide_eq_true_eq] at h2
                rw [← h2]
                exact h1
              · intro h
                exact ⟨v, h, by simp⟩
            rw [hlb]
            clear hlb hqe hlt hq HMem HAsc HIs
            generalize hbs : (releaseF l s v).isSome = lb at *
            have HBs := Lib.hid hbs
            clear hbs
            go_cut [16] from 136 to 141 (fun mv wx => Hid (aK 29 encFc (fun _ => True) wx mv (l ++ [f])) ∧ Hid (Below wr.heap.size wr wx))
            case first =>
              obtain ⟨css, hcl, hck, hcs⟩ := HPt.out
              have HCs := Lib.hid hcs
              clear hcs
              refine wp_region_held_drew (S := fun W => Below wr.heap.size wr W) (by kernel_rfl) (aL wr) fun hS => ?_
              refine wpAnyH_take (i := 1) (v := .slice al l.length cl) rfl (by kernel_rfl) (by kernel_rfl) (by kernel_rfl) (fun _ _ _ h => h) (Or.inl ⟨by kernel_rfl, fun W hW => by go_simp⟩) hS ?_
              try simp only [Act.put, List.getElem_toArray, List.getElem_cons_zero, List.getElem_cons_succ, List.setIfInBounds_toArray, List.set_cons_zero, List.set_cons_succ]
              refine wpAnyH_take (i := 3) (v := .agg A) rfl (by kernel_rfl) (by kernel_rfl) (by kernel_rfl) (fun _ _ _ h => h) (yF (by kernel_rfl) (x := .tmp 5) rfl rfl HZA.out (fun W hW => aC hW HXa.out)) hS ?_
              try simp only [Act.put, List.getElem_toArray, List.getElem_cons_zero, List.getElem_cons_succ, List.setIfInBounds_toArray, List.set_cons_zero, List.set_cons_succ]
              have HBd := Lib.hid (aL wr)
              generalize wr.drew = wd at *
              refine wpAnyH_ready (rs := [0, 4]) (by kernel_rfl) (by simp) ?_
              refine AllReadyH.cons rfl (fun K hK => ?_) (AllReadyH.cons rfl (fun K hK => ?_) AllReadyH.nil)
              · rw [if_pos (by kernel_rfl)]
                try simp only [List.getElem_toArray, List.getElem_cons_zero, List.getElem_cons_succ]
                go_simp
                have HEe := Lib.hid (heap_alloc_new wd (.cells #[] 37))
                have HBa := Lib.hid (aA HBd.out (aB wd (.cells #[] 37)))
                refine hK.out _ _ HBa.out (fun hS => ?_)
                clear hK K
                try simp only [Act.put, List.getElem_toArray, List.getElem_cons_zero, List.getElem_cons_succ, List.setIfInBounds_toArray, List.set_cons_zero, List.set_cons_succ]
                have hde := HBd.out.size
                generalize wd.alloc (.cells #[] 37) = wa at *
                obtain ⟨eb, heb⟩ : ∃ n, n = wd.heap.size := ⟨_, rfl⟩
                rw [← heb] at HEe hde ⊢
                clear heb
                refine wpAnyH_ready (rs := [2, 4]) (by kernel_rfl) (by simp) ?_
                refine AllReadyH.cons rfl (fun K hK => ?_) (AllReadyH.cons rfl (fun K hK => ?_) AllReadyH.nil)
                · rw [if_pos (by kernel_rfl)]
                  try simp only [List.getElem_toArray, List.getElem_cons_zero, List.getElem_cons_succ]
                  refine wp_append_all _ _ 53 rfl wr.heap.size 37 i1 (.agg aI) 29 408 Tryz.underlying53 hi1 hy0 hy1 hy2 rfl (by omega) eb 0 0 [] (by rfl) ⟨rfl, .inr ⟨eb, 0, #[], rfl, hde, HEe.out, Nat.le_refl _, by unfold maxLen; omega, rfl, rfl⟩⟩ (.slice al l.length cl) l.length _ (by rfl) (HCs.out wa (aA HWw.out HBa.out)).1 (by unfold maxLen; omega) (by omega) HBa.out.size ?_
                  intro g1 cap1 wf hown1 hgr1 hg1
                  simp only [Nat.zero_add, List.nil_append] at hown1 ⊢
                  have HBf := Lib.hid (grown_newB HBa.out hgr1 hde)
                  refine hK.out _ _ HBf.out (fun hS => ?_)
                  clear hK K
                  try simp only [Act.put, List.getElem_toArray, List.getElem_cons_zero, List.getElem_cons_succ, List.setIfInBounds_toArray, List.set_cons_zero, List.set_cons_succ]
                  refine wpAnyH_ready (rs := [4]) (by kernel_rfl) (by simp) ?_
                  refine AllReadyH.cons rfl (fun K hK => ?_) AllReadyH.nil
                  rw [if_pos (by kernel_rfl)]
                  try simp only [List.getElem_toArray, List.getElem_cons_zero, List.getElem_cons_succ]
                  refine wp_buildSlice 53 37 1 _ rfl A i1 (.agg aI) Tryz.underlying53 hi1 hy0 (by rw [hy1]; omega) (by rw [hy1]; omega) (by rw [hy1]; exact (congrArg (Instr.fill _ _) (a₂ := [(0, Value.agg A)]) (by kernel_rfl)).trans HFill.out) ?_
                  have HKb := Lib.hid (heap_alloc_new wf (.cells A 37))
                  have HBg := Lib.hid (aA HBf.out (aB wf (.cells A 37)))
                  replace hown1 := hown1.alloc (.cells A 37)
                  refine hK.out _ _ HBg.out (fun hS => ?_)
                  clear hK K
                  try simp only [Act.put, List.getElem_toArray, List.getElem_cons_zero, List.getElem_cons_succ, List.setIfInBounds_toArray, List.set_cons_zero, List.set_cons_succ]
                  generalize wf.alloc (.cells A 37) = wg at *
                  obtain ⟨bk, hbk⟩ : ∃ n, n = wf.heap.size := ⟨_, rfl⟩
                  rw [← hbk] at HKb ⊢
                  clear hbk
                  refine wpAnyH_ready (rs := [5]) (by kernel_rfl) (by simp) ?_
                  refine AllReadyH.cons rfl (fun K hK => ?_) AllReadyH.nil
                  rw [if_pos (by kernel_rfl)]
                  try simp only [List.getElem_toArray, List.getElem_cons_zero, List.getElem_cons_succ]
                  have HSrc : Src wg (.slice (some ⟨bk, 0, none⟩) 1 1) 1 29 A.toList := .inr ⟨by decide, _, _, rfl, by simpa using HZA.out, World.news_of_block (cs := A) (t := 37) (fr := (0, 0)) HKb.out, fun u hu => (Array.all_eq_true_iff_forall_mem.1 HOA.out) u (by simpa using hu)⟩
                  refine wp_append_all _ _ 53 rfl wr.heap.size 37 i1 (.agg aI) 29 408 Tryz.underlying53 hi1 hy0 hy1 hy2 rfl (by omega) g1 l.length cap1 css.flatten (by rfl) hown1 (.slice (some ⟨bk, 0, none⟩) 1 1) 1 A.toList (by rfl) HSrc (by unfold maxLen; omega) (by omega) HBg.out.size ?_
                  intro g2 cap2 wz hown2 hgr2 hg2
                  have HBz := Lib.hid (grown_newB HBg.out hgr2 (hown1.lt g1 rfl).1)
                  have HRm : Hid (aK 29 encFc (fun _ => True) wz (.slice (some ⟨g2, 0, none⟩) (l.length + 1) cap2) (l ++ [f])) := Lib.hid (row_more hcl hck (HCs.out wz (aA HWw.out HBz.out)).2 (HFf.out wz (aA HWw.out HBz.out)) HA.out hown2)
                  refine hK.out _ _ HBz.out (fun hS => ?_)
                  clear hK K
                  try simp only [Act.put, List.getElem_toArray, List.getElem_cons_zero, List.getElem_cons_succ, List.setIfInBounds_toArray, List.set_cons_zero, List.set_cons_succ]
                  refine wpAnyH_take (i := 6) (v := .slice (some ⟨g2, 0, none⟩) (l.length + 1) cap2) rfl (by kernel_rfl) (by kernel_rfl) (by kernel_rfl) (fun _ _ _ h => h) (Or.inl ⟨by kernel_rfl, fun W hW => by go_simp⟩) hS ?_
                  try simp only [Act.put, List.getElem_toArray, List.getElem_cons_zero, List.getElem_cons_succ, List.setIfInBounds_toArray, List.set_cons_zero, List.set_cons_succ]
                  refine wpAnyH_done (by kernel_rfl) ?_ _
                  go_wp2_with fail
                  go_meet
                  exact ⟨HRm, HBz⟩
                · have HEa := Lib.hid HEe.out
                  rw [if_pos (by kernel_rfl)]
                  try simp only [List.getElem_toArray, List.getElem_cons_zero, List.getElem_cons_succ]
                  refine wp_buildSlice 53 37 1 _ rfl A i1 (.agg aI) Tryz.underlying53 hi1 hy0 (by rw [hy1]; omega) (by rw [hy1]; omega) (by rw [hy1]; exact (congrArg (Instr.fill _ _) (a₂ := [(0, Value.agg A)]) (by kernel_rfl)).trans HFill.out) ?_
                  have HKb := Lib.hid (heap_alloc_new wa (.cells A 37))
                  have HBb := Lib.hid (aA HBa.out (aB wa (.cells A 37)))
                  have HE2 := Lib.hid (aC (aB wa (.cells A 37)) HEe.out)
                  refine hK.out _ _ HBb.out (fun hS => ?_)
                  clear hK K
                  try simp only [Act.put, List.getElem_toArray, List.getElem_cons_zero, List.getElem_cons_succ, List.setIfInBounds_toArray, List.set_cons_zero, List.set_cons_succ]
                  generalize wa.alloc (.cells A 37) = wb at *
                  obtain ⟨bk, hbk⟩ : ∃ n, n = wa.heap.size := ⟨_, rfl⟩
                  have hbe : eb ≠ bk := by have := (Array.getElem?_eq_some_iff.1 HEa.out).1; omega
                  rw [← hbk] at HKb ⊢
                  clear hbk
                  clear HEe
                  have HEe := Lib.hid HE2.out
                  clear HE2
                  skip
                  refine wpAnyH_ready (rs := [2]) (by kernel_rfl) (by simp) ?_
                  refine AllReadyH.cons rfl (fun K hK => ?_) AllReadyH.nil
                  rw [if_pos (by kernel_rfl)]
                  try simp only [List.getElem_toArray, List.getElem_cons_zero, List.getElem_cons_succ]
                  have hlt := (Array.getElem?_eq_some_iff.1 HKb.out).1
                  refine wp_append_all _ _ 53 rfl wr.heap.size 37 i1 (.agg aI) 29 408 Tryz.underlying53 hi1 hy0 hy1 hy2 rfl (by omega) eb 0 0 [] (by rfl) ⟨rfl, .inr ⟨eb, 0, #[], rfl, hde, HEe.out, Nat.le_refl _, by unfold maxLen; omega, rfl, rfl⟩⟩ (.slice al l.length cl) l.length _ (by rfl) (HCs.out wb (aA HWw.out HBb.out)).1 (by unfold maxLen; omega) (by omega) HBb.out.size ?_
                  intro g1 cap1 wf hown1 hgr1 hg1
                  simp only [Nat.zero_add, List.nil_append] at hown1 ⊢
                  have HBf := Lib.hid (grown_newB HBb.out hgr1 hde)
                  have HK2 := Lib.hid ((hgr1.block bk hlt (fun e => hbe (Option.some.inj e).symm)).trans HKb.out)
                  refine hK.out _ _ HBf.out (fun hS => ?_)
                  clear hK K
                  try simp only [Act.put, List.getElem_toArray, List.getElem_cons_zero, List.getElem_cons_succ, List.setIfInBounds_toArray, List.set_cons_zero, List.set_cons_succ]
                  clear HKb
                  have HKb := Lib.hid HK2.out
                  clear HK2
                  refine wpAnyH_ready (rs := [5]) (by kernel_rfl) (by simp) ?_
                  refine AllReadyH.cons rfl (fun K hK => ?_) AllReadyH.nil
                  rw [if_pos (by kernel_rfl)]
                  try simp only [List.getElem_toArray, List.getElem_cons_zero, List.getElem_cons_succ]
                  have HSrc : Src wf (.slice (some ⟨bk, 0, none⟩) 1 1) 1 29 A.toList := .inr ⟨by decide, _, _, rfl, by simpa using HZA.out, World.news_of_block (cs := A) (t := 37) (fr := (0, 0)) HKb.out, fun u hu => (Array.all_eq_true_iff_forall_mem.1 HOA.out) u (by simpa using hu)⟩
                  refine wp_append_all _ _ 53 rfl wr.heap.size 37 i1 (.agg aI) 29 408 Tryz.underlying53 hi1 hy0 hy1 hy2 rfl (by omega) g1 l.length cap1 css.flatten (by rfl) hown1 (.slice (some ⟨bk, 0, none⟩) 1 1) 1 A.toList (by rfl) HSrc (by unfold maxLen; omega) (by omega) HBf.out.size ?_
                  intro g2 cap2 wz hown2 hgr2 hg2
                  have HBz := Lib.hid (grown_newB HBf.out hgr2 (hown1.lt g1 rfl).1)
                  have HRm : Hid (aK 29 encFc (fun _ => True) wz (.slice (some ⟨g2, 0, none⟩) (l.length + 1) cap2) (l ++ [f])) := Lib.hid (row_more hcl hck (HCs.out wz (aA HWw.out HBz.out)).2 (HFf.out wz (aA HWw.out HBz.out)) HA.out hown2)
                  refine hK.out _ _ HBz.out (fun hS => ?_)
                  clear hK K
                  try simp only [Act.put, List.getElem_toArray, List.getElem_cons_zero, List.getElem_cons_succ, List.setIfInBounds_toArray, List.set_cons_zero, List.set_cons_succ]
                  refine wpAnyH_take (i := 6) (v := .slice (some ⟨g2, 0, none⟩) (l.length + 1) cap2) rfl (by kernel_rfl) (by kernel_rfl) (by kernel_rfl) (fun _ _ _ h => h) (Or.inl ⟨by kernel_rfl, fun W hW => by go_simp⟩) hS ?_
                  try simp only [Act.put, List.getElem_toArray, List.getElem_cons_zero, List.getElem_cons_succ, List.setIfInBounds_toArray, List.set_cons_zero, List.set_cons_succ]
                  refine wpAnyH_done (by kernel_rfl) ?_ _
                  go_wp2_with fail
                  go_meet
                  exact ⟨HRm, HBz⟩
              · rw [if_pos (by kernel_rfl)]
                try simp only [List.getElem_toArray, List.getElem_cons_zero, List.getElem_cons_succ]
                refine wp_buildSlice 53 37 1 _ rfl A i1 (.agg aI) Tryz.underlying53 hi1 hy0 (by rw [hy1]; omega) (by rw [hy1]; omega) (by rw [hy1]; exact (congrArg (Instr.fill _ _) (a₂ := [(0, Value.agg A)]) (by kernel_rfl)).trans HFill.out) ?_
                have HKb := Lib.hid (heap_alloc_new wd (.cells A 37))
                have HBb := Lib.hid (aA HBd.out (aB wd (.cells A 37)))
                refine hK.out _ _ HBb.out (fun hS => ?_)
                clear hK K
                try simp only [Act.put, List.getElem_toArray, List.getElem_cons_zero, List.getElem_cons_succ, List.setIfInBounds_toArray, List.set_cons_zero, List.set_cons_succ]
                generalize wd.alloc (.cells A 37) = wb at *
                obtain ⟨bk, hbk⟩ : ∃ n, n = wd.heap.size := ⟨_, rfl⟩
                rw [← hbk] at HKb ⊢
                clear hbk
                refine wpAnyH_ready (rs := [0]) (by kernel_rfl) (by simp) ?_
                refine AllReadyH.cons rfl (fun K hK => ?_) AllReadyH.nil
                rw [if_pos (by kernel_rfl)]
                try simp only [List.getElem_toArray, List.getElem_cons_zero, List.getElem_cons_succ]
                go_simp
                have HEe := Lib.hid (heap_alloc_new wb (.cells #[] 37))
                have HBa := Lib.hid (aA HBb.out (aB wb (.cells #[] 37)))
                have HK3 := Lib.hid (aC (aB wb (.cells #[] 37)) HKb.out)
                have hlt0 := (Array.getElem?_eq_some_iff.1 HKb.out).1
                refine hK.out _ _ HBa.out (fun hS => ?_)
                clear hK K
                try simp only [Act.put, List.getElem_toArray, List.getElem_cons_zero, List.getElem_cons_succ, List.setIfInBounds_toArray, List.set_cons_zero, List.set_cons_succ]
                have hde := HBb.out.size
                generalize wb.alloc (.cells #[] 37) = wa at *
                obtain ⟨eb, heb⟩ : ∃ n, n = wb.heap.size := ⟨_, rfl⟩
                rw [← heb] at HEe hde ⊢
                have hbe : eb ≠ bk := by omega
                clear heb
                clear HKb
                have HKb := Lib.hid HK3.out
                clear HK3
                refine wpAnyH_ready (rs := [2]) (by kernel_rfl) (by simp) ?_
                refine AllReadyH.cons rfl (fun K hK => ?_) AllReadyH.nil
                rw [if_pos (by kernel_rfl)]
                try simp only [List.getElem_toArray, List.getElem_cons_zero, List.getElem_cons_succ]
                have hlt := (Array.getElem?_eq_some_iff.1 HKb.out).1
                refine wp_append_all _ _ 53 rfl wr.heap.size 37 i1 (.agg aI) 29 408 Tryz.underlying53 hi1 hy0 hy1 hy2 rfl (by omega) eb 0 0 [] (by rfl) ⟨rfl, .inr ⟨eb, 0, #[], rfl, hde, HEe.out, Nat.le_refl _, by unfold maxLen; omega, rfl, rfl⟩⟩ (.slice al l.length cl) l.length _ (by rfl) (HCs.out wa (aA HWw.out HBa.out)).1 (by unfold maxLen; omega) (by omega) HBa.out.size ?_
                intro g1 cap1 wf hown1 hgr1 hg1
                simp only [Nat.zero_add, List.nil_append] at hown1 ⊢
                have HBf := Lib.hid (grown_newB HBa.out hgr1 hde)
                have HK2 := Lib.hid ((hgr1.block bk hlt (fun e => hbe (Option.some.inj e).symm)).trans HKb.out)
                refine hK.out _ _ HBf.out (fun hS => ?_)
                clear hK K
                try simp only [Act.put, List.getElem_toArray, List.getElem_cons_zero, List.getElem_cons_succ, List.setIfInBounds_toArray, List.set_cons_zero, List.set_cons_succ]
                clear HKb
                have HKb := Lib.hid HK2.out
                clear HK2
                refine wpAnyH_ready (rs := [5]) (by kernel_rfl) (by simp) ?_
                refine AllReadyH.cons rfl (fun K hK => ?_) AllReadyH.nil
                rw [if_pos (by kernel_rfl)]
                try simp only [List.getElem_toArray, List.getElem_cons_zero, List.getElem_cons_succ]
                have HSrc : Src wf (.slice (some ⟨bk, 0, none⟩) 1 1) 1 29 A.toList := .inr ⟨by decide, _, _, rfl, by simpa using HZA.out, World.news_of_block (cs := A) (t := 37) (fr := (0, 0)) HKb.out, fun u hu => (Array.all_eq_true_iff_forall_mem.1 HOA.out) u (by simpa using hu)⟩
                refine wp_append_all _ _ 53 rfl wr.heap.size 37 i1 (.agg aI) 29 408 Tryz.underlying53 hi1 hy0 hy1 hy2 rfl (by omega) g1 l.length cap1 css.flatten (by rfl) hown1 (.slice (some ⟨bk, 0, none⟩) 1 1) 1 A.toList (by rfl) HSrc (by unfold maxLen; omega) (by omega) HBf.out.size ?_
                intro g2 cap2 wz hown2 hgr2 hg2
                have HBz := Lib.hid (grown_newB HBf.out hgr2 (hown1.lt g1 rfl).1)
                have HRm : Hid (aK 29 encFc (fun _ => True) wz (.slice (some ⟨g2, 0, none⟩) (l.length + 1) cap2) (l ++ [f])) := Lib.hid (row_more hcl hck (HCs.out wz (aA HWw.out HBz.out)).2 (HFf.out wz (aA HWw.out HBz.out)) HA.out hown2)
                refine hK.out _ _ HBz.out (fun hS => ?_)
                clear hK K
                try simp only [Act.put, List.getElem_toArray, List.getElem_cons_zero, List.getElem_cons_succ, List.setIfInBounds_toArray, List.set_cons_zero, List.set_cons_succ]
                refine wpAnyH_take (i := 6) (v := .slice (some ⟨g2, 0, none⟩) (l.length + 1) cap2) rfl (by kernel_rfl) (by kernel_rfl) (by kernel_rfl) (fun _ _ _ h => h) (Or.inl ⟨by kernel_rfl, fun W hW => by go_simp⟩) hS ?_
                try simp only [Act.put, List.getElem_toArray, List.getElem_cons_zero, List.getElem_cons_succ, List.setIfInBounds_toArray, List.set_cons_zero, List.set_cons_succ]
                refine wpAnyH_done (by kernel_rfl) ?_ _
                go_wp2_with fail
                go_meet
                exact ⟨HRm, HBz⟩
            case rest =>
              obtain ⟨HRm, HBm⟩ := hcut
              rename World => wm
              have hrm := HRm.out
              obtain ⟨am, cm, hme, -, -, -⟩ := hrm.at
              subst hme
              clear hrm
              obtain ⟨lm, hlm9⟩ : ∃ n, n = (l ++ [f]).length := ⟨_, rfl⟩
              rw [← hlm9] at HRm ⊢
              clear hlm9
              have hlm2 : (l ++ [f]).length ≤ 1000000 := by rw [List.length_append, List.length_singleton]; omega
              have HBW := Lib.hid (aA HWw.out HBm.out)
              have HNa := Lib.hid (fun W => name24_any f p W)
              rw [← HA.out] at HNa
              obtain ⟨lb2, hlb2⟩ : ∃ b, (releaseF (l ++ [f]) s v).isSome = b := ⟨_, rfl⟩
              have HBs2 := Lib.hid hlb2
              clear hlb2
              have HXaz := Lib.hid (aC HBm.out HXa.out)
              clear HXa
              have HXa := Lib.hid HXaz.out
              clear HXaz
              have HXvz := Lib.hid (aC HBm.out HXv.out)
              clear HXv
              have HXv := Lib.hid HXvz.out
              clear HXvz
              clear HBm HWw HW HX1 HX2
              obtain ⟨⟨v0, v1, v2⟩, -⟩ := bx3 HXv.out
              go_wp2_with fail
              go_at_call 20
              refine (frel_u l s v wm (HRow.out _ HBW.out) hlm HBs.out).mono ?_
              rintro e wq ⟨hb, R1, j1, rfl, hz9, ho9, hp1⟩
              have HZR1 := Lib.hid hz9
              have Hhp1 := Lib.hid hp1
              clear v0 v1 v2 hp1
              have HNw := Lib.hid (heap_alloc_new wq (.cells #[.string ⟨#[]⟩, .int .i64 0, .int .i64 0, .int .i64 0, .string ⟨#[]⟩, .slice none 0 0, .slice none 0 0, .slice none 0 0, .string ⟨#[]⟩] 28))
              have hbn : Below wq.heap.size wq ((wq.alloc (.cells #[.string ⟨#[]⟩, .int .i64 0, .int .i64 0, .int .i64 0, .string ⟨#[]⟩, .slice none 0 0, .slice none 0 0, .slice none 0 0, .string ⟨#[]⟩] 28)).setRow wq.heap.size R1) := below_setRow (aB wq _) (Nat.le_refl _) _
              have HXr1 : Hid (((wq.alloc (.cells #[.string ⟨#[]⟩, .int .i64 0, .int .i64 0, .int .i64 0, .string ⟨#[]⟩, .slice none 0 0, .slice none 0 0, .slice none 0 0, .string ⟨#[]⟩] 28)).setRow wq.heap.size R1).heap[wq.heap.size]? = some (.cells R1 28)) := Lib.hid (setRow_heap _ _ _ _ _ _ HNw.out)
              have HBk := Lib.hid (aA hb hbn)
              have HXaz := Lib.hid (aC (aA hb hbn) HXa.out)
              clear HXa
              have HXa := Lib.hid HXaz.out
              clear HXaz
              have HXvz := Lib.hid (aC (aA hb hbn) HXv.out)
              clear HXv
              have HXv := Lib.hid HXvz.out
              clear HXvz
              have HBq := Lib.hid hbn
              go_upto_region 17 with (refine wpList_store_rowTo rfl 28 (.tmp 17) (.tmp 147) rfl rfl wq.heap.size R1 rfl rfl 28 #[.string ⟨#[]⟩, .int .i64 0, .int .i64 0, .int .i64 0, .string ⟨#[]⟩, .slice none 0 0, .slice none 0 0, .slice none 0 0, .string ⟨#[]⟩] ?hg (by rw [hz9]; kernel_rfl) (by rw [hz9]; rfl) ho9 ?_; (case hg => exact HNw.out))
              try simp only [Act.put, List.getElem_toArray, List.getElem_cons_zero, List.getElem_cons_succ, List.setIfInBounds_toArray, List.set_cons_zero, List.set_cons_succ]
              clear HNw hz9 ho9 hb hbn
              generalize ((wq.alloc (.cells #[.string ⟨#[]⟩, .int .i64 0, .int .i64 0, .int .i64 0, .string ⟨#[]⟩, .slice none 0 0, .slice none 0 0, .slice none 0 0, .string ⟨#[]⟩] 28)).setRow wq.heap.size R1) = wn at *
              obtain ⟨r1, hr1⟩ : ∃ n, n = wq.heap.size := ⟨_, rfl⟩
              rw [← hr1] at HXr1 ⊢
              clear hr1
              have HBW1 := Lib.hid (aA HBW.out HBk.out)
              have HRm1 := Lib.hid (HRm.out.moves encFc_ok (aM.later HBk.out) (by decide))
              clear HBW HRm
              obtain ⟨⟨v0, v1, v2⟩, -⟩ := bx3 HXv.out
              have HBk1 := Lib.hid HBk.out
              have HBq1 := Lib.hid HBq.out
              clear HBk HBq
              go_wp2_with fail
              go_at_call 20
              refine (frel_u (l ++ [f]) s v wn HRm1.out hlm2 HBs2.out).mono ?_
              rintro e wq ⟨hb, R2, j2, rfl, hz9, ho9, hp2⟩
              have HZR2 := Lib.hid hz9
              have Hhp2 := Lib.hid hp2
              clear v0 v1 v2 hp2
              have HNw := Lib.hid (heap_alloc_new wq (.cells #[.string ⟨#[]⟩, .int .i64 0, .int .i64 0, .int .i64 0, .string ⟨#[]⟩, .slice none 0 0, .slice none 0 0, .slice none 0 0, .string ⟨#[]⟩] 28))
              have hbn : Below wq.heap.size wq ((wq.alloc (.cells #[.string ⟨#[]⟩, .int .i64 0, .int .i64 0, .int .i64 0, .string ⟨#[]⟩, .slice none 0 0, .slice none 0 0, .slice none 0 0, .string ⟨#[]⟩] 28)).setRow wq.heap.size R2) := below_setRow (aB wq _) (Nat.le_refl _) _
              have HXr2 : Hid (((wq.alloc (.cells #[.string ⟨#[]⟩, .int .i64 0, .int .i64 0, .int .i64 0, .string ⟨#[]⟩, .slice none 0 0, .slice none 0 0, .slice none 0 0, .string ⟨#[]⟩] 28)).setRow wq.heap.size R2).heap[wq.heap.size]? = some (.cells R2 28)) := Lib.hid (setRow_heap _ _ _ _ _ _ HNw.out)
              have HBk := Lib.hid (aA hb hbn)
              have HXaz := Lib.hid (aC (aA hb hbn) HXa.out)
              clear HXa
              have HXa := Lib.hid HXaz.out
              clear HXaz
              have HXvz := Lib.hid (aC (aA hb hbn) HXv.out)
              clear HXv
              have HXv := Lib.hid HXvz.out
              clear HXvz
              have HXr1z := Lib.hid (aC (aA hb hbn) HXr1.out)
              clear HXr1
              have HXr1 := Lib.hid HXr1z.out
              clear HXr1z
              have HBq := Lib.hid hbn
              go_upto_region 18 with (refine wpList_store_rowTo rfl 28 (.tmp 20) (.tmp 155) rfl rfl wq.heap.size R2 rfl rfl 28 #[.string ⟨#[]⟩, .int .i64 0, .int .i64 0, .int .i64 0, .string ⟨#[]⟩, .slice none 0 0, .slice none 0 0, .slice none 0 0, .string ⟨#[]⟩] ?hg (by rw [hz9]; kernel_rfl) (by rw [hz9]; rfl) ho9 ?_; (case hg => exact HNw.out))
              try simp only [Act.put, List.getElem_toArray, List.getElem_cons_zero, List.getElem_cons_succ, List.setIfInBounds_toArray, List.set_cons_zero, List.set_cons_succ]
              clear HNw hz9 ho9 hb hbn
              generalize ((wq.alloc (.cells #[.string ⟨#[]⟩, .int .i64 0, .int .i64 0, .int .i64 0, .string ⟨#[]⟩, .slice none 0 0, .slice none 0 0, .slice none 0 0, .string ⟨#[]⟩] 28)).setRow wq.heap.size R2) = wo at *
              obtain ⟨r2, hr2⟩ : ∃ n, n = wq.heap.size := ⟨_, rfl⟩
              rw [← hr2] at HXr2 ⊢
              clear hr2
              have HBW2 := Lib.hid (aA HBW1.out HBk.out)
              have HRm2 := Lib.hid (HRm1.out.moves encFc_ok (aM.later HBk.out) (by decide))
              go_cut [178] from 158 to 178 (fun bv wx => bv = .bool false ∧ Hid (Below wo.heap.size wo wx))
              case first =>
                cases lb with
                | true =>
                  obtain ⟨j, hj⟩ := Option.isSome_iff_exists.1 HBs.out
                  obtain ⟨g, hg, -⟩ := release_at hj
                  have hjm := release_more f hj
                  have hgm : (l ++ [f])[j]? = some g := by rw [List.getElem?_append_left ((List.getElem?_eq_some_iff.1 hg).1)]; exact hg
                  have hlb2 : lb2 = true := by rw [← HBs2.out, hjm]; rfl
                  subst hlb2
                  obtain ⟨rfl, N1, n1, f1, p1, e1, k1⟩ := Hhp1.out j g hj hg
                  obtain ⟨rfl, N2, n2, f2, p2, e2, k2⟩ := Hhp2.out j g hjm hgm
                  have HSr : Hid (∀ W, Below wo.heap.size wo W → Calls Tryz.prog 22 #[.agg R1, .agg R2] W fun e w' => e = .returned (.bool true) ∧ Below W.heap.size W w') := Lib.hid (fun W hW => by rw [e1, e2]; exact sameRelease_true g.rel W (k1.later (aA HBq1.out (aA HBk.out hW))) (k2.later (aA HBq.out hW)))
                  clear e1 e2 k1 k2 hj hg hjm hgm
                  go_wp2_with (first | (refine loadRd (n := 172) rfl (x := .tmp 17) rfl (by kernel_rfl) r1 rfl R1 HXr1.out HZR1.out ?_) | (refine loadRd (n := 173) rfl (x := .tmp 20) rfl (by kernel_rfl) r2 rfl R2 HXr2.out HZR2.out ?_))
                  go_at_call 22
                  refine (HSr.out _ (Below.refl _ _)).mono ?_
                  rintro e wp ⟨rfl, hb⟩
                  go_wp2_with fail
                  go_meet
                  exact ⟨rfl, Lib.hid hb⟩
                | false =>
                  skip
                  go_wp2_with fail
                  go_meet
                  exact ⟨rfl, Lib.hid (Below.refl _ _)⟩
              case rest =>
                obtain ⟨rfl, hd⟩ := hcut
                rename World => wp
                have HBW3 := Lib.hid (aA HBW2.out hd.out)
                have HRm3 := Lib.hid (HRm2.out.moves encFc_ok (aM.later hd.out) (by decide))
                have HXaz := Lib.hid (aC hd.out HXa.out)
                clear HXa
                have HXa := Lib.hid HXaz.out
                clear HXaz
                have HXvz := Lib.hid (aC hd.out HXv.out)
                clear HXv
                have HXv := Lib.hid HXvz.out
                clear HXvz
                clear hd HRm2 HRm1 HBW2 HBW1 Hhp1 Hhp2 HXr1 HXr2 HBk HBq HBk1 HBq1
                obtain ⟨⟨v0, v1, v2⟩, -⟩ := bx3 HXv.out
                go_wp2_with fail
                go_at_call 23
                refine (verdict_any l s v _ (HRow.out _ HBW3.out) hlm).mono ?_
                rintro e w30 ⟨rfl, hb⟩
                have HBW4 := Lib.hid (aA HBW3.out hb)
                have HRm4 := Lib.hid (HRm3.out.moves encFc_ok (aM.later hb) (by decide))
                have HXaz := Lib.hid (aC hb HXa.out)
                clear HXa
                have HXa := Lib.hid HXaz.out
                clear HXaz
                have HXvz := Lib.hid (aC hb HXv.out)
                clear HXv
                have HXv := Lib.hid HXvz.out
                clear HXvz
                clear hb v0 v1 v2 HBW3 HRm3
                obtain ⟨⟨v0, v1, v2⟩, -⟩ := bx3 HXv.out
                go_wp2_with fail
                go_at_call 23
                refine (verdict_any (l ++ [f]) s v _ HRm4.out hlm2).mono ?_
                rintro e w40 ⟨rfl, hb⟩
                have HBW5 := Lib.hid (aA HBW4.out hb)
                have HRm5 := Lib.hid (HRm4.out.moves encFc_ok (aM.later hb) (by decide))
                have HXaz := Lib.hid (aC hb HXa.out)
                clear HXa
                have HXa := Lib.hid HXaz.out
                clear HXaz
                have HXvz := Lib.hid (aC hb HXv.out)
                clear HXv
                have HXv := Lib.hid HXvz.out
                clear HXvz
                clear hb v0 v1 v2 HBW4 HRm4
                obtain ⟨⟨v0, v1, v2⟩, -⟩ := bx3 HXv.out
                go_wp2_with fail
                go_at_call 24
                refine (yanked_any l s v _ (HRow.out _ HBW5.out) hlm).mono ?_
                rintro e w50 ⟨rfl, hb⟩
                have HBW6 := Lib.hid (aA HBW5.out hb)
                have HRm6 := Lib.hid (HRm5.out.moves encFc_ok (aM.later hb) (by decide))
                have HXaz := Lib.hid (aC hb HXa.out)
                clear HXa
                have HXa := Lib.hid HXaz.out
                clear HXaz
                have HXvz := Lib.hid (aC hb HXv.out)
                clear HXv
                have HXv := Lib.hid HXvz.out
                clear HXvz
                clear hb v0 v1 v2 HBW5 HRm5
                obtain ⟨⟨v0, v1, v2⟩, -⟩ := bx3 HXv.out
                go_wp2_with fail
                go_at_call 24
                refine (yanked_any (l ++ [f]) s v _ HRm6.out hlm2).mono ?_
                rintro e w60 ⟨rfl, hb⟩
                have HBW7 := Lib.hid (aA HBW6.out hb)
                have HRm7 := Lib.hid (HRm6.out.moves encFc_ok (aM.later hb) (by decide))
                have HXaz := Lib.hid (aC hb HXa.out)
                clear HXa
                have HXa := Lib.hid HXaz.out
                clear HXaz
                have HXvz := Lib.hid (aC hb HXv.out)
                clear HXv
                have HXv := Lib.hid HXvz.out
                clear HXvz
                clear hb v0 v1 v2 HBW6 HRm6
                have HBW := Lib.hid HBW7.out
                have HRm := Lib.hid HRm7.out
                clear HBW7 HRm7
                obtain ⟨⟨v0, v1, v2⟩, -⟩ := bx3 HXv.out
                have x0 := cfA HXa.out HQ0.out
                have x1 := cfA HXa.out HQ1.out
                have x2 := cfA HXa.out HQ2.out
                have x3 := cfA HXa.out HQ3.out
                have x4 := cfA HXa.out HQ4.out
                have x27 := cfA HXa.out HQ27.out
                go_upto_region 24 with (fail)
                try simp only [Act.put, List.getElem_toArray, List.getElem_cons_zero, List.getElem_cons_succ, List.setIfInBounds_toArray, List.set_cons_zero, List.set_cons_succ]
                go_cut [29] from 201 to 210 (fun hv wx => hv = .bool (hereF f s v) ∧ wx = w60)
                case first =>
                  have HHr : Hid (hereF f s v = (decide (f.name = s) && decide (f.ver = v))) := Lib.hid rfl
                  by_cases h3 : f.name = s
                  · have g3 : (f.name.toList == s.toList) = true := by rw [h3]; simp
                    have HH3 := Lib.hid h3
                    clear h3
                    have hveq := fun W => eqVer f.ver v W
                    go_wp2_with fail
                    go_meet
                    exact ⟨by rw [HHr.out, decide_eq_true HH3.out, Bool.true_and], rfl⟩
                  · have g3 : (f.name.toList == s.toList) = false := cO h3
                    go_wp2_with fail
                    go_meet
                    exact ⟨by rw [HHr.out, decide_eq_false h3]; rfl, rfl⟩
                case rest =>
                  obtain ⟨rfl, rfl⟩ := hcut
                  generalize hhe : hereF f s v = he at *
                  have HHe := Lib.hid hhe
                  clear hhe x1 x2 x3 x4 v0 v1 v2
                  cases he with
                  | true =>
                    by_cases h1 : f.kind = 1
                    · have hy2 : fY (l ++ [f]) s v = true := by rw [yanked_more, if_pos ⟨HHe.out, .inl h1⟩, decide_eq_true h1]
                      rw [h1] at x0
                      rw [hy2]
                      clear hy2 h1
                      go_wp2_with fail
                      go_ret
                      exact ⟨rfl, HBW.out⟩
                    · by_cases h2 : f.kind = 2
                      · have hy2 : fY (l ++ [f]) s v = false := by rw [yanked_more, if_pos ⟨HHe.out, .inr h2⟩, decide_eq_false h1]
                        rw [h2] at x0
                        rw [hy2]
                        clear hy2 h1 h2
                        go_wp2_with fail
                        go_ret
                        exact ⟨rfl, HBW.out⟩
                      · by_cases h7 : f.kind = 7
                        · have hv2 : verdictF (l ++ [f]) s v = (f.print, true) := by rw [verdict_more, if_pos ⟨HHe.out, h7⟩]
                          have hy2 : fY (l ++ [f]) s v = fY l s v := by rw [yanked_more, if_neg (fun h => h.2.elim h1 h2)]
                          rw [h7] at x0
                          rw [hy2, hv2]
                          clear hy2 hv2 h1 h2 h7
                          generalize fY l s v = yk at *
                          go_wp2_with fail
                          go_ret
                          exact ⟨rfl, HBW.out⟩
                        · have HNo7 : Hid (¬ (hereF f s v = true ∧ f.kind = 7)) := Lib.hid (fun h => h7 h.2)
                          have HNo12 : Hid (¬ (hereF f s v = true ∧ (f.kind = 1 ∨ f.kind = 2))) := Lib.hid (fun h => h.2.elim h1 h2)
                          have g1 : (f.kind == 1) = false := beq_eq_false_iff_ne.2 h1
                          have g2 : (f.kind == 2) = false := beq_eq_false_iff_ne.2 h2
                          have g7 : (f.kind == 7) = false := beq_eq_false_iff_ne.2 h7
                          clear x27 h1 h2 h7
                          have hvd : verdictF (l ++ [f]) s v = verdictF l s v := by rw [verdict_more, if_neg HNo7.out]
                          have hyk : fY (l ++ [f]) s v = fY l s v := by rw [yanked_more, if_neg HNo12.out]
                          rw [hvd, hyk]
                          clear hvd hyk
                          generalize verdictF l s v = vd at *
                          generalize fY l s v = yk at *
                          obtain ⟨vm, vh⟩ := vd
                          obtain ⟨⟨v0, v1, v2⟩, -⟩ := bx3 HXv.out
                          go_wp2_with fail
                          go_at_call 25
                          refine (advices_any l s v _ (HRow.out _ HBW.out) hlm).mono ?_
                          rintro e wa ⟨hb, Na, ua, rfl, hra⟩
                          have HRa := Lib.hid hra
                          have HBW1 := Lib.hid (aA HBW.out hb)
                          have HRm1 := Lib.hid (HRm.out.moves encFc_ok (aM.later hb) (by decide))
                          have HXaz := Lib.hid (aC hb HXa.out)
                          clear HXa
                          have HXa := Lib.hid HXaz.out
                          clear HXaz
                          have HXvz := Lib.hid (aC hb HXv.out)
                          clear HXv
                          have HXv := Lib.hid HXvz.out
                          clear HXvz
                          clear hra hb v0 v1 v2 HBW HRm
                          obtain ⟨⟨v0, v1, v2⟩, -⟩ := bx3 HXv.out
                          go_wp2_with fail
                          go_at_call 25
                          refine (advices_any (l ++ [f]) s v _ HRm1.out hlm2).mono ?_
                          rintro e wb ⟨hb, Nb, ub, rfl, hrb⟩
                          have HRb := Lib.hid hrb
                          have HRa2 := Lib.hid (HRa.out.moves bH (aM.later hb) (by decide))
                          have HBW2 := Lib.hid (aA HBW1.out hb)
                          have HRm2 := Lib.hid (HRm1.out.moves encFc_ok (aM.later hb) (by decide))
                          have HXaz := Lib.hid (aC hb HXa.out)
                          clear HXa
                          have HXa := Lib.hid HXaz.out
                          clear HXaz
                          have HXvz := Lib.hid (aC hb HXv.out)
                          clear HXv
                          have HXv := Lib.hid HXvz.out
                          clear HXvz
                          clear hrb hb v0 v1 v2 HRm1 HRa
                          go_wp2_with (refine loadFd (n := 261) rfl (x := .tmp 5) rfl (by kernel_rfl) w.heap.size rfl A HXa.out HZA.out ?_)
                          go_at_call 11
                          refine (HNa.out _).mono ?_
                          rintro e wc ⟨rfl, hb⟩
                          have HBW3 := Lib.hid (aA HBW2.out hb)
                          have HRm3 := Lib.hid (HRm2.out.moves encFc_ok (aM.later hb) (by decide))
                          have HRa3 := Lib.hid (HRa2.out.moves bH (aM.later hb) (by decide))
                          have HRb3 := Lib.hid (HRb.out.moves bH (aM.later hb) (by decide))
                          clear hb HRm2 HRa2 HRb
                          by_cases hn : dZ f = s
                          · have gn : ((dZ f).toList == s.toList) = true := by rw [hn]; simp
                            clear hn
                            generalize dZ f = nf at *
                            go_wp2_with fail
                            go_ret
                            exact ⟨rfl, HBW3.out⟩
                          · have gn : ((dZ f).toList == s.toList) = false := cO hn
                            have hlb2 : lb2 = lb := by rw [← HBs2.out, ← HBs.out, release_none hn]
                            have HRq := Lib.hid (HRln.out hn)
                            have HAd := Lib.hid (advices_none (l := l) (v := v) hn)
                            subst hlb2
                            clear hn HBs HBs2
                            generalize dZ f = nf at *
                            go_wp2_with fail
                            go_at_call 19
                            refine (releasesAll_any (l ++ [f]) s _ HRm3.out hlm2).mono ?_
                            rintro e wd ⟨hb, Nd, ad, cd, rfl, -⟩
                            rw [HRq.out]
                            have HBW4 := Lib.hid (aA HBW3.out hb)
                            have HRa4 := Lib.hid (HRa3.out.moves bH (aM.later hb) (by decide))
                            have HRb4 := Lib.hid (HRb3.out.moves bH (aM.later hb) (by decide))
                            clear hb
                            have HSn : Hid (Calls Tryz.prog 26 #[ua, ub] wd fun e w' => e = .returned (.bool true) ∧ Below wd.heap.size wd w') := Lib.hid (sameNums_true (advicesF l s v) wd HRa4.out (by have h9 := HRb4.out; rw [HAd.out] at h9; exact h9))
                            go_wp2_with fail
                            go_at_call 26
                            refine HSn.out.mono ?_
                            rintro e we ⟨rfl, hb⟩
                            have HBW5 := Lib.hid (aA HBW4.out hb)
                            clear hb
                            go_wp2_with fail
                            go_ret
                            exact ⟨rfl, HBW5.out⟩
                  | false =>
                    have HNo7 : Hid (¬ (hereF f s v = true ∧ f.kind = 7)) := Lib.hid (fun h => by rw [HHe.out] at h; cases h.1)
                    have HNo12 : Hid (¬ (hereF f s v = true ∧ (f.kind = 1 ∨ f.kind = 2))) := Lib.hid (fun h => by rw [HHe.out] at h; cases h.1)
                    clear x0 x27
                    have hvd : verdictF (l ++ [f]) s v = verdictF l s v := by rw [verdict_more, if_neg HNo7.out]
                    have hyk : fY (l ++ [f]) s v = fY l s v := by rw [yanked_more, if_neg HNo12.out]
                    rw [hvd, hyk]
                    clear hvd hyk
                    generalize verdictF l s v = vd at *
                    generalize fY l s v = yk at *
                    obtain ⟨vm, vh⟩ := vd
                    obtain ⟨⟨v0, v1, v2⟩, -⟩ := bx3 HXv.out
                    go_wp2_with fail
                    go_at_call 25
                    refine (advices_any l s v _ (HRow.out _ HBW.out) hlm).mono ?_
                    rintro e wa ⟨hb, Na, ua, rfl, hra⟩
                    have HRa := Lib.hid hra
                    have HBW1 := Lib.hid (aA HBW.out hb)
                    have HRm1 := Lib.hid (HRm.out.moves encFc_ok (aM.later hb) (by decide))
                    have HXaz := Lib.hid (aC hb HXa.out)
                    clear HXa
                    have HXa := Lib.hid HXaz.out
                    clear HXaz
                    have HXvz := Lib.hid (aC hb HXv.out)
                    clear HXv
                    have HXv := Lib.hid HXvz.out
                    clear HXvz
                    clear hra hb v0 v1 v2 HBW HRm
                    obtain ⟨⟨v0, v1, v2⟩, -⟩ := bx3 HXv.out
                    go_wp2_with fail
                    go_at_call 25
                    refine (advices_any (l ++ [f]) s v _ HRm1.out hlm2).mono ?_
                    rintro e wb ⟨hb, Nb, ub, rfl, hrb⟩
                    have HRb := Lib.hid hrb
                    have HRa2 := Lib.hid (HRa.out.moves bH (aM.later hb) (by decide))
                    have HBW2 := Lib.hid (aA HBW1.out hb)
                    have HRm2 := Lib.hid (HRm1.out.moves encFc_ok (aM.later hb) (by decide))
                    have HXaz := Lib.hid (aC hb HXa.out)
                    clear HXa
                    have HXa := Lib.hid HXaz.out
                    clear HXaz
                    have HXvz := Lib.hid (aC hb HXv.out)
                    clear HXv
                    have HXv := Lib.hid HXvz.out
                    clear HXvz
                    clear hrb hb v0 v1 v2 HRm1 HRa
                    go_wp2_with (refine loadFd (n := 261) rfl (x := .tmp 5) rfl (by kernel_rfl) w.heap.size rfl A HXa.out HZA.out ?_)
                    go_at_call 11
                    refine (HNa.out _).mono ?_
                    rintro e wc ⟨rfl, hb⟩
                    have HBW3 := Lib.hid (aA HBW2.out hb)
                    have HRm3 := Lib.hid (HRm2.out.moves encFc_ok (aM.later hb) (by decide))
                    have HRa3 := Lib.hid (HRa2.out.moves bH (aM.later hb) (by decide))
                    have HRb3 := Lib.hid (HRb.out.moves bH (aM.later hb) (by decide))
                    clear hb HRm2 HRa2 HRb
                    by_cases hn : dZ f = s
                    · have gn : ((dZ f).toList == s.toList) = true := by rw [hn]; simp
                      clear hn
                      generalize dZ f = nf at *
                      go_wp2_with fail
                      go_ret
                      exact ⟨rfl, HBW3.out⟩
                    · have gn : ((dZ f).toList == s.toList) = false := cO hn
                      have hlb2 : lb2 = lb := by rw [← HBs2.out, ← HBs.out, release_none hn]
                      have HRq := Lib.hid (HRln.out hn)
                      have HAd := Lib.hid (advices_none (l := l) (v := v) hn)
                      subst hlb2
                      clear hn HBs HBs2
                      generalize dZ f = nf at *
                      go_wp2_with fail
                      go_at_call 19
                      refine (releasesAll_any (l ++ [f]) s _ HRm3.out hlm2).mono ?_
                      rintro e wd ⟨hb, Nd, ad, cd, rfl, -⟩
                      rw [HRq.out]
                      have HBW4 := Lib.hid (aA HBW3.out hb)
                      have HRa4 := Lib.hid (HRa3.out.moves bH (aM.later hb) (by decide))
                      have HRb4 := Lib.hid (HRb3.out.moves bH (aM.later hb) (by decide))
                      clear hb
                      have HSn : Hid (Calls Tryz.prog 26 #[ua, ub] wd fun e w' => e = .returned (.bool true) ∧ Below wd.heap.size wd w') := Lib.hid (sameNums_true (advicesF l s v) wd HRa4.out (by have h9 := HRb4.out; rw [HAd.out] at h9; exact h9))
                      go_wp2_with fail
                      go_at_call 26
                      refine HSn.out.mono ?_
                      rintro e we ⟨rfl, hb⟩
                      have HBW5 := Lib.hid (aA HBW4.out hb)
                      clear hb
                      go_wp2_with fail
                      go_ret
                      exact ⟨rfl, HBW5.out⟩
end Go.Proofs.YtmpopphjaggeoaaGreatDoor
