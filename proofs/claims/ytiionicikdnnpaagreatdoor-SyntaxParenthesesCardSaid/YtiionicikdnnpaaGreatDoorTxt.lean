/- Walk of lex.Text: the tokens' texts with blanks between them. -/
import Derived.Test.YtiionicikdnnpaaGreatDoorTopY
import Derived.Test.YtiionicikdnnpaaGreatDoorShJ
import Derived.Test.YtiionicikdnnpaaGreatDoorSynMo
namespace Go.Proofs.YtiionicikdnnpaaGreatDoor
open Go.RowKit
set_option linter.unusedSimpArgs false
set_option linter.unusedVariables false

/-- The texts of the tokens that are no end. -/
def wordsT (l : List Tok) : List ByteArray := (l.filter fun t => decide (t.kind ≠ 3)).map (·.text)
theorem wordsT_yes {l : List Tok} {q : Nat} {t : Tok} (h : l[q]? = some t) (hk : t.kind ≠ 3) : wordsT (l.take (q + 1)) = wordsT (l.take q) ++ [t.text] := by
  unfold wordsT
  rw [List.take_add_one, h, List.filter_append, List.map_append]
  simp [hk]
theorem wordsT_no {l : List Tok} {q : Nat} {t : Tok} (h : l[q]? = some t) (hk : t.kind = 3) : wordsT (l.take (q + 1)) = wordsT (l.take q) := by
  unfold wordsT
  rw [List.take_add_one, h, List.filter_append, List.map_append]
  simp [hk]
theorem wordsT_len (l : List Tok) : (wordsT l).length ≤ l.length := by
  unfold wordsT
  rw [List.length_map]
  exact List.length_filter_le _ _
theorem joinT_join : ∀ ts : List ByteArray, Lib.join (ts.map (·.data.toList)) [32] = iI ts
  | [] => rfl
  | [x] => by simp [Lib.join, List.intercalate, iI]
  | x :: y :: r => by
    have h := joinT_join (y :: r)
    rw [iI, ← h]
    simp [Lib.join, List.intercalate, List.intersperse]
theorem joinT_le : ∀ (ts : List ByteArray) (B : Nat), (∀ t ∈ ts, t.size ≤ B) → (iI ts).length ≤ ts.length * (B + 1)
  | [], B, _ => by simp [iI]
  | [x], B, h => by
    have h1 := h x (by simp)
    have h2 : x.data.toList.length = x.size := by rw [Array.length_toList]; rfl
    simp [iI]
    omega
  | x :: y :: r, B, h => by
    have h1 := h x (by simp)
    have h2 : x.data.toList.length = x.size := by rw [Array.length_toList]; rfl
    have h3 := joinT_le (y :: r) B (fun t ht => h t (by simp [ht]))
    rw [iI, List.length_append, List.length_cons, h2, List.length_cons (a := x), Nat.succ_mul]
    omega
set_option maxRecDepth 100000 in
set_option maxHeartbeats 8000000 in
/-- lex.Text. -/
theorem text_any (l : List Tok) (N : Nat → Prop) (v : Value) (w : World) (hn : l.length ≤ 20000) (hl : aO 4 encTok N w v l) :
    Calls Tryz.prog 37 #[v] w fun e w' => e = .returned (.string (bs (iI (wordsT l)))) ∧ Below w.heap.size w w' := by
  obtain ⟨i0, hi0, hz0, hz1, hz2⟩ := info_parts strInfo1
  obtain ⟨a1, c1, rfl, la1, la2, HA0⟩ := hl.at
  have HA := Lib.hid HA0
  clear HA0 hl
  go_enter Tryz.func37, Tryz.ntmps37
  go_wp2_with fail
  go_loopw [3, 8] (fun pv iv wr => ∃ (q : Nat) (out : List ByteArray) (css : List (List Value)), q ≤ l.length ∧ iv = .int .i64 (q : Int) ∧ Hid (Below w.heap.size w wr) ∧ Hid (out = wordsT (l.take q)) ∧ out.length ≤ q ∧ Hid (Gro 1 9 iD w.heap.size out css pv wr)) (fun _ iv _ => l.length - (intOf iv).toNat)
  case atStart => exact ⟨0, [], [], Nat.zero_le _, rfl, Lib.hid (Below.refl _ _), Lib.hid rfl, Nat.le_refl _, Lib.hid (Gro.first _ _ _ _)⟩
  case round =>
    obtain ⟨q, out, css, hq, rfl, HW, HO, hol, HG⟩ := hrel
    rename World => wr
    by_cases hlt : q < l.length
    · obtain ⟨x, hx, -⟩ := getElem?_of_lt hlt
      have hq0 : (0 : Int) ≤ (q : Int) ∧ (q : Int) < (l.length : Int) := by omega
      have HXm := Lib.hid hx
      obtain ⟨kd, tx, nn, po⟩ := x
      obtain ⟨b1, o1, rfl, -, cs1, ⟨rfl, hts⟩, -, hj1⟩ := HA.out q _ hx
      have htz : tx.size ≤ 8000 := hts
      have p0 : wr.cell? ⟨b1, o1 + q * 4, none⟩ = some (.int .i64 kd) := aD HW.out (hj1 0 _ rfl)
      have p1 := aD HW.out (hj1 1 _ rfl)
      have p2 := aD HW.out (hj1 2 _ rfl)
      have p3 := aD HW.out (hj1 3 _ rfl)
      have HX := Lib.hid (heap_alloc_new wr (.cells #[.int .i64 kd, .string tx, .int .i64 nn, .int .i64 po] 59))
      have hX := HX.out
      obtain ⟨y0, y1, y2, y3⟩ := bx4 hX
      have HW2 := Lib.hid (aA HW.out (aB wr (.cells #[.int .i64 kd, .string tx, .int .i64 nn, .int .i64 po] 59)))
      have HG2 := Lib.hid (HG.out.later bP (aB wr (.cells #[.int .i64 kd, .string tx, .int .i64 nn, .int .i64 po] 59)))
      clear hX hj1 hx hts
      by_cases hk : kd = 3
      · have HO2 : Hid (out = wordsT (l.take (q + 1))) := Lib.hid (by rw [HO.out]; exact (wordsT_no HXm.out hk).symm)
        subst hk
        go_wp2_with fail
        go_roundw
        case rel => exact ⟨q + 1, out, css, by omega, by go_num, HW2, HO2, by omega, HG2⟩
        case measure => simp [intOf]; omega
      · have HO2 : Hid (out ++ [tx] = wordsT (l.take (q + 1))) := Lib.hid (by rw [HO.out]; exact (wordsT_yes HXm.out hk).symm)
        have hne : (kd != 3) = true := by rw [bne_iff_ne]; exact hk
        have HG3 := Lib.hid (HG2.out.later bP (aB _ (.cells #[.string tx] 9)))
        have hbig := HG3.out.big
        clear hk
        go_wp2_with (at_builtin; refine wpList_append_lies _ rfl _ _ 23 rfl w.heap.size 9 i0 (.string ByteArray.empty) 1 16 Tryz.underlying23 hi0 hz0 hz1 hz2 rfl (by omega) _ out.length css.flatten (by rfl) HG3.out.own ⟨wr.heap.size + 1, 0, none⟩ 1 1 [.string tx] (by rfl) rfl (World.news_of_block (cs := #[.string tx]) (t := 9) (fr := (0, 0)) (by simpa using heap_alloc_new (wr.alloc (.cells #[.int .i64 kd, .string tx, .int .i64 nn, .int .i64 po] 59)) _)) (by simp [Value.oneCell']) (by omega) (by unfold maxLen; omega) (by omega) hbig (wr.heap.size + 1 + 1) (by simp) ?_)
        intro g cap w2 hown hgrow hat _
        have HNew := Lib.hid (HG3.out.added bP (x := tx) ⟨rfl, by omega⟩ rfl hown hgrow (by simpa using hat))
        have HW3 := Lib.hid (grown_belowB (aA HW2.out (aB _ (.cells #[.string tx] 9))) hgrow (fun b hb => (HG3.out.lt b hb).1))
        clear hown hgrow hat HG3 HG2 HG
        go_wp2_with fail
        go_roundw
        case rel => exact ⟨q + 1, out ++ [tx], css ++ [[.string tx]], by omega, by go_num, HW3, HO2, by rw [List.length_append, List.length_singleton]; omega, HNew⟩
        case measure => simp [intOf]; omega
    · have hO : out = wordsT l := by rw [HO.out, List.take_of_length_le (by omega)]
      have HR := Lib.hid (HG.out.row bP)
      have hle : out.length ≤ 20000 := by omega
      have hsz : ∀ t ∈ out, t.size ≤ 8000 := fun t ht => by
        rw [hO] at ht
        unfold wordsT at ht
        obtain ⟨tk, htk, rfl⟩ := List.mem_map.1 ht
        obtain ⟨i, hi⟩ := List.mem_iff_getElem?.1 (List.mem_filter.1 htk).1
        obtain ⟨b1, o1, -, -, cs1, ⟨-, hts⟩, -⟩ := HA.out i _ hi
        exact hts
      have HLen : Hid ((Lib.join (out.map (·.data.toList)) [32]).length ≤ 140737488355328) := Lib.hid (by
        rw [joinT_join]
        have h1 := joinT_le out 8000 hsz
        have h2 : out.length * (8000 + 1) ≤ 20000 * 8001 := Nat.mul_le_mul hle (Nat.le_refl _)
        omega)
      have HE : Hid (bs (iI (wordsT l)) = (⟨(Lib.join (out.map (·.data.toList)) [32]).toArray⟩ : ByteArray)) := Lib.hid (by rw [joinT_join, hO])
      clear hsz hO HA HO
      rcases HR.out.cases (by decide) with ⟨rfl, a, c, rfl⟩ | ⟨b, o, c, rfl, h0, h1, h2, hb, hN, hc⟩
      · go_wp2_with fail
        refine (Tryz.strings_Join_none a c ⟨#[32]⟩ wr).mono ?_
        rintro e w' ⟨rfl, rfl⟩
        go_wp2_with fail
        go_ret
        exact ⟨by rw [HE.out]; rfl, HW.out⟩
      · have HC := Lib.hid (fun j x (hx : out[j]? = some x) => (show wr.cell? ⟨b, o + j, none⟩ = some (.string x) from by
          obtain ⟨cs, ⟨rfl, -⟩, -, hj⟩ := hc j x hx
          simpa using hj 0 _ rfl))
        clear hc
        go_wp2_with fail
        refine (Tryz.strings_Join b o c out ⟨#[32]⟩ wr HC.out hb (by omega) h1 HLen.out).mono ?_
        rintro e w' ⟨rfl, hb2⟩
        go_wp2_with fail
        go_ret
        exact ⟨by rw [HE.out]; rfl, aA HW.out hb2⟩
end Go.Proofs.YtiionicikdnnpaaGreatDoor
