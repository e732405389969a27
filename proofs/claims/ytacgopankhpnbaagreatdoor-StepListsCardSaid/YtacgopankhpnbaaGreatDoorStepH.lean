/- Walks of package step: the sandbox's list. -/
import Derived.Test.YtacgopankhpnbaaGreatDoorStepG
import Derived.OpenShut
namespace Go.Proofs.YtacgopankhpnbaaGreatDoor
open Go.RowKit

set_option maxHeartbeats 1000000 in
theorem list_sorted (b : Nat) (names : List ByteArray) (vn : Value) (w : World) (hn : Strs w vn names) (hz : names.length * 16 ≤ 140737488355328) :
    Calls Tryz.prog 87 #[.pointer (some ⟨b, 0, none⟩), vn, .bool true] w fun e w' => ∃ v, e = .returned v ∧ Strs w' v (sortB names) ∧ (∀ a n c, v = .slice (some a) n c → w.heap.size ≤ a.block) ∧ Below w.heap.size w w' := by
  obtain ⟨a, c, hv, -⟩ := id hn
  subst hv
  have HS : Hid (∀ W, Below w.heap.size w W → W.cell? ⟨w.heap.size, 0, none⟩ = some (.slice a names.length c) → Calls Tryz.prog 116 #[.func (.func 160) #[] #[.pointer (some ⟨w.heap.size, 0, none⟩)]] W fun e w' => ∃ v, e = .returned v ∧ OwnStrs W.heap.size w' v (sortB names) ∧ Below W.heap.size W w') :=
    Lib.hid fun W hb hc => sortedSeq_any _ _ names W hc (hn.later hb) hz
  clear hn
  go_enter Tryz.func87, Tryz.ntmps87
  go_wp2_with fail
  refine (values_any _ _ _ _).mono ?_
  rintro e w1 ⟨rfl, rfl⟩
  go_wp2_with fail
  refine (HS.out _ (below_alloc _ _) (by simp)).mono ?_
  rintro e w2 ⟨v, rfl, hO, hb⟩
  obtain ⟨a2, c2, hv2, -⟩ := id hO.strs
  subst hv2
  have HO := Lib.hid hO; clear hO
  go_wp2_with fail
  go_ret
  exact ⟨_, rfl, HO.out.strs, HO.out.block (by simp), below_trans (below_alloc _ _) hb⟩

theorem i64_bounds {n : Int} (h : (Lit.int .i64 n).wf = true) : -9223372036854775808 ≤ n ∧ n ≤ 9223372036854775807 := by
  simp [Lit.wf, IntKind.min, IntKind.max, IntKind.signed, IntKind.bits] at h
  omega
theorem tmod_cases (x : Int) (n : Nat) (h : 0 < n) : (x.tmod n < 0 ∧ x.tmod n + n = (pickIdx x n : Int) ∨ 0 ≤ x.tmod n ∧ x.tmod n = (pickIdx x n : Int)) ∧ pickIdx x n < n := by
  have hn : (n : Int) ≠ 0 := by omega
  have h1 := Int.emod_nonneg x hn
  have h2 := Int.emod_lt_of_pos x (show (0 : Int) < n by omega)
  have h3 := Int.tmod_eq_emod (a := x) (b := n)
  unfold pickIdx
  by_cases hc : 0 ≤ x ∨ (n : Int) ∣ x
  · rw [if_pos hc] at h3
    exact ⟨.inr ⟨by omega, by omega⟩, by omega⟩
  · rw [if_neg hc] at h3
    have : ((n : Int).natAbs : Int) = n := by omega
    rw [this] at h3
    exact ⟨.inl ⟨by omega, by omega⟩, by omega⟩
theorem pickAll_step {order : List Int} {l out : List ByteArray} {u : Nat} {x : ByteArray} (h : 0 < l.length) (hx : l[pickIdx (order.getD (u + out.length) 0) l.length]? = some x) :
    out ++ pickAll order l.length (u + out.length) l = (out ++ [x]) ++ pickAll order (l.eraseIdx (pickIdx (order.getD (u + out.length) 0) l.length)).length (u + (out ++ [x]).length) (l.eraseIdx (pickIdx (order.getD (u + out.length) 0) l.length)) := by
  obtain ⟨n, hn⟩ : ∃ n, l.length = n + 1 := ⟨l.length - 1, by omega⟩
  have hi := (List.getElem?_eq_some_iff.1 hx).1
  have e : (l.eraseIdx (pickIdx (order.getD (u + out.length) 0) l.length)).length = n := by rw [List.length_eraseIdx, if_pos hi]; omega
  rw [e]
  have e2 : pickAll order l.length (u + out.length) l = x :: pickAll order n (u + out.length + 1) (l.eraseIdx (pickIdx (order.getD (u + out.length) 0) l.length)) := by
    conv => lhs; arg 2; rw [hn]
    rw [pickAll, hx]
  rw [e2]
  simp [Nat.add_assoc]
def sliceLen : Value → Nat | .slice _ n _ => n | _ => 0
theorem ownsRow_only {w w' : World} {b base : Nat} {e : TypeId} {size : Nat} {v : Value} {n : Nat} {xs : List Value} (h : w.ownsRow base e size v n xs) (ho : Only b w w') (hb : b < base) : w'.ownsRow base e size v n xs :=
  h.kept (row := some b) ⟨ho.os, ho.tape, ho.output, ho.size, fun k hk hne => ho.block k hk (fun e => hne (by rw [e]))⟩ (by
    rcases h.2 with ⟨rfl, _⟩ | ⟨g, cap, cur, rfl, hg, _⟩
    · exact .inl rfl
    · exact .inr (by simp [Value.ownBlock]; omega))
theorem ownsRow_at {w w' : World} {b base g c : Nat} {e : TypeId} {size : Nat} {n : Nat} {xs : List Value} (h : w.ownsRow base e size (.slice (some ⟨g, 0, none⟩) n c) n xs) (ho : Only b w w') (hb : g ≠ b) : w'.ownsRow base e size (.slice (some ⟨g, 0, none⟩) n c) n xs :=
  h.kept (row := some b) ⟨ho.os, ho.tape, ho.output, ho.size, fun k hk hne => ho.block k hk (fun e => hne (by rw [e]))⟩ (.inr (by simp [Value.ownBlock]; exact hb))
theorem ownsRow_form {w : World} {base : Nat} {e : TypeId} {size : Nat} {v : Value} {n : Nat} {xs : List Value} (h : w.ownsRow base e size v n xs) : ∃ a m c, v = .slice a m c := by
  rcases h.2 with ⟨rfl, _⟩ | ⟨g, cap, cur, rfl, _⟩
  · exact ⟨_, _, _, rfl⟩
  · exact ⟨_, _, _, rfl⟩
theorem strs_of_owns {w : World} {base : Nat} {e : TypeId} {v : Value} {l : List ByteArray} (h : w.ownsRow base e 1 v l.length (l.map Value.string)) (hz : ∀ x, x ∈ l → x.size ≤ 140737488355328) : Strs w v l := by
  rcases h.2 with ⟨rfl, h0⟩ | ⟨g, cap, cur, rfl, hg, hgb, r1, r2, r3, r4⟩
  · have := List.eq_nil_of_length_eq_zero h0
    subst this
    exact ⟨none, 0, rfl, by simp, by simp, fun h => absurd rfl h⟩
  · refine ⟨_, cap, rfl, r1, r2, fun _ => ⟨g, 0, rfl, fun i x hx => ⟨[.string x], ⟨rfl, hz x (List.mem_of_getElem? hx)⟩, rfl, fun j u hu => ?_⟩⟩⟩
    match j, hu with
    | 0, hu =>
      cases hu
      have := congrArg (fun t : List Value => t[i]?) r4
      rw [Nat.mul_one, List.getElem?_take] at this
      obtain ⟨hi, rfl⟩ := List.getElem?_eq_some_iff.1 hx
      have h2 : cur[i]? = some (.string l[i]) := by simpa [hi] using this
      simp [World.cell?, hgb, h2]
theorem pickAll_mem {order : List Int} {x : ByteArray} : ∀ {f u : Nat} {l : List ByteArray}, x ∈ pickAll order f u l → x ∈ l
  | 0, _, _, h => by simp [pickAll] at h
  | f + 1, u, l, h => by
    rw [pickAll] at h
    split at h
    · simp at h
    · rename_i y hy
      rw [List.mem_cons] at h
      rcases h with rfl | h
      · exact List.mem_of_getElem? hy
      · exact List.mem_of_mem_eraseIdx (pickAll_mem h)
theorem owns_block {w : World} {base B : Nat} {e : TypeId} {size : Nat} {v : Value} {n : Nat} {xs : List Value} (h : w.ownsRow base e size v n xs) (hB : B ≤ base) : ∀ a n c, v = .slice (some a) n c → B ≤ a.block := by
  intro a n' c e
  rcases h.2 with ⟨rfl, _⟩ | ⟨g, cap, cur, rfl, hg, _⟩
  · cases e
  · cases e; exact Nat.le_trans hB hg
/-- What is known in the loop of list. -/
structure ListAt (w wr : World) (b : Nat) (saw clk nxt vo : Value) (u0 : Int) (u : Nat) (g o c : Nat) (left out : List ByteArray) (v8 : Value) : Prop where
  sbx : Sbx wr b saw clk vo nxt u0 u
  gw : w.heap.size ≤ g
  gl : g < wr.heap.size
  cap : left.length ≤ c
  max : c ≤ 9223372036854775807
  cells : ∀ i x, left[i]? = some x → wr.cell? ⟨g, o + i, none⟩ = some (.string x) ∧ wr.frozen? ⟨g, o + i, none⟩ = false
  own : wr.ownsRow (g + 1) 9 1 v8 out.length (out.map Value.string)
  only : Only b w wr

set_option maxRecDepth 100000 in
set_option maxHeartbeats 2000000 in
theorem list_picks (b : Nat) (saw clk nxt vo : Value) (u0 : Int) (u : Nat) (order : List Int) (names : List ByteArray) (vn : Value) (w : World) (hs : Sbx w b saw clk vo nxt u0 u) (ho : ∀ W, Only b w W → Ints W vo order)
    (hn : Strs w vn names) (hz : names.length ≤ 1000000) (hu : u ≤ 4611686018426387904) (hw : ∀ x, x ∈ order → (Lit.int .i64 x).wf = true) :
    Calls Tryz.prog 87 #[.pointer (some ⟨b, 0, none⟩), vn, .bool false] w fun e w' => ∃ v, e = .returned v ∧ Strs w' v (pickAll order names.length u (sortB names)) ∧ (∀ a n c, v = .slice (some a) n c → w.heap.size ≤ a.block) ∧
      Sbx w' b saw clk vo nxt u0 ((u + names.length : Nat) : Int) ∧ Only b w w' := by
  obtain ⟨i0, hi, hz0, hz1, hz2⟩ := info_parts strInfo
  obtain ⟨a, c, hv, -⟩ := id hn
  subst hv
  have HS : Hid (∀ W, Below w.heap.size w W → W.cell? ⟨w.heap.size, 0, none⟩ = some (.slice a names.length c) → Calls Tryz.prog 116 #[.func (.func 160) #[] #[.pointer (some ⟨w.heap.size, 0, none⟩)]] W fun e w' => ∃ v, e = .returned v ∧ OwnStrs W.heap.size w' v (sortB names) ∧ Below W.heap.size W w') :=
    Lib.hid fun W hb hc => sortedSeq_any _ _ names W hc (hn.later hb) (by omega)
  have hbw := hs.lt
  have HB := Lib.hid hs; clear hs
  have HN := Lib.hid hn; clear hn
  have HW := Lib.hid hw; clear hw
  have HO := Lib.hid ho; clear ho
  go_enter Tryz.func87, Tryz.ntmps87
  go_wp2_with fail
  refine (values_any _ _ _ _).mono ?_
  rintro e w1 ⟨rfl, rfl⟩
  go_wp2_with fail
  refine (HS.out _ (below_alloc _ _) (by simp)).mono ?_
  rintro e w2 ⟨v, rfl, hO, hb⟩
  rcases hO with ⟨h0, rfl⟩ | ⟨g, o, c2, rfl, hg, hgl, hcap, hmax, hcl⟩
  · have HE : Hid (names = []) := Lib.hid (List.eq_nil_of_length_eq_zero (by rw [← sortB_length, h0]; rfl))
    clear h0
    go_wp2_with fail
    go_loop [7, 8] (fun l i => l = .slice none 0 0 ∧ i = .slice none 0 0) (fun _ i => 0)
    case atStart => exact ⟨rfl, rfl⟩
    case round =>
      obtain ⟨rfl, rfl⟩ := hrel
      go_wp2_with fail
      go_ret
      have hbb := below_trans (below_alloc _ _) hb
      exact ⟨_, rfl, by rw [HE.out]; show Strs _ _ []; exact ⟨none, 0, rfl, by simp, by simp, fun h => absurd rfl h⟩, fun a n c e => by simp at e, by rw [HE.out]; exact HB.out.later hbb, Only.of_below hbb⟩
  · have hbb := below_trans (below_alloc _ _) hb
    have hgw : w.heap.size ≤ g := by simp at hg; omega
    have hl0 : ListAt w w2 b saw clk nxt vo u0 u g o c2 (sortB names) [] (.slice none 0 0) :=
      ⟨HB.out.later hbb, hgw, hgl, hcap, hmax, fun i x hx => ⟨(hcl i x hx).1, (hcl i x hx).2.1⟩, World.ownsRow_nil _ _ _ _, Only.of_below hbb⟩
    have HL0 := Lib.hid hl0
    have HSZ := Lib.hid (fun x (hx : x ∈ names) => strs_size HN.out hx)
    clear hl0 hcl hb hbb HS HB hg hgl hcap hmax
    go_wp2_with fail
    go_loopw [7, 8] (fun v7 v8 wr => ∃ (left out : List ByteArray), v7 = .slice (some ⟨g, o, none⟩) left.length c2 ∧ pickAll order names.length u (sortB names) = out ++ pickAll order left.length (u + out.length) left ∧ out.length + left.length = names.length ∧
      ListAt w wr b saw clk nxt vo u0 ((u + out.length : Nat)) g o c2 left out v8) (fun v7 _ _ => sliceLen v7)
    case atStart => exact ⟨sortB names, [], rfl, by rw [sortB_length]; rfl, by rw [sortB_length]; simp, HL0.out⟩
    case round =>
      clear HL0
      obtain ⟨left, out, rfl, hp, hlen, hA⟩ := hrel
      generalize hv8 : u8 = v8 at *
      clear hv8
      have HP := Lib.hid hp
      have HLen := Lib.hid hlen
      have hA' := id hA
      obtain ⟨hsb, hgw', hgl, hcap, hmax, hcl, hown, hon⟩ := hA
      have HA := Lib.hid hA'
      have cOrd := hsb.cell 2
      simp only [List.getElem?_toArray, List.getElem?_cons_succ, List.getElem?_cons_zero] at cOrd
      have HSB := Lib.hid hsb; have HCL := Lib.hid hcl; have HOWN := Lib.hid hown
      have HAP : Hid (v8.ownBlock ≠ some g) := Lib.hid (fun e => by have := (HOWN.out.lt g e).1; omega)
      clear hsb hcl hown hp hA'
      by_cases hlt : 0 < left.length
      · have hle : out.length + left.length ≤ 1000000 := by omega
        clear hlen
        have hwx : (Lit.int .i64 (order.getD (u + out.length) 0)).wf = true := by
          rw [List.getD_eq_getElem?_getD]
          cases hh : order[u + out.length]? with
          | none => rfl
          | some y => exact HW.out y (List.mem_of_getElem? hh)
        have HNX := Lib.hid (next1_any b saw clk vo nxt u0 ((u + out.length : Nat) : Int) order vo wr HSB.out (HO.out wr hon) (by omega) (by omega))
        rw [Int.toNat_natCast] at HNX
        generalize hX : order.getD (u + out.length) 0 = X at HNX hwx
        have HX := Lib.hid hX; clear hX
        have hbd := i64_bounds hwx
        obtain ⟨hx0, hx1⟩ := hbd
        go_wp2_with fail
        refine HNX.out.mono ?_
        rintro e w3 ⟨rfl, hsb3, hon3⟩
        have HSB3 := Lib.hid hsb3; clear hsb3
        obtain ⟨hT, hk⟩ := tmod_cases X left.length hlt
        generalize hK : pickIdx X left.length = k at hT hk
        have HK := Lib.hid hK; clear hK
        obtain ⟨x, hx, hxm⟩ := getElem?_of_lt hk
        have hbg : g ≠ b := by omega
        have hcell : w3.cell? ⟨g, o + k, none⟩ = some (.string x) := hon3.cell hbg (HCL.out k x hx).1
        have HXX := Lib.hid hx; clear hx hxm
        have HON3 := Lib.hid hon3
        have hs3 := hon3.size
        have hown3 : Hid (w3.ownsRow (g + 1) 9 1 v8 out.length (out.map Value.string)) := Lib.hid (ownsRow_only HOWN.out hon3 (by omega))
        clear hon3
        have hle2 : out.length + 1 ≤ 1000000 := by omega
        have HFin := Lib.hid (pickAll_step (order := order) (l := left) (u := u) (out := out) (x := x) hlt (by rw [HX.out, HK.out]; exact HXX.out))
        rw [HX.out, HK.out] at HFin
        have hTe : (X.tmod left.length < 0 ∧ X.tmod left.length = (k : Int) - left.length) ∨ (0 ≤ X.tmod left.length ∧ X.tmod left.length = (k : Int)) := by omega
        clear hT
        rcases hTe with ⟨hneg, hTe⟩ | ⟨hneg, hTe⟩
        all_goals
          go_wp2_with (at_builtin; refine wpList_append_own _ rfl _ _ 22 rfl (g + 1) 9 i0 (.string ByteArray.empty) 1 16 Tryz.underlying22 hi hz0 hz1 hz2 rfl (by decide) _ _ _ rfl (hown3.out.alloc _) ⟨w3.heap.size, 0, none⟩ 1 1 [.string x] rfl rfl (cell_one_new _ _ _) (by simp [Value.oneCell']) (by unfold maxLen; omega) (by omega) (by simp; omega) ?_)
          intro v' w4 hown4 hgrow _
          have hcl4 : ∀ i y, left[i]? = some y → w4.cell? ⟨g, o + i, none⟩ = some (.string y) ∧ w4.frozen? ⟨g, o + i, none⟩ = false := fun i y hy => by
            have h1 := HCL.out i y hy
            have e1 : w4.heap[g]? = wr.heap[g]? := by
              rw [hgrow.block g (by simp; omega) (fun e => HAP.out e.symm), Below.heap_alloc _ _ _ (by omega)]
              exact HON3.out.block g (by omega) hbg
            exact ⟨(World.cell?_of_block (w := wr) e1).trans h1.1, (World.frozen?_of_block (w := wr) e1).trans h1.2⟩
          have HD := Lib.hid (delete_at g o c2 left k w4 hcl4 hk hcap hmax)
          have hsb4 : Hid (Sbx w4 b saw clk vo nxt u0 ((u + out.length : Nat) + 1 : Int)) := Lib.hid (HSB3.out.of_block (by
            rw [hgrow.block b (by simp; omega) (fun e => by have := (hown3.out.lt b e.symm).1; omega), Below.heap_alloc _ _ _ (by omega)]))
          have hon4 : Hid (Only b w w4) := Lib.hid (by
            have h03 := hon.trans HON3.out
            refine ⟨hgrow.os.trans h03.os, hgrow.tape.trans h03.tape, hgrow.output.trans h03.output, by have := hgrow.size; have := h03.size; simp at *; omega, fun i hi' hne => ?_⟩
            have hsz3 := h03.size
            rw [hgrow.block i (by simp; omega) (fun e => by have := (hown3.out.lt i e.symm).1; omega), Below.heap_alloc _ _ _ (by omega)]
            exact h03.block i hi' hne)
          have hs4 : w3.heap.size + 1 ≤ w4.heap.size := by have := hgrow.size; simpa using this
          obtain ⟨g', cap', rfl⟩ := ownsRow_succ hown4
          have hne4 : g' ≠ g := by have := (hown4.lt g' rfl).1; omega
          have hg4 : g' < w4.heap.size := (hown4.lt g' rfl).2
          have HOWN4 := Lib.hid hown4
          clear hown4 hgrow hcl4
          go_wp2_with fail
          refine HD.out.mono ?_
          rintro e w5 ⟨rfl, hon5, hc5⟩
          have HON5 := Lib.hid hon5; have HC5 := Lib.hid hc5
          clear hon5 hc5
          go_wp2_with fail
          go_roundw
          case rel =>
            have hlen2 : (left.eraseIdx k).length = left.length - 1 := by rw [List.length_eraseIdx, if_pos hk]
            have hs5 := HON5.out.size
            refine ⟨left.eraseIdx k, out ++ [x], rfl, HP.out.trans HFin.out, by have := HLen.out; simp; omega, ?_⟩
            refine ⟨?_, hgw', by omega, by omega, hmax, HC5.out, ?_, ?_⟩
            · refine (hsb4.out.of_block (HON5.out.block b (by omega) (by omega))).cast ?_
              simp; omega
            · have := ownsRow_at HOWN4.out HON5.out hne4
              simpa using this
            · exact ⟨HON5.out.os.trans hon4.out.os, HON5.out.tape.trans hon4.out.tape, HON5.out.output.trans hon4.out.output, by have := hon4.out.size; omega, fun i hi' hne => (HON5.out.block i (by have := hon4.out.size; omega) (by omega)).trans (hon4.out.block i hi' hne)⟩
          case measure => simp only [sliceLen, List.length_eraseIdx, if_pos hk]; omega
      · have hl0 : left = [] := List.eq_nil_of_length_eq_zero (by omega)
        have HL := Lib.hid hl0
        subst hl0
        clear hlt
        obtain ⟨a8, n8, c8, hv8⟩ := ownsRow_form HOWN.out
        subst hv8
        go_wp2_with fail
        go_ret
        have hln := HLen.out
        refine ⟨_, rfl, ?_, owns_block HOWN.out (by omega), ?_, hon⟩
        · rw [HP.out]
          simp only [List.length_nil, pickAll, List.append_nil]
          exact strs_of_owns HOWN.out (fun y hy => HSZ.out y (mem_sortB (pickAll_mem (by rw [HP.out]; simp [pickAll]; exact hy))))
        · refine HSB.out.cast ?_
          simp at hln
          omega
end Go.Proofs.YtacgopankhpnbaaGreatDoor
