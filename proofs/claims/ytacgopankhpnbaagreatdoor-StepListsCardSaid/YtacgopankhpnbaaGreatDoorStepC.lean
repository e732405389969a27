/- Walks of package step: Find, RightFiles, Right. -/
import Derived.Test.YtacgopankhpnbaaGreatDoorStepB
namespace Go.Proofs.YtacgopankhpnbaaGreatDoor
open Go.RowKit

theorem enters_find1 : ∀ args w, (callFunc 55 args).run Tryz.prog w = .ok (.enter 55 args) w := enters_of Tryz.func55 (by kernel_rfl) rfl

/-- What Find returns. -/
def findV (l : List Fil) (name : ByteArray) : Value := match findFile l name with
  | some t => .tuple #[.string t, .bool true]
  | none => .tuple #[.string ByteArray.empty, .bool false]

theorem findFile_idx (l : List Fil) (name : ByteArray) :
    (idxOf (fun f : Fil => decide (f.name = name)) l = -1 ∧ findFile l name = none) ∨ ∃ (k : Nat) (f : Fil), l[k]? = some f ∧ idxOf (fun f : Fil => decide (f.name = name)) l = k ∧ findFile l name = some f.text := by
  unfold idxOf findFile
  cases h : l.findIdx? (fun f : Fil => decide (f.name = name)) with
  | none =>
    refine .inl ⟨rfl, ?_⟩
    rw [List.findIdx?_eq_none_iff] at h
    rw [List.find?_eq_none.2 (fun x hx => by simpa using h x hx)]; rfl
  | some k =>
    obtain ⟨hk, hp, hno⟩ := List.findIdx?_eq_some_iff_getElem.1 h
    refine .inr ⟨k, l[k], List.getElem?_eq_getElem hk, rfl, ?_⟩
    have : l.find? (fun f : Fil => decide (f.name = name)) = some l[k] := by
      rw [List.find?_eq_some_iff_getElem]
      exact ⟨hp, k, hk, rfl, fun j hj => by simpa using hno j hj⟩
    rw [this]; rfl

set_option maxHeartbeats 400000 in
theorem find_any (l : List Fil) (v : Value) (name : ByteArray) (w : World) (hv : Fils w v l) :
    Calls Tryz.prog 21 #[v, .string name] w fun e w' => e = .returned (findV l name) ∧ Below w.heap.size w w' := by
  have hidx : ∀ W, Below w.heap.size w W → W.heap[w.heap.size]? = some (.cells #[.string name] 9) → Calls Tryz.prog 54 #[v, .func (.func 55) #[] #[.pointer (some ⟨w.heap.size, 0, none⟩)]] W
      fun e w' => e = .returned (.int .i64 (idxOf (fun f : Fil => decide (f.name = name)) l)) ∧ Below W.heap.size W w' := fun W hb hW =>
    indexFunc_fil _ _ _ l v W (hv.later hb) enters_find1 (fun x _ W' hb' => by
      have h0 : W.cell? ⟨w.heap.size, 0, none⟩ = some (.string name) := by simp [World.cell?, hW]
      exact find1_any name x.name x.text w.heap.size W' (cell_later hb' h0))
  have HI := Lib.hid hidx; clear hidx
  have hcs := findFile_idx l name
  unfold findV
  rcases hcs with ⟨hi, hf⟩ | ⟨k, f, hk, hi, hf⟩
  · rw [hf]; rw [hi] at HI
    obtain ⟨a, c, hv, -⟩ := hv; subst hv
    clear hi hf
    go_enter Tryz.func21, Tryz.ntmps21
    go_wp2_with (go_at_call 54; refine (HI.out _ (below_alloc _ _) (alloc_self _ _)).mono ?_; rintro e w' ⟨rfl, hb'⟩)
    go_ret2
    exact ⟨rfl, below_trans (below_alloc _ _) hb'⟩
  · rcases hv.cases with ⟨rfl, -⟩ | ⟨b, o, c, rfl, h0, h1, h2, hb, hc⟩
    · simp at hk
    · rw [hf]; rw [hi] at HI
      obtain ⟨c1, c2, -, -⟩ := hc k f hk
      have hkl : k < l.length := (List.getElem?_eq_some_iff.1 hk).1
      clear hi hf hc hk c1 hv
      go_enter Tryz.func21, Tryz.ntmps21
      go_wp2_with (go_at_call 54; refine (HI.out _ (below_alloc _ _) (alloc_self _ _)).mono ?_; rintro e w' ⟨rfl, hb'⟩; have hc2 := cell_later (below_trans (below_alloc _ _) hb') c2)
      go_ret2
      exact ⟨rfl, below_trans (below_alloc _ _) hb'⟩

/-- The map of the names that are known. -/
noncomputable def knownOf (l : List ByteArray) (x : ByteArray) : Option Bool := if l.any (fun y => decide (y = x)) then some true else none
theorem knownOf_getD (l : List ByteArray) (x : ByteArray) : (knownOf l x).getD false = l.any (fun y => decide (y = x)) := by
  unfold knownOf; cases h : l.any (fun y => decide (y = x)) <;> simp
theorem zero_bool (w : World) : (zeroValue 4).run Tryz.prog w = .ok (.bool false) w := by kernel_rfl
noncomputable def kStr : KeyC Tryz.prog 9 ByteArray := strKey Tryz.underlying9
noncomputable def vBool : ValC Tryz.prog 4 Bool := boolVal Tryz.underlying4 zero_bool
theorem maxLen_val : (140737488355328 : Nat) ≤ maxLen := by decide

/-- A look-up in, and a store into, a map of strings to bools. -/
theorem wpList_look_sb {ops : Array Oper} {rest : List Oper} {o : Oper} {a : Act} {Q : Exit → Act → World → Prop} {w : World} {b n : Nat} {m : ByteArray → Option Bool} (h : MapIs kStr vBool w b n m)
    {x : ByteArray} (hx : x.size ≤ 140737488355328) {r : Bool} (hr : (m x).getD false = r) {mo xo : Operand} (hg : o.guard = none) (hop : o.op = Op.lookup 99 mo xo false) (hm : a.eval mo = .map (some b)) (hxe : a.eval xo = .string x)
    (hK : wpList Tryz.prog ops Q rest (a.put o.dst (.bool r)) w) : wpList Tryz.prog ops Q (o :: rest) a w :=
  wpList_look (K := kStr) (V := vBool) hg hop Tryz.underlying99 h hm (Nat.le_trans hx maxLen_val) hxe (by subst hr; exact hK)
theorem wpList_put_sb {ops : Array Oper} {rest : List Oper} {o : Oper} {a : Act} {Q : Exit → Act → World → Prop} {w : World} {b n : Nat} {m : ByteArray → Option Bool} (h : MapIs kStr vBool w b n m) (hn : n < 9223372036854775807)
    {x : ByteArray} (hx : x.size ≤ 140737488355328) {r : Bool} {mo xo vo : Operand} (hg : o.guard = none) (hop : o.op = Op.mapUpdate 99 mo xo vo) (hm : a.eval mo = .map (some b)) (hxe : a.eval xo = .string x) (hve : a.eval vo = .bool r)
    (hK : ∀ w', MapIs kStr vBool w' b (n + 1) (fun z => if z = x then some r else m z) → w.grownBy w' (some b) → wpList Tryz.prog ops Q rest (a.put o.dst undef) w') : wpList Tryz.prog ops Q (o :: rest) a w :=
  wpList_put (K := kStr) (V := vBool) hg hop Tryz.underlying99 h (by unfold maxLen; omega) hm (Nat.le_trans hx maxLen_val) hxe (y := r) trivial hve (fun w' h1 h2 => hK w' (by exact h1.ext (fun z => by by_cases hz : z = x <;> simp [hz])) h2)

theorem knownOf_cons (l : List ByteArray) (y : ByteArray) : (fun z => if z = y then some true else knownOf l z) = knownOf (y :: l) := by
  funext z
  unfold knownOf
  by_cases h : z = y
  · subst h; simp
  · have : decide (y = z) = false := decide_eq_false (fun e => h e.symm)
    simp only [h, if_false, List.any_cons, this, Bool.false_or]
theorem rightFrom_bad {l : List Fil} {k : Nat} {x : Fil} {known : List ByteArray} (hx : l[k]? = some x) (h : (known.any fun y => decide (y = x.name)) = true ∨ isName x.name = false ∨ 65536 < x.text.size)
    (hr : rightFrom l [] = rightFrom (l.drop k) known) : rightFiles l = false := by
  have e : l.drop k = x :: l.drop (k + 1) := by
    obtain ⟨hk, rfl⟩ := List.getElem?_eq_some_iff.1 hx
    exact List.drop_eq_getElem_cons hk
  rw [rightFiles, hr, e, rightFrom]
  rcases h with h | h | h <;> simp [h]
theorem rightFrom_good {l : List Fil} {k : Nat} {x : Fil} {known : List ByteArray} (hx : l[k]? = some x) (h1 : (known.any fun y => decide (y = x.name)) = false) (h2 : isName x.name = true) (h3 : x.text.size ≤ 65536)
    (hr : rightFrom l [] = rightFrom (l.drop k) known) : rightFrom l [] = rightFrom (l.drop (k + 1)) (x.name :: known) := by
  have e : l.drop k = x :: l.drop (k + 1) := by
    obtain ⟨hk, rfl⟩ := List.getElem?_eq_some_iff.1 hx
    exact List.drop_eq_getElem_cons hk
  rw [hr, e, rightFrom, h1, h2]
  simp; omega
theorem rightFrom_end {l : List Fil} {k : Nat} {known : List ByteArray} (hk : l.length ≤ k) (hr : rightFrom l [] = rightFrom (l.drop k) known) : rightFiles l = decide (l.length ≤ 60) := by
  rw [rightFiles, hr, List.drop_of_length_le hk, rightFrom]; simp

set_option maxHeartbeats 800000 in
theorem rightFiles_any (l : List Fil) (v : Value) (w : World) (hv : Fils w v l) :
    Calls Tryz.prog 51 #[v] w fun e w' => e = .returned (.bool (rightFiles l)) ∧ Below w.heap.size w w' := by
  rcases hv.cases with ⟨rfl, a, c, rfl⟩ | ⟨b, o, c, rfl, h0, h1, h2, hb, hc⟩
  · have hmm := @run_makeMap Tryz.prog
    clear hv
    go_enter Tryz.func51, Tryz.ntmps51
    go_wp2_with fail
    go_loop [9] (fun i => i = .int .i64 0) (fun i => 0)
    case atStart => rfl
    case round =>
      subst hrel
      go_wp2_with fail
      go_ret
      exact ⟨rfl, below_alloc _ _⟩
  · have hmm := @run_makeMap Tryz.prog
    clear hv
    have HC := Lib.hid hc; clear hc
    go_enter Tryz.func51, Tryz.ntmps51
    go_wp2_with fail
    clear hmm
    go_loopw [9] (fun i wr => ∃ (k : Nat) (known : List ByteArray), k ≤ l.length ∧ i = .int .i64 k ∧ rightFrom l [] = rightFrom (l.drop k) known ∧ MapIs kStr vBool wr w.heap.size k (knownOf known) ∧ Below w.heap.size w wr) (fun i _ => l.length - (intOf i).toNat)
    case atStart => exact ⟨0, [], Nat.zero_le _, rfl, rfl, (MapIs.made w).ext (fun _ => rfl), below_alloc _ _⟩
    case round =>
      obtain ⟨k, known, hk, rfl, hr, hm, hbl⟩ := hrel
      have HR := Lib.hid hr; clear hr
      have hbw : w.heap.size < wr.heap.size := hm.lt
      by_cases hlt : k < l.length
      · obtain ⟨x, hx, -⟩ := getElem?_of_lt hlt
        obtain ⟨c1, c2, s1, s2⟩ := HC.out k x hx
        have hcell1 := cell_later hbl c1
        have hcell2 := cell_later hbl c2
        have HX := Lib.hid hx
        clear hx c1 c2 HC
        cases hq : known.any (fun y => decide (y = x.name)) with
        | true =>
          have hl := (knownOf_getD known x.name).trans hq
          have HQ := Lib.hid hq; clear hq
          have HL := Lib.hid hl; clear hl
          go_wp2_with (at_lookup; refine wpList_look_sb (hm.alloc _) s1 HL.out rfl rfl rfl rfl ?_)
          go_ret
          exact ⟨ret_bool (rightFrom_bad HX.out (.inl HQ.out) HR.out).symm, hbl.trans ((below_alloc _ _).mono hbl.size)⟩
        | false =>
          have hl := (knownOf_getD known x.name).trans hq
          have HQ := Lib.hid hq; clear hq
          have HL := Lib.hid hl; clear hl
          cases hn : isName x.name with
          | false =>
            have hcall := isName_any x.name (wr.alloc (.cells #[.string x.name, .string x.text] 40)) s1
            rw [hn] at hcall
            have HN := Lib.hid hn; clear hn
            have HCL := Lib.hid hcall; clear hcall
            go_wp2_with (first | (at_lookup; refine wpList_look_sb (hm.alloc _) s1 HL.out rfl rfl rfl rfl ?_) | (go_at_call 56; refine HCL.out.mono ?_; rintro e w' ⟨rfl, rfl⟩))
            go_ret
            exact ⟨ret_bool (rightFrom_bad HX.out (.inr (.inl HN.out)) HR.out).symm, hbl.trans ((below_alloc _ _).mono hbl.size)⟩
          | true =>
            have hcall := isName_any x.name (wr.alloc (.cells #[.string x.name, .string x.text] 40)) s1
            rw [hn] at hcall
            have HN := Lib.hid hn; clear hn
            have HCL := Lib.hid hcall; clear hcall
            go_wp2_with (first | (at_lookup; refine wpList_look_sb (hm.alloc _) s1 HL.out rfl rfl rfl rfl ?_) | (go_at_call 56; refine HCL.out.mono ?_; rintro e w' ⟨rfl, rfl⟩) | (at_mapUpdate; refine wpList_put_sb (hm.alloc _) (by omega) s1 rfl rfl rfl rfl rfl ?_; intro w1 hm1 hg1))
            · go_ret
              exact ⟨ret_bool (rightFrom_bad HX.out (.inr (.inr (by omega))) HR.out).symm, hbl.trans ((below_alloc _ _).mono hbl.size)⟩
            · go_roundw
              case rel => exact ⟨k + 1, x.name :: known, by omega, by go_num, rightFrom_good HX.out HQ.out HN.out (by omega) HR.out, hm1.ext (fun z => congrFun (knownOf_cons known x.name) z), (hbl.trans ((below_alloc _ _).mono hbl.size)).grown hg1 (by simp; omega) (fun i hi => by cases hi; exact Nat.le_refl _)⟩
              case measure => simp [intOf]; omega
      · go_wp2_with fail
        go_ret
        exact ⟨ret_bool (by rw [rightFrom_end (by omega) HR.out]; simp; omega), hbl⟩
end Go.Proofs.YtacgopankhpnbaaGreatDoor
