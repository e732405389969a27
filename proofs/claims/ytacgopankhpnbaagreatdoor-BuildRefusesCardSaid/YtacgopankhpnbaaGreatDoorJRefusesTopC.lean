/- Texts of this seat, joined: Glob, CardA, CardB, CardC, StepSpec, StepA, Maps, StepB, StepC, StepD, DoSpec, BuildSpec, BuildA, Builder, StepE, StepF. -/
import Derived.Test.YtacgopankhpnbaaGreatDoorPre
import Derived.Test.YtacgopankhpnbaaGreatDoorShelf
import Derived.WalkSmall
import Derived.Test.YtacgopankhpnbaaGreatDoorCards
import Derived.Test.YtacgopankhpnbaaGreatDoorTie
import Derived.ProofKit
import Derived.OpenShut
import Derived.Lay
import Derived.LaidMore
import Derived.Deep.DeepHandedRow
import Derived.Lib.LaidTab
import Derived.Lib.LaidU8
import Derived.Carry
import Derived.ChangeSlices
import Derived.Deep.Strs
import Derived.Deep.Slices
import Derived.Deep.Fields
import Derived.ChangeSame
import Derived.Lib.SmallJoins
import Derived.Lib.ItoaNum
import Derived.Lib.Split
import Derived.Lib.Strings
import Derived.Lib.Join
import Derived.Maps.Own
import Derived.Maps.OwnOps
import Derived.Maps.OwnSet
import Derived.Lib.SplitLaws
import Derived.Lib.ItoaLen
import Derived.Lib.AppendIntMem
import Derived.RegionTactic
import Derived.ChangeAlike
/- What is known of the package-level variables, in every world that comes. -/
namespace Go.Proofs.YtacgopankhpnbaaGreatDoor
open Go.RowKit

structure Glob (w : World) : Prop where
  big : 11 ≤ w.heap.size
  maxLen : ∃ m, w.cell? ⟨2, 0, none⟩ = some (.int .i64 m)
  pow10 : Lib.TabIs Tryz.prog w "internal/strconv.uint64pow10" .u64 Lib.pow10Tab

theorem Glob.later {w w' : World} (h : Glob w) (hb : Below w.heap.size w w') : Glob w' := by
  refine ⟨Nat.le_trans h.big hb.size, ?_, ?_⟩
  · obtain ⟨m, hm⟩ := h.maxLen
    exact ⟨m, cell_later hb hm⟩
  · exact var?_below (g := 4) hb (by kernel_rfl) (by have := h.big; omega) h.pow10
end Go.Proofs.YtacgopankhpnbaaGreatDoor
/- What every card of this seat wants: the witness's world with the nine listed variables laid, and what the list gives. -/
namespace Go.Proofs.YtacgopankhpnbaaGreatDoor
open Go.ChangeShapes Go.WideShapes Go.ChangeAt Go.RowKit
open Go.ChangeMaps (open_string shut_string)

theorem own : ownKnob Tryz.prog.godebug = none := by kernel_rfl
/-- The nine listed variables; alike in all rows of this seat. -/
abbrev seatLaid : List (String × DataW Unit) := Rows.stepSortsRow.laid
noncomputable def seatWorld (os : Os) : World := World.laidAll Tryz.prog os seatLaid
theorem seat_met (os : Os) (args : Array Value) : laidMet Tryz.prog seatLaid ((seatWorld os).forCall (fun _ _ => 0) ⟨#[], args, []⟩).memory := laidMet_laidAll _ (by kernel_rfl) (by kernel_rfl)
theorem seat_plain (w : World) : laidMetH Tryz.prog seatLaid w = laidMet Tryz.prog seatLaid w := MakeChecks.laidMetH_plain _ _ _ (by kernel_rfl)
theorem seat_shaped (os : Os) (args : Array Value) : ((seatWorld os).forCall (fun _ _ => 0) ⟨#[], args, []⟩).Shaped Tryz.prog := World.shaped_of_ZipB (by kernel_rfl) (by kernel_rfl)

theorem pow10_eq : (Rows.laid_internal_strconv_uint64pow10 : DataW Unit) = Lib.tabData .u64 Lib.pow10Tab := by kernel_rfl
theorem pow10_mem : ("internal/strconv.uint64pow10", Lib.tabData .u64 Lib.pow10Tab) ∈ seatLaid := by
  rw [← pow10_eq]
  exact .tail _ (.tail _ (.head _))
theorem glob_of {W : World} (hL : laidMetH Tryz.prog seatLaid W) (hs : W.ShapedOpen Tryz.prog) : Glob W := by
  rw [seat_plain] at hL
  have hbig : 11 ≤ W.heap.size := by
    obtain ⟨o, -, ho, -⟩ := hs.2 11 (of_decide_eq_true (by kernel_rfl)) (of_decide_eq_true (by kernel_rfl))
    have := (Array.getElem?_eq_some_iff.1 ho).1
    omega
  refine ⟨hbig, Go.Proofs.cell_of_shapedOpen_int (zero := #[.int .i64 0]) (t := 3) hs (of_decide_eq_true (by kernel_rfl)) (by kernel_rfl) rfl (by kernel_rfl) (by kernel_rfl) Tryz.underlying3, ?_⟩
  obtain ⟨g, t, cs, fuel, p, hg, ht, hv, hd⟩ := Lib.laidMet.reads hL pow10_mem
  obtain rfl := Option.some.inj ((show Tryz.prog.globalNamed "internal/strconv.uint64pow10" = some 4 by kernel_rfl).symm.trans hg)
  obtain rfl := Option.some.inj ((show (Tryz.prog.globals[4]?).map (·.type) = some 292 by kernel_rfl).symm.trans ht)
  unfold Lib.TabIs
  rw [hv, ← Lib.cells_of_tab Tryz.underlying292 Tryz.underlying248 (by kernel_rfl) (by kernel_rfl) hd]
end Go.Proofs.YtacgopankhpnbaaGreatDoor
/- What every law's row of this seat wants at its end: the arguments read as they did; and how a []string, a []int that comes in is read. -/
namespace Go.Proofs.YtacgopankhpnbaaGreatDoor
open Go.ChangeShapes Go.WideShapes Go.ChangeAt Go.RowKit

theorem laidOut : laidOutB Tryz.prog = true := by kernel_rfl
/-- Each type can be read and is a row of the table. -/
def ReadAll (ts : List TypeId) : Prop := ∀ t, t ∈ ts → Tryz.prog.readableRec t = true ∧ t < Tryz.prog.types.size
set_option maxRecDepth 100000 in
theorem trodAll_below {H : Type} {enc : TypeId × Value → H} {W W' : World} (hb : Below W.heap.size W W') :
    ∀ {ts : List TypeId} {vs : List Value} {ds : List (DataW H)} {ps : List MemPlace}, ReadAll ts →
      DataW.TrodAll enc Tryz.prog W 0 (fun _ => true) true ts vs ds ps → (∀ x ∈ ps, x.block < W.heap.size) → DataW.TrodAll enc Tryz.prog W' 0 (fun b => decide (b < W.heap.size)) true ts vs ds ps
  | [], [], [], _, _, h, _ => h
  | t :: ts, v :: vs, d :: ds, ps, hr, h, hlt => by
    obtain ⟨p, q, h1, h2, e⟩ := h
    have hr0 := hr t List.mem_cons_self
    exact ⟨p, q, Below.trod laidOut hr0.1 hr0.2 h1 hb (fun x hx => hlt x (by rw [e]; exact List.mem_append_left _ hx)), trodAll_below hb (fun t ht => hr t (List.mem_cons_of_mem _ ht)) h2 (fun x hx => hlt x (by rw [e]; exact List.mem_append_right _ hx)), e⟩
  | [], [], _ :: _, _, _, h, _ => h.elim
  | [], _ :: _, _, _, _, h, _ => by unfold DataW.TrodAll at h; exact h.elim
  | _ :: _, [], _, _, _, h, _ => by unfold DataW.TrodAll at h; exact h.elim
  | _ :: _, _ :: _, [], _, _, h, _ => h.elim

/-- A law's last step: it returned true, and below the heap's old size nothing has turned. -/
theorem law_post {H : Type} {enc : TypeId × Value → H} {fn : Func} {s : ChangeSpec} {W W' : World} {args : Array Value} {ds gs : List (DataW H)} {before : List MemPlace}
    (hW : DataW.Whole enc Tryz.prog fn.params.toList s.vars false W args.toList ds gs before) (hv : s.vars = []) (hres : fn.resultTypes = #[4]) (hread : ReadAll fn.params.toList)
    (h1 : (s.fn H (ds ++ gs)).results = [.lit (.bool true)]) (h2 : (s.fn H (ds ++ gs)).args = ds) (h3 : (s.fn H (ds ++ gs)).vars = []) (hb : Below W.heap.size W W') :
    s.post enc Tryz.prog fn false true false false W args (.bool true) W' := by
  have hW' := hW
  obtain ⟨p, q, hA, hV, rfl, -, -⟩ := hW'
  have hV' : DataW.TrodVars enc Tryz.prog W (fun _ => true) [] gs q := by rw [← hv]; exact hV
  obtain ⟨rfl, rfl⟩ := trodVars_none hV'
  have hlt : ∀ x ∈ p, x.block < W.heap.size := fun x hx => hW.lt x (by simp [hx])
  refine ⟨ds, [], p ++ [], [], p, [], hW, ?_, ?_, ?_, World.keptBut_mono (fun x hx => ⟨hx, .inr (.inl (by simpa using hx))⟩) (hb.frame (· ∈ p ++ [])), fun h => by cases h⟩
  · rw [h1, hres]
    exact trodAll_mk1 (shut_bool Tryz.underlying4 _)
  · rw [h2]
    exact trodAll_below hb hread hA hlt
  · rw [hv, h3]; rfl

theorem weightsAll_mem {H : Type} {e : TypeId} {xs : List (DataW H)} {x : DataW H} {n : Nat} (h : (DataW.weightsAll Tryz.prog e xs).all (· ≤ reachBytes) = true) (hx : x ∈ xs) (hn : n ∈ x.weights Tryz.prog e) : n ≤ reachBytes := by
  induction xs with
  | nil => cases hx
  | cons y ys ih =>
    rw [DataW.weightsAll, List.all_append, Bool.and_eq_true] at h
    rcases List.mem_cons.1 hx with rfl | hx
    · have := List.all_eq_true.1 h.1 n hn
      simpa using this
    · exact ih h.2 hx
theorem reach_le : reachBytes ≤ 140737488355328 := by decide +kernel

set_option maxRecDepth 100000 in
theorem read_strs_form {H : Type} {enc : TypeId × Value → H} {W : World} {v : Value} {d : DataW H} {p : List MemPlace} (hok : ∃ a n c, v = .slice a n c) (h : DataW.Trod enc Tryz.prog W 0 (fun _ => true) true 22 v d p)
    (hz : (d.weights Tryz.prog 22).all (· ≤ reachBytes) = true) :
    ∃ (l : List ByteArray) (a : Option Addr) (b o c : Nat), v = .slice a l.length c ∧ Strs W (.slice a l.length c) l ∧ (l ≠ [] → a = some ⟨b, o, none⟩) ∧ l.length ≤ 140737488355328 := by
  obtain ⟨a0, len, cap, rfl⟩ := hok
  obtain ⟨fuel, hf⟩ := h
  rcases Go.Deep.open_strs Tryz.underlying22 Tryz.underlying9 (by kernel_rfl) hf with ⟨hcs, -⟩ | ⟨a, len', cap', m, Sx, hcs, -, hl, hm, hmm, hx, hcell⟩
  · simp [Value.cells] at hcs
    obtain ⟨rfl, rfl, rfl⟩ := hcs
    exact ⟨[], none, 0, 0, 0, rfl, ⟨none, 0, rfl, by simp, by simp, fun h => absurd rfl h⟩, fun h => absurd rfl h, by simp⟩
  · simp [Value.cells] at hcs
    obtain ⟨e1, e2, e3⟩ := hcs
    subst e1 e2 e3
    simp only [if_true] at hmm
    subst hmm
    simp only [Prod.mk.injEq] at hx
    obtain ⟨rfl, -⟩ := hx
    rw [DataW.weights, Tryz.underlying22] at hz
    simp only [List.all_cons, List.all_append, Bool.and_eq_true, decide_eq_true_eq, List.length_map, List.length_range] at hz
    obtain ⟨hz1, hz2, -⟩ := hz
    have hby : Tryz.prog.bytesOf 9 = 16 := by kernel_rfl
    rw [hby] at hz1
    have hr := reach_le
    have hsz : ∀ i, i < len → (Sx i).size ≤ 140737488355328 := fun i hi => by
      have := weightsAll_mem (n := (Sx i).data.toList.length) hz2 (List.mem_map.2 ⟨i, List.mem_range.2 hi, rfl⟩) (by simp [DataW.weights])
      have e : (Sx i).data.toList.length = (Sx i).size := by simp
      omega
    unfold maxLen at hm
    have hplain : len = 0 ∨ a.spot = none := by
      rcases Nat.eq_zero_or_pos len with h | h
      · exact .inl h
      · refine .inr ?_
        have := (hcell 0 (by omega)).1
        cases hs : a.spot with
        | none => rfl
        | some y => simp [World.cell?, Addr.add, hs] at this; split at this <;> simp at this
    refine ⟨(List.range len).map Sx, some a, a.block, a.off, m, by simp, ?_, ?_, by simp; omega⟩
    · refine ⟨some a, m, rfl, by simpa using hl, hm, fun hne => ?_⟩
      have hpos : len ≠ 0 := fun e => hne (by simp [e])
      have hs := hplain.resolve_left hpos
      obtain ⟨b, o, s⟩ := a
      obtain rfl : s = none := hs
      refine ⟨b, o, rfl, fun i x hx => ?_⟩
      rw [List.getElem?_map] at hx
      obtain ⟨j, hj, rfl⟩ := Option.map_eq_some_iff.1 hx
      obtain ⟨hi, hij⟩ := List.getElem?_eq_some_iff.1 hj
      simp at hi hij
      subst hij
      refine ⟨[.string (Sx i)], ⟨rfl, hsz i hi⟩, rfl, fun j u hu => ?_⟩
      match j, hu with
      | 0, hu =>
        cases hu
        have := (hcell i (by omega)).1
        rw [Addr.add_lit] at this; simpa using this
    · intro hne
      have hpos : len ≠ 0 := fun e => hne (by simp [e])
      have hs := hplain.resolve_left hpos
      obtain ⟨b, o, s⟩ := a
      obtain rfl : s = none := hs
      rfl
set_option maxRecDepth 100000 in
theorem read_strs {H : Type} {enc : TypeId × Value → H} {W : World} {base : Nat} {v : Value} {d : DataW H} {p : List MemPlace} (hok : Value.okWide Tryz.prog W .any base 22 v) (h : DataW.Trod enc Tryz.prog W 0 (fun _ => true) true 22 v d p)
    (hz : (d.weights Tryz.prog 22).all (· ≤ reachBytes) = true) :
    ∃ (l : List ByteArray) (a : Option Addr) (b o c : Nat), v = .slice a l.length c ∧ Strs W (.slice a l.length c) l ∧ (l ≠ [] → a = some ⟨b, o, none⟩) ∧ l.length ≤ 140737488355328 :=
  read_strs_form (okWide_slice Tryz.underlying22 hok) h hz
set_option maxRecDepth 100000 in
theorem read_ints_form {H : Type} {enc : TypeId × Value → H} {W : World} {v : Value} {d : DataW H} {p : List MemPlace} (hok : ∃ a n c, v = .slice a n c) (h : DataW.Trod enc Tryz.prog W 0 (fun _ => true) true 26 v d p)
    (hz : (d.weights Tryz.prog 26).all (· ≤ reachBytes) = true) :
    ∃ (l : List Int) (a : Option Addr) (b o c : Nat), v = .slice a l.length c ∧ Ints W (.slice a l.length c) l ∧ (l ≠ [] → a = some ⟨b, o, none⟩) ∧ l.length ≤ 140737488355328 ∧ ∀ x, x ∈ l → (Lit.int .i64 x).wf = true := by
  obtain ⟨a0, len, cap, rfl⟩ := hok
  obtain ⟨fuel, hf⟩ := h
  rcases open_ints Tryz.underlying26 Tryz.underlying3 (by kernel_rfl) hf with ⟨hcs, -⟩ | ⟨a, len', cap', zs, hcs, -, hl, hm, hlen, hx, hcell, hwf⟩
  · simp [Value.cells] at hcs
    obtain ⟨rfl, rfl, rfl⟩ := hcs
    exact ⟨[], none, 0, 0, 0, rfl, ⟨none, 0, rfl, by simp, by simp, fun h => absurd rfl h⟩, fun h => absurd rfl h, by simp, by simp⟩
  · simp [Value.cells] at hcs
    obtain ⟨e1, e2, e3⟩ := hcs
    subst e1 e2 e3
    simp only [if_true] at hlen
    simp only [Prod.mk.injEq] at hx
    obtain ⟨rfl, -⟩ := hx
    rw [DataW.weights, Tryz.underlying26] at hz
    simp only [List.all_cons, Bool.and_eq_true, decide_eq_true_eq] at hz
    obtain ⟨hz1, -⟩ := hz
    have hby : Tryz.prog.bytesOf 3 = 8 := by kernel_rfl
    rw [hby] at hz1
    simp only [lits, List.length_map, List.length_take, List.length_drop] at hz1
    have hr := reach_le
    unfold maxLen at hm
    have hplain : len = 0 ∨ a.spot = none := by
      rcases Nat.eq_zero_or_pos len with h | h
      · exact .inl h
      · refine .inr ?_
        have := hcell 0 (by omega)
        cases hs : a.spot with
        | none => rfl
        | some y => simp [World.cell?, Addr.add, hs] at this; split at this <;> simp at this
    have hll : (zs.take len).length = len := by simp; omega
    refine ⟨zs.take len, some a, a.block, a.off, cap, by rw [hll], ?_, ?_, by rw [hll]; omega, fun x hx => hwf x (List.take_subset _ _ hx)⟩
    · refine ⟨some a, cap, rfl, by rw [hll]; exact hl, hm, fun hne => ?_⟩
      have hpos : len ≠ 0 := fun e => hne (by simp [e])
      have hs := hplain.resolve_left hpos
      obtain ⟨b, o, s⟩ := a
      obtain rfl : s = none := hs
      refine ⟨b, o, rfl, fun i x hx => ?_⟩
      refine ⟨[.int .i64 x], rfl, rfl, fun j u hu => ?_⟩
      match j, hu with
      | 0, hu =>
        cases hu
        have hi : i < len := by
          have := (List.getElem?_eq_some_iff.1 hx).1
          omega
        have := hcell i (by omega)
        rw [List.getElem?_take_of_lt hi] at hx
        rw [List.getD_eq_getElem?_getD, hx] at this
        rw [Addr.add_lit] at this; simpa using this
    · intro hne
      have hpos : len ≠ 0 := fun e => hne (by simp [e])
      have hs := hplain.resolve_left hpos
      obtain ⟨b, o, s⟩ := a
      obtain rfl : s = none := hs
      rfl
set_option maxRecDepth 100000 in
theorem read_ints {H : Type} {enc : TypeId × Value → H} {W : World} {base : Nat} {v : Value} {d : DataW H} {p : List MemPlace} (hok : Value.okWide Tryz.prog W .any base 26 v) (h : DataW.Trod enc Tryz.prog W 0 (fun _ => true) true 26 v d p)
    (hz : (d.weights Tryz.prog 26).all (· ≤ reachBytes) = true) :
    ∃ (l : List Int) (a : Option Addr) (b o c : Nat), v = .slice a l.length c ∧ Ints W (.slice a l.length c) l ∧ (l ≠ [] → a = some ⟨b, o, none⟩) ∧ l.length ≤ 140737488355328 ∧ ∀ x, x ∈ l → (Lit.int .i64 x).wf = true :=
  read_ints_form (okWide_slice Tryz.underlying26 hok) h hz
theorem weights_cut {H : Type} {ts us : List TypeId} {ds : List (DataW H)} (h : (DataW.weightsEach Tryz.prog (ts ++ us) (ds ++ [])).all (· ≤ reachBytes) = true) : (DataW.weightsEach Tryz.prog (ts ++ us) ds).all (· ≤ reachBytes) = true := by
  rw [List.append_nil] at h; exact h
theorem weights_2 {H : Type} {t0 t1 : TypeId} {us : List TypeId} {d0 d1 : DataW H} (h : (DataW.weightsEach Tryz.prog ([t0, t1] ++ us) [d0, d1]).all (· ≤ reachBytes) = true) :
    (d0.weights Tryz.prog t0).all (· ≤ reachBytes) = true ∧ (d1.weights Tryz.prog t1).all (· ≤ reachBytes) = true := by
  simp only [List.cons_append, DataW.weightsEach, List.all_append, Bool.and_eq_true] at h
  exact ⟨h.1, h.2.1⟩
/-- 'witness_row_at', the world's shape given outright. -/
theorem witness_shaped {H : Type} {enc : TypeId × Value → H} {os : Os} {f : FuncId} {fn : Func} {s : OpenSpec} {conds : List PathCond} {apart : Bool} {laid : List (String × DataW Unit)} (w0 : World) (args : Array Value) (hos : w0.os = os)
    (hv : (w0.forCall (fun _ _ => 0) ⟨#[], args, []⟩).Shaped Tryz.prog) (hok : Input.okWideB Tryz.prog (w0.forCall (fun _ _ => 0) ⟨#[], args, []⟩) f ⟨#[], args, []⟩ = true)
    (hrow : s.preRow enc Tryz.prog fn conds apart laid (w0.forCall (fun _ _ => 0) ⟨#[], args, []⟩).memory args) :
    ∃ (w : World) (tape : Tape) (i : Input), w.os = os ∧ (w.forCall tape i).Shaped Tryz.prog ∧ i.vars = [] ∧ Input.okWide Tryz.prog (w.forCall tape i) .any w.heap.size f i ∧
      s.preRow enc Tryz.prog fn conds apart laid (w.forCall tape i).memory i.args ∧ ({} : Assume).holds Tryz.prog (lone (Frame.enter Tryz.prog f i.args .normal) [] (w.forCall tape i)) :=
  ⟨w0, fun _ _ => 0, ⟨#[], args, []⟩, hos, hv, (Input.okWide_of_okWideB (base := 0) hok).1, (Input.okWide_of_okWideB hok).2, hrow, by simp [Assume.holds]⟩
end Go.Proofs.YtacgopankhpnbaaGreatDoor
/- How slices of structs that come in are read, as Rows. -/
namespace Go.Proofs.YtacgopankhpnbaaGreatDoor
open Go.ChangeShapes Go.WideShapes Go.ChangeAt Go.RowKit Go.Deep

section
variable {H : Type} {enc : TypeId × Value → H} {P : Program} {w : World} {base : Nat} {spare : Nat → Bool} {held : Bool}
theorem open_slice_fields {t e : TypeId} {fs : Array Field} {fuel : Nat} {cs : List Value} {x : DataW H × List MemPlace} (ht : P.underlying t = some (.slice e)) (he : P.underlying e = some (.struct fs))
    (hone : oneCellFields P fs = true) (hC : P.cellsOf e = fs.size) (h : DataW.trod enc P w base spare held fuel t cs = some x) :
    (cs = [.slice none 0 0] ∧ x = (.nil, [])) ∨
    ∃ (a : Addr) (len cap m : Nat) (D : Nat → DataW H) (Pl : Nat → List MemPlace), cs = [.slice (some a) len cap] ∧ base ≤ a.block ∧ len ≤ cap ∧ cap ≤ maxLen ∧ m = (if spare a.block then cap else len) ∧
      x = (.slice ((List.range len).map D) ((List.range (m - len)).map fun j => D (len + j)), MemPlace.row a (m * fs.size) ++ (List.range m).flatMap Pl) ∧
      ∀ i, i < m → ∃ (ys : List (DataW H × List MemPlace)) (n : Nat), D i = .agg (ys.map (·.1)) ∧ Pl i = ys.flatMap (·.2) ∧ ys.length = fs.size ∧
        ∀ (j : Nat) (f : Field), fs[j]? = some f → ∃ (v : Value) (y : DataW H × List MemPlace), w.cell? (a.add (i * fs.size + j)) = some v ∧ ys[j]? = some y ∧ DataW.trod enc P w base spare held n f.type [v] = some y := by
  rcases open_slice ht h with h0 | ⟨a, len, cap, m, n, D, Pl, hcs, hb, hl, hm, hmm, hx, hi⟩
  · exact .inl h0
  · refine .inr ⟨a, len, cap, m, D, Pl, hcs, hb, hl, hm, hmm, by rw [hC] at hx; exact hx, fun i him => ?_⟩
    obtain ⟨cs', hc, ht'⟩ := hi i him
    rw [hC] at hc
    obtain ⟨ys, n', hn', hy, hlen, hyl, hf⟩ := DataW.trod_struct he ht'
    obtain ⟨_, hcl, hat⟩ := World.cells?_some hc
    simp only [Prod.mk.injEq] at hy
    refine ⟨ys, n', hy.1, hy.2, hyl, fun j f hj => ?_⟩
    obtain ⟨ho, hk⟩ := hone_of hone j f hj
    have hjl : j < fs.size := (Array.getElem?_eq_some_iff.1 hj).1
    have hcell := hat j hjl
    have hv : cs'[j]? = some (cs'[j]'(by omega)) := List.getElem?_eq_getElem (by omega)
    have h1 := hf j f hj
    rw [ho, hk] at h1
    have hone' : (cs'.drop j).take 1 = [cs'[j]'(by omega)] := by
      rw [List.drop_eq_getElem_cons (by omega)]
      rfl
    rw [hone'] at h1
    have hys : ys[j]? = some (ys[j]'(by omega)) := List.getElem?_eq_getElem (by omega)
    refine ⟨_, _, ?_, hys, h1.trans hys⟩
    rw [← Go.Deep.add_add, hcell, hv]
end

section
variable {H : Type} {enc : TypeId × Value → H} {P : Program} {w : World}
theorem weightsEach_at : ∀ {ts : List TypeId} {ds : List (DataW H)} {j : Nat} {t : TypeId} {d : DataW H}, (DataW.weightsEach P ts ds).all (· ≤ reachBytes) = true → ts[j]? = some t → ds[j]? = some d → (d.weights P t).all (· ≤ reachBytes) = true
  | [], _, j, _, _, _, h, _ => by simp at h
  | _ :: _, [], j, _, _, _, _, h => by simp at h
  | t :: ts, d :: ds, j, t', d', h, h1, h2 => by
    simp only [DataW.weightsEach, List.all_append, Bool.and_eq_true] at h
    cases j with
    | zero => simp at h1 h2; subst h1 h2; exact h.1
    | succ j => exact weightsEach_at h.2 (by simpa using h1) (by simpa using h2)
theorem weights_agg {t : TypeId} {fs : Array Field} {ys : List (DataW H × List MemPlace)} (he : P.underlying t = some (.struct fs)) (h : ((DataW.agg (ys.map (·.1)) : DataW H).weights P t).all (· ≤ reachBytes) = true) {j : Nat} {f : Field} {y : DataW H × List MemPlace}
    (hf : fs[j]? = some f) (hy : ys[j]? = some y) : (y.1.weights P f.type).all (· ≤ reachBytes) = true := by
  rw [DataW.weights, he] at h
  exact weightsEach_at h (j := j) (by rw [List.getElem?_map, Array.getElem?_toList, hf]; rfl) (by rw [List.getElem?_map, hy]; rfl)
theorem weightsAll_each {e : TypeId} : ∀ {xs : List (DataW H)} {x : DataW H}, (DataW.weightsAll P e xs).all (· ≤ reachBytes) = true → x ∈ xs → (x.weights P e).all (· ≤ reachBytes) = true
  | [], _, _, h => by cases h
  | y :: ys, x, h, hx => by
    rw [DataW.weightsAll, List.all_append, Bool.and_eq_true] at h
    rcases List.mem_cons.1 hx with rfl | hx
    · exact h.1
    · exact weightsAll_each h.2 hx
theorem open_row {α : Type} {ec : World → α → List Value → Prop} {t e : TypeId} {fs : Array Field} {fuel : Nat} {v : Value} {x : DataW H × List MemPlace} (ht : P.underlying t = some (.slice e)) (he : P.underlying e = some (.struct fs))
    (hone : oneCellFields P fs = true) (hC : P.cellsOf e = fs.size) (hpos : 0 < fs.size) (h : DataW.trod enc P w 0 (fun _ => true) true fuel t [v] = some x) (hz : (x.1.weights P t).all (· ≤ reachBytes) = true)
    (hE : ∀ (vs : List Value) (ys : List (DataW H × List MemPlace)) (n : Nat), vs.length = fs.size → (∀ (j : Nat) (f : Field), fs[j]? = some f → ∃ (u : Value) (y : DataW H × List MemPlace), vs[j]? = some u ∧ DataW.trod enc P w 0 (fun _ => true) true n f.type [u] = some y ∧ (y.1.weights P f.type).all (· ≤ reachBytes) = true) → ∃ y : α, ec w y vs) :
    ∃ (l : List α) (a : Option Addr) (c : Nat), v = .slice a l.length c ∧ Row fs.size ec w v l ∧ l.length * P.bytesOf e ≤ reachBytes := by
  rcases open_slice_fields ht he hone hC h with ⟨hcs, -⟩ | ⟨a, len, cap, m, D, Pl, hcs, -, hl, hm, hmm, hx, hf⟩
  · obtain rfl : v = .slice none 0 0 := by injection hcs
    exact ⟨[], none, 0, rfl, ⟨none, 0, rfl, Nat.le_refl _, by simp, fun h => absurd rfl h⟩, by simp⟩
  · obtain rfl : v = .slice (some a) len cap := by injection hcs
    simp only [if_true] at hmm
    obtain rfl : cap = m := hmm.symm
    subst hx
    rw [DataW.weights, ht] at hz
    simp only [List.all_cons, List.all_append, Bool.and_eq_true, decide_eq_true_eq, List.length_map, List.length_range] at hz
    obtain ⟨hz1, hz2, -⟩ := hz
    have hlb : len * P.bytesOf e ≤ reachBytes := Nat.le_trans (Nat.mul_le_mul (by omega) (Nat.le_refl _)) hz1
    rcases Nat.eq_zero_or_pos len with h0 | hpos'
    · subst h0
      exact ⟨[], some a, cap, rfl, ⟨_, cap, rfl, by simp, hm, fun h => absurd rfl h⟩, by simp⟩
    have hplain : a.spot = none := by
      obtain ⟨ys, n, -, -, hyl, hj⟩ := hf 0 (by omega)
      obtain ⟨u, y, hc, -⟩ := hj 0 _ (Array.getElem?_eq_getElem hpos)
      cases hs : a.spot with
      | none => rfl
      | some y => simp [World.cell?, Addr.add, hs] at hc; split at hc <;> simp at hc
    obtain ⟨b, o, s⟩ := a
    obtain rfl : s = none := hplain
    have each : ∀ i, i < len → ∃ y : α, ec w y ((List.range fs.size).map fun j => (w.cell? ⟨b, o + i * fs.size + j, none⟩).getD undef) := fun i hi => by
      obtain ⟨ys, n, hD, -, hyl, hj⟩ := hf i (by omega)
      refine hE _ ys n (by simp) (fun j f hjf => ?_)
      obtain ⟨u, y, hc, hy, htr⟩ := hj j f hjf
      have hjl : j < fs.size := (Array.getElem?_eq_some_iff.1 hjf).1
      rw [Addr.add_lit, ← Nat.add_assoc] at hc
      refine ⟨u, y, by simp [hjl, hc], htr, ?_⟩
      have hw := weightsAll_each hz2 (x := D i) (List.mem_map.2 ⟨i, List.mem_range.2 hi, rfl⟩)
      rw [hD] at hw
      exact weights_agg he hw hjf hy
    obtain ⟨y0, -⟩ := each 0 hpos'
    have : ∃ g : Nat → α, ∀ i, i < len → ec w (g i) ((List.range fs.size).map fun j => (w.cell? ⟨b, o + i * fs.size + j, none⟩).getD undef) := by
      refine ⟨fun i => if h : i < len then Classical.choose (each i h) else y0, fun i hi => ?_⟩
      simp only [hi, dif_pos]
      exact Classical.choose_spec (each i hi)
    obtain ⟨g, hg⟩ := this
    refine ⟨(List.range len).map g, some ⟨b, o, none⟩, cap, by simp, ⟨_, cap, by simp, by simpa using hl, hm, fun _ => ⟨b, o, rfl, fun i y hy => ?_⟩⟩, by simpa using hlb⟩
    rw [List.getElem?_map] at hy
    obtain ⟨j, hj, rfl⟩ := Option.map_eq_some_iff.1 hy
    obtain ⟨hi, hij⟩ := List.getElem?_eq_some_iff.1 hj
    simp at hi hij
    subst hij
    refine ⟨_, hg _ hi, by simp, fun k u hu => ?_⟩
    rw [List.getElem?_map] at hu
    obtain ⟨k', hk, rfl⟩ := Option.map_eq_some_iff.1 hu
    obtain ⟨hk1, hk2⟩ := List.getElem?_eq_some_iff.1 hk
    simp at hk1 hk2
    subst hk2
    obtain ⟨ys, n, -, -, -, hjj⟩ := hf i (by omega)
    obtain ⟨u, y, hc, -⟩ := hjj k _ (Array.getElem?_eq_getElem hk1)
    rw [Addr.add_lit, ← Nat.add_assoc] at hc
    rw [hc]; rfl
end
end Go.Proofs.YtacgopankhpnbaaGreatDoor
/- Package step in plain words: what its functions compute. No program in sight. -/
namespace Go.Proofs.YtacgopankhpnbaaGreatDoor

def nameByte (c : UInt8) : Bool := decide (33 ≤ (c.toNat : Int)) && decide ((c.toNat : Int) ≤ 126)
/-- step.isName -/
def isName (s : ByteArray) : Bool := s.data.toList.all nameByte && !s.toList.isEmpty && decide (s.size ≤ 20)

structure Stp where
  kind : Int
  src : List ByteArray
  out : ByteArray
  sorted : Bool
structure Fil where
  name : ByteArray
  text : ByteArray

/-- step.Right -/
def stepRight (s : Stp) : Bool :=
  if (!isName s.out || s.src.any fun x => !isName x) then false
  else if s.kind = 2 then decide (s.src.length ≤ 60)
  else if s.kind = 1 then decide (s.src.length ≤ 60) && !s.sorted
  else if s.kind = 0 ∨ s.kind = 3 ∨ s.kind = 4 ∨ s.kind = 5 then decide (s.src.length = 1) && !s.sorted
  else false

/-- step.Pure -/
def stepPure (s : Stp) : Bool := stepRight s && decide (s.kind ≠ 4) && (decide (s.kind ≠ 2) || s.sorted)

/-- step.RightFiles: the loop, with the names that are known. -/
def rightFrom : List Fil → List ByteArray → Bool
  | [], _ => true
  | f :: r, known => if (known.any fun x => decide (x = f.name)) || !isName f.name || decide (65536 < f.text.size) then false else rightFrom r (f.name :: known)
def rightFiles (l : List Fil) : Bool := rightFrom l [] && decide (l.length ≤ 60)

/-- step.Find -/
def findFile (l : List Fil) (name : ByteArray) : Option ByteArray := (l.find? fun f => decide (f.name = name)).map (·.text)

/-- What step.rows writes: each string, and a byte 10. -/
def rowsL (l : List ByteArray) : List UInt8 := l.flatMap fun s => s.data.toList ++ [10]
def rowsB (l : List ByteArray) : ByteArray := ⟨(rowsL l).toArray⟩

/-- slices.Sort at strings. -/
def sortB (l : List ByteArray) : List ByteArray := ((l.map (·.data.toList)).mergeSort fun x y => decide (x ≤ y)).map fun x => ⟨x.toArray⟩

def nl : ByteArray := ⟨#[10]⟩
/-- The lines of a text that is not empty. -/
def linesOf (text : ByteArray) : List ByteArray :=
  Lib.splitB nl 0 (Lib.countB ⟨(Lib.trimSuffix text.data.toList [10]).toArray⟩ nl) ⟨(Lib.trimSuffix text.data.toList [10]).toArray⟩
/-- step.sorted -/
def sortedLines (text : ByteArray) : List ByteArray := if text.toList.isEmpty then [] else sortB (linesOf text)

/-- Which one of n a number names. -/
def pickIdx (x : Int) (n : Nat) : Nat := (x % (n : Int)).toNat
/-- The names that are left, in the order of the world; u: how many numbers have been used. -/
def pickAll (order : List Int) : Nat → Nat → List ByteArray → List ByteArray
  | 0, _, _ => []
  | f + 1, u, left => match left[pickIdx (order.getD u 0) left.length]? with
    | none => []
    | some x => x :: pickAll order f (u + 1) (left.eraseIdx (pickIdx (order.getD u 0) left.length))

/-- strings.Join with the empty string. -/
def joinB (l : List ByteArray) : ByteArray := ⟨(Lib.join (l.map (·.data.toList)) []).toArray⟩

/-- wire.Int -/
def wireInt (n : Int) : ByteArray := ⟨(Lib.itoa n ++ [59]).toArray⟩
end Go.Proofs.YtacgopankhpnbaaGreatDoor
/- Walks of package step: isName and the library's searches that call it. -/
namespace Go.Proofs.YtacgopankhpnbaaGreatDoor
open Go.RowKit

theorem isName_bad (s : ByteArray) (k : Nat) (h : k < s.size) (hb : (s[k].toNat : Int) < 33 ∨ 126 < (s[k].toNat : Int)) : isName s = false := by
  have hf : s.data.toList.all nameByte = false := by
    rw [List.all_eq_false]
    refine ⟨s[k], ?_, ?_⟩
    · have : s[k] = s.data.toList[k]'(by simpa using h) := rfl
      rw [this]; exact List.getElem_mem _
    · simp [nameByte]; omega
  simp [isName, hf]
theorem isName_empty (s : ByteArray) (h : s.toList = []) : isName s = false := by simp [isName, h]
theorem isName_full (s : ByteArray) (h : s.data.toList.all nameByte = true) (hne : ¬ s.toList = []) : isName s = decide (s.size ≤ 20) := by
  have h2 : s.toList.isEmpty = false := by cases hh : s.toList with
    | nil => exact absurd hh hne
    | cons => rfl
  rw [isName, h, h2]; simp

theorem notEmpty_and {s : ByteArray} {a b : Bool} (h : ¬ s.toList = []) (e : a = b) : (!s.toList.isEmpty && a) = b := by
  cases hh : s.toList with
  | nil => exact absurd hh h
  | cons => simpa using e
set_option maxHeartbeats 400000 in
theorem isName_any (s : ByteArray) (w : World) (hs : s.size ≤ 140737488355328) :
    Calls Tryz.prog 56 #[.string s] w fun e w' => e = .returned (.bool (isName s)) ∧ w = w' := by
  go_enter Tryz.func56, Tryz.ntmps56
  go_wp2
  go_loop [6] (fun i => ∃ k : Nat, k ≤ s.size ∧ i = .int .i64 k ∧ (s.data.toList.take k).all nameByte = true) (fun i => s.size - (intOf i).toNat)
  case atStart => exact ⟨0, Nat.zero_le _, rfl, rfl⟩
  case round =>
    obtain ⟨k, hk, rfl, hall⟩ := hrel
    have HA := Lib.hid hall; clear hall
    go_wp2
    · go_ret
      exact ⟨ret_bool (isName_bad s k ‹_› ‹_›).symm, rfl⟩
    · go_round
      case rel => exact ⟨k + 1, by omega, by go_num, by rw [take_snoc s k ‹_›, List.all_append, HA.out]; simp [nameByte]; omega⟩
      case measure => simp [intOf]; omega
    · go_ret
      exact ⟨ret_bool (isName_bad s k ‹_› (Or.inl ‹_›)).symm, rfl⟩
    · go_ret
      exact ⟨ret_bool (isName_empty s ‹_›).symm, rfl⟩
    · have hk' : k = s.size := by omega
      subst hk'
      go_ret
      have h1 := HA.out
      rw [List.take_of_length_le (by simp)] at h1
      exact ⟨ret_bool (by rw [isName_full s h1 ‹_›]; exact notEmpty_and ‹_› (by simp; omega)), rfl⟩

theorem right1_any (s : ByteArray) (w : World) (hs : s.size ≤ 140737488355328) :
    Calls Tryz.prog 58 #[.string s] w fun e w' => e = .returned (.bool (!isName s)) ∧ w = w' := by
  go_enter Tryz.func58, Tryz.ntmps58
  go_wp2_with (go_at_call 56; refine (isName_any _ _ hs).mono ?_; rintro e w' ⟨rfl, rfl⟩)
  go_ret
  exact ⟨rfl, rfl⟩

/-- What a search of the library's asks of a function value: at each element of the list, in every later world, it answers 'p x' and changes nothing that was there. -/
def Tests {α : Type} (P : Program) (g : FuncId) (cap : Array Value) (enc : α → Value) (p : α → Bool) (l : List α) (w : World) : Prop :=
  ∀ x, x ∈ l → ∀ W, Below w.heap.size w W → Calls P g (#[enc x] ++ cap) W fun e W' => e = .returned (.bool (p x)) ∧ Below W.heap.size W W'

theorem findIdx_hit {α : Type} {p : α → Bool} {l : List α} {k : Nat} {x : α} (hx : l[k]? = some x) (hp : p x = true) (hno : ∀ y, y ∈ l.take k → p y = false) : l.findIdx? p = some k := by
  rw [List.findIdx?_eq_some_iff_getElem]
  obtain ⟨h, rfl⟩ := List.getElem?_eq_some_iff.1 hx
  refine ⟨h, hp, fun j hj => ?_⟩
  have := hno l[j] (by rw [List.mem_take_iff_getElem]; exact ⟨j, by omega, rfl⟩)
  simp [this]
theorem take_no {α : Type} {p : α → Bool} {l : List α} {k : Nat} {x : α} (hx : l[k]? = some x) (hp : p x = false) (hno : ∀ y, y ∈ l.take k → p y = false) : ∀ y, y ∈ l.take (k + 1) → p y = false := by
  intro y hy
  rw [List.take_add_one, List.mem_append] at hy
  rcases hy with hy | hy
  · exact hno y hy
  · rw [hx] at hy; simp at hy; rw [hy]; exact hp
theorem findIdx_miss {α : Type} {p : α → Bool} {l : List α} {k : Nat} (hk : l.length ≤ k) (hno : ∀ y, y ∈ l.take k → p y = false) : l.findIdx? p = none := by
  rw [List.findIdx?_eq_none_iff]
  intro x hx
  rw [List.take_of_length_le hk] at hno
  simp [hno x hx]
/-- What the library's IndexFunc returns. -/
def idxOf {α : Type} (p : α → Bool) (l : List α) : Int := match l.findIdx? p with | some i => (i : Int) | none => -1
theorem idxOf_some {α : Type} {p : α → Bool} {l : List α} {k : Nat} (h : l.findIdx? p = some k) : idxOf p l = k := by unfold idxOf; rw [h]
theorem idxOf_none {α : Type} {p : α → Bool} {l : List α} (h : l.findIdx? p = none) : idxOf p l = -1 := by unfold idxOf; rw [h]
theorem idxOf_any {α : Type} (p : α → Bool) (l : List α) : decide (0 ≤ idxOf p l) = l.any p := by
  unfold idxOf
  cases h : l.findIdx? p with
  | none =>
    rw [List.findIdx?_eq_none_iff] at h
    have : l.any p = false := by rw [List.any_eq_false]; intro x hx; simp [h x hx]
    rw [this]; rfl
  | some i =>
    obtain ⟨hi, hp, -⟩ := List.findIdx?_eq_some_iff_getElem.1 h
    have : l.any p = true := List.any_eq_true.2 ⟨_, List.getElem_mem hi, hp⟩
    rw [this]; simp

set_option maxHeartbeats 400000 in
theorem indexFunc_str (g : FuncId) (cap : Array Value) (p : ByteArray → Bool) (l : List ByteArray) (v : Value) (w : World) (hv : Strs w v l)
    (eg : ∀ args w, (callFunc g args).run Tryz.prog w = .ok (.enter g args) w) (hp : Tests Tryz.prog g cap Value.string p l w) :
    Calls Tryz.prog 88 #[v, .func (.func g) #[] cap] w fun e w' => e = .returned (.int .i64 (idxOf p l)) ∧ Below w.heap.size w w' := by
  have HP := Lib.hid hp; clear hp
  rcases hv.cases with ⟨rfl, a, c, rfl⟩ | ⟨b, o, c, rfl, h0, h1, h2, hb, hc⟩
  · clear hv
    go_enter Tryz.func88, Tryz.ntmps88
    go_wp2_with fail
    go_loop [8] (fun i => i = .int .i64 0) (fun i => 0)
    case atStart => rfl
    case round =>
      subst hrel
      go_wp2_with fail
      go_ret
      exact ⟨rfl, Below.refl _ _⟩
  · clear hv
    go_enter Tryz.func88, Tryz.ntmps88
    go_wp2_with fail
    go_loopw [8] (fun i wr => ∃ k : Nat, k ≤ l.length ∧ i = .int .i64 k ∧ (∀ x, x ∈ l.take k → p x = false) ∧ Below w.heap.size w wr) (fun i _ => l.length - (intOf i).toNat)
    case atStart => exact ⟨0, Nat.zero_le _, rfl, by simp, Below.refl _ _⟩
    case round =>
      obtain ⟨k, hk, rfl, hno, hbl⟩ := hrel
      have HN := Lib.hid hno; clear hno
      by_cases hlt : k < l.length
      · obtain ⟨x, hx, hxl⟩ := getElem?_of_lt hlt
        have hcell := cell_later hbl (hc k x hx).1
        have HX := Lib.hid hx
        have hcall := Lib.hid (HP.out _ hxl _ hbl)
        clear hc hxl hx
        cases hq : p x with
        | true =>
          rw [hq] at hcall
          have HQ := Lib.hid hq; clear hq
          go_wp2_with (go_at_fn g; refine (hcall.out).mono ?_; rintro e w' ⟨rfl, hb'⟩)
          go_ret
          exact ⟨ret_int (idxOf_some (findIdx_hit HX.out HQ.out HN.out)).symm, below_trans hbl hb'⟩
        | false =>
          rw [hq] at hcall
          have HQ := Lib.hid hq; clear hq
          go_wp2_with (go_at_fn g; refine (hcall.out).mono ?_; rintro e w' ⟨rfl, hb'⟩)
          go_roundw
          case rel => exact ⟨k + 1, by omega, by go_num, take_no HX.out HQ.out HN.out, below_trans hbl hb'⟩
          case measure => simp [intOf]; omega
      · go_wp2_with fail
        go_ret
        exact ⟨ret_int (idxOf_none (findIdx_miss (by omega) HN.out)).symm, hbl⟩

theorem containsFunc_str (g : FuncId) (cap : Array Value) (p : ByteArray → Bool) (l : List ByteArray) (v : Value) (w : World) (hv : Strs w v l)
    (eg : ∀ args w, (callFunc g args).run Tryz.prog w = .ok (.enter g args) w) (hp : Tests Tryz.prog g cap Value.string p l w) :
    Calls Tryz.prog 57 #[v, .func (.func g) #[] cap] w fun e w' => e = .returned (.bool (l.any p)) ∧ Below w.heap.size w w' := by
  have h := Lib.hid (indexFunc_str g cap p l v w hv eg hp)
  have HA := Lib.hid (idxOf_any p l)
  generalize idxOf p l = r at h HA
  generalize l.any p = q at HA ⊢
  clear hp hv eg
  go_enter Tryz.func57, Tryz.ntmps57
  go_wp2_with (go_at_call 88; refine h.out.mono ?_; rintro e w' ⟨rfl, hb'⟩)
  go_ret
  exact ⟨ret_bool HA.out, hb'⟩
end Go.Proofs.YtacgopankhpnbaaGreatDoor
/- Maps that the code makes, with keys and elements of a plain kind: a block reads as a function. Over any program. -/
namespace Go.Proofs.YtacgopankhpnbaaGreatDoor
open Go.RowKit Go.Maps

/-- How keys of a plain kind stand. -/
structure KeyC (P : Program) (t : TypeId) (κ : Type) where
  lit : κ → Lit
  val : κ → Value
  ok : κ → Prop
  inj : ∀ a b, lit a = lit b → a = b
  key : ∀ a, ok a → keyOf P t (val a) = some (lit a)
  keyed : Keyed P t
  isKey : ∀ a, WideAt.IsKeyLit (lit a)

/-- How elements of a plain kind stand. -/
structure ValC (P : Program) (t : TypeId) (ν : Type) where
  lit : ν → Lit
  val : ν → Value
  ok : ν → Prop
  zero : ν
  zok : ok zero
  rd : ∀ x, ok x → plainElem (H := Unit) P t (val x) = some (.lit (lit x), [])
  inv : ∀ v x ps, plainElem (H := Unit) P t v = some (.lit (lit x), ps) → v = val x
  zrun : ∀ w, (zeroValue t).run P w = .ok (val zero) w

theorem bytes_ext {s t : ByteArray} (h : s.data.toList = t.data.toList) : s = t := by
  cases s; cases t; congr; exact Array.toList_inj.1 h

section
variable {P : Program} {t : TypeId}
def strKey (h : P.underlying t = some .string) : KeyC P t ByteArray where
  lit s := .string s.data.toList
  val := .string
  ok s := s.size ≤ maxLen
  inj a b h := bytes_ext (by simpa using h)
  key a ha := Go.WideMaps.keyOf_string_mk h ha
  keyed := string_keyed h
  isKey _ := trivial
def intKey (h : P.underlying t = some (.int .i64)) : KeyC P t Int where
  lit := .int .i64
  val := .int .i64
  ok n := (Lit.int .i64 n).wf = true
  inj a b h := by simpa using h
  key a ha := keyOf_int_mk h ha
  keyed := int_keyed h
  isKey _ := trivial
def boolVal (h : P.underlying t = some .bool) (hz : ∀ w, (zeroValue t).run P w = .ok (.bool false) w) : ValC P t Bool where
  lit := .bool
  val := .bool
  ok _ := True
  zero := false
  zok := trivial
  rd x _ := plainElem_bool h x
  inv v x ps hv := by
    unfold plainElem at hv; rw [h] at hv
    cases v <;> simp at hv
    rw [hv.1]
  zrun := hz
def intVal (h : P.underlying t = some (.int .i64)) (hz : ∀ w, (zeroValue t).run P w = .ok (.int .i64 0) w) : ValC P t Int where
  lit := .int .i64
  val := .int .i64
  ok n := (Lit.int .i64 n).wf = true
  zero := 0
  zok := by decide
  rd x hx := plainElem_int h hx
  inv v x ps hv := by
    obtain ⟨a, rfl, e, -⟩ := plainElem_int_inv h hv
    simp at e; rw [e.1]
  zrun := hz
def strVal (h : P.underlying t = some .string) (hz : ∀ w, (zeroValue t).run P w = .ok (.string ByteArray.empty) w) : ValC P t ByteArray where
  lit s := .string s.data.toList
  val := .string
  ok s := s.size ≤ maxLen
  zero := ByteArray.empty
  zok := by decide
  rd x hx := plainElem_string h hx
  inv v x ps hv := by
    unfold plainElem at hv; rw [h] at hv
    cases v <;> simp at hv
    exact congrArg Value.string (bytes_ext (by simpa using congrArg Array.toList hv.2.1))
  zrun := hz
end

section
variable {P : Program} {kt et t : TypeId} {κ ν : Type} {K : KeyC P kt κ} {V : ValC P et ν} {w : World} {b n : Nat} {m : κ → Option ν}

/-- Block b of w is a map of at most n entries that holds what m says. -/
def MapIs (K : KeyC P kt κ) (V : ValC P et ν) (w : World) (b n : Nat) (m : κ → Option ν) : Prop :=
  ∃ D : DataW Unit, w.ownsMap P kt (plainElem P et) b n D ∧ ∀ x z, D.atKey (K.lit x) z = (match m x with | some v => .lit (V.lit v) | none => z)

theorem MapIs.made (w : World) : MapIs K V (w.alloc (.map #[] 0)) w.heap.size 0 (fun _ => none) :=
  ⟨.map [], World.ownsMap_made w P kt _, fun _ _ => rfl⟩
theorem MapIs.of_block {w' : World} (h : MapIs K V w b n m) (hb : w'.heap[b]? = w.heap[b]?) : MapIs K V w' b n m := by
  obtain ⟨D, ⟨es, clock, h1, r⟩, h2⟩ := h
  exact ⟨D, ⟨es, clock, hb.trans h1, r⟩, h2⟩
theorem MapIs.lt (h : MapIs K V w b n m) : b < w.heap.size := by obtain ⟨D, h1, -⟩ := h; exact h1.lt
theorem MapIs.later {w' : World} (h : MapIs K V w b n m) (hb : Below w.heap.size w w') : MapIs K V w' b n m := h.of_block (hb.block b h.lt)
theorem MapIs.mono {n' : Nat} (h : MapIs K V w b n m) (hn : n ≤ n') : MapIs K V w b n' m := by obtain ⟨D, h1, h2⟩ := h; exact ⟨D, h1.mono hn, h2⟩
theorem MapIs.alloc (h : MapIs K V w b n m) (o : Obj) : MapIs K V (w.alloc o) b n m := h.of_block (Below.heap_alloc _ _ _ h.lt)
theorem MapIs.drew (h : MapIs K V w b n m) : MapIs K V w.drew b n m := h
theorem MapIs.setCell (h : MapIs K V w b n m) {a : Addr} (ha : b ≠ a.block) (u : Value) : MapIs K V (w.setCell a u) b n m := h.of_block (Below.heap_setCell _ _ _ _ ha)
theorem MapIs.grown {w' : World} {row : Option Nat} (h : MapIs K V w b n m) (hg : w.grownBy w' row) (hne : some b ≠ row) : MapIs K V w' b n m :=
  h.of_block (hg.block b h.lt hne)
theorem MapIs.ext {m' : κ → Option ν} (h : MapIs K V w b n m) (e : ∀ x, m x = m' x) : MapIs K V w b n m' := by
  have : m = m' := funext e
  exact this ▸ h

theorem MapIs.look (h : MapIs K V w b n m) (ht : P.underlying t = some (.map kt et)) {x : κ} (hx : K.ok x) :
    (Instr.lookup t (.map (some b)) (K.val x) false).run P w = .ok (V.val ((m x).getD V.zero)) w := by
  obtain ⟨D, h1, h2⟩ := h
  obtain ⟨v, ps, hrun, hv⟩ := h1.lookup K.keyed ht (V.zrun w) (V.rd _ V.zok) (K.key x hx)
  rw [h2] at hv
  cases hm : m x with
  | none => rw [hm] at hv; rw [hrun, V.inv v _ ps hv]; rfl
  | some y => rw [hm] at hv; rw [hrun, V.inv v _ ps hv]; rfl

theorem MapIs.look2 (h : MapIs K V w b n m) (ht : P.underlying t = some (.map kt et)) {x : κ} (hx : K.ok x) :
    (Instr.lookup t (.map (some b)) (K.val x) true).run P w = .ok (.tuple #[V.val ((m x).getD V.zero), .bool (m x).isSome]) w := by
  obtain ⟨D, h1, h2⟩ := h
  obtain ⟨v, ps, hrun, hv⟩ := h1.look_ok K.keyed ht (V.zrun w) (V.rd _ V.zok) (K.key x hx)
  rw [h2] at hv
  cases hm : m x with
  | none =>
    rw [hm] at hv
    have : Maps.has D (K.lit x) = false := Maps.has_false_of_atKey fun z => by rw [h2, hm]
    rw [hrun, V.inv v _ ps hv, this]; rfl
  | some y =>
    rw [hm] at hv
    have : Maps.has D (K.lit x) = true := Maps.has_true_of_atKey (y := .lit (V.lit y)) fun z => by rw [h2, hm]
    rw [hrun, V.inv v _ ps hv, this]; rfl

open Classical in
theorem MapIs.store (h : MapIs K V w b n m) (ht : P.underlying t = some (.map kt et)) (hn : n < maxLen) {x : κ} (hx : K.ok x) {y : ν} (hy : V.ok y) :
    ∃ w', (Instr.mapUpdate t (.map (some b)) (K.val x) (V.val y)).run P w = .ok () w' ∧ MapIs K V w' b (n + 1) (fun z => if z = x then some y else m z) ∧ w.grownBy w' (some b) := by
  obtain ⟨D, h1, h2⟩ := h
  obtain ⟨w', hrun, h3, hg⟩ := h1.update K.keyed ht hn (K.key x hx) (V.rd y hy)
  refine ⟨w', hrun, ⟨_, h3, fun z d => ?_⟩, hg⟩
  by_cases hz : z = x
  · subst hz
    rw [atKey_put_same h1.isMap (K.isKey z)]; simp
  · rw [atKey_put_other (fun e => hz (K.inj _ _ e)), h2]; simp [hz]

theorem wpList_look {ops : Array Oper} {rest : List Oper} {o : Oper} {a : Act} {Q : Exit → Act → World → Prop} (hg : o.guard = none) {mo xo : Operand} (hop : o.op = Op.lookup t mo xo false)
    (ht : P.underlying t = some (.map kt et)) (h : MapIs K V w b n m) (hm : a.eval mo = .map (some b)) {x : κ} (hx : K.ok x) (hxe : a.eval xo = K.val x)
    (hK : wpList P ops Q rest (a.put o.dst (V.val ((m x).getD V.zero))) w) : wpList P ops Q (o :: rest) a w := by
  refine wpList_plain hg fun K' hK' => ?_
  have hrun := h.look ht hx
  unfold Oper.wp
  simp [execOp, hop, hm, hxe, hrun, Result.andThen]
  exact hK' _ _ hK
theorem wpList_look2 {ops : Array Oper} {rest : List Oper} {o : Oper} {a : Act} {Q : Exit → Act → World → Prop} (hg : o.guard = none) {mo xo : Operand} (hop : o.op = Op.lookup t mo xo true)
    (ht : P.underlying t = some (.map kt et)) (h : MapIs K V w b n m) (hm : a.eval mo = .map (some b)) {x : κ} (hx : K.ok x) (hxe : a.eval xo = K.val x)
    (hK : wpList P ops Q rest (a.put o.dst (.tuple #[V.val ((m x).getD V.zero), .bool (m x).isSome])) w) : wpList P ops Q (o :: rest) a w := by
  refine wpList_plain hg fun K' hK' => ?_
  have hrun := h.look2 ht hx
  unfold Oper.wp
  simp [execOp, hop, hm, hxe, hrun, Result.andThen]
  exact hK' _ _ hK
open Classical in
theorem wpList_put {ops : Array Oper} {rest : List Oper} {o : Oper} {a : Act} {Q : Exit → Act → World → Prop} (hg : o.guard = none) {mo xo vo : Operand} (hop : o.op = Op.mapUpdate t mo xo vo)
    (ht : P.underlying t = some (.map kt et)) (h : MapIs K V w b n m) (hn : n < maxLen) (hm : a.eval mo = .map (some b)) {x : κ} (hx : K.ok x) (hxe : a.eval xo = K.val x) {y : ν} (hy : V.ok y) (hye : a.eval vo = V.val y)
    (hK : ∀ w', MapIs K V w' b (n + 1) (fun z => if z = x then some y else m z) → w.grownBy w' (some b) → wpList P ops Q rest (a.put o.dst undef) w') : wpList P ops Q (o :: rest) a w := by
  refine wpList_plain hg fun K' hK' => ?_
  obtain ⟨w', hrun, h1, h2⟩ := h.store ht hn hx hy
  unfold Oper.wp
  simp [execOp, hop, hm, hxe, hye, hrun, Result.andThen]
  exact hK' _ _ (hK w' h1 h2)
end
end Go.Proofs.YtacgopankhpnbaaGreatDoor
/- Walks of package step: Right, Find, RightFiles. -/
namespace Go.Proofs.YtacgopankhpnbaaGreatDoor
open Go.RowKit

def encFil (_ : World) (f : Fil) (cs : List Value) : Prop := cs = [.string f.name, .string f.text] ∧ f.name.size ≤ 140737488355328 ∧ f.text.size ≤ 140737488355328
def Fils (w : World) (v : Value) (l : List Fil) : Prop := Row 2 encFil w v l
theorem Fils.later {w w' : World} {v : Value} {l : List Fil} (hb : Below w.heap.size w w') (h : Fils w v l) : Fils w' v l := Row.later hb (fun _ _ h => h) h
theorem Fils.cases {w : World} {v : Value} {l : List Fil} (h : Fils w v l) :
    (l = [] ∧ ∃ a c, v = .slice a 0 c) ∨ (∃ b o c, v = .slice (some ⟨b, o, none⟩) l.length c ∧ 0 < l.length ∧ l.length ≤ c ∧ c ≤ 9223372036854775807 ∧ b < w.heap.size ∧
      ∀ i f, l[i]? = some f → w.cell? ⟨b, o + i * 2, none⟩ = some (.string f.name) ∧ w.cell? ⟨b, o + i * 2 + 1, none⟩ = some (.string f.text) ∧ f.name.size ≤ 140737488355328 ∧ f.text.size ≤ 140737488355328) := by
  rcases Row.cases h with h | ⟨b, o, c, hv, h0, h1, h2, hb, hc⟩
  · exact .inl h
  · refine .inr ⟨b, o, c, hv, h0, h1, h2, hb, fun i x hx => ?_⟩
    obtain ⟨cs, ⟨e, hs⟩, -, hj⟩ := hc i x hx
    exact ⟨hj 0 (.string x.name) (by rw [e]; rfl), hj 1 (.string x.text) (by rw [e]; rfl), hs⟩

theorem enters_isName : ∀ args w, (callFunc 58 args).run Tryz.prog w = .ok (.enter 58 args) w := enters_of Tryz.func58 (by kernel_rfl) rfl

/-- A step as a value. -/
def StpV (w : World) (v : Value) (s : Stp) : Prop := ∃ vf, v = .agg #[.int .i64 s.kind, vf, .string s.out, .bool s.sorted] ∧ Strs w vf s.src ∧ s.out.size ≤ 140737488355328

theorem strs_slice {w : World} {v : Value} {l : List ByteArray} (h : Strs w v l) : ∃ a c, v = .slice a l.length c := by
  obtain ⟨a, c, hv, -⟩ := h; exact ⟨a, c, hv⟩

theorem toList_eq (s : ByteArray) : s.toList = s.data.toList := Lib.toList_data s
theorem beq_toList (a b : ByteArray) : (a.toList == b.toList) = decide (a = b) := by
  rw [toList_eq, toList_eq, Bool.eq_iff_iff]
  simp only [beq_iff_eq, decide_eq_true_eq]
  exact ⟨fun h => bytes_ext h, fun h => by rw [h]⟩

theorem find1_any (name fn ft : ByteArray) (b : Nat) (w : World) (hb : w.cell? ⟨b, 0, none⟩ = some (.string name)) :
    Calls Tryz.prog 55 #[.agg #[.string fn, .string ft], .pointer (some ⟨b, 0, none⟩)] w fun e w' => e = .returned (.bool (decide (fn = name))) ∧ Below w.heap.size w w' := by
  have hlt := cell_lt hb
  go_enter Tryz.func55, Tryz.ntmps55
  go_wp2_with fail
  go_ret
  exact ⟨ret_bool (beq_toList _ _), (Below.refl _ _).alloc (Nat.le_refl _) _⟩

set_option maxHeartbeats 400000 in
theorem indexFunc_fil (g : FuncId) (cap : Array Value) (p : Fil → Bool) (l : List Fil) (v : Value) (w : World) (hv : Fils w v l)
    (eg : ∀ args w, (callFunc g args).run Tryz.prog w = .ok (.enter g args) w) (hp : Tests Tryz.prog g cap (fun f : Fil => .agg #[.string f.name, .string f.text]) p l w) :
    Calls Tryz.prog 54 #[v, .func (.func g) #[] cap] w fun e w' => e = .returned (.int .i64 (idxOf p l)) ∧ Below w.heap.size w w' := by
  have HP := Lib.hid hp; clear hp
  rcases hv.cases with ⟨rfl, a, c, rfl⟩ | ⟨b, o, c, rfl, h0, h1, h2, hb, hc⟩
  · clear hv
    go_enter Tryz.func54, Tryz.ntmps54
    go_wp2_with fail
    go_loop [8] (fun i => i = .int .i64 0) (fun i => 0)
    case atStart => rfl
    case round =>
      subst hrel
      go_wp2_with fail
      go_ret
      exact ⟨rfl, Below.refl _ _⟩
  · clear hv
    go_enter Tryz.func54, Tryz.ntmps54
    go_wp2_with fail
    go_loopw [8] (fun i wr => ∃ k : Nat, k ≤ l.length ∧ i = .int .i64 k ∧ (∀ x, x ∈ l.take k → p x = false) ∧ Below w.heap.size w wr) (fun i _ => l.length - (intOf i).toNat)
    case atStart => exact ⟨0, Nat.zero_le _, rfl, by simp, Below.refl _ _⟩
    case round =>
      obtain ⟨k, hk, rfl, hno, hbl⟩ := hrel
      have HN := Lib.hid hno; clear hno
      by_cases hlt : k < l.length
      · obtain ⟨x, hx, hxl⟩ := getElem?_of_lt hlt
        obtain ⟨c1, c2, -, -⟩ := hc k x hx
        have hcell1 := cell_later hbl c1
        have hcell2 := cell_later hbl c2
        have HX := Lib.hid hx
        have hcall := Lib.hid (HP.out _ hxl _ hbl)
        clear hc hxl hx c1 c2
        cases hq : p x with
        | true =>
          rw [hq] at hcall
          have HQ := Lib.hid hq; clear hq
          go_wp2_with (go_at_fn g; refine (hcall.out).mono ?_; rintro e w' ⟨rfl, hb'⟩)
          go_ret
          exact ⟨ret_int (idxOf_some (findIdx_hit HX.out HQ.out HN.out)).symm, below_trans hbl hb'⟩
        | false =>
          rw [hq] at hcall
          have HQ := Lib.hid hq; clear hq
          go_wp2_with (go_at_fn g; refine (hcall.out).mono ?_; rintro e w' ⟨rfl, hb'⟩)
          go_roundw
          case rel => exact ⟨k + 1, by omega, by go_num, take_no HX.out HQ.out HN.out, below_trans hbl hb'⟩
          case measure => simp [intOf]; omega
      · go_wp2_with fail
        go_ret
        exact ⟨ret_int (idxOf_none (findIdx_miss (by omega) HN.out)).symm, hbl⟩

end Go.Proofs.YtacgopankhpnbaaGreatDoor
/- Walks of package step: Find, RightFiles, Right. -/
namespace Go.Proofs.YtacgopankhpnbaaGreatDoor
open Go.RowKit

theorem enters_find1 : ∀ args w, (callFunc 55 args).run Tryz.prog w = .ok (.enter 55 args) w := enters_of Tryz.func55 (by kernel_rfl) rfl

/-- What Find returns. -/
def findV (l : List Fil) (name : ByteArray) : Value := match findFile l name with
  | some t => .tuple #[.string t, .bool true]
  | none => .tuple #[.string ByteArray.empty, .bool false]

theorem findFile_idx (l : List Fil) (name : ByteArray) :
    (idxOf (fun f : Fil => decide (f.name = name)) l = -1 ∧ findFile l name = none) ∨ ∃ (k : Nat) (f : Fil), l[k]? = some f ∧ idxOf (fun f : Fil => decide (f.name = name)) l = k ∧ findFile l name = some f.text := by
  unfold idxOf findFile
  cases h : l.findIdx? (fun f : Fil => decide (f.name = name)) with
  | none =>
    refine .inl ⟨rfl, ?_⟩
    rw [List.findIdx?_eq_none_iff] at h
    rw [List.find?_eq_none.2 (fun x hx => by simpa using h x hx)]; rfl
  | some k =>
    obtain ⟨hk, hp, hno⟩ := List.findIdx?_eq_some_iff_getElem.1 h
    refine .inr ⟨k, l[k], List.getElem?_eq_getElem hk, rfl, ?_⟩
    have : l.find? (fun f : Fil => decide (f.name = name)) = some l[k] := by
      rw [List.find?_eq_some_iff_getElem]
      exact ⟨hp, k, hk, rfl, fun j hj => by simpa using hno j hj⟩
    rw [this]; rfl

set_option maxHeartbeats 400000 in
theorem find_any (l : List Fil) (v : Value) (name : ByteArray) (w : World) (hv : Fils w v l) :
    Calls Tryz.prog 21 #[v, .string name] w fun e w' => e = .returned (findV l name) ∧ Below w.heap.size w w' := by
  have hidx : ∀ W, Below w.heap.size w W → W.heap[w.heap.size]? = some (.cells #[.string name] 9) → Calls Tryz.prog 54 #[v, .func (.func 55) #[] #[.pointer (some ⟨w.heap.size, 0, none⟩)]] W
      fun e w' => e = .returned (.int .i64 (idxOf (fun f : Fil => decide (f.name = name)) l)) ∧ Below W.heap.size W w' := fun W hb hW =>
    indexFunc_fil _ _ _ l v W (hv.later hb) enters_find1 (fun x _ W' hb' => by
      have h0 : W.cell? ⟨w.heap.size, 0, none⟩ = some (.string name) := by simp [World.cell?, hW]
      exact find1_any name x.name x.text w.heap.size W' (cell_later hb' h0))
  have HI := Lib.hid hidx; clear hidx
  have hcs := findFile_idx l name
  unfold findV
  rcases hcs with ⟨hi, hf⟩ | ⟨k, f, hk, hi, hf⟩
  · rw [hf]; rw [hi] at HI
    obtain ⟨a, c, hv, -⟩ := hv; subst hv
    clear hi hf
    go_enter Tryz.func21, Tryz.ntmps21
    go_wp2_with (go_at_call 54; refine (HI.out _ (below_alloc _ _) (alloc_self _ _)).mono ?_; rintro e w' ⟨rfl, hb'⟩)
    go_ret2
    exact ⟨rfl, below_trans (below_alloc _ _) hb'⟩
  · rcases hv.cases with ⟨rfl, -⟩ | ⟨b, o, c, rfl, h0, h1, h2, hb, hc⟩
    · simp at hk
    · rw [hf]; rw [hi] at HI
      obtain ⟨c1, c2, -, -⟩ := hc k f hk
      have hkl : k < l.length := (List.getElem?_eq_some_iff.1 hk).1
      clear hi hf hc hk c1 hv
      go_enter Tryz.func21, Tryz.ntmps21
      go_wp2_with (go_at_call 54; refine (HI.out _ (below_alloc _ _) (alloc_self _ _)).mono ?_; rintro e w' ⟨rfl, hb'⟩; have hc2 := cell_later (below_trans (below_alloc _ _) hb') c2)
      go_ret2
      exact ⟨rfl, below_trans (below_alloc _ _) hb'⟩

/-- The map of the names that are known. -/
noncomputable def knownOf (l : List ByteArray) (x : ByteArray) : Option Bool := if l.any (fun y => decide (y = x)) then some true else none
theorem knownOf_getD (l : List ByteArray) (x : ByteArray) : (knownOf l x).getD false = l.any (fun y => decide (y = x)) := by
  unfold knownOf; cases h : l.any (fun y => decide (y = x)) <;> simp
theorem zero_bool (w : World) : (zeroValue 4).run Tryz.prog w = .ok (.bool false) w := by kernel_rfl
noncomputable def kStr : KeyC Tryz.prog 9 ByteArray := strKey Tryz.underlying9
noncomputable def vBool : ValC Tryz.prog 4 Bool := boolVal Tryz.underlying4 zero_bool
theorem maxLen_val : (140737488355328 : Nat) ≤ maxLen := by decide

/-- A look-up in, and a store into, a map of strings to bools. -/
theorem wpList_look_sb {ops : Array Oper} {rest : List Oper} {o : Oper} {a : Act} {Q : Exit → Act → World → Prop} {w : World} {b n : Nat} {m : ByteArray → Option Bool} (h : MapIs kStr vBool w b n m)
    {x : ByteArray} (hx : x.size ≤ 140737488355328) {r : Bool} (hr : (m x).getD false = r) {mo xo : Operand} (hg : o.guard = none) (hop : o.op = Op.lookup 99 mo xo false) (hm : a.eval mo = .map (some b)) (hxe : a.eval xo = .string x)
    (hK : wpList Tryz.prog ops Q rest (a.put o.dst (.bool r)) w) : wpList Tryz.prog ops Q (o :: rest) a w :=
  wpList_look (K := kStr) (V := vBool) hg hop Tryz.underlying99 h hm (Nat.le_trans hx maxLen_val) hxe (by subst hr; exact hK)
theorem wpList_put_sb {ops : Array Oper} {rest : List Oper} {o : Oper} {a : Act} {Q : Exit → Act → World → Prop} {w : World} {b n : Nat} {m : ByteArray → Option Bool} (h : MapIs kStr vBool w b n m) (hn : n < 9223372036854775807)
    {x : ByteArray} (hx : x.size ≤ 140737488355328) {r : Bool} {mo xo vo : Operand} (hg : o.guard = none) (hop : o.op = Op.mapUpdate 99 mo xo vo) (hm : a.eval mo = .map (some b)) (hxe : a.eval xo = .string x) (hve : a.eval vo = .bool r)
    (hK : ∀ w', MapIs kStr vBool w' b (n + 1) (fun z => if z = x then some r else m z) → w.grownBy w' (some b) → wpList Tryz.prog ops Q rest (a.put o.dst undef) w') : wpList Tryz.prog ops Q (o :: rest) a w :=
  wpList_put (K := kStr) (V := vBool) hg hop Tryz.underlying99 h (by unfold maxLen; omega) hm (Nat.le_trans hx maxLen_val) hxe (y := r) trivial hve (fun w' h1 h2 => hK w' (by exact h1.ext (fun z => by by_cases hz : z = x <;> simp [hz])) h2)

theorem knownOf_cons (l : List ByteArray) (y : ByteArray) : (fun z => if z = y then some true else knownOf l z) = knownOf (y :: l) := by
  funext z
  unfold knownOf
  by_cases h : z = y
  · subst h; simp
  · have : decide (y = z) = false := decide_eq_false (fun e => h e.symm)
    simp only [h, if_false, List.any_cons, this, Bool.false_or]
theorem rightFrom_bad {l : List Fil} {k : Nat} {x : Fil} {known : List ByteArray} (hx : l[k]? = some x) (h : (known.any fun y => decide (y = x.name)) = true ∨ isName x.name = false ∨ 65536 < x.text.size)
    (hr : rightFrom l [] = rightFrom (l.drop k) known) : rightFiles l = false := by
  have e : l.drop k = x :: l.drop (k + 1) := by
    obtain ⟨hk, rfl⟩ := List.getElem?_eq_some_iff.1 hx
    exact List.drop_eq_getElem_cons hk
  rw [rightFiles, hr, e, rightFrom]
  rcases h with h | h | h <;> simp [h]
theorem rightFrom_good {l : List Fil} {k : Nat} {x : Fil} {known : List ByteArray} (hx : l[k]? = some x) (h1 : (known.any fun y => decide (y = x.name)) = false) (h2 : isName x.name = true) (h3 : x.text.size ≤ 65536)
    (hr : rightFrom l [] = rightFrom (l.drop k) known) : rightFrom l [] = rightFrom (l.drop (k + 1)) (x.name :: known) := by
  have e : l.drop k = x :: l.drop (k + 1) := by
    obtain ⟨hk, rfl⟩ := List.getElem?_eq_some_iff.1 hx
    exact List.drop_eq_getElem_cons hk
  rw [hr, e, rightFrom, h1, h2]
  simp; omega
theorem rightFrom_end {l : List Fil} {k : Nat} {known : List ByteArray} (hk : l.length ≤ k) (hr : rightFrom l [] = rightFrom (l.drop k) known) : rightFiles l = decide (l.length ≤ 60) := by
  rw [rightFiles, hr, List.drop_of_length_le hk, rightFrom]; simp

set_option maxHeartbeats 800000 in
theorem rightFiles_any (l : List Fil) (v : Value) (w : World) (hv : Fils w v l) :
    Calls Tryz.prog 51 #[v] w fun e w' => e = .returned (.bool (rightFiles l)) ∧ Below w.heap.size w w' := by
  rcases hv.cases with ⟨rfl, a, c, rfl⟩ | ⟨b, o, c, rfl, h0, h1, h2, hb, hc⟩
  · have hmm := @run_makeMap Tryz.prog
    clear hv
    go_enter Tryz.func51, Tryz.ntmps51
    go_wp2_with fail
    go_loop [9] (fun i => i = .int .i64 0) (fun i => 0)
    case atStart => rfl
    case round =>
      subst hrel
      go_wp2_with fail
      go_ret
      exact ⟨rfl, below_alloc _ _⟩
  · have hmm := @run_makeMap Tryz.prog
    clear hv
    have HC := Lib.hid hc; clear hc
    go_enter Tryz.func51, Tryz.ntmps51
    go_wp2_with fail
    clear hmm
    go_loopw [9] (fun i wr => ∃ (k : Nat) (known : List ByteArray), k ≤ l.length ∧ i = .int .i64 k ∧ rightFrom l [] = rightFrom (l.drop k) known ∧ MapIs kStr vBool wr w.heap.size k (knownOf known) ∧ Below w.heap.size w wr) (fun i _ => l.length - (intOf i).toNat)
    case atStart => exact ⟨0, [], Nat.zero_le _, rfl, rfl, (MapIs.made w).ext (fun _ => rfl), below_alloc _ _⟩
    case round =>
      obtain ⟨k, known, hk, rfl, hr, hm, hbl⟩ := hrel
      have HR := Lib.hid hr; clear hr
      have hbw : w.heap.size < wr.heap.size := hm.lt
      by_cases hlt : k < l.length
      · obtain ⟨x, hx, -⟩ := getElem?_of_lt hlt
        obtain ⟨c1, c2, s1, s2⟩ := HC.out k x hx
        have hcell1 := cell_later hbl c1
        have hcell2 := cell_later hbl c2
        have HX := Lib.hid hx
        clear hx c1 c2 HC
        cases hq : known.any (fun y => decide (y = x.name)) with
        | true =>
          have hl := (knownOf_getD known x.name).trans hq
          have HQ := Lib.hid hq; clear hq
          have HL := Lib.hid hl; clear hl
          go_wp2_with (at_lookup; refine wpList_look_sb (hm.alloc _) s1 HL.out rfl rfl rfl rfl ?_)
          go_ret
          exact ⟨ret_bool (rightFrom_bad HX.out (.inl HQ.out) HR.out).symm, hbl.trans ((below_alloc _ _).mono hbl.size)⟩
        | false =>
          have hl := (knownOf_getD known x.name).trans hq
          have HQ := Lib.hid hq; clear hq
          have HL := Lib.hid hl; clear hl
          cases hn : isName x.name with
          | false =>
            have hcall := isName_any x.name (wr.alloc (.cells #[.string x.name, .string x.text] 40)) s1
            rw [hn] at hcall
            have HN := Lib.hid hn; clear hn
            have HCL := Lib.hid hcall; clear hcall
            go_wp2_with (first | (at_lookup; refine wpList_look_sb (hm.alloc _) s1 HL.out rfl rfl rfl rfl ?_) | (go_at_call 56; refine HCL.out.mono ?_; rintro e w' ⟨rfl, rfl⟩))
            go_ret
            exact ⟨ret_bool (rightFrom_bad HX.out (.inr (.inl HN.out)) HR.out).symm, hbl.trans ((below_alloc _ _).mono hbl.size)⟩
          | true =>
            have hcall := isName_any x.name (wr.alloc (.cells #[.string x.name, .string x.text] 40)) s1
            rw [hn] at hcall
            have HN := Lib.hid hn; clear hn
            have HCL := Lib.hid hcall; clear hcall
            go_wp2_with (first | (at_lookup; refine wpList_look_sb (hm.alloc _) s1 HL.out rfl rfl rfl rfl ?_) | (go_at_call 56; refine HCL.out.mono ?_; rintro e w' ⟨rfl, rfl⟩) | (at_mapUpdate; refine wpList_put_sb (hm.alloc _) (by omega) s1 rfl rfl rfl rfl rfl ?_; intro w1 hm1 hg1))
            · go_ret
              exact ⟨ret_bool (rightFrom_bad HX.out (.inr (.inr (by omega))) HR.out).symm, hbl.trans ((below_alloc _ _).mono hbl.size)⟩
            · go_roundw
              case rel => exact ⟨k + 1, x.name :: known, by omega, by go_num, rightFrom_good HX.out HQ.out HN.out (by omega) HR.out, hm1.ext (fun z => congrFun (knownOf_cons known x.name) z), (hbl.trans ((below_alloc _ _).mono hbl.size)).grown hg1 (by simp; omega) (fun i hi => by cases hi; exact Nat.le_refl _)⟩
              case measure => simp [intOf]; omega
      · go_wp2_with fail
        go_ret
        exact ⟨ret_bool (by rw [rightFrom_end (by omega) HR.out]; simp; omega), hbl⟩
end Go.Proofs.YtacgopankhpnbaaGreatDoor
/- Walks of package step: Right. -/
namespace Go.Proofs.YtacgopankhpnbaaGreatDoor
open Go.RowKit

set_option maxHeartbeats 800000 in
theorem stepRight_any (s : Stp) (vf : Value) (w : World) (hv : Strs w vf s.src) (hto : s.out.size ≤ 140737488355328) :
    Calls Tryz.prog 24 #[.agg #[.int .i64 s.kind, vf, .string s.out, .bool s.sorted]] w fun e w' => e = .returned (.bool (stepRight s)) ∧ Below w.heap.size w w' := by
  obtain ⟨kind, src, tn, sorted⟩ := s
  simp only at hv hto ⊢
  have hC : ∀ W, Below w.heap.size w W → Calls Tryz.prog 57 #[vf, .func (.func 58) #[] #[]] W fun e w' => e = .returned (.bool (src.any fun x => !isName x)) ∧ Below W.heap.size W w' := fun W hb =>
    containsFunc_str _ _ _ src vf W (hv.later hb) enters_isName (fun x hx W' hb' => by
      refine (right1_any x W' (strs_size hv hx)).mono ?_
      rintro e w' ⟨rfl, rfl⟩
      exact ⟨rfl, Below.refl _ _⟩)
  have hN : ∀ W, Calls Tryz.prog 56 #[.string tn] W fun e w' => e = .returned (.bool (isName tn)) ∧ W = w' := fun W => isName_any tn W hto
  obtain ⟨a, c, hvv, -⟩ := hv
  subst hvv
  have HC := Lib.hid hC; clear hC
  have HN := Lib.hid hN; clear hN
  have hR : stepRight ⟨kind, src, tn, sorted⟩ = if (!isName tn || src.any fun x => !isName x) then false else if kind = 2 then decide (src.length ≤ 60)
      else if kind = 1 then decide (src.length ≤ 60) && !sorted else if kind = 0 ∨ kind = 3 ∨ kind = 4 ∨ kind = 5 then decide (src.length = 1) && !sorted else false := rfl
  have HR := Lib.hid hR; clear hR
  generalize stepRight ⟨kind, src, tn, sorted⟩ = R at HR ⊢
  generalize hi : isName tn = ni at HN HR ⊢
  generalize ha : (src.any fun x => !isName x) = na at HC HR ⊢
  clear hi ha
  cases ni with
  | false =>
    clear HC
    go_enter Tryz.func24, Tryz.ntmps24
    go_wp2_with (go_at_call 56; refine (HN.out _).mono ?_; rintro e w' ⟨rfl, rfl⟩)
    go_ret
    exact ⟨ret_bool (by rw [HR.out]; rfl), below_alloc _ _⟩
  | true =>
    cases na with
    | true =>
      go_enter Tryz.func24, Tryz.ntmps24
      go_wp2_with (first | (go_at_call 56; refine (HN.out _).mono ?_; rintro e w' ⟨rfl, rfl⟩) | (go_at_call 57; refine (HC.out _ (below_alloc _ _)).mono ?_; rintro e w' ⟨rfl, hb'⟩))
      go_ret
      exact ⟨ret_bool (by rw [HR.out]; rfl), below_trans (below_alloc _ _) hb'⟩
    | false =>
      by_cases k2 : kind = 2
      · subst k2
        go_enter Tryz.func24, Tryz.ntmps24
        go_wp2_with (first | (go_at_call 56; refine (HN.out _).mono ?_; rintro e w' ⟨rfl, rfl⟩) | (go_at_call 57; refine (HC.out _ (below_alloc _ _)).mono ?_; rintro e w' ⟨rfl, hb'⟩; obtain ⟨hcc, hff⟩ := bcell hb'))
        go_ret
        exact ⟨ret_bool (by rw [HR.out]; simp; omega), below_trans (below_alloc _ _) hb'⟩
      by_cases k1 : kind = 1
      · subst k1
        go_enter Tryz.func24, Tryz.ntmps24
        go_wp2_with (first | (go_at_call 56; refine (HN.out _).mono ?_; rintro e w' ⟨rfl, rfl⟩) | (go_at_call 57; refine (HC.out _ (below_alloc _ _)).mono ?_; rintro e w' ⟨rfl, hb'⟩; obtain ⟨hcc, hff⟩ := bcell hb'))
        all_goals go_ret
        all_goals exact ⟨ret_bool (by rw [HR.out]; simp; try omega), below_trans (below_alloc _ _) hb'⟩
      have HK2 := Lib.hid k2
      have HK1 := Lib.hid k1
      have b2 : (kind == 2) = false := by simpa using k2
      have b1 : (kind == 1) = false := by simpa using k1
      clear k2 k1
      by_cases kx : kind = 0 ∨ kind = 3 ∨ kind = 4 ∨ kind = 5
      · have HKX := Lib.hid kx
        by_cases hl : src.length = 1
        · have bl : (((src.length : Nat) : Int) == 1) = true := by simp [hl]
          have HL := Lib.hid hl; clear hl
          rcases kx with rfl | rfl | rfl | rfl
          all_goals
            clear b2 b1
            go_enter Tryz.func24, Tryz.ntmps24
            go_wp2_with (first | (go_at_call 56; refine (HN.out _).mono ?_; rintro e w' ⟨rfl, rfl⟩) | (go_at_call 57; refine (HC.out _ (below_alloc _ _)).mono ?_; rintro e w' ⟨rfl, hb'⟩; obtain ⟨hcc, hff⟩ := bcell hb'))
            go_ret
            exact ⟨ret_bool (by rw [HR.out, HL.out]; rfl), below_trans (below_alloc _ _) hb'⟩
        · have bl : (((src.length : Nat) : Int) == 1) = false := by rw [beq_eq_false_iff_ne]; omega
          have HL := Lib.hid hl; clear hl
          rcases kx with rfl | rfl | rfl | rfl
          all_goals
            clear b2 b1
            go_enter Tryz.func24, Tryz.ntmps24
            go_wp2_with (first | (go_at_call 56; refine (HN.out _).mono ?_; rintro e w' ⟨rfl, rfl⟩) | (go_at_call 57; refine (HC.out _ (below_alloc _ _)).mono ?_; rintro e w' ⟨rfl, hb'⟩; obtain ⟨hcc, hff⟩ := bcell hb'))
            go_ret
            exact ⟨ret_bool (by rw [HR.out, decide_eq_false HL.out]; rfl), below_trans (below_alloc _ _) hb'⟩
      · have HKX := Lib.hid kx
        have b0 : (kind == 0) = false := by rw [beq_eq_false_iff_ne]; omega
        have b3 : (kind == 3) = false := by rw [beq_eq_false_iff_ne]; omega
        have b4 : (kind == 4) = false := by rw [beq_eq_false_iff_ne]; omega
        have b5 : (kind == 5) = false := by rw [beq_eq_false_iff_ne]; omega
        clear kx
        go_enter Tryz.func24, Tryz.ntmps24
        go_wp2_with (first | (go_at_call 56; refine (HN.out _).mono ?_; rintro e w' ⟨rfl, rfl⟩) | (go_at_call 57; refine (HC.out _ (below_alloc _ _)).mono ?_; rintro e w' ⟨rfl, hb'⟩; obtain ⟨hcc, hff⟩ := bcell hb'))
        go_ret
        exact ⟨ret_bool (by rw [HR.out, if_neg HK2.out, if_neg HK1.out, if_neg HKX.out]; rfl), below_trans (below_alloc _ _) hb'⟩
end Go.Proofs.YtacgopankhpnbaaGreatDoor
/- Package step in plain words: write and Do. No program in sight. -/
namespace Go.Proofs.YtacgopankhpnbaaGreatDoor

/-- What a StStamp writes. -/
def stampB (t : ByteArray) (n : Int) : ByteArray := (t ++ wireInt n) ++ ⟨#[10]⟩

/-- step.write, kinds but StCompile: the text, what was seen, how much has been used. -/
def writeStep (s : Stp) (saw : List ByteArray) (clock order : List Int) (u0 u1 : Int) : ByteArray × List ByteArray × Int × Int :=
  if s.kind = 0 ∨ s.kind = 1 then (joinB saw, saw, u0, u1)
  else if s.kind = 3 then (rowsB (sortedLines (saw.headD ByteArray.empty)), saw, u0, u1)
  else if s.kind = 4 then (stampB (saw.headD ByteArray.empty) (clock.getD u0.toNat 0), saw, u0 + 1, u1)
  else if s.sorted then (rowsB (sortB s.src), [], u0, u1)
  else (rowsB (pickAll order s.src.length u1.toNat (sortB s.src)), [], u0, u1 + s.src.length)

/-- What step.Do returns: an error, or the text that was written, what was seen, and what has been used. -/
abbrev DoRes := Except Int (ByteArray × List ByteArray × Int × Int)

/-- What a step sees. -/
def sawOf (files : List Fil) : List ByteArray → Option (List ByteArray)
  | [] => some []
  | x :: r => match findFile files x, sawOf files r with
    | some t, some l => some (t :: l)
    | _, _ => none

/-- step.Do; C: what a StCompile comes to (an error, a text). -/
def doStep (C : ByteArray → Int × ByteArray) (s : Stp) (files : List Fil) (clock order : List Int) (u0 u1 : Int) : DoRes :=
  if !stepRight s || !rightFiles files || decide (min u0 u1 < 0) then .error 1
  else if (findFile files s.out).isSome then .error 5
  else if 60 ≤ files.length then .error 6
  else match sawOf files s.src with
    | none => .error 4
    | some saw =>
      if s.kind = 5 then
        if (C (saw.headD ByteArray.empty)).1 ≠ 0 then .error (C (saw.headD ByteArray.empty)).1
        else if 65536 < (C (saw.headD ByteArray.empty)).2.size then .error 6
        else .ok ((C (saw.headD ByteArray.empty)).2, saw, u0, u1)
      else if 65536 < (writeStep s saw clock order u0 u1).1.size then .error 6
      else .ok (writeStep s saw clock order u0 u1)

/-- The files behind a step. -/
def doFiles (s : Stp) (files : List Fil) (text : ByteArray) : List Fil := files ++ [⟨s.out, text⟩]
end Go.Proofs.YtacgopankhpnbaaGreatDoor
/- Package build in plain words: recipes, who writes a file, what a step needs, what is refused. No program in sight. -/
namespace Go.Proofs.YtacgopankhpnbaaGreatDoor

structure Rcp where
  inputs : List Fil
  steps : List Stp
  output : ByteArray

/-- The step that writes a file. -/
def writerOf (steps : List Stp) (x : ByteArray) : Option Nat := steps.findIdx? fun s => decide (s.out = x)
/-- Is it an input? -/
def isInput (inputs : List Fil) (x : ByteArray) : Bool := inputs.any fun f => decide (f.name = x)
/-- graph.known, while k steps have been entered. -/
def knownTo (r : Rcp) (k : Nat) (x : ByteArray) : Bool := (writerOf (r.steps.take k) x).isSome || isInput r.inputs x
def known (r : Rcp) (x : ByteArray) : Bool := (writerOf r.steps x).isSome || isInput r.inputs x
/-- graph.needs, of a step. -/
def needsOf (steps : List Stp) (s : Stp) : List Nat := s.src.filterMap (writerOf steps)
def needsAt (steps : List Stp) (i : Nat) : List Nat := match steps[i]? with
  | some s => needsOf steps s
  | none => []
/-- From step k on, somebody writes what is there already. -/
def twiceFrom (r : Rcp) : Nat → Nat → Bool
  | _, 0 => false
  | k, n + 1 => (match r.steps[k]? with
    | some s => knownTo r k s.out
    | none => false) || twiceFrom r (k + 1) n
def twice (r : Rcp) : Bool := twiceFrom r 0 r.steps.length

/-- The marks of a walk over the steps: 0 new, 1 open, 2 shut. -/
abbrev Marks := Nat → Int
def mark (st : Marks) (i : Nat) (x : Int) : Marks := fun j => if j = i then x else st j
/-- slices.ContainsFunc with a function that keeps marks. -/
def anyV {σ : Type} (g : σ → Nat → σ × Bool) : σ → List Nat → σ × Bool
  | st, [] => (st, false)
  | st, k :: r => if (g st k).2 then ((g st k).1, true) else anyV g (g st k).1 r
/-- circle's visit, so many levels deep. -/
def visit (needs : Nat → List Nat) : Nat → Marks → Nat → Marks × Bool
  | 0, st, _ => (st, true)
  | f + 1, st, i =>
    if st i ≠ 0 then (st, decide (st i = 1))
    else if (anyV (visit needs f) (mark st i 1) (needs i)).2 then ((anyV (visit needs f) (mark st i 1) (needs i)).1, true)
    else (mark (anyV (visit needs f) (mark st i 1) (needs i)).1 i 2, false)
/-- graph.circle: the loop, from step k on, n steps. -/
def circleFrom (needs : Nat → List Nat) (f : Nat) : Nat → Nat → Marks → Bool
  | _, 0, _ => false
  | k, n + 1, st => (visit needs f st k).2 || circleFrom needs f (k + 1) n (visit needs f st k).1
def circle (steps : List Stp) : Bool := circleFrom (needsAt steps) (steps.length + 1) 0 steps.length (fun _ => 0)

/-- build.inspect: the error. -/
def inspectE (r : Rcp) : Int :=
  if !rightFiles r.inputs || decide (60 < r.steps.length) || r.steps.any (fun s => !stepRight s) then 1
  else if twice r then 5
  else if 60 < r.inputs.length + r.steps.length then 6
  else if !known r r.output || r.steps.any (fun s => s.src.any fun x => !known r x) then 4
  else if circle r.steps then 15
  else 0
/-- graph.ready: which steps can come, when some are done. -/
def canCome (steps : List Stp) (done : Nat → Bool) (i : Nat) : Bool := !done i && !(needsAt steps i).any fun k => !done k
def readyOf (steps : List Stp) (done : Nat → Bool) : List Nat := (List.range steps.length).filter (canCome steps done)
end Go.Proofs.YtacgopankhpnbaaGreatDoor
/- Package build: how recipes stand in memory; slices.IndexFunc and ContainsFunc at steps. -/
namespace Go.Proofs.YtacgopankhpnbaaGreatDoor
open Go.RowKit

/-- A slice of steps, each with the value of its From. -/
def encStp (w : World) (y : Value × Stp) (cs : List Value) : Prop := cs = [.int .i64 y.2.kind, y.1, .string y.2.out, .bool y.2.sorted] ∧ Strs w y.1 y.2.src ∧ y.2.out.size ≤ 140737488355328
def Stps (w : World) (v : Value) (l : List (Value × Stp)) : Prop := Row 4 encStp w v l
theorem Stps.later {w w' : World} {v : Value} {l : List (Value × Stp)} (hb : Below w.heap.size w w') (h : Stps w v l) : Stps w' v l :=
  Row.later hb (fun _ _ h => ⟨h.1, h.2.1.later hb, h.2.2⟩) h
theorem Stps.cases {w : World} {v : Value} {l : List (Value × Stp)} (h : Stps w v l) :
    (l = [] ∧ ∃ a c, v = .slice a 0 c) ∨ (∃ b o c, v = .slice (some ⟨b, o, none⟩) l.length c ∧ 0 < l.length ∧ l.length ≤ c ∧ c ≤ 9223372036854775807 ∧ b < w.heap.size ∧
      ∀ i y, l[i]? = some y → w.cell? ⟨b, o + i * 4, none⟩ = some (.int .i64 y.2.kind) ∧ w.cell? ⟨b, o + i * 4 + 1, none⟩ = some y.1 ∧ w.cell? ⟨b, o + i * 4 + 2, none⟩ = some (.string y.2.out) ∧ w.cell? ⟨b, o + i * 4 + 3, none⟩ = some (.bool y.2.sorted) ∧ Strs w y.1 y.2.src ∧ y.2.out.size ≤ 140737488355328) := by
  rcases Row.cases h with h | ⟨b, o, c, hv, h0, h1, h2, hb, hc⟩
  · exact .inl h
  · refine .inr ⟨b, o, c, hv, h0, h1, h2, hb, fun i y hy => ?_⟩
    obtain ⟨cs, ⟨e, hs, hz⟩, -, hj⟩ := hc i y hy
    subst e
    exact ⟨hj 0 _ rfl, hj 1 _ rfl, hj 2 _ rfl, hj 3 _ rfl, hs, hz⟩
theorem Stps.src {w : World} {v : Value} {l : List (Value × Stp)} (h : Stps w v l) {y : Value × Stp} (hy : y ∈ l) : Strs w y.1 y.2.src ∧ y.2.out.size ≤ 140737488355328 := by
  rcases h.cases with ⟨rfl, -⟩ | ⟨b, o, c, -, -, -, -, -, hc⟩
  · cases hy
  · obtain ⟨i, hi⟩ := List.getElem?_of_mem hy
    exact (hc i y hi).2.2.2.2
theorem stps_slice {w : World} {v : Value} {l : List (Value × Stp)} (h : Stps w v l) : ∃ a c, v = .slice a l.length c := by
  obtain ⟨a, c, hv, -⟩ := h; exact ⟨a, c, hv⟩
/-- A step as a value. -/
abbrev stepV (y : Value × Stp) : Value := .agg #[.int .i64 y.2.kind, y.1, .string y.2.out, .bool y.2.sorted]

set_option maxHeartbeats 1000000 in
theorem indexFunc_stp (g : FuncId) (cap : Array Value) (p : Value × Stp → Bool) (l : List (Value × Stp)) (v : Value) (w : World) (hv : Stps w v l)
    (eg : ∀ args w, (callFunc g args).run Tryz.prog w = .ok (.enter g args) w) (hp : Tests Tryz.prog g cap stepV p l w) :
    Calls Tryz.prog 97 #[v, .func (.func g) #[] cap] w fun e w' => e = .returned (.int .i64 (idxOf p l)) ∧ Below w.heap.size w w' := by
  have HP := Lib.hid hp; clear hp
  rcases hv.cases with ⟨rfl, a, c, rfl⟩ | ⟨b, o, c, rfl, h0, h1, h2, hb, hc⟩
  · clear hv
    go_enter Tryz.func97, Tryz.ntmps97
    go_wp2_with fail
    go_loop [8] (fun i => i = .int .i64 0) (fun i => 0)
    case atStart => rfl
    case round =>
      subst hrel
      go_wp2_with fail
      go_ret
      exact ⟨rfl, Below.refl _ _⟩
  · clear hv
    have HC := Lib.hid hc; clear hc
    go_enter Tryz.func97, Tryz.ntmps97
    go_wp2_with fail
    go_loopw [8] (fun i wr => ∃ k : Nat, k ≤ l.length ∧ i = .int .i64 k ∧ (∀ x, x ∈ l.take k → p x = false) ∧ Below w.heap.size w wr) (fun i _ => l.length - (intOf i).toNat)
    case atStart => exact ⟨0, Nat.zero_le _, rfl, by simp, Below.refl _ _⟩
    case round =>
      obtain ⟨k, hk, rfl, hno, hbl⟩ := hrel
      have HN := Lib.hid hno; clear hno
      by_cases hlt : k < l.length
      · obtain ⟨x, hx, hxl⟩ := getElem?_of_lt hlt
        obtain ⟨c1, c2, c3, c4, -⟩ := HC.out k x hx
        have hcell1 := cell_later hbl c1
        have hcell2 := cell_later hbl c2
        have hcell3 := cell_later hbl c3
        have hcell4 := cell_later hbl c4
        have HX := Lib.hid hx
        have hcall := Lib.hid (HP.out _ hxl _ hbl)
        obtain ⟨xv, kind, src, out, sorted⟩ := x
        simp only at hcell1 hcell2 hcell3 hcell4
        clear hxl hx c1 c2 c3 c4 HC
        cases hq : p ⟨xv, kind, src, out, sorted⟩ with
        | true =>
          rw [hq] at hcall
          have HQ := Lib.hid hq; clear hq
          go_wp2_with (go_at_fn g; refine (hcall.out).mono ?_; rintro e w' ⟨rfl, hb'⟩)
          go_ret
          exact ⟨ret_int (idxOf_some (findIdx_hit HX.out HQ.out HN.out)).symm, below_trans hbl hb'⟩
        | false =>
          rw [hq] at hcall
          have HQ := Lib.hid hq; clear hq
          go_wp2_with (go_at_fn g; refine (hcall.out).mono ?_; rintro e w' ⟨rfl, hb'⟩)
          go_roundw
          case rel => exact ⟨k + 1, by omega, by go_num, take_no HX.out HQ.out HN.out, below_trans hbl hb'⟩
          case measure => simp [intOf]; omega
      · go_wp2_with fail
        go_ret
        exact ⟨ret_int (idxOf_none (findIdx_miss (by omega) HN.out)).symm, hbl⟩

theorem containsFunc_stp (g : FuncId) (cap : Array Value) (p : Value × Stp → Bool) (l : List (Value × Stp)) (v : Value) (w : World) (hv : Stps w v l)
    (eg : ∀ args w, (callFunc g args).run Tryz.prog w = .ok (.enter g args) w) (hp : Tests Tryz.prog g cap stepV p l w) :
    Calls Tryz.prog 90 #[v, .func (.func g) #[] cap] w fun e w' => e = .returned (.bool (l.any p)) ∧ Below w.heap.size w w' := by
  have h := Lib.hid (indexFunc_stp g cap p l v w hv eg hp)
  have HA := Lib.hid (idxOf_any p l)
  generalize idxOf p l = r at h HA
  generalize l.any p = q at HA ⊢
  clear hp hv eg
  go_enter Tryz.func90, Tryz.ntmps90
  go_wp2_with (go_at_call 97; refine h.out.mono ?_; rintro e w' ⟨rfl, hb'⟩)
  go_ret
  exact ⟨ret_bool HA.out, hb'⟩
end Go.Proofs.YtacgopankhpnbaaGreatDoor
/- strings.Builder at this dump: the writers that the shelf does not lay here (copyCheck's panic is a refusal in this translation). After the shelf's own proofs. -/
namespace Go.Proofs.YtacgopankhpnbaaGreatDoor
open Go.RowKit

theorem bldSize : (Tryz.prog.info? 147).map (·.size) = some 2 := by kernel_rfl
theorem bldLies : liesAt Tryz.prog Tryz.prog.depth 147 (2 / Tryz.prog.cellsOf 147) 0 147 1 = true := by kernel_rfl
theorem byteInfo : (Tryz.prog.info? 5).map (fun i => (i.zero, i.size, i.bytes)) = some (some (.int .u8 0), 1, 1) := by kernel_rfl

set_option maxRecDepth 100000 in
theorem copyCheck_used (b : Nat) (w : World) (h0 : w.cell? ⟨b, 0, none⟩ = some (.pointer (some ⟨b, 0, none⟩))) :
    Calls Tryz.prog 120 #[.pointer (some ⟨b, 0, none⟩)] w fun e w' => e = .returned (.tuple #[]) ∧ w' = w := by
  obtain ⟨j, hj, _⟩ := Option.map_eq_some_iff.1 bldSize
  go_enter Tryz.func120, Tryz.ntmps120
  go_wp2
  rw [Lib.run_neq_ptr_same w _ Tryz.underlying144 hj]
  go_wp2
  go_end0
  exact ⟨rfl, rfl⟩

set_option maxHeartbeats 1000000 in
set_option maxRecDepth 100000 in
theorem copyCheck_fresh (b : Nat) (w : World) (h0 : w.cell? ⟨b, 0, none⟩ = some (.pointer none)) (hsh : w.shape? b = some (147, 2)) (hfz : w.frozen? ⟨b, 0, none⟩ = false) :
    Calls Tryz.prog 120 #[.pointer (some ⟨b, 0, none⟩)] w fun e w' => e = .returned (.tuple #[]) ∧ w' = w.setCell ⟨b, 0, none⟩ (.pointer (some ⟨b, 0, none⟩)) := by
  obtain ⟨j, hj, hjs⟩ := Option.map_eq_some_iff.1 bldSize
  go_enter Tryz.func120, Tryz.ntmps120
  go_wp2
  rw [Lib.run_to_unsafe w ⟨b, 0, none⟩ Tryz.underlying144 Tryz.underlying233 hj (by rw [hjs]; decide) hsh (Nat.zero_lt_succ 1)]
  simp only [Result.andThen]
  rw [Oper.upon_value]
  go_wp2
  rw [run_callFunc_extern Tryz.func161 (by kernel_rfl) (by kernel_rfl) (by kernel_rfl) (e := Extern.AbiNoEscape.same) (by kernel_rfl)]
  rw [Lib.run_noEscape]
  simp only [Result.andThen]
  rw [Oper.upon_value]
  go_wp2
  rw [Lib.run_from_unsafe w ⟨b, 0, none⟩ Tryz.underlying233 Tryz.underlying144 hj hsh bldLies]
  simp only [Result.andThen]
  rw [Oper.upon_value]
  go_wp2
  go_end0
  exact ⟨rfl, rfl⟩

theorem copyCheck_any (B b : Nat) (bs : List Value) (w : World) (h : Lib.IsBuilder 147 5 B b bs w) :
    Calls Tryz.prog 120 #[.pointer (some ⟨b, 0, none⟩)] w fun e w' => e = .returned (.tuple #[]) ∧ (Lib.BuilderAt 147 5 B b (.pointer (some ⟨b, 0, none⟩)) bs w' ∧ Below B w w') := by
  rcases h with h | h
  · refine (copyCheck_fresh b w h.cell0 h.shape h.frozen0).mono ?_
    rintro e w' ⟨rfl, rfl⟩
    exact ⟨rfl, h.used _, (Below.refl B w).setCell (p := ⟨b, 0, none⟩) h.1 _⟩
  · refine (copyCheck_used b w h.cell0).mono ?_
    rintro e w' ⟨rfl, rfl⟩
    exact ⟨rfl, h, Below.refl B _⟩

set_option maxHeartbeats 2000000 in
set_option maxRecDepth 100000 in
theorem writeByte_any (B b : Nat) (bs : List Value) (c : Int) (w : World) (h : Lib.IsBuilder 147 5 B b bs w) (hlen : bs.length + 1 ≤ 140737488355328) (hBw : B ≤ w.heap.size) :
    Calls Tryz.prog 102 #[.pointer (some ⟨b, 0, none⟩), .int .u8 c] w fun e w' => e = .returned .nilIface ∧ (Lib.BuilderAt 147 5 B b (.pointer (some ⟨b, 0, none⟩)) (bs ++ [.int .u8 c]) w' ∧ Below B w w') := by
  obtain ⟨i0, hi, hz0, hz1, hz2⟩ := info_parts byteInfo
  go_enter Tryz.func102, Tryz.ntmps102
  go_wp2_with (go_at_call 120; refine (copyCheck_any B b bs _ h).mono ?_)
  rintro e w1 ⟨rfl, h1, hb1⟩
  obtain ⟨hB, v, hbk, hown, hne⟩ := h1
  have c0 : w1.cell? ⟨b, 0, none⟩ = some (.pointer (some ⟨b, 0, none⟩)) := by rw [Lib.cell_of_heap hbk]; rfl
  have c1 : w1.cell? ⟨b, 1, none⟩ = some v := by rw [Lib.cell_of_heap hbk]; rfl
  go_wp2_with (at_builtin; refine wpList_append_own _ rfl _ _ 145 rfl B 5 i0 (.int .u8 0) 1 1 Tryz.underlying145 hi hz0 hz1 hz2 rfl (by decide) _ _ _ rfl (hown.alloc _) ⟨w1.heap.size, 0, none⟩ 1 1 [.int .u8 c] rfl rfl ?c1 ?c2 ?c3 ?c4 ?c5 ?_)
  case c1 =>
    intro j u hj
    match j, hj with
    | 0, hj => simp at hj; subst hj; simp [Addr.add]
  case c2 => intro u hu; simp at hu; subst hu; rfl
  case c3 => unfold maxLen; omega
  case c4 => omega
  case c5 => have := hb1.size; simp; omega
  intro v' w2 hown' hgrow _
  have hlt : b < w1.heap.size := by
    rcases Nat.lt_or_ge b w1.heap.size with h' | h'
    · exact h'
    · simp [Array.getElem?_eq_none h'] at hbk
  have hb2 : w2.heap[b]? = some (.cells #[.pointer (some ⟨b, 0, none⟩), v] 147 (0, 0)) := by
    rw [hgrow.block b (by simp; omega) (fun e => hne e.symm), Lib.alloc_old w1 _ b hlt]
    exact hbk
  have d0 : w2.cell? ⟨b, 0, none⟩ = some (.pointer (some ⟨b, 0, none⟩)) := by rw [Lib.cell_of_heap hb2]; rfl
  have d1 : w2.cell? ⟨b, 1, none⟩ = some v := by rw [Lib.cell_of_heap hb2]; rfl
  have f1 : w2.frozen? ⟨b, 1, none⟩ = false := Lib.frozen_of_heap hb2 1
  obtain ⟨g, cap, rfl⟩ : ∃ g cap, v' = .slice (some ⟨g, 0, none⟩) (bs.length + 1) cap := by
    rcases hown'.2 with ⟨_, h0⟩ | ⟨g, cap, cur, hv, _⟩
    · omega
    · exact ⟨g, cap, hv⟩
  go_wp2
  go_ret
  refine ⟨rfl, ?_, ?_⟩
  · exact Lib.BuilderAt.put (T := 147) (e := 5) hB hb2 (bs' := bs ++ [.int .u8 c]) (by simpa using hown') (by decide)
  · exact ((hb1.alloc (by have := hb1.size; omega) _).grown hgrow (by have := hb1.size; simp; omega) (fun k hk => (hown.lt k hk).1)).setCell (p := ⟨b, 1, none⟩) hB _

set_option maxHeartbeats 2000000 in
set_option maxRecDepth 100000 in
theorem writeString_any (B b : Nat) (bs : List Value) (s : ByteArray) (w : World) (h : Lib.IsBuilder 147 5 B b bs w) (hlen : bs.length + s.size ≤ 140737488355328) (hBw : B ≤ w.heap.size) :
    Calls Tryz.prog 100 #[.pointer (some ⟨b, 0, none⟩), .string s] w fun e w' => e = .returned (.tuple #[.int .i64 s.size, .nilIface]) ∧ (Lib.BuilderAt 147 5 B b (.pointer (some ⟨b, 0, none⟩)) (bs ++ Lib.strCells s) w' ∧ Below B w w') := by
  obtain ⟨i0, hi, hz0, hz1, hz2⟩ := info_parts byteInfo
  go_enter Tryz.func100, Tryz.ntmps100
  go_wp2_with (go_at_call 120; refine (copyCheck_any B b bs _ h).mono ?_)
  rintro e w1 ⟨rfl, h1, hb1⟩
  obtain ⟨hB, v, hbk, hown, hne⟩ := h1
  have c0 : w1.cell? ⟨b, 0, none⟩ = some (.pointer (some ⟨b, 0, none⟩)) := by rw [Lib.cell_of_heap hbk]; rfl
  have c1 : w1.cell? ⟨b, 1, none⟩ = some v := by rw [Lib.cell_of_heap hbk]; rfl
  go_wp2_with (at_builtin; refine Lib.wpList_append_own_string _ rfl _ _ 145 9 rfl B 5 i0 Tryz.underlying145 Tryz.underlying9 hi hz0 hz1 hz2 _ _ _ rfl hown s rfl ?c3 ?c4 ?c5 ?_)
  case c3 => unfold maxLen; omega
  case c4 => omega
  case c5 => have := hb1.size; omega
  intro v' w2 hown' hgrow _
  have hlt : b < w1.heap.size := by
    rcases Nat.lt_or_ge b w1.heap.size with h' | h'
    · exact h'
    · simp [Array.getElem?_eq_none h'] at hbk
  have hb2 : w2.heap[b]? = some (.cells #[.pointer (some ⟨b, 0, none⟩), v] 147 (0, 0)) := by
    rw [hgrow.block b hlt (fun e => hne e.symm)]
    exact hbk
  have d0 : w2.cell? ⟨b, 0, none⟩ = some (.pointer (some ⟨b, 0, none⟩)) := by rw [Lib.cell_of_heap hb2]; rfl
  have d1 : w2.cell? ⟨b, 1, none⟩ = some v := by rw [Lib.cell_of_heap hb2]; rfl
  have f1 : w2.frozen? ⟨b, 1, none⟩ = false := Lib.frozen_of_heap hb2 1
  obtain ⟨ao, n', cap, rfl⟩ : ∃ ao n' cap, v' = .slice ao n' cap := by
    rcases hown'.2 with ⟨hv, _⟩ | ⟨g, cap, cur, hv, _⟩
    · exact ⟨_, _, _, hv⟩
    · exact ⟨_, _, _, hv⟩
  go_wp2
  go_ret2
  refine ⟨rfl, ?_, ?_⟩
  · exact Lib.BuilderAt.put (T := 147) (e := 5) hB hb2 (bs' := bs ++ Lib.strCells s) (by simpa [Lib.strCells_length] using hown') (by decide)
  · exact (hb1.grown hgrow (by have := hb1.size; omega) (fun k hk => (hown.lt k hk).1)).setCell (p := ⟨b, 1, none⟩) hB _
end Go.Proofs.YtacgopankhpnbaaGreatDoor
/- Walks of package step: rows, the sort of strings, sorted, wire.Int. -/
namespace Go.Proofs.YtacgopankhpnbaaGreatDoor
open Go.RowKit

theorem rowsL_take {l : List ByteArray} {k : Nat} {x : ByteArray} (hx : l[k]? = some x) : rowsL (l.take (k + 1)) = rowsL (l.take k) ++ x.data.toList ++ [10] := by
  simp [rowsL, List.take_add_one, hx]
theorem rowsL_le (l : List ByteArray) (k : Nat) : (rowsL (l.take k)).length ≤ (rowsL l).length := by
  have : rowsL l = rowsL (l.take k) ++ rowsL (l.drop k) := by simp only [rowsL, ← List.flatMap_append, List.take_append_drop]
  rw [this, List.length_append]; omega
theorem byteCells_nl (a : List UInt8) (x : ByteArray) : Lib.byteCells (a ++ x.data.toList ++ [10]) = Lib.byteCells a ++ Lib.strCells x ++ [.int .u8 10] := by
  rw [Lib.byteCells_append, Lib.byteCells_append]; rfl

set_option maxHeartbeats 1000000 in
theorem rows_any (l : List ByteArray) (v : Value) (w : World) (hv : Strs w v l) (hlen : (rowsL l).length ≤ 140737488355328) :
    Calls Tryz.prog 80 #[v] w fun e w' => e = .returned (.string (rowsB l)) ∧ Below w.heap.size w w' := by
  have HV := Lib.hid hv
  rcases hv.cases with ⟨rfl, a, c, rfl⟩ | ⟨b, o, c, rfl, h0, h1, h2, hb, hc⟩
  · clear hv
    go_enter Tryz.func80, Tryz.ntmps80
    go_wp2_with fail
    go_loop [8] (fun i => i = .int .i64 0) (fun i => 0)
    case atStart => rfl
    case round =>
      subst hrel
      have hB := Lib.fresh_isBuilder 147 5 w
      go_wp2_with (go_at_call 101; refine (Tryz.Builder_String_any w.heap.size w.heap.size [] _ hB (by simp)).mono ?_; rintro e w' ⟨rfl, hb'⟩)
      go_ret
      exact ⟨rfl, (below_alloc w _).trans (hb'.mono (by simp))⟩
  · clear hv
    have HC := Lib.hid hc; clear hc
    go_enter Tryz.func80, Tryz.ntmps80
    go_wp2_with fail
    go_loopw [8] (fun i wr => ∃ k : Nat, k ≤ l.length ∧ i = .int .i64 k ∧ Lib.IsBuilder 147 5 w.heap.size w.heap.size (Lib.byteCells (rowsL (l.take k))) wr ∧ Below w.heap.size w wr) (fun i _ => l.length - (intOf i).toNat)
    case atStart => exact ⟨0, Nat.zero_le _, rfl, Lib.fresh_isBuilder 147 5 w, below_alloc w _⟩
    case round =>
      obtain ⟨k, hk, rfl, hB, hbl⟩ := hrel
      have HB := Lib.hid hB; clear hB
      have hsz : w.heap.size ≤ wr.heap.size := hbl.size
      by_cases hlt : k < l.length
      · obtain ⟨x, hx, -⟩ := getElem?_of_lt hlt
        have hcell := cell_later hbl (HC.out k x hx).1
        have hle := rowsL_le l (k + 1)
        have HT := Lib.hid (rowsL_take hx)
        have hl2 : (rowsL (l.take k)).length + x.size + 1 ≤ 140737488355328 := by
          rw [HT.out] at hle; simp at hle; have : x.data.toList.length = x.size := by simp
          simp at this; omega
        have HL2 := Lib.hid hl2
        clear hx HC hle hl2
        go_wp2_with fail
        refine (writeString_any w.heap.size w.heap.size _ x _ HB.out (by rw [Lib.byteCells_length]; have := HL2.out; omega) hsz).mono ?_
        rintro e w1 ⟨rfl, hB1, hb1⟩
        have HB1 := Lib.hid hB1; clear hB1
        go_wp2_with fail
        refine (writeByte_any w.heap.size w.heap.size _ 10 _ (.inr HB1.out) (by simp [Lib.byteCells_length, Lib.strCells_length]; have := HL2.out; omega) (Nat.le_trans hsz hb1.size)).mono ?_
        rintro e w2 ⟨rfl, hB2, hb2⟩
        have HB2 := Lib.hid hB2; clear hB2
        go_wp2_with fail
        go_roundw
        case rel => exact ⟨k + 1, by omega, by go_num, .inr (by rw [HT.out, byteCells_nl]; exact HB2.out), (hbl.trans hb1).trans hb2⟩
        case measure => simp [intOf]; omega
      · have hk' : l.take k = l := List.take_of_length_le (by omega)
        rw [hk'] at HB
        clear hk'
        go_wp2_with (go_at_call 101; refine (Tryz.Builder_String_any w.heap.size w.heap.size _ _ HB.out hsz).mono ?_; rintro e w' ⟨rfl, hb'⟩)
        go_ret
        exact ⟨rfl, hbl.trans hb'⟩

theorem bytes_ext' {s t : ByteArray} (h : s.data.toList = t.data.toList) : s = t := by
  cases s; cases t; congr; exact Array.toList_inj.1 h
theorem sortB_length (l : List ByteArray) : (sortB l).length = l.length := by simp [sortB]
theorem bytes_toList (x : ByteArray) : (⟨x.data.toList.toArray⟩ : ByteArray) = x := by cases x; simp

theorem getElem?_sortB {l : List ByteArray} {i : Nat} {x : ByteArray} (h : (sortB l)[i]? = some x) : ((l.map (·.data.toList)).mergeSort fun x y => decide (x ≤ y))[i]? = some x.data.toList := by
  rw [sortB, List.getElem?_map] at h
  cases hh : ((l.map (·.data.toList)).mergeSort fun x y => decide (x ≤ y))[i]? with
  | none => rw [hh] at h; cases h
  | some y => rw [hh] at h; cases h; simp

/-- slices.Sort over strings in a block from B on. -/
theorem sort_str (B g o c : Nat) (l : List ByteArray) (w : World) (hc : ∀ i x, l[i]? = some x → w.cell? ⟨g, o + i, none⟩ = some (.string x) ∧ w.frozen? ⟨g, o + i, none⟩ = false) (hg : g < w.heap.size) (hB : B ≤ g) (hl : l.length ≤ 140737488355328) :
    Calls Tryz.prog 105 #[.slice (some ⟨g, o, none⟩) l.length c] w fun e w' => e = .returned (.tuple #[]) ∧ Below B w w' ∧
      ∀ i x, (sortB l)[i]? = some x → w'.cell? ⟨g, o + i, none⟩ = some (.string x) ∧ w'.frozen? ⟨g, o + i, none⟩ = false := by
  have hH : Sort.Holds encStr w g o (l.map (·.data.toList)).toArray := by
    intro j hj
    simp at hj
    obtain ⟨h1, h2⟩ := hc j l[j] (List.getElem?_eq_getElem hj)
    refine ⟨?_, h2⟩
    rw [h1]
    simp [hj]
  have h := Tryz.slices_Sort_string g o c (l.map (·.data.toList)) w hH hg (by simp; omega)
  rw [List.length_map] at h
  refine h.mono ?_
  rintro e w' ⟨rfl, n, os, rfl⟩
  have hs : ((l.map (·.data.toList)).mergeSort fun x y => decide (x ≤ y)).toArray.size = (l.map (·.data.toList)).toArray.size := by simp
  have hg' : g < (Sort.putRow encStr (Sort.ahead w n) g o ((l.map (·.data.toList)).mergeSort fun x y => decide (x ≤ y)).toArray).heap.size := by simpa [Sort.putRow, Sort.mapBlock, Sort.ahead] using hg
  refine ⟨rfl, ⟨rfl, rfl, rfl, ?_, fun k hk => ?_⟩, fun i x hx => ?_⟩
  · simp [Sort.grow, Sort.putRow, Sort.mapBlock, Sort.ahead]
  · rw [Sort.heap_grow_old _ _ (by simp [Sort.putRow, Sort.mapBlock, Sort.ahead]; omega)]
    simp [Sort.putRow, Sort.mapBlock, Sort.ahead, Array.getElem?_modify, show g ≠ k by omega]
  · have h1 := getElem?_sortB hx
    obtain ⟨hi, hxe⟩ := List.getElem?_eq_some_iff.1 h1
    have := Sort.holds_grow encStr _ os g o _ hg' (Sort.holds_putRow encStr (Sort.ahead w n) g o _ _ (Sort.holds_ahead encStr w n g o _ hH) hs) i (by simpa using hi)
    rw [this.1, this.2]
    refine ⟨?_, rfl⟩
    have e : ((l.map (·.data.toList)).mergeSort fun x y => decide (x ≤ y)).toArray[i]! = x.data.toList := by
      rw [getElem!_pos _ i (by simpa using hi)]; simpa using hxe
    rw [e]

theorem linesOf_length (t : ByteArray) : (linesOf t).length = Lib.countB ⟨(Lib.trimSuffix t.data.toList [10]).toArray⟩ nl + 1 :=
  Lib.splitB_all nl (by decide) 0 _ _ rfl

theorem splitB_size (sep : ByteArray) : ∀ (k : Nat) (s : ByteArray) (x : ByteArray), x ∈ Lib.splitB sep 0 k s → x.size ≤ s.size
  | 0, s, x, h => by simp [Lib.splitB] at h; rw [h]; exact Nat.le_refl _
  | k + 1, s, x, h => by
    rw [Lib.splitB] at h
    split at h
    · simp at h; rw [h]; exact Nat.le_refl _
    · rw [List.mem_cons] at h
      rcases h with rfl | h
      · simp; omega
      · have := splitB_size sep k _ x h
        simp at this; omega
theorem mem_sortB {l : List ByteArray} {x : ByteArray} (h : x ∈ sortB l) : x ∈ l := by
  simp only [sortB, List.mem_map, List.mem_mergeSort] at h
  obtain ⟨y, ⟨z, hz, rfl⟩, rfl⟩ := h
  rw [bytes_toList]; exact hz
theorem trim_size (t : ByteArray) : (⟨(Lib.trimSuffix t.data.toList [10]).toArray⟩ : ByteArray).size ≤ t.size := by
  show (Lib.trimSuffix t.data.toList [10]).toArray.size ≤ _
  unfold Lib.trimSuffix
  have : t.data.toList.length = t.size := by simp
  split <;> simp at this ⊢ <;> omega

set_option maxHeartbeats 1000000 in
theorem sorted_any (t : ByteArray) (w : World) (hG : Glob w) (ht : t.size ≤ 1000000) :
    Calls Tryz.prog 81 #[.string t] w fun e w' => ∃ v, e = .returned v ∧ Strs w' v (sortedLines t) ∧ Below w.heap.size w w' := by
  by_cases he : t.toList = []
  · have hs : sortedLines t = [] := by simp [sortedLines, he]
    rw [hs]; clear hs
    go_enter Tryz.func81, Tryz.ntmps81
    go_wp2_with fail
    go_ret
    exact ⟨_, rfl, ⟨none, 0, rfl, by simp, by simp, fun h => absurd rfl h⟩, Below.refl _ _⟩
  · have hs : sortedLines t = sortB (linesOf t) := by
      have : t.toList.isEmpty = false := by cases hh : t.toList with
        | nil => exact absurd hh he
        | cons => rfl
      simp [sortedLines, this]
    obtain ⟨m, hm⟩ := hG.maxLen
    have hle := trim_size t
    have hsp := Tryz.strings_Split ⟨(Lib.trimSuffix t.data.toList [10]).toArray⟩ nl m w (by omega) hm (by decide)
    have hcnt := Lib.countB_le nl (by decide) t.size _ hle
    have hl := linesOf_length t
    rw [show Lib.countB ⟨(Lib.trimSuffix t.data.toList [10]).toArray⟩ nl + 1 = (linesOf t).length from hl.symm] at hsp
    change Calls _ _ _ _ (fun e w' => e = _ ∧ w' = w.alloc (.cells ((linesOf t).map Value.string).toArray 9)) at hsp
    have htr := Tryz.strings_TrimSuffix t nl w (by omega)
    rw [hs]
    have hlen : (linesOf t).length ≤ 1000001 := by omega
    have HZ := Lib.hid (show ∀ x, x ∈ linesOf t → x.size ≤ 140737488355328 from fun x hx => by
      have := splitB_size nl _ _ x hx
      omega)
    generalize linesOf t = ls at hsp hlen HZ ⊢
    change Calls _ _ _ _ (fun e w' => e = .returned (.string ⟨(Lib.trimSuffix t.data.toList [10]).toArray⟩) ∧ w' = w) at htr
    generalize (⟨(Lib.trimSuffix t.data.toList [10]).toArray⟩ : ByteArray) = ts at htr hsp hle
    have HS := Lib.hid hsp
    have HT := Lib.hid htr
    have he2 : (t.toList.isEmpty) = false := by cases hh : t.toList with
      | nil => exact absurd hh he
      | cons => rfl
    clear hsp htr hs hm hcnt hl hle he hG
    go_enter Tryz.func81, Tryz.ntmps81
    go_wp2_with fail
    refine HT.out.mono ?_
    rintro e w' ⟨rfl, rfl⟩
    go_wp2_with fail
    refine HS.out.mono ?_
    rintro e w1 ⟨rfl, rfl⟩
    have hcl : ∀ i x, ls[i]? = some x → (w'.alloc (.cells (List.map Value.string ls).toArray 9)).cell? ⟨w'.heap.size, 0 + i, none⟩ = some (.string x) ∧ (w'.alloc (.cells (List.map Value.string ls).toArray 9)).frozen? ⟨w'.heap.size, 0 + i, none⟩ = false := by
      intro i x hx
      rw [Nat.zero_add]
      constructor
      · simp only [World.cell?, alloc_self]; simp [hx]
      · simp only [World.frozen?, alloc_self]; simp
    have HSo := Lib.hid (sort_str w'.heap.size w'.heap.size 0 ls.length ls _ hcl (by simp) (Nat.le_refl _) (by omega))
    clear hcl
    go_wp2_with fail
    refine HSo.out.mono ?_
    rintro e w2 ⟨rfl, hb2, hc2⟩
    have HC2 := Lib.hid hc2; clear hc2
    go_wp2_with fail
    go_ret
    refine ⟨_, rfl, ⟨some ⟨w'.heap.size, 0, none⟩, ls.length, by rw [sortB_length]; rfl, by rw [sortB_length]; exact Nat.le_refl _, by omega, fun _ => ⟨_, _, rfl, fun i x hx => ⟨[.string x], ⟨rfl, ?_⟩, rfl, fun j u hu => ?_⟩⟩⟩, (below_alloc _ _).trans hb2⟩
    · exact HZ.out x (mem_sortB (List.mem_of_getElem? hx))
    · match j, hu with
      | 0, hu => cases hu; simpa using (HC2.out i x hx).1

theorem bytes_append (a b : List UInt8) : (⟨a.toArray⟩ ++ ⟨b.toArray⟩ : ByteArray) = ⟨(a ++ b).toArray⟩ := by
  apply bytes_ext'; simp
set_option maxHeartbeats 1000000 in
theorem wireInt_any (n : Int) (w : World) (hG : Glob w) (h0 : -9223372036854775808 ≤ n) (h1 : n ≤ 9223372036854775807) :
    Calls Tryz.prog 82 #[.int .i64 n] w fun e w' => e = .returned (.string (wireInt n)) ∧ Below w.heap.size w w' := by
  have HI := Lib.hid (Tryz.strconv_Itoa n h0 h1 w hG.pow10)
  clear hG
  go_enter Tryz.func82, Tryz.ntmps82
  go_wp2_with fail
  refine HI.out.mono ?_
  rintro e w1 ⟨rfl, k, os, rfl⟩
  have hb : Below w.heap.size w (Sort.grow (w.drewN k) os) := Lib.below_grow _ w (Nat.le_refl _) k os
  generalize Sort.grow (w.drewN k) os = w1 at hb
  have hil := Lib.itoa_length_le n h0 h1
  have HW := Lib.hid (show (⟨(Lib.itoa n).toArray⟩ ++ ⟨#[59]⟩ : ByteArray) = wireInt n from bytes_append (Lib.itoa n) [59])
  generalize Lib.itoa n = it at hil HW
  go_wp2_with fail
  go_ret
  exact ⟨ret_str HW.out, hb⟩
end Go.Proofs.YtacgopankhpnbaaGreatDoor
/- Walks of package step: the sandbox: next, list, write. -/
namespace Go.Proofs.YtacgopankhpnbaaGreatDoor
open Go.RowKit

/-- w' is w but for block b (and new blocks, and draws). -/
structure Only (b : Nat) (w w' : World) : Prop where
  os : w'.os = w.os
  tape : w'.tape = w.tape
  output : w'.output = w.output
  size : w.heap.size ≤ w'.heap.size
  block : ∀ k, k < w.heap.size → k ≠ b → w'.heap[k]? = w.heap[k]?
theorem Only.refl (b : Nat) (w : World) : Only b w w := ⟨rfl, rfl, rfl, Nat.le_refl _, fun _ _ _ => rfl⟩
theorem Only.trans {b : Nat} {u v w : World} (h : Only b u v) (k : Only b v w) : Only b u w :=
  ⟨k.os.trans h.os, k.tape.trans h.tape, k.output.trans h.output, Nat.le_trans h.size k.size, fun i hi hne => (k.block i (Nat.lt_of_lt_of_le hi h.size) hne).trans (h.block i hi hne)⟩
theorem Only.of_below {b : Nat} {w w' : World} (h : Below w.heap.size w w') : Only b w w' := ⟨h.os, h.tape, h.output, h.size, fun k hk _ => h.block k hk⟩
theorem Only.below {b : Nat} {u w w' : World} {B : Nat} (h : Below B u w) (k : Only b w w') (hb : B ≤ b) (hB : B ≤ w.heap.size) : Below B u w' :=
  ⟨k.os.trans h.os, k.tape.trans h.tape, k.output.trans h.output, Nat.le_trans h.size k.size, fun i hi => (k.block i (by omega) (by omega)).trans (h.block i hi)⟩
theorem Only.cell {b : Nat} {w w' : World} (h : Only b w w') {k o : Nat} {v : Value} (hne : k ≠ b) (hc : w.cell? ⟨k, o, none⟩ = some v) : w'.cell? ⟨k, o, none⟩ = some v :=
  (World.cell?_of_block (w := w) (h.block k (cell_lt hc) hne)).trans hc
theorem Only.setCell {b o : Nat} {v : Value} (w : World) : Only b w (w.setCell ⟨b, o, none⟩ v) :=
  ⟨rfl, rfl, rfl, by simp [World.setCell], fun k _ hne => Below.heap_setCell _ _ _ _ hne⟩
theorem Only.drew {b : Nat} {u w : World} (h : Only b u w) : Only b u w.drew := ⟨h.os, h.tape, h.output, h.size, h.block⟩

theorem Glob.only {b : Nat} {w w' : World} (h : Glob w) (ho : Only b w w') (hb : 11 ≤ b) : Glob w' := by
  refine ⟨Nat.le_trans h.big ho.size, ?_, ?_⟩
  · obtain ⟨m, hm⟩ := h.maxLen
    exact ⟨m, ho.cell (by omega) hm⟩
  · exact var?_below (B := 11) (g := 4) ⟨ho.os, ho.tape, ho.output, ho.size, fun k hk => ho.block k (by have := h.big; omega) (by omega)⟩ (by kernel_rfl) (by omega) h.pow10

/-- The sandbox of a step, in block b. -/
def Sbx (w : World) (b : Nat) (saw clk ord nxt : Value) (u0 u1 : Int) : Prop :=
  w.heap[b]? = some (.cells #[saw, clk, ord, nxt, .int .i64 u0, .int .i64 u1] 87 (0, 0))
theorem Sbx.cell {w : World} {b : Nat} {saw clk ord nxt : Value} {u0 u1 : Int} (h : Sbx w b saw clk ord nxt u0 u1) (j : Nat) : w.cell? ⟨b, j, none⟩ = #[saw, clk, ord, nxt, .int .i64 u0, .int .i64 u1][j]? := by
  simp [World.cell?, show w.heap[b]? = _ from h]
theorem Sbx.frozen {w : World} {b : Nat} {saw clk ord nxt : Value} {u0 u1 : Int} (h : Sbx w b saw clk ord nxt u0 u1) (j : Nat) : w.frozen? ⟨b, j, none⟩ = false := by
  simp [World.frozen?, show w.heap[b]? = _ from h]

theorem Sbx.lt {w : World} {b : Nat} {saw clk ord nxt : Value} {u0 u1 : Int} (h : Sbx w b saw clk ord nxt u0 u1) : b < w.heap.size := cell_lt (h.cell 0)
theorem Sbx.of_block {w w' : World} {b : Nat} {saw clk ord nxt : Value} {u0 u1 : Int} (h : Sbx w b saw clk ord nxt u0 u1) (hb : w'.heap[b]? = w.heap[b]?) : Sbx w' b saw clk ord nxt u0 u1 := hb.trans h
theorem Sbx.later {w w' : World} {b : Nat} {saw clk ord nxt : Value} {u0 u1 : Int} (h : Sbx w b saw clk ord nxt u0 u1) (hb : Below w.heap.size w w') : Sbx w' b saw clk ord nxt u0 u1 := h.of_block (hb.block b h.lt)
theorem Sbx.cast {w : World} {b : Nat} {saw clk ord nxt : Value} {u0 u1 v1 : Int} (h : Sbx w b saw clk ord nxt u0 u1) (e : u1 = v1) : Sbx w b saw clk ord nxt u0 v1 := e ▸ h
theorem Sbx.put0 {w : World} {b : Nat} {saw clk ord nxt : Value} {u0 u1 : Int} (h : Sbx w b saw clk ord nxt u0 u1) (x : Int) : Sbx (w.setCell ⟨b, 4, none⟩ (.int .i64 x)).drew b saw clk ord nxt x u1 := by
  unfold Sbx at h ⊢
  show (w.setCell _ _).heap[b]? = _
  simp [World.setCell, Array.getElem?_modify, h]
theorem Sbx.put1 {w : World} {b : Nat} {saw clk ord nxt : Value} {u0 u1 : Int} (h : Sbx w b saw clk ord nxt u0 u1) (x : Int) : Sbx (w.setCell ⟨b, 5, none⟩ (.int .i64 x)).drew b saw clk ord nxt u0 x := by
  unfold Sbx at h ⊢
  show (w.setCell _ _).heap[b]? = _
  simp [World.setCell, Array.getElem?_modify, h]
set_option maxHeartbeats 1000000 in
theorem next0_any (b : Nat) (saw clk ord nxt : Value) (u0 u1 : Int) (l : List Int) (vl : Value) (w : World) (hs : Sbx w b saw clk ord nxt u0 u1) (hl : Ints w vl l) (h0 : 0 ≤ u0) (h1 : u0 ≤ 4611686018427387904) :
    Calls Tryz.prog 83 #[.pointer (some ⟨b, 0, none⟩), vl, .int .i64 0] w fun e w' => e = .returned (.int .i64 (l.getD (u0).toNat 0)) ∧ Sbx w' b saw clk ord nxt (u0 + 1) u1 ∧ Only b w w' := by
  have c4 := hs.cell 4
  have f4 := hs.frozen 4
  simp only [List.getElem?_toArray, List.getElem?_cons_succ, List.getElem?_cons_zero] at c4
  have HS := Lib.hid hs; clear hs
  have hend : ∀ x, Sbx (w.setCell ⟨b, 4, none⟩ (.int .i64 x)).drew b saw clk ord nxt x u1 := fun x => Sbx.put0 HS.out x
  have HE := Lib.hid hend; clear hend
  rcases hl.cases with ⟨rfl, a, c, rfl⟩ | ⟨bl, o, c, rfl, hl0, hl1, hl2, hlb, hc⟩
  · clear hl
    go_enter Tryz.func83, Tryz.ntmps83
    go_wp2_with fail
    go_region
    go_wp2_with fail
    go_ret
    exact ⟨ret_int (by simp), HE.out _, (Only.setCell w).drew⟩
  · obtain ⟨u, hu⟩ : ∃ u : Nat, u0 = u := ⟨(u0).toNat, by omega⟩
    subst hu
    have HC := Lib.hid hc; clear hc hl
    by_cases hlt : u < l.length
    · obtain ⟨x, hx, -⟩ := getElem?_of_lt hlt
      have hcell := HC.out u x hx
      have HX := Lib.hid (show l.getD u 0 = x by rw [List.getD_eq_getElem?_getD, hx]; rfl)
      clear hx HC
      go_enter Tryz.func83, Tryz.ntmps83
      go_wp2_with fail
      go_region
      go_wp2_with fail
      go_ret
      exact ⟨ret_int (by rw [Int.toNat_natCast, HX.out]), HE.out _, (Only.setCell w).drew⟩
    · have HX := Lib.hid (show l.getD u 0 = 0 by rw [List.getD_eq_getElem?_getD, List.getElem?_eq_none (by omega)]; rfl)
      clear HC
      go_enter Tryz.func83, Tryz.ntmps83
      go_wp2_with fail
      go_region
      go_wp2_with fail
      go_ret
      exact ⟨ret_int (by rw [Int.toNat_natCast, HX.out]), HE.out _, (Only.setCell w).drew⟩

set_option maxHeartbeats 1000000 in
theorem next1_any (b : Nat) (saw clk ord nxt : Value) (u0 u1 : Int) (l : List Int) (vl : Value) (w : World) (hs : Sbx w b saw clk ord nxt u0 u1) (hl : Ints w vl l) (h0 : 0 ≤ u1) (h1 : u1 ≤ 4611686018427387904) :
    Calls Tryz.prog 83 #[.pointer (some ⟨b, 0, none⟩), vl, .int .i64 1] w fun e w' => e = .returned (.int .i64 (l.getD (u1).toNat 0)) ∧ Sbx w' b saw clk ord nxt u0 (u1 + 1) ∧ Only b w w' := by
  have c5 := hs.cell 5
  have f5 := hs.frozen 5
  simp only [List.getElem?_toArray, List.getElem?_cons_succ, List.getElem?_cons_zero] at c5
  have HS := Lib.hid hs; clear hs
  have hend : ∀ x, Sbx (w.setCell ⟨b, 5, none⟩ (.int .i64 x)).drew b saw clk ord nxt u0 x := fun x => Sbx.put1 HS.out x
  have HE := Lib.hid hend; clear hend
  rcases hl.cases with ⟨rfl, a, c, rfl⟩ | ⟨bl, o, c, rfl, hl0, hl1, hl2, hlb, hc⟩
  · clear hl
    go_enter Tryz.func83, Tryz.ntmps83
    go_wp2_with fail
    go_region
    go_wp2_with fail
    go_ret
    exact ⟨ret_int (by simp), HE.out _, (Only.setCell w).drew⟩
  · obtain ⟨u, hu⟩ : ∃ u : Nat, u1 = u := ⟨(u1).toNat, by omega⟩
    subst hu
    have HC := Lib.hid hc; clear hc hl
    by_cases hlt : u < l.length
    · obtain ⟨x, hx, -⟩ := getElem?_of_lt hlt
      have hcell := HC.out u x hx
      have HX := Lib.hid (show l.getD u 0 = x by rw [List.getD_eq_getElem?_getD, hx]; rfl)
      clear hx HC
      go_enter Tryz.func83, Tryz.ntmps83
      go_wp2_with fail
      go_region
      go_wp2_with fail
      go_ret
      exact ⟨ret_int (by rw [Int.toNat_natCast, HX.out]), HE.out _, (Only.setCell w).drew⟩
    · have HX := Lib.hid (show l.getD u 0 = 0 by rw [List.getD_eq_getElem?_getD, List.getElem?_eq_none (by omega)]; rfl)
      clear HC
      go_enter Tryz.func83, Tryz.ntmps83
      go_wp2_with fail
      go_region
      go_wp2_with fail
      go_ret
      exact ⟨ret_int (by rw [Int.toNat_natCast, HX.out]), HE.out _, (Only.setCell w).drew⟩

end Go.Proofs.YtacgopankhpnbaaGreatDoor
