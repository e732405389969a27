/- Texts of this seat, joined: Bl35G, Bl35H, Bl35F. -/
import Derived.Test.YtacgopankhpnbaaGreatDoorJFindsTopU
import Derived.Deep.CutRange
/- BlameFinds: what follows its outer loop. -/
namespace Go.Proofs.YtacgopankhpnbaaGreatDoor
open Go.RowKit

def hasLoop : Code → Bool
  | .loop _ => true
  | .seq a b => hasLoop a || hasLoop b
  | .block _ c => hasLoop c
  | .scope c => hasLoop c
  | _ => false
def afterLoop : Code → Option Code
  | .seq a b => if hasLoop a then some b else afterLoop b
  | .scope c => afterLoop c
  | _ => none
noncomputable def findsTail : Code := ((Tryz.f11.body.bind afterLoop).getD .skip)
def TrueB (w : World) (e : Ending) (w' : World) : Prop := e = .returned (.bool true) ∧ Below w.heap.size w w'
theorem txV_form (tx : Option ByteArray) : ∃ (s : ByteArray) (b : Bool), txV tx = .tuple #[.string s, .bool b] ∧ tx.getD ⟨#[]⟩ = s := by
  cases tx with
  | none => exact ⟨_, _, rfl, rfl⟩
  | some s => exact ⟨_, _, rfl, rfl⟩

set_option maxRecDepth 1000000 in
set_option maxHeartbeats 16000000 in
theorem finds_tail (r : Rcp) (L : List (Value × Stp)) (La Lb : List (Value × Dn)) (ai aa ab ac : Option Addr) (ci cv ca cb cc : Nat) (av : Option Addr) (X Y : RSt) (px py : Nat → Nat) (c : List Nat) (e0 : Nat) (w wk wr : World)
    (HR : Hid (RcpIn r L (.slice ai r.inputs.length ci) (.slice av L.length cv) w)) (HA : Hid (Dns w (.slice aa La.length ca) La)) (HBb : Hid (Dns w (.slice ab Lb.length cb) Lb)) (HLen : Hid (r.steps.length = L.length))
    (HX : Hid (readL r (La.map (·.2)) = some X)) (HY : Hid (readL r (Lb.map (·.2)) = some Y)) (HPx : Hid (FitsR r (La.map (·.2)) X px)) (HPy : Hid (FitsR r (Lb.map (·.2)) Y py)) (h60 : r.steps.length ≤ 60) (hcp : 0 < c.length) (hcn2 : c.length ≤ L.length)
    (HLast : Hid (c[c.length - 1]? = some e0)) (HFound : Hid (((inputL r X Y).isSome || (firstL r X Y).isSome) = true)) (HIc : Hid (Ints wk (.slice ac c.length cc) (natInts c)))
    (HRb : Hid (wk.heap[w.heap.size]? = some (rcpBox (.slice ai r.inputs.length ci) (.slice av L.length cv) r.output))) (HBl : Hid (Below wk.heap.size wk wr)) (HBw : Hid (Below w.heap.size w wr))
    (u0 u4 u5 u6 u9 u10 u11 u12 u14 u15 u16 u17 u18 u19 u20 u21 u22 u23 u24 u25 u26 u27 u28 u29 u30 u31 u32 u33 u34 u35 u36 u37 u38 u39 u40 u41 u42 u43 u44 u45 u46 u47 u48 u49 u50 u51 u52 u53 u54 u55 u56 u57 u58 u59 u60 u61 u62 u63 u64 u65 u66 u67 u68 u69 u70 u71 u72 u73 u74 u75 u76 u77 u78 u79 u80 u81 u82 u83 u84 u85 u86 u87 u88 u89 u90 u91 u92 u93 u94 u95 u96 u97 u98 u99 u100 u101 u102 u103 u104 u105 u106 u107 u108 u109 u110 u111 u112 u113 u114 u115 u116 u117 u118 u119 u120 u121 u122 u123 u124 u125 u126 u127 u128 u129 u130 u131 u132 u133 u134 u135 u136 u137 u138 u139 u140 u141 u142 u143 u144 u145 u146 u147 u148 u149 u150 u151 u152 u153 u154 u155 u156 u157 u158 u159 u160 u161 u162 u163 u164 u165 u166 u167 u168 u169 u170 u171 u172 u173 u174 u175 u176 u177 u178 u179 u180 u181 u182 u183 u184 u185 u186 u187 u188 u189 u190 u191 u192 u193 u194 u195 u196 u197 u198 u199 u200 u201 u202 u203 u204 u205 u206 u207 u208 u209 u210 u211 u212 u213 u214 u215 u216 u217 u218 u219 u220 u221 u222 u223 u224 u225 u226 u227 u228 u229 u230 u231 u232 u233 u234 u235 u236 u237 u238 u239 u240 u241 u242 u243 u244 u245 u246 u247 u248 u249 u250 u251 u252 u253 u254 u255 u256 u257 u258 u259 u260 u261 u262 u263 u264 u265 u266 u267 u268 u269 u270 u271 u272 u273 u274 u275 u276 u277 u278 u279 u280 u281 u282 u283 u284 u285 u286 u287 u288 u289 u290 u291 u292 u293 u294 u295 u296 u297 u298 u299 u300 u301 u302 u303 u304 u305 u306 u307 u308 u309 u310 u311 u312 u313 u314 u315 u316 u317 u318 u319 u320 u321 u322 u323 u324 u325 u326 u327 u328 u329 u330 u331 u332 u333 u334 u335 u336 u337 u338 u339 u340 u341 u342 u343 u344 u345 u346 u347 u348 u349 u350 u351 u352 u353 u354 : Value) :
    Code.wp Tryz.prog findsTail (bodyPost Tryz.prog Tryz.f11 (TrueB w)) ⟨#[u0, (.slice aa La.length ca), (.slice ab Lb.length cb), (.pointer (some ⟨w.heap.size, 0, none⟩)), u4, u5, u6, (.bool true), (.slice ac c.length cc), u9, u10, u11, u12, (.int .i64 (e0 : Int)), u14, u15, u16, u17, u18, u19, u20, u21, u22, u23, u24, u25, u26, u27, u28, u29, u30, u31, u32, u33, u34, u35, u36, u37, u38, u39, u40, u41, u42, u43, u44, u45, u46, u47, u48, u49, u50, u51, u52, u53, u54, u55, u56, u57, u58, u59, u60, u61, u62, u63, u64, u65, u66, u67, u68, u69, u70, u71, u72, u73, u74, u75, u76, u77, u78, u79, u80, u81, u82, u83, u84, u85, u86, u87, u88, u89, u90, u91, u92, u93, u94, u95, u96, u97, u98, u99, u100, u101, u102, u103, u104, u105, u106, u107, u108, u109, u110, u111, u112, u113, u114, u115, u116, u117, u118, u119, u120, u121, u122, u123, u124, u125, u126, u127, u128, u129, u130, u131, u132, u133, u134, u135, u136, u137, u138, u139, u140, u141, u142, u143, u144, u145, u146, u147, u148, u149, u150, u151, u152, u153, u154, u155, u156, u157, u158, u159, u160, u161, u162, u163, u164, u165, u166, u167, u168, u169, u170, u171, u172, u173, u174, u175, u176, u177, u178, u179, u180, u181, u182, u183, u184, u185, u186, u187, u188, u189, u190, u191, u192, u193, u194, u195, u196, u197, u198, u199, u200, u201, u202, u203, u204, u205, u206, u207, u208, u209, u210, u211, u212, u213, u214, u215, u216, u217, u218, u219, u220, u221, u222, u223, u224, u225, u226, u227, u228, u229, u230, u231, u232, u233, u234, u235, u236, u237, u238, u239, u240, u241, u242, u243, u244, u245, u246, u247, u248, u249, u250, u251, u252, u253, u254, u255, u256, u257, u258, u259, u260, u261, u262, u263, u264, u265, u266, u267, u268, u269, u270, u271, u272, u273, u274, u275, u276, u277, u278, u279, u280, u281, u282, u283, u284, u285, u286, u287, u288, u289, u290, u291, u292, u293, u294, u295, u296, u297, u298, u299, u300, u301, u302, u303, u304, u305, u306, u307, u308, u309, u310, u311, u312, u313, u314, u315, u316, u317, u318, u319, u320, u321, u322, u323, u324, u325, u326, u327, u328, u329, u330, u331, u332, u333, u334, u335, u336, u337, u338, u339, u340, u341, u342, u343, u344, u345, u346, u347, u348, u349, u350, u351, u352, u353, u354], []⟩ wr := by
  conv => arg 2; whnf
  have HCi := Lib.hid (input_any r L La Lb _ _ _ _ _ (HR.out.later HBw.out) (HA.out.later HBw.out) (HBb.out.later HBw.out))
  rw [HX.out, HY.out, show ofBoth (inputL r) (some X) (some Y) = inputL r X Y from rfl] at HCi
  obtain ⟨s9, hs9⟩ : ∃ s9, txV (inputL r X Y) = .tuple #[.string s9, .bool (inputL r X Y).isSome] := by cases inputL r X Y with | none => exact ⟨_, rfl⟩ | some s => exact ⟨_, rfl⟩
  rw [hs9] at HCi
  obtain ⟨lm, hlm⟩ : ∃ lm : Nat, c.length - 1 = lm := ⟨_, rfl⟩
  have hl1 : (c.length : Int) - 1 = (lm : Int) := by omega
  have hl2 : (0 : Int) ≤ (lm : Int) := by omega
  have hl3 : (lm : Int) < (c.length : Int) := by omega
  have hl4 : (c.length : Int) ≤ 60 := by have := HLen.out; omega
  have hlast := HLast.out
  rw [hlm] at hlast
  have HLs := Lib.hid hlast
  obtain ⟨r0, r1, r2⟩ := box3 (heap_up HBl.out HRb.out)
  have HFo := HFound.out
  generalize (inputL r X Y).isSome = q1 at HCi HFo
  clear hs9 hlast hlm
  go_wp2_with fail
  refine HCi.out.mono ?_
  rintro e wa ⟨rfl, hb⟩
  replace HBl := Lib.hid (below_trans HBl.out hb)
  replace HBw := Lib.hid (below_trans HBw.out hb)
  clear hb HCi r0 r1 r2
  obtain ⟨r0, r1, r2⟩ := box3 (heap_up HBl.out HRb.out)
  have HCf := Lib.hid (first_any r L La Lb _ _ _ _ _ (HR.out.later HBw.out) (HA.out.later HBw.out) (HBb.out.later HBw.out))
  rw [HX.out, HY.out, show ofBoth (firstL r) (some X) (some Y) = firstL r X Y from rfl] at HCf
  have HFok := Lib.hid (fun at_ (h : firstL r X Y = some at_) => first_ok HPx.out HPy.out h)
  generalize firstL r X Y = ft at HCf HFo HFok
  have HFo2 := Lib.hid HFo
  clear HFo
  go_wp2_with fail
  refine HCf.out.mono ?_
  rintro e wb ⟨rfl, hb⟩
  replace HBl := Lib.hid (below_trans HBl.out hb)
  replace HBw := Lib.hid (below_trans HBw.out hb)
  clear hb HCf r0 r1 r2
  have cl : ∀ W, Below wk.heap.size wk W → Hid (∃ b o, ac = some ⟨b, o, none⟩ ∧ W.cell? ⟨b, o + lm, none⟩ = some (.int .i64 (e0 : Int))) := fun W hW => Lib.hid (by
    rcases (HIc.out.later hW).cases with ⟨e, -⟩ | ⟨b, o, c', e, -, -, -, -, hcc⟩
    · have : c.length = 0 := by simpa [natInts] using congrArg List.length e
      omega
    · injection e with e1 e2 e3
      exact ⟨b, o, e1, hcc lm (e0 : Int) (by have := HLs.out; simp [natInts, List.getElem?_map, this])⟩)
  have HCl2 := Lib.hid cl
  clear cl
  cases ft with
  | none =>
    rw [show fiV none = .tuple #[.int .i64 0, .bool false] from rfl]
    obtain rfl : q1 = true := by simpa using HFo2.out
    obtain ⟨b, o, rfl, cc0⟩ := (HCl2.out _ HBl.out).out
    go_wp2_with fail
    go_ret
    exact ⟨rfl, HBw.out⟩
  | some at_ =>
    rw [show fiV (some at_) = .tuple #[.int .i64 at_, .bool true] from rfl]
    obtain ⟨-, h2, h3, h4, h5, h6, h7⟩ := HFok.out at_ rfl
    have HSa := Lib.hid (seen35_any La _ (at_ : Int) _ (HA.out.later HBw.out))
    rw [h2, show wIdx (some (px at_)) = (px at_ : Int) from rfl] at HSa
    clear HFok HFo2 h2
    go_wp2_with fail
    refine HSa.out.mono ?_
    rintro e w3 ⟨rfl, hb⟩
    replace HBl := Lib.hid (below_trans HBl.out hb)
    replace HBw := Lib.hid (below_trans HBw.out hb)
    clear hb HSa
    have HSb := Lib.hid (seen35_any Lb _ (at_ : Int) _ (HBb.out.later HBw.out))
    rw [h3, show wIdx (some (py at_)) = (py at_ : Int) from rfl] at HSb
    clear h3
    go_wp2_with fail
    refine HSb.out.mono ?_
    rintro e w4 ⟨rfl, hb⟩
    replace HBl := Lib.hid (below_trans HBl.out hb)
    replace HBw := Lib.hid (below_trans HBw.out hb)
    clear hb HSb
    obtain ⟨ya, hya, hya2⟩ : ∃ y, La[px at_]? = some y ∧ y.2 = X.of at_ := by
      rw [List.getElem?_map] at h4
      cases hq : La[px at_]? with
      | none => rw [hq] at h4; cases h4
      | some y => rw [hq] at h4; exact ⟨y, rfl, by simpa using h4⟩
    obtain ⟨yb, hyb, hyb2⟩ : ∃ y, Lb[py at_]? = some y ∧ y.2 = Y.of at_ := by
      rw [List.getElem?_map] at h5
      cases hq : Lb[py at_]? with
      | none => rw [hq] at h5; cases h5
      | some y => rw [hq] at h5; exact ⟨y, rfl, by simpa using h5⟩
    have hpa : px at_ < La.length := (List.getElem?_eq_some_iff.1 hya).1
    have hpb : py at_ < Lb.length := (List.getElem?_eq_some_iff.1 hyb).1
    rcases (HA.out.later HBw.out).cases with ⟨e, -⟩ | ⟨ba, oa, d1, e, -, -, -, -, hca⟩
    · rw [e] at hpa; simp at hpa
    obtain ⟨rfl, rfl⟩ : aa = some ⟨ba, oa, none⟩ ∧ ca = d1 := by injection e with e1 e2 e3; exact ⟨e1, e3⟩
    rcases (HBb.out.later HBw.out).cases with ⟨e', -⟩ | ⟨bb, ob, d2, e', -, -, -, -, hcb⟩
    · rw [e'] at hpb; simp at hpb
    obtain ⟨rfl, rfl⟩ : ab = some ⟨bb, ob, none⟩ ∧ cb = d2 := by injection e' with e1 e2 e3; exact ⟨e1, e3⟩
    obtain ⟨-, a1, a2, hsa, -⟩ := hca _ ya hya
    obtain ⟨-, b1, b2, hsb, -⟩ := hcb _ yb hyb
    rw [← hya2, ← hyb2] at h6 h7
    clear hya2 hyb2 hca hcb e e' h4 h5
    obtain ⟨yav, xs, xw, xo⟩ := ya
    obtain ⟨ybv, ysn, yw, yo⟩ := yb
    simp only at a1 a2 hsa b1 b2 hsb h6 h7
    obtain ⟨sxa, sxc, rfl⟩ := strs_slice hsa
    obtain ⟨sya, syc, rfl⟩ := strs_slice hsb
    have HSm := Lib.hid (same04_any xw yw _ _ w4.drew (hsa.later (Below.refl _ _).drew) (hsb.later (Below.refl _ _).drew))
    rw [decide_eq_true h6] at HSm
    have hout2 : (xo.toList == yo.toList) = false := by rw [beq_toList]; exact decide_eq_false h7
    have hp0 : ¬ (px at_ : Int) < 0 := by omega
    have hq0 : ¬ (py at_ : Int) < 0 := by omega
    have hpp0 : (0 : Int) ≤ (px at_ : Int) := by omega
    have hqq0 : (0 : Int) ≤ (py at_ : Int) := by omega
    have hpp1 : (px at_ : Int) < (La.length : Int) := by omega
    have hqq1 : (py at_ : Int) < (Lb.length : Int) := by omega
    clear h6 h7 hsa hsb hya hyb
    go_wp2_with fail
    go_region_held3 (fun W => (W.cell? ⟨ba, oa + px at_ * 3 + 1, none⟩ = some (.slice sxa xw.length sxc) ∧ W.cell? ⟨ba, oa + px at_ * 3 + 2, none⟩ = some (.string xo)) ∧ (W.cell? ⟨bb, ob + py at_ * 3 + 1, none⟩ = some (.slice sya yw.length syc) ∧ W.cell? ⟨bb, ob + py at_ * 3 + 2, none⟩ = some (.string yo)))
      (first | exact ⟨⟨a1, a2⟩, b1, b2⟩ | (with_reducible exact HC5.out) | go_keep)
      (first | (go_at_call 44; (with_reducible refine HSm.out.mono ?_); rintro e w5 ⟨rfl, hb⟩; have HB5 : Hid (Below w4.heap.size w4 w5) := Lib.hid ((Below.refl _ w4).drew.trans hb); have HC5 : Hid ((_ ∧ _) ∧ _ ∧ _) := Lib.hid ⟨⟨cell_later HB5.out a1, cell_later HB5.out a2⟩, cell_later HB5.out b1, cell_later HB5.out b2⟩; clear hb))
    all_goals
      replace HBl := Lib.hid (below_trans HBl.out HB5.out)
      replace HBw := Lib.hid (below_trans HBw.out HB5.out)
      obtain ⟨b, o, rfl, cc0⟩ := (HCl2.out _ HBl.out).out
      cases q1 with
      | true =>
        go_wp2_with fail
        go_ret
        exact ⟨rfl, HBw.out⟩
      | false =>
        go_wp2_with fail
        go_ret
        exact ⟨rfl, HBw.out⟩
end Go.Proofs.YtacgopankhpnbaaGreatDoor
/- BlameFinds: its outer loop. -/
namespace Go.Proofs.YtacgopankhpnbaaGreatDoor
open Go.RowKit

def theLoop : Code → Option Code
  | .loop c => some (.loop c)
  | .seq a b => if hasLoop a then theLoop a else theLoop b
  | .block _ c => theLoop c
  | .scope c => theLoop c
  | _ => none
noncomputable def findsLoop : Code := ((Tryz.f11.body.bind theLoop).getD .skip)

set_option maxRecDepth 1000000 in
set_option maxHeartbeats 16000000 in
theorem finds_loop (r : Rcp) (L : List (Value × Stp)) (La Lb : List (Value × Dn)) (ai aa ab ac : Option Addr) (ci cv ca cb cc : Nat) (av : Option Addr) (X Y : RSt) (px py : Nat → Nat) (c : List Nat) (e0 : Nat) (w wk : World) (Kx : Act → World → Prop)
    (HR : Hid (RcpIn r L (.slice ai r.inputs.length ci) (.slice av L.length cv) w)) (HA : Hid (Dns w (.slice aa La.length ca) La)) (HBb : Hid (Dns w (.slice ab Lb.length cb) Lb)) (HLen : Hid (r.steps.length = L.length))
    (HX : Hid (readL r (La.map (·.2)) = some X)) (HY : Hid (readL r (Lb.map (·.2)) = some Y)) (HPx : Hid (FitsR r (La.map (·.2)) X px)) (HPy : Hid (FitsR r (Lb.map (·.2)) Y py)) (h60 : r.steps.length ≤ 60) (hcp : 0 < c.length) (hcn2 : c.length ≤ L.length)
    (HLast : Hid (c[c.length - 1]? = some e0)) (HFound : Hid (((inputL r X Y).isSome || (firstL r X Y).isSome) = true)) (HIc : Hid (Ints wk (.slice ac c.length cc) (natInts c)))
    (HRb : Hid (wk.heap[w.heap.size]? = some (rcpBox (.slice ai r.inputs.length ci) (.slice av L.length cv) r.output))) (HB : Hid (Below w.heap.size w wk))
    (HLk : Hid (∀ i j, c[i]? = some j → LinkOk r (La.map (·.2)) (Lb.map (·.2)) X Y px py c i j))
    (HK : Hid (∀ a w', Code.wp Tryz.prog findsTail (bodyPost Tryz.prog Tryz.f11 (TrueB w)) a w' → Kx a w'))
    (v0 v4 v5 v6 v9 v10 v11 v12 v15 v16 v17 v18 v19 v20 v21 v22 v23 v24 v25 v26 v27 v28 v29 v30 v31 v32 v33 v34 v35 v36 v37 v38 v39 v40 v41 v42 v43 v44 v45 v46 v47 v48 v49 v50 v51 v52 v53 v54 v55 v56 v57 v58 v59 v60 v61 v62 v63 v64 v65 v66 v67 v68 v69 v70 v71 v72 v73 v74 v75 v76 v77 v78 v79 v80 v81 v82 v83 v84 v85 v86 v87 v88 v89 v90 v91 v92 v93 v94 v95 v96 v97 v98 v99 v100 v101 v102 v103 v104 v105 v106 v107 v108 v109 v110 v111 v112 v113 v114 v115 v116 v117 v118 v119 v120 v121 v122 v123 v124 v125 v126 v127 v128 v129 v130 v131 v132 v133 v134 v135 v136 v137 v138 v139 v140 v141 v142 v143 v144 v145 v146 v147 v148 v149 v150 v151 v152 v153 v154 v155 v156 v157 v158 v159 v160 v161 v162 v163 v164 v165 v166 v167 v168 v169 v170 v171 v172 v173 v174 v175 v176 v177 v178 v179 v180 v181 v182 v183 v184 v185 v186 v187 v188 v189 v190 v191 v192 v193 v194 v195 v196 v197 v198 v199 v200 v201 v202 v203 v204 v205 v206 v207 v208 v209 v210 v211 v212 v213 v214 v215 v216 v217 v218 v219 v220 v221 v222 v223 v224 v225 v226 v227 v228 v229 v230 v231 v232 v233 v234 v235 v236 v237 v238 v239 v240 v241 v242 v243 v244 v245 v246 v247 v248 v249 v250 v251 v252 v253 v254 v255 v256 v257 v258 v259 v260 v261 v262 v263 v264 v265 v266 v267 v268 v269 v270 v271 v272 v273 v274 v275 v276 v277 v278 v279 v280 v281 v282 v283 v284 v285 v286 v287 v288 v289 v290 v291 v292 v293 v294 v295 v296 v297 v298 v299 v300 v301 v302 v303 v304 v305 v306 v307 v308 v309 v310 v311 v312 v313 v314 v315 v316 v317 v318 v319 v320 v321 v322 v323 v324 v325 v326 v327 v328 v329 v330 v331 v332 v333 v334 v335 v336 v337 v338 v339 v340 v341 v342 v343 v344 v345 v346 v347 v348 v349 v350 v351 v352 v353 v354 : Value) :
    Code.wp Tryz.prog findsLoop (Exit.inBlock 0 (Exit.then Kx (bodyPost Tryz.prog Tryz.f11 (TrueB w)))) ⟨#[v0, (.slice aa La.length ca), (.slice ab Lb.length cb), (.pointer (some ⟨w.heap.size, 0, none⟩)), v4, v5, v6, (.bool true), (.slice ac c.length cc), v9, v10, v11, v12, (.int .i64 (e0 : Int)), (.int .i64 0), v15, v16, v17, v18, v19, v20, v21, v22, v23, v24, v25, v26, v27, v28, v29, v30, v31, v32, v33, v34, v35, v36, v37, v38, v39, v40, v41, v42, v43, v44, v45, v46, v47, v48, v49, v50, v51, v52, v53, v54, v55, v56, v57, v58, v59, v60, v61, v62, v63, v64, v65, v66, v67, v68, v69, v70, v71, v72, v73, v74, v75, v76, v77, v78, v79, v80, v81, v82, v83, v84, v85, v86, v87, v88, v89, v90, v91, v92, v93, v94, v95, v96, v97, v98, v99, v100, v101, v102, v103, v104, v105, v106, v107, v108, v109, v110, v111, v112, v113, v114, v115, v116, v117, v118, v119, v120, v121, v122, v123, v124, v125, v126, v127, v128, v129, v130, v131, v132, v133, v134, v135, v136, v137, v138, v139, v140, v141, v142, v143, v144, v145, v146, v147, v148, v149, v150, v151, v152, v153, v154, v155, v156, v157, v158, v159, v160, v161, v162, v163, v164, v165, v166, v167, v168, v169, v170, v171, v172, v173, v174, v175, v176, v177, v178, v179, v180, v181, v182, v183, v184, v185, v186, v187, v188, v189, v190, v191, v192, v193, v194, v195, v196, v197, v198, v199, v200, v201, v202, v203, v204, v205, v206, v207, v208, v209, v210, v211, v212, v213, v214, v215, v216, v217, v218, v219, v220, v221, v222, v223, v224, v225, v226, v227, v228, v229, v230, v231, v232, v233, v234, v235, v236, v237, v238, v239, v240, v241, v242, v243, v244, v245, v246, v247, v248, v249, v250, v251, v252, v253, v254, v255, v256, v257, v258, v259, v260, v261, v262, v263, v264, v265, v266, v267, v268, v269, v270, v271, v272, v273, v274, v275, v276, v277, v278, v279, v280, v281, v282, v283, v284, v285, v286, v287, v288, v289, v290, v291, v292, v293, v294, v295, v296, v297, v298, v299, v300, v301, v302, v303, v304, v305, v306, v307, v308, v309, v310, v311, v312, v313, v314, v315, v316, v317, v318, v319, v320, v321, v322, v323, v324, v325, v326, v327, v328, v329, v330, v331, v332, v333, v334, v335, v336, v337, v338, v339, v340, v341, v342, v343, v344, v345, v346, v347, v348, v349, v350, v351, v352, v353, v354], []⟩ wk := by
  conv => arg 2; whnf
  dsimp only
  go_loopw [14] (fun iv wr => ∃ i : Nat, i ≤ c.length ∧ iv = .int .i64 i ∧ Hid (Below wk.heap.size wk wr)) (fun iv _ => c.length - (intOf iv).toNat)
  case atStart => exact ⟨0, Nat.zero_le _, rfl, Lib.hid (Below.refl _ _)⟩
  case round =>
    obtain ⟨i, hi, rfl, HBl⟩ := hrel
    rename World => wr
    have HBw := Lib.hid (below_trans HB.out HBl.out)
    by_cases hil : i < c.length
    · obtain ⟨j, hj, -⟩ := getElem?_of_lt hil
      have HJ := Lib.hid hj
      have HLn := Lib.hid (HLk.out i j hj)
      have hjl : j < L.length := by rw [← HLen.out]; exact HLn.out.lt
      rcases (HIc.out.later HBl.out).cases with ⟨e, -⟩ | ⟨bc, oc, c', e, -, -, -, -, hcc⟩
      · have : c.length = 0 := by simpa [natInts] using congrArg List.length e
        omega
      obtain ⟨rfl, rfl⟩ : ac = some ⟨bc, oc, none⟩ ∧ cc = c' := by injection e with e1 e2 e3; exact ⟨e1, e3⟩
      have cj := hcc i (j : Int) (by simp [natInts, List.getElem?_map, hj])
      have HCc := Lib.hid (fun (m : Nat) (x : Nat) (hm : c[m]? = some x) => hcc m (x : Int) (by simp [natInts, List.getElem?_map, hm]))
      have hi0 : (0 : Int) ≤ (i : Int) := by omega
      have hi1 : (i : Int) < (c.length : Int) := by omega
      have hj0 : (0 : Int) ≤ (j : Int) := by omega
      have hj1 : (j : Int) < (L.length : Int) := by omega
      have hd1 : decide ((j : Int) < 0) = false := decide_eq_false (by omega)
      have hd2 : decide ((L.length : Int) ≤ (j : Int)) = false := decide_eq_false (by omega)
      have hd3 : decide (L.length ≤ j) = false := decide_eq_false (by omega)
      have hd4 : ¬ L.length ≤ j := by omega
      obtain ⟨r0, r1, r2⟩ := box3 (heap_up HBl.out HRb.out)
      clear hj hcc e
      go_wp2_with fail
      go_quiet (fail)
      have HB1 := Lib.hid (below_drewN (Below.refl wr.heap.size wr) nq)
      replace cj := cell_later HB1.out cj
      replace r0 := cell_later HB1.out r0
      replace r1 := cell_later HB1.out r1
      replace r2 := cell_later HB1.out r2
      replace HBl := Lib.hid (below_trans HBl.out HB1.out)
      replace HBw := Lib.hid (below_trans HBw.out HB1.out)
      replace HCc := Lib.hid (fun (m : Nat) (x : Nat) (hm : c[m]? = some x) => cell_later HB1.out (HCc.out m x hm))
      generalize wr.drewN nq = wa at HBl HBw HCc cj r0 r1 r2 ⊢
      clear HB1
      have HSa := Lib.hid (seen35_any La _ (j : Int) _ (HA.out.later HBw.out))
      rw [HLn.out.seenA, show wIdx (some (px j)) = (px j : Int) from rfl] at HSa
      go_wp2_with fail
      refine HSa.out.mono ?_
      rintro e wb ⟨rfl, hb⟩
      replace cj := cell_later hb cj
      replace r0 := cell_later hb r0
      replace r1 := cell_later hb r1
      replace r2 := cell_later hb r2
      replace HBl := Lib.hid (below_trans HBl.out hb)
      replace HBw := Lib.hid (below_trans HBw.out hb)
      have HB1 := Lib.hid hb
      replace HCc := Lib.hid (fun (m : Nat) (x : Nat) (hm : c[m]? = some x) => cell_later HB1.out (HCc.out m x hm))
      clear hb HSa HB1
      have HSb := Lib.hid (seen35_any Lb _ (j : Int) _ (HBb.out.later HBw.out))
      rw [HLn.out.seenB, show wIdx (some (py j)) = (py j : Int) from rfl] at HSb
      go_wp2_with fail
      refine HSb.out.mono ?_
      rintro e wc ⟨rfl, hb⟩
      replace cj := cell_later hb cj
      replace r0 := cell_later hb r0
      replace r1 := cell_later hb r1
      replace r2 := cell_later hb r2
      replace HBl := Lib.hid (below_trans HBl.out hb)
      replace HBw := Lib.hid (below_trans HBw.out hb)
      have HB1 := Lib.hid hb
      replace HCc := Lib.hid (fun (m : Nat) (x : Nat) (hm : c[m]? = some x) => cell_later HB1.out (HCc.out m x hm))
      clear hb HSb HB1
      -- the two elements
      obtain ⟨ya, hya, hya2⟩ : ∃ y, La[px j]? = some y ∧ y.2 = X.of j := by
        have h1 := HLn.out.atA
        rw [List.getElem?_map] at h1
        cases hq : La[px j]? with
        | none => rw [hq] at h1; cases h1
        | some y => rw [hq] at h1; exact ⟨y, rfl, by simpa using h1⟩
      obtain ⟨yb, hyb, hyb2⟩ : ∃ y, Lb[py j]? = some y ∧ y.2 = Y.of j := by
        have h1 := HLn.out.atB
        rw [List.getElem?_map] at h1
        cases hq : Lb[py j]? with
        | none => rw [hq] at h1; cases h1
        | some y => rw [hq] at h1; exact ⟨y, rfl, by simpa using h1⟩
      have hpa : px j < La.length := (List.getElem?_eq_some_iff.1 hya).1
      have hpb : py j < Lb.length := (List.getElem?_eq_some_iff.1 hyb).1
      rcases (HA.out.later HBw.out).cases with ⟨e, -⟩ | ⟨ba, oa, c1, e, -, -, -, -, hca⟩
      · rw [e] at hpa; simp at hpa
      obtain ⟨rfl, rfl⟩ : aa = some ⟨ba, oa, none⟩ ∧ ca = c1 := by injection e with e1 e2 e3; exact ⟨e1, e3⟩
      rcases (HBb.out.later HBw.out).cases with ⟨e', -⟩ | ⟨bb, ob, c2, e', -, -, -, -, hcb⟩
      · rw [e'] at hpb; simp at hpb
      obtain ⟨rfl, rfl⟩ : ab = some ⟨bb, ob, none⟩ ∧ cb = c2 := by injection e' with e1 e2 e3; exact ⟨e1, e3⟩
      obtain ⟨a0, a1, a2, hsa, -⟩ := hca _ ya hya
      obtain ⟨b0, b1, b2, hsb, -⟩ := hcb _ yb hyb
      have hout := HLn.out.out
      have hslen := HLn.out.len
      obtain ⟨ys, hys, hys2⟩ : ∃ ys, L[j]? = some ys ∧ r.steps[j]? = some ys.2 := by
        obtain ⟨ys, hys, -⟩ := getElem?_of_lt hjl
        exact ⟨ys, hys, by rw [← HR.out.map, List.getElem?_map, hys]; rfl⟩
      have hfew := HLn.out.few _ hys2
      have HBk := Lib.hid (fun h0 => HLn.out.back h0)
      have HFr := Lib.hid (fun h0 => HLn.out.first h0)
      have HYs := Lib.hid hys2
      rcases (HR.out.later HBw.out).stp.cases with ⟨e'', -⟩ | ⟨bs, os, c3, e'', -, -, -, -, hcs⟩
      · rw [e''] at hjl; simp at hjl
      obtain ⟨rfl, rfl⟩ : av = some ⟨bs, os, none⟩ ∧ cv = c3 := by injection e'' with e1 e2 e3; exact ⟨e1, e3⟩
      obtain ⟨-, s1, -, -, hsrc, -⟩ := hcs _ ys hys
      rw [← hya2] at hout hslen hfew HBk HFr
      rw [← hyb2] at hout hslen HBk HFr
      clear hya2 hyb2 hys2 hca hcb hcs e e' e'' HLn
      obtain ⟨yav, xs, xw, xo⟩ := ya
      obtain ⟨ybv, ysn, yw, yo⟩ := yb
      obtain ⟨ysv, kind, src, sto, sorted⟩ := ys
      simp only at a0 a1 a2 hsa b0 b1 b2 hsb hout hslen hfew HBk HFr HYs s1 hsrc
      obtain ⟨sxa, sxc, rfl⟩ := strs_slice hsa
      obtain ⟨sya, syc, rfl⟩ := strs_slice hsb
      obtain ⟨sra, src_c, rfl⟩ := strs_slice hsrc
      have HSxw := Lib.hid hsa; have HSyw := Lib.hid hsb; have HSsrc := Lib.hid hsrc
      have hsl1 : ((xw.length : Int) != (yw.length : Int)) = false := by rw [hslen]; simp
      have hsl2 : ((xw.length : Int) == (yw.length : Int)) = true := by rw [hslen]; simp
      have HSl := Lib.hid hslen
      clear hslen
      have hp0 : ¬ (px j : Int) < 0 := by omega
      have hq0 : ¬ (py j : Int) < 0 := by omega
      have hpp0 : (0 : Int) ≤ (px j : Int) := by omega
      have hqq0 : (0 : Int) ≤ (py j : Int) := by omega
      have hpp1 : (px j : Int) < (La.length : Int) := by omega
      have hqq1 : (py j : Int) < (Lb.length : Int) := by omega
      have hB2 := below_trans (below_alloc wc (.cells #[.int .i64 xs, .slice sxa xw.length sxc, .string xo] 59)) (below_alloc _ (.cells #[.int .i64 ysn, .slice sya yw.length syc, .string yo] 59))
      have HXb := Lib.hid (heap_up (below_alloc _ (.cells #[.int .i64 ysn, .slice sya yw.length syc, .string yo] 59)) (alloc_self wc (.cells #[.int .i64 xs, .slice sxa xw.length sxc, .string xo] 59)))
      have HYb := Lib.hid (alloc_self (wc.alloc (.cells #[.int .i64 xs, .slice sxa xw.length sxc, .string xo] 59)) (.cells #[.int .i64 ysn, .slice sya yw.length syc, .string yo] 59))
      simp only [World.size_alloc] at HYb
      have b0' := cell_later (below_alloc wc (.cells #[.int .i64 xs, .slice sxa xw.length sxc, .string xo] 59)) b0
      have b1' := cell_later (below_alloc wc (.cells #[.int .i64 xs, .slice sxa xw.length sxc, .string xo] 59)) b1
      have b2' := cell_later (below_alloc wc (.cells #[.int .i64 xs, .slice sxa xw.length sxc, .string xo] 59)) b2
      have HB2 := Lib.hid hB2
      clear hsa hsb hsrc hB2 hd1 hd2 hd3 hd4
      go_wp2_with fail
      clear a0 a1 a2 b0 b1 b2 b0' b1' b2' hp0 hq0 hpp0 hqq0 hpp1 hqq1
      replace cj := cell_later HB2.out cj
      replace r0 := cell_later HB2.out r0
      replace r1 := cell_later HB2.out r1
      replace r2 := cell_later HB2.out r2
      replace s1 := cell_later HB2.out s1
      replace HBl := Lib.hid (below_trans HBl.out HB2.out)
      replace HBw := Lib.hid (below_trans HBw.out HB2.out)
      replace HCc := Lib.hid (fun (m : Nat) (x : Nat) (hm : c[m]? = some x) => cell_later HB2.out (HCc.out m x hm))
      replace HSxw := Lib.hid (HSxw.out.later HB2.out)
      replace HSyw := Lib.hid (HSyw.out.later HB2.out)
      replace HSsrc := Lib.hid (HSsrc.out.later HB2.out)
      generalize (wc.alloc (.cells #[.int .i64 xs, .slice sxa xw.length sxc, .string xo] 59)).alloc (.cells #[.int .i64 ysn, .slice sya yw.length syc, .string yo] 59) = wd at HXb HYb HBl HBw HCc HSxw HSyw HSsrc cj r0 r1 r2 s1 ⊢
      generalize wc.heap.size = pd at HXb HYb ⊢
      clear HB2
      obtain ⟨x0, x1, x2⟩ := box3 HXb.out
      obtain ⟨y0, y1, y2⟩ := box3 HYb.out
      have hout2 : (xo.toList == yo.toList) = false := by rw [beq_toList]; exact decide_eq_false hout
      have hsl3 : decide ((src.length : Int) < (xw.length : Int)) = false := decide_eq_false (by omega)
      have hsl4 : decide (src.length < xw.length) = false := decide_eq_false (by omega)
      have hsl5 : ¬ src.length < xw.length := by omega
      have HFw := Lib.hid hfew
      clear hout hfew
      go_quiet (fail)
      have HBq := Lib.hid (below_drewN (Below.refl wd.heap.size wd) nq)
      clear x0 x1 x2 y0 y1 y2 cj r0 r1 r2 s1 hout2 hsl1 hsl2 hsl3 hsl4 hsl5
      have HWe : Hid (Ints (wd.drewN nq) (.slice (some ⟨bc, oc, none⟩) c.length cc) (natInts c)) := Lib.hid (HIc.out.later (below_trans HBl.out HBq.out))
      replace HBl := Lib.hid (below_trans HBl.out HBq.out)
      replace HBw := Lib.hid (below_trans HBw.out HBq.out)
      replace HXb := Lib.hid (heap_up HBq.out HXb.out)
      replace HYb := Lib.hid (heap_up HBq.out HYb.out)
      replace HSxw := Lib.hid (HSxw.out.later HBq.out)
      replace HSyw := Lib.hid (HSyw.out.later HBq.out)
      replace HSsrc := Lib.hid (HSsrc.out.later HBq.out)
      clear HCc HBq
      generalize wd.drewN nq = we at HXb HYb HBl HBw HSxw HSyw HSsrc HWe ⊢
      have HRe := Lib.hid (HR.out.later HBw.out)
      obtain ⟨p, HP⟩ : ∃ p : Nat, Hid (0 < i → c[i - 1]? = some p ∧ thrTo r.steps src xw yw i (p : Int) xw.length = true) := by
        by_cases h0 : 0 < i
        · obtain ⟨p, h1, h2⟩ := HBk.out h0
          exact ⟨p, Lib.hid (fun _ => ⟨h1, h2 _ HYs.out⟩)⟩
        · exact ⟨0, Lib.hid (fun h => absurd h h0)⟩
      replace HFr : Hid (i = 0 → xw = yw ∨ inpTo r.steps src xw yw xw.length = true) := Lib.hid (fun h0 => (HFr.out h0).imp id (fun h => h _ HYs.out))
      clear HBk
      go_wp2_with fail
      go_loopw [19, 20, 21] (fun tv uv kv wr2 => ∃ k : Nat, k ≤ xw.length ∧ kv = .int .i64 k ∧ tv = .bool (thrTo r.steps src xw yw i (p : Int) k) ∧ uv = .bool (inpTo r.steps src xw yw k) ∧ Hid (Below we.heap.size we wr2)) (fun _ _ kv _ => xw.length - (intOf kv).toNat)
      case atStart => exact ⟨0, Nat.zero_le _, rfl, rfl, rfl, Lib.hid (Below.refl _ _)⟩
      case round =>
        obtain ⟨k, hk, rfl, rfl, rfl, HBe⟩ := hrel
        rename World => wr2
        obtain ⟨x0, x1, x2⟩ := box3 (heap_up HBe.out HXb.out)
        obtain ⟨y0, y1, y2⟩ := box3 (heap_up HBe.out HYb.out)
        by_cases hkl : k < xw.length
        · obtain ⟨xk, hxk, -⟩ := getElem?_of_lt hkl
          obtain ⟨yk, hyk, -⟩ := getElem?_of_lt (l := yw) (k := k) (by rw [← HSl.out]; exact hkl)
          obtain ⟨n, hn, -⟩ := getElem?_of_lt (l := src) (k := k) (by have := HFw.out; omega)
          have HTs := Lib.hid (thrTo_succ r.steps src xw yw i (p : Int) k)
          have HIs := Lib.hid (inpTo_succ r.steps src xw yw k)
          have HTa := Lib.hid (show thrAt r.steps src xw yw i (p : Int) k = (decide (xk ≠ yk) && (decide (0 < i) && decide (wIdx (writerOf r.steps n) = (p : Int)))) by unfold thrAt; rw [hxk, hyk, srcW_at hn]; simp)
          have HIa := Lib.hid (show inpAt r.steps src xw yw k = (decide (xk ≠ yk) && decide (wIdx (writerOf r.steps n) < 0)) by unfold inpAt; rw [hxk, hyk, srcW_at hn]; simp)
          rcases (HSxw.out.later HBe.out).cases with ⟨e, -⟩ | ⟨bx, ox, d1, e, -, -, -, -, hcx⟩
          · rw [e] at hkl; simp at hkl
          obtain ⟨rfl, rfl⟩ : sxa = some ⟨bx, ox, none⟩ ∧ sxc = d1 := by injection e with e1 e2 e3; exact ⟨e1, e3⟩
          rcases (HSyw.out.later HBe.out).cases with ⟨e', -⟩ | ⟨by', oy, d2, e', -, -, -, -, hcy⟩
          · rw [e'] at hyk; simp at hyk
          obtain ⟨rfl, rfl⟩ : sya = some ⟨by', oy, none⟩ ∧ syc = d2 := by injection e' with e1 e2 e3; exact ⟨e1, e3⟩
          rcases (HSsrc.out.later HBe.out).cases with ⟨e'', -⟩ | ⟨bn, on_, d3, e'', -, -, -, -, hcn⟩
          · rw [e''] at hn; simp at hn
          obtain ⟨rfl, rfl⟩ : sra = some ⟨bn, on_, none⟩ ∧ src_c = d3 := by injection e'' with e1 e2 e3; exact ⟨e1, e3⟩
          obtain ⟨xc, -⟩ := hcx k xk hxk
          obtain ⟨yc, -⟩ := hcy k yk hyk
          obtain ⟨nc, nz⟩ := hcn k n hn
          have hxb : xw.length ≤ 9223372036854775807 := by obtain ⟨a, c, hv, h1, h2, -⟩ := HSxw.out; omega
          have hk0 : (0 : Int) ≤ (k : Int) := by omega
          have hk1 : (k : Int) < (xw.length : Int) := by omega
          have hk2 : (k : Int) < (yw.length : Int) := by rw [← HSl.out]; omega
          have hk3 : (k : Int) < (src.length : Int) := by have := HFw.out; omega
          have HBf := Lib.hid (below_trans HBw.out HBe.out)
          rcases (HRe.out.later HBe.out).stp.cases with ⟨e3', -⟩ | ⟨bs', os', c3', e3', -, -, -, -, hcs⟩
          · rw [e3'] at hjl; simp at hjl
          obtain ⟨e4, e5, rfl⟩ : bs = bs' ∧ os = os' ∧ cv = c3' := by injection e3' with q1 q2 q3; injection q1 with q1; injection q1 with q4 q5 q6; exact ⟨q4, q5, q3⟩
          subst e4 e5
          obtain ⟨-, s1, -, -, -, -⟩ := hcs j _ hys
          simp only at s1
          rcases (HWe.out.later HBe.out).cases with ⟨e6, -⟩ | ⟨bc', oc', c4', e6, -, -, -, -, hcc⟩
          · have : c.length = 0 := by simpa [natInts] using congrArg List.length e6
            omega
          obtain ⟨e7, e8, rfl⟩ : bc = bc' ∧ oc = oc' ∧ cc = c4' := by injection e6 with q1 q2 q3; injection q1 with q1; injection q1 with q4 q5 q6; exact ⟨q4, q5, q3⟩
          subst e7 e8
          have cj := hcc i (j : Int) (by have := HJ.out; simp [natInts, List.getElem?_map, this])
          have HCp := Lib.hid (fun (h0 : 0 < i) => hcc (i - 1) (p : Int) (by have := (HP.out h0).1; simp [natInts, List.getElem?_map, this]))
          obtain ⟨r0, r1, r2⟩ := box3 (heap_up (below_trans HBl.out HBe.out) HRb.out)
          have HWn := Lib.hid (writer35_any r L _ _ n wr2.drew (HR.out.later HBf.out.drew))
          clear hcx hcy hcn hcs hcc e e' e'' e3' e6 hxk hyk hn nz
          generalize wIdx (writerOf r.steps n) = wv at HWn HTa HIa
          generalize thrTo r.steps src xw yw i (p : Int) k = qt at HTs ⊢
          generalize inpTo r.steps src xw yw k = qi at HIs ⊢
          go_wp2_with fail
          go_region_held3 (fun W => (W.cell? ⟨w.heap.size, 0, none⟩ = some (.slice ai r.inputs.length ci) ∧ W.cell? ⟨w.heap.size, 1, none⟩ = some (.slice (some ⟨bs, os, none⟩) L.length cv) ∧ W.cell? ⟨w.heap.size, 2, none⟩ = some (.string r.output)) ∧ W.cell? ⟨bc, oc + i, none⟩ = some (.int .i64 (j : Int)) ∧ W.cell? ⟨bs, os + j * 4 + 1, none⟩ = some (.slice (some ⟨bn, on_, none⟩) src.length src_c) ∧ W.cell? ⟨bn, on_ + k, none⟩ = some (.string n))
            (first | exact ⟨⟨r0, r1, r2⟩, cj, s1, nc⟩ | (with_reducible exact HC10.out) | go_keep)
            (first | (go_at_call 42; (with_reducible refine HWn.out.mono ?_); rintro e wk ⟨rfl, hb⟩; have HB10 : Hid (Below wr2.heap.size wr2 wk) := Lib.hid ((Below.refl _ wr2).drew.trans hb); have HC10 : Hid ((_ ∧ _ ∧ _) ∧ _ ∧ _ ∧ _) := Lib.hid ⟨⟨cell_later HB10.out r0, cell_later HB10.out r1, cell_later HB10.out r2⟩, cell_later HB10.out cj, cell_later HB10.out s1, cell_later HB10.out nc⟩; clear hb))
          all_goals
            have HBg := Lib.hid (below_trans HBe.out HB10.out)
            replace x1 := cell_later HB10.out x1
            replace y1 := cell_later HB10.out y1
            replace xc := cell_later HB10.out xc
            replace yc := cell_later HB10.out yc
            replace HCp := Lib.hid (fun h0 => cell_later HB10.out (HCp.out h0))
            have hi60 : (i : Int) ≤ 60 := by have := HLen.out; omega
            clear HC10 HB10 r0 r1 r2 cj s1 nc x0 x2 y0 y2
            go_upto_region 31 with (fail)
            go_cut [19] from 197 to 263 (fun tv wx => tv = .bool (qt || thrAt r.steps src xw yw i (p : Int) k) ∧ Hid (Below wk.heap.size wk wx))
            case first =>
              cases qt with
              | true =>
                go_wp2_with fail
                go_quiet (fail)
                go_wp2_with fail
                go_meet
                exact ⟨by rw [HTa.out]; simp [], Lib.hid (below_drewN (Below.refl _ _) nq)⟩
              | false =>
                by_cases hxy : xk = yk
                · subst hxy
                  go_wp2_with fail
                  go_quiet (fail)
                  go_wp2_with fail
                  go_meet
                  exact ⟨by rw [HTa.out]; simp [], Lib.hid (below_drewN (Below.refl _ _) nq)⟩
                · have hne : (xk.toList == yk.toList) = false := by rw [beq_toList]; exact decide_eq_false hxy
                  by_cases h0 : 0 < i
                  · obtain ⟨im, him⟩ : ∃ im : Nat, i - 1 = im := ⟨_, rfl⟩
                    have ccp := HCp.out h0
                    rw [him] at ccp
                    have hsub : (i : Int) - 1 = (im : Int) := by omega
                    have hmax : max (im : Int) 0 = (im : Int) := by omega
                    have h0i : (0 : Int) < (i : Int) := by omega
                    have h0d : decide ((0 : Int) < (i : Int)) = true := decide_eq_true h0i
                    have him0 : (0 : Int) ≤ (im : Int) := by omega
                    have him1 : (im : Int) < (c.length : Int) := by omega
                    clear him
                    by_cases hwp : wv = (p : Int)
                    · have hwp1 : (wv == (p : Int)) = true := by rw [hwp]; simp
                      go_wp2_with fail
                      go_quiet (fail)
                      go_wp2_with fail
                      go_meet
                      exact ⟨by rw [HTa.out]; simp [hxy, h0, hwp], Lib.hid (below_drewN (Below.refl _ _) nq)⟩
                    · have hwp1 : (wv == (p : Int)) = false := beq_eq_false_iff_ne.2 hwp
                      go_wp2_with fail
                      go_quiet (fail)
                      go_wp2_with fail
                      go_meet
                      exact ⟨by rw [HTa.out]; simp [hxy, h0, hwp], Lib.hid (below_drewN (Below.refl _ _) nq)⟩
                  · have h0i : ¬ (0 : Int) < (i : Int) := by omega
                    have h0d : decide ((0 : Int) < (i : Int)) = false := decide_eq_false h0i
                    have h0e : decide (0 < i) = false := decide_eq_false h0
                    go_wp2_with fail
                    go_quiet (fail)
                    go_wp2_with fail
                    go_meet
                    exact ⟨by rw [HTa.out]; simp [hxy, h0], Lib.hid (below_drewN (Below.refl _ _) nq)⟩
            case rest =>
              rename World => w11
              obtain ⟨rfl, HBx⟩ := hcut
              have HBh := Lib.hid (below_trans HBg.out HBx.out)
              replace x1 := cell_later HBx.out x1
              replace y1 := cell_later HBx.out y1
              replace xc := cell_later HBx.out xc
              replace yc := cell_later HBx.out yc
              have HTn : Hid (thrTo r.steps src xw yw i (p : Int) (k + 1) = (qt || thrAt r.steps src xw yw i (p : Int) k)) := HTs
              clear HCp HTa HTs
              generalize (qt || thrAt r.steps src xw yw i (p : Int) k) = tn at HTn ⊢
              go_wp2_with fail
              cases qi with
              | true =>
                go_quiet (fail)
                replace HBh := Lib.hid (below_drewN HBh.out nq)
                go_wp2_with fail
                go_roundw
                case rel => exact ⟨k + 1, by omega, by go_num, by rw [HTn.out], by rw [HIs.out, HIa.out]; simp [], HBh⟩
                case measure => simp [intOf]; omega
              | false =>
                by_cases hxy : xk = yk
                · subst hxy
                  go_quiet (fail)
                  replace HBh := Lib.hid (below_drewN HBh.out nq)
                  go_wp2_with fail
                  go_roundw
                  case rel => exact ⟨k + 1, by omega, by go_num, by rw [HTn.out], by rw [HIs.out, HIa.out]; simp [], HBh⟩
                  case measure => simp [intOf]; omega
                · have hne : (xk.toList == yk.toList) = false := by rw [beq_toList]; exact decide_eq_false hxy
                  by_cases hw0 : wv < 0
                  · have hw1 : decide (wv < 0) = true := decide_eq_true hw0
                    go_quiet (fail)
                    replace HBh := Lib.hid (below_drewN HBh.out nq)
                    go_wp2_with fail
                    go_roundw
                    case rel => exact ⟨k + 1, by omega, by go_num, by rw [HTn.out], by rw [HIs.out, HIa.out]; simp [hxy, hw0], HBh⟩
                    case measure => simp [intOf]; omega
                  · have hw1 : decide (wv < 0) = false := decide_eq_false hw0
                    go_quiet (fail)
                    replace HBh := Lib.hid (below_drewN HBh.out nq)
                    go_wp2_with fail
                    go_roundw
                    case rel => exact ⟨k + 1, by omega, by go_num, by rw [HTn.out], by rw [HIs.out, HIa.out]; simp [hxy, hw0], HBh⟩
                    case measure => simp [intOf]; omega
        · obtain rfl : k = xw.length := by omega
          have HBo := Lib.hid (below_trans HBl.out HBe.out)
          have hi60 : (i : Int) ≤ 60 := by have := HLen.out; omega
          by_cases h0 : 0 < i
          · have h0i : (0 : Int) < (i : Int) := by omega
            have h0d : decide ((0 : Int) < (i : Int)) = true := decide_eq_true h0i
            have h0e : ((i : Int) == 0) = false := beq_eq_false_iff_ne.2 (by omega)
            rw [(HP.out h0).2]
            go_wp2_with fail
            go_roundw
            case rel => exact ⟨i + 1, by omega, by go_num, HBo⟩
            case measure => simp [intOf]; omega
          · have h0i : ¬ (0 : Int) < (i : Int) := by omega
            have h0d : decide ((0 : Int) < (i : Int)) = false := decide_eq_false h0i
            have h0e : ((i : Int) == 0) = true := by rw [beq_iff_eq]; omega
            have h0f : decide (0 < i) = false := decide_eq_false h0
            have h0g : (i == 0) = true := by rw [beq_iff_eq]; omega
            have HFr2 := Lib.hid (HFr.out (by omega))
            generalize thrTo r.steps src xw yw i (p : Int) xw.length = tq
            cases hqi : inpTo r.steps src xw yw xw.length with
            | true =>
              clear hqi
              go_wp2_with fail
              go_roundw
              case rel => exact ⟨i + 1, by omega, by go_num, HBo⟩
              case measure => simp [intOf]; omega
            | false =>
              have hxy : xw = yw := by rcases HFr2.out with h | h; exact h; rw [h] at hqi; cases hqi
              have HSm := Lib.hid (same04_any xw yw _ _ wr2 (HSxw.out.later HBe.out) (HSyw.out.later HBe.out))
              rw [decide_eq_true hxy] at HSm
              clear hqi hxy
              go_wp2_with fail
              refine HSm.out.mono ?_
              rintro e wf ⟨rfl, hb⟩
              replace HBo := Lib.hid (below_trans HBo.out hb)
              clear hb x0 x1 x2 y0 y1 y2
              go_wp2_with fail
              go_roundw
              case rel => exact ⟨i + 1, by omega, by go_num, HBo⟩
              case measure => simp [intOf]; omega
    · obtain rfl : i = c.length := by omega
      go_wp2_with fail
      exact HK.out _ _ (finds_tail r L La Lb _ _ _ _ _ _ _ _ _ _ X Y px py c e0 w wk _ HR HA HBb HLen HX HY HPx HPy h60 hcp hcn2 HLast HFound HIc HRb HBl HBw _ _ _ _ _ _ _ _ _ _ _ _ _ _ _ _ _ _ _ _ _ _ _ _ _ _ _ _ _ _ _ _ _ _ _ _ _ _ _ _ _ _ _ _ _ _ _ _ _ _ _ _ _ _ _ _ _ _ _ _ _ _ _ _ _ _ _ _ _ _ _ _ _ _ _ _ _ _ _ _ _ _ _ _ _ _ _ _ _ _ _ _ _ _ _ _ _ _ _ _ _ _ _ _ _ _ _ _ _ _ _ _ _ _ _ _ _ _ _ _ _ _ _ _ _ _ _ _ _ _ _ _ _ _ _ _ _ _ _ _ _ _ _ _ _ _ _ _ _ _ _ _ _ _ _ _ _ _ _ _ _ _ _ _ _ _ _ _ _ _ _ _ _ _ _ _ _ _ _ _ _ _ _ _ _ _ _ _ _ _ _ _ _ _ _ _ _ _ _ _ _ _ _ _ _ _ _ _ _ _ _ _ _ _ _ _ _ _ _ _ _ _ _ _ _ _ _ _ _ _ _ _ _ _ _ _ _ _ _ _ _ _ _ _ _ _ _ _ _ _ _ _ _ _ _ _ _ _ _ _ _ _ _ _ _ _ _ _ _ _ _ _ _ _ _ _ _ _ _ _ _ _ _ _ _ _ _ _ _ _ _ _ _ _ _ _ _ _ _ _ _ _ _ _ _ _ _ _ _ _ _ _ _ _ _ _ _ _ _ _ _ _ _ _ _ _ _ _ _ _ _ _ _ _ _ _ _ _ _ _ _ _ _ _ _ _ _ _ _)
end Go.Proofs.YtacgopankhpnbaaGreatDoor
/- The walk of ladinglaw35.BlameFinds. -/
namespace Go.Proofs.YtacgopankhpnbaaGreatDoor
open Go.RowKit

set_option maxRecDepth 100000 in
set_option maxHeartbeats 16000000 in
theorem finds_any (r : Rcp) (L : List (Value × Stp)) (La Lb : List (Value × Dn)) (vi vs va vb : Value) (w : World) (h : RcpIn r L vi vs w) (ha : Dns w va La) (hb : Dns w vb Lb) (hG : Glob w) :
    Calls Tryz.prog 11 #[rcpV vi vs r.output, va, vb] w (TrueB w) := by
  have HR := Lib.hid h
  have HA := Lib.hid ha
  have HBb := Lib.hid hb
  have HG := Lib.hid hG
  have HLen := Lib.hid h.len
  obtain ⟨ai, ci, av, cv, rfl, rfl⟩ := h.slices
  obtain ⟨aa, ca, rfl⟩ := dns_slice ha
  obtain ⟨ab, cb, rfl⟩ := dns_slice hb
  have HB := Lib.hid (below_alloc w (rcpBox (.slice ai r.inputs.length ci) (.slice av L.length cv) r.output))
  have HRb := Lib.hid (alloc_self w (rcpBox (.slice ai r.inputs.length ci) (.slice av L.length cv) r.output))
  clear h ha hb hG
  go_enter Tryz.func11, Tryz.ntmps11
  go_wp2_with fail
  refine (small35_any _ (HG.out.later HB.out)).mono ?_
  rintro e w1 ⟨rfl, hb⟩
  replace HRb := Lib.hid (heap_up hb HRb.out)
  replace HB := Lib.hid (below_trans HB.out hb)
  clear hb
  obtain ⟨r0, r1, r2⟩ := box3 HRb.out
  go_wp2_with fail
  refine (few35_any r L _ _ _ (HR.out.later HB.out)).mono ?_
  rintro e w2 ⟨q, rfl, hb⟩
  clear r0 r1 r2
  replace HRb := Lib.hid (heap_up hb HRb.out)
  replace HB := Lib.hid (below_trans HB.out hb)
  clear hb
  obtain ⟨r0, r1, r2⟩ := box3 HRb.out
  cases q with
  | false =>
    go_wp2_with fail
    go_ret
    exact ⟨rfl, HB.out⟩
  | true =>
    go_wp2_with fail
    refine (fewDone_any La _ _ (HA.out.later HB.out)).mono ?_
    rintro e w3 ⟨q, rfl, hb⟩
    clear r0 r1 r2
    replace HRb := Lib.hid (heap_up hb HRb.out)
    replace HB := Lib.hid (below_trans HB.out hb)
    clear hb
    obtain ⟨r0, r1, r2⟩ := box3 HRb.out
    cases q with
    | false =>
      go_wp2_with fail
      go_ret
      exact ⟨rfl, HB.out⟩
    | true =>
      go_wp2_with fail
      refine (fewDone_any Lb _ _ (HBb.out.later HB.out)).mono ?_
      rintro e w4 ⟨q, rfl, hb⟩
      clear r0 r1 r2
      replace HRb := Lib.hid (heap_up hb HRb.out)
      replace HB := Lib.hid (below_trans HB.out hb)
      clear hb
      obtain ⟨r0, r1, r2⟩ := box3 HRb.out
      cases q with
      | false =>
        go_wp2_with fail
        go_ret
        exact ⟨rfl, HB.out⟩
      | true =>
        go_wp2_with fail
        refine (fits_any r L La _ _ _ _ (HR.out.later HB.out) (HA.out.later HB.out)).mono ?_
        rintro e w5 ⟨rfl, hb⟩
        clear r0 r1 r2
        replace HRb := Lib.hid (heap_up hb HRb.out)
        replace HB := Lib.hid (below_trans HB.out hb)
        clear hb
        obtain ⟨r0, r1, r2⟩ := box3 HRb.out
        cases hX : readL r (La.map (·.2)) with
        | none =>
          rw [show (none : Option RSt).isSome = false from rfl]
          go_wp2_with fail
          go_ret
          exact ⟨rfl, HB.out⟩
        | some X =>
          rw [show (some X).isSome = true from rfl]
          have HX := Lib.hid hX
          clear hX
          go_wp2_with fail
          refine (fits_any r L Lb _ _ _ _ (HR.out.later HB.out) (HBb.out.later HB.out)).mono ?_
          rintro e w6 ⟨rfl, hb⟩
          clear r0 r1 r2
          replace HRb := Lib.hid (heap_up hb HRb.out)
          replace HB := Lib.hid (below_trans HB.out hb)
          clear hb
          obtain ⟨r0, r1, r2⟩ := box3 HRb.out
          cases hY : readL r (Lb.map (·.2)) with
          | none =>
            rw [show (none : Option RSt).isSome = false from rfl]
            go_wp2_with fail
            go_ret
            exact ⟨rfl, HB.out⟩
          | some Y =>
            rw [show (some Y).isSome = true from rfl]
            have HY := Lib.hid hY
            clear hY
            obtain ⟨px, hpx⟩ := readL_ok HX.out
            obtain ⟨py, hpy⟩ := readL_ok HY.out
            have HPx := Lib.hid hpx; have HPy := Lib.hid hpy
            have h60 : r.steps.length ≤ 60 := by have := hpx.right.few; omega
            clear hpx hpy
            have HC := Lib.hid (chain_any r L La Lb _ _ _ _ _ (HR.out.later HB.out) (HA.out.later HB.out) (HBb.out.later HB.out))
            rw [HX.out, HY.out, show chainOf r (some X) (some Y) = chainL r X Y from rfl] at HC
            generalize hcl : chainL r X Y = c at HC
            have HCl := Lib.hid hcl
            clear hcl
            go_wp2_with fail
            refine HC.out.mono ?_
            rintro e w7 ⟨vc, rfl, hI, hb⟩
            obtain ⟨ac, cc, rfl⟩ : ∃ a cc, vc = .slice a c.length cc := by obtain ⟨a, cc, e, -⟩ := hI; exact ⟨a, cc, by simpa [natInts] using e⟩
            have HI : Hid (∀ W, Below w7.heap.size w7 W → Ints W (.slice ac c.length cc) (natInts c)) := Lib.hid (fun W hW => hI.later hW)
            clear hI HC r0 r1 r2
            replace HRb := Lib.hid (heap_up hb HRb.out)
            replace HB := Lib.hid (below_trans HB.out hb)
            clear hb
            obtain ⟨r0, r1, r2⟩ := box3 HRb.out
            have HT := Lib.hid (textT_any r L La _ _ _ r.output _ (HR.out.later HB.out) (HA.out.later HB.out) HR.out.out)
            rw [HX.out, show textOf r (some X) r.output = textL r X r.output from rfl] at HT
            obtain ⟨s, bs, hs, hgs⟩ := txV_form (textL r X r.output)
            rw [hs] at HT
            have HSs := Lib.hid hgs
            clear hs hgs
            go_wp2_with fail
            refine HT.out.mono ?_
            rintro e w8 ⟨rfl, hb⟩
            clear HT r0 r1 r2
            have HBi8 := Lib.hid hb
            replace HRb := Lib.hid (heap_up hb HRb.out)
            replace HB := Lib.hid (below_trans HB.out hb)
            clear hb
            obtain ⟨r0, r1, r2⟩ := box3 HRb.out
            have HT := Lib.hid (textT_any r L Lb _ _ _ r.output _ (HR.out.later HB.out) (HBb.out.later HB.out) HR.out.out)
            rw [HY.out, show textOf r (some Y) r.output = textL r Y r.output from rfl] at HT
            obtain ⟨t, bt, ht, hgt⟩ := txV_form (textL r Y r.output)
            rw [ht] at HT
            have HSt := Lib.hid hgt
            clear ht hgt
            go_wp2_with fail
            refine HT.out.mono ?_
            rintro e w9 ⟨rfl, hb⟩
            clear HT r0 r1 r2
            have HBi9 := Lib.hid hb
            replace HRb := Lib.hid (heap_up hb HRb.out)
            replace HB := Lib.hid (below_trans HB.out hb)
            clear hb
            obtain ⟨r0, r1, r2⟩ := box3 HRb.out
            go_wp2_with fail
            refine (writer35_any r L _ _ r.output _ (HR.out.later HB.out)).mono ?_
            rintro e w10 ⟨rfl, hb⟩
            clear r0 r1 r2
            have HBi10 := Lib.hid hb
            replace HRb := Lib.hid (heap_up hb HRb.out)
            replace HB := Lib.hid (below_trans HB.out hb)
            clear hb
            obtain ⟨r0, r1, r2⟩ := box3 HRb.out
            have HIc := Lib.hid (HI.out _ (below_trans (below_trans HBi8.out HBi9.out) HBi10.out))
            clear HI HBi8 HBi9 HBi10
            cases hwr : writerOf r.steps r.output with
            | none =>
              rw [show wIdx none = (-1 : Int) from rfl]
              obtain rfl : c = [] := by rw [← HCl.out]; exact chainL_same (fun e he => (by rw [hwr] at he; cases he))
              clear hwr
              by_cases hst : s = t
              · subst hst
                go_wp2_with fail
                all_goals
                  go_ret
                  exact ⟨rfl, HB.out⟩
              · go_wp2_with fail
                all_goals
                  go_ret
                  exact ⟨rfl, HB.out⟩
            | some e0 =>
              have hs1 : s = (X.of e0).out := by rw [← HSs.out]; unfold textL; rw [hwr]; rfl
              have ht1 : t = (Y.of e0).out := by rw [← HSt.out]; unfold textL; rw [hwr]; rfl
              have he0 : e0 < r.steps.length := (List.findIdx?_eq_some_iff_getElem.1 hwr).1
              rw [show wIdx (some e0) = (e0 : Int) from rfl]
              by_cases hst : s = t
              · obtain rfl : c = [] := by rw [← HCl.out]; exact chainL_same (fun e he => by rw [hwr] at he; cases he; rw [← hs1, ← ht1, hst])
                clear hwr hs1 ht1
                subst hst
                go_wp2_with fail
                go_ret
                exact ⟨rfl, HB.out⟩
              · obtain ⟨c', hc1, hcp, hcn, hcl, hck, hfound⟩ := chain_whole HPx.out HPy.out hwr (by rw [← hs1, ← ht1]; exact hst)
                obtain rfl : c = c' := by rw [← hc1, HCl.out]
                have HLk := Lib.hid hck; have HLast := Lib.hid hcl; have HFound := Lib.hid hfound
                have hst2 : (s.toList == t.toList) = false := by rw [beq_toList]; exact decide_eq_false hst
                have hneg : ¬ (e0 : Int) < 0 := by omega
                have hneg2 : decide ((e0 : Int) < 0) = false := decide_eq_false hneg
                have hla : La.length = L.length := by have h1 := HPx.out.len; rw [List.length_map] at h1; rw [h1, HLen.out]
                have hlb : Lb.length = L.length := by have h1 := HPy.out.len; rw [List.length_map] at h1; rw [h1, HLen.out]
                have hcn2 : c.length ≤ L.length := by rw [← HLen.out]; exact hcn
                have HLa := Lib.hid hla; have HLb := Lib.hid hlb
                have hg1 : ((c.length : Int) == 0) = false := beq_eq_false_iff_ne.2 (by omega)
                have hg1' : ¬ c.length = 0 := by omega
                have hg2 : decide ((L.length : Int) < (c.length : Int)) = false := decide_eq_false (by omega)
                have hg2' : decide (L.length < c.length) = false := decide_eq_false (by omega)
                have hg2'' : ¬ L.length < c.length := by omega
                have hg3 : ((La.length : Int) != (L.length : Int)) = false := by rw [hla]; simp
                have hg3' : ((La.length : Int) == (L.length : Int)) = true := by rw [hla]; simp
                have hg4 : ((Lb.length : Int) != (L.length : Int)) = false := by rw [hlb]; simp
                have hg4' : ((Lb.length : Int) == (L.length : Int)) = true := by rw [hlb]; simp
                clear hla hlb hwr hs1 ht1 hc1 hck hfound hcl
                go_wp2_with fail
                clear hst2 hneg hneg2 hg1 hg1' hg2 hg2' hg2'' hg3 hg3' hg4 hg4'
                rename_i Kx hKx
                exact finds_loop r L La Lb _ _ _ _ _ _ _ _ _ _ X Y px py c e0 w w10 Kx HR HA HBb HLen HX HY HPx HPy h60 hcp hcn2 HLast HFound HIc HRb HB HLk (Lib.hid hKx) _ _ _ _ _ _ _ _ _ _ _ _ _ _ _ _ _ _ _ _ _ _ _ _ _ _ _ _ _ _ _ _ _ _ _ _ _ _ _ _ _ _ _ _ _ _ _ _ _ _ _ _ _ _ _ _ _ _ _ _ _ _ _ _ _ _ _ _ _ _ _ _ _ _ _ _ _ _ _ _ _ _ _ _ _ _ _ _ _ _ _ _ _ _ _ _ _ _ _ _ _ _ _ _ _ _ _ _ _ _ _ _ _ _ _ _ _ _ _ _ _ _ _ _ _ _ _ _ _ _ _ _ _ _ _ _ _ _ _ _ _ _ _ _ _ _ _ _ _ _ _ _ _ _ _ _ _ _ _ _ _ _ _ _ _ _ _ _ _ _ _ _ _ _ _ _ _ _ _ _ _ _ _ _ _ _ _ _ _ _ _ _ _ _ _ _ _ _ _ _ _ _ _ _ _ _ _ _ _ _ _ _ _ _ _ _ _ _ _ _ _ _ _ _ _ _ _ _ _ _ _ _ _ _ _ _ _ _ _ _ _ _ _ _ _ _ _ _ _ _ _ _ _ _ _ _ _ _ _ _ _ _ _ _ _ _ _ _ _ _ _ _ _ _ _ _ _ _ _ _ _ _ _ _ _ _ _ _ _ _ _ _ _ _ _ _ _ _ _ _ _ _ _ _ _ _ _ _ _ _ _ _ _ _ _ _ _ _ _ _ _ _ _ _ _ _ _ _ _ _ _ _ _ _ _ _ _ _ _ _ _ _ _ _ _ _ _ _
end Go.Proofs.YtacgopankhpnbaaGreatDoor
