/- Texts of this seat, joined. -/
import Derived.Test.YtiionicikdnnpaaGreatDoorPN
import Derived.Test.YtiionicikdnnpaaGreatDoorGlob
import Derived.Lib.ItoaLen
import Derived.Lib.AppendIntMem
set_option linter.unusedVariables false
set_option linter.unusedSimpArgs false
set_option linter.constructorNameAsVariable false
namespace Go.Proofs.YtiionicikdnnpaaGreatDoor
open Go.RowKit
structure kS (b:Nat) (w w':World):Prop where
 os:w'.os=w.os
 tape:w'.tape=w.tape
 output:w'.output=w.output
 size:w.heap.size<=w'.heap.size
 block:∀k,k<w.heap.size->k≠b->w'.heap[k]? =w.heap[k]?
theorem kS.refl(b:Nat)(w:World):kS b w w:=⟨rfl,rfl,rfl,Nat.le_refl _,fun _ _ _=>rfl⟩
theorem kS.trans{b:Nat}{u v w:World}(h:kS b u v)(k:kS b v w):kS b u w:=
 ⟨k.os.trans h.os,k.tape.trans h.tape,k.output.trans h.output,Nat.le_trans h.size k.size,fun i hi pP=>(k.block i (Nat.lt_of_lt_of_le hi h.size) pP).trans (h.block i hi pP)⟩
theorem kS.of_below{b:Nat}{w w':World}(h:Below w.heap.size w w'):kS b w w':=⟨h.os,h.tape,h.output,h.size,fun k hk _=>h.block k hk⟩
theorem kS.below{b:Nat}{u w w':World}{B:Nat}(h:Below B u w)(k:kS b w w')(hb:B<=b)(hB:B<=w.heap.size):Below B u w':=
 ⟨k.os.trans h.os,k.tape.trans h.tape,k.output.trans h.output,Nat.le_trans h.size k.size,fun i hi=>(k.block i (by omega) (by omega)).trans (h.block i hi)⟩
theorem kS.cell{b:Nat}{w w':World}(h:kS b w w'){k o:Nat}{v:Value}(pP:k≠b)(hc:w.cell? ⟨k,o,none⟩=some v):w'.cell? ⟨k,o,none⟩=some v:=
 (World.cell?_of_block (w:=w) (h.block k (gZ hc) pP)).trans hc
theorem kS.setCell{b o:Nat}{v:Value}(w:World):kS b w (w.setCell ⟨b,o,none⟩ v):=
 ⟨rfl,rfl,rfl,by simp[World.setCell],fun k _ pP=>Below.heap_setCell _ _ _ _ pP⟩
theorem kS.drew{b:Nat}{u w:World}(h:kS b u w):kS b u w.drew:=⟨h.os,h.tape,h.output,h.size,h.block⟩
theorem hZ.only{b:Nat}{w w':World}(h:hZ w)(ho:kS b w w')(hb:11<=b):hZ w':=by
 refine⟨Nat.le_trans h.big ho.size,?_,?_,?_,fun i x hx=>ho.cell (by omega) (h.signs i x hx),fun hw i x hx=>ho.cell (by omega) (h.words hw i x hx)⟩
 ·obtain⟨m,hm⟩:=h.maxLen;exact⟨m,ho.cell (by omega) hm⟩
 ·exact var?_below (B:=11) (g:=5) ⟨ho.os,ho.tape,ho.output,ho.size,fun k hk=>ho.block k (by have:=h.big;omega) (by omega)⟩ (by kernel_rfl) (by omega) h.pow10
 exact var?_below (B:=11) (g:=1) ⟨ho.os,ho.tape,ho.output,ho.size,fun k hk=>ho.block k (by have:=h.big;omega) (by omega)⟩ (by kernel_rfl) (by omega) h.spc
def Sbx(w:World)(b:Nat)(saw clk ord nxt:Value)(u0 u1:Int):Prop:=
 w.heap[b]? =some (.cells #[saw,clk,ord,nxt,.int .i64 u0,.int .i64 u1] 140 (0,0))
theorem Sbx.cell{w:World}{b:Nat}{saw clk ord nxt:Value}{u0 u1:Int}(h:Sbx w b saw clk ord nxt u0 u1)(j:Nat):w.cell? ⟨b,j,none⟩=#[saw,clk,ord,nxt,.int .i64 u0,.int .i64 u1][j]? :=by
 simp[World.cell?,show w.heap[b]? =_ from h]
theorem Sbx.lt{w:World}{b:Nat}{saw clk ord nxt:Value}{u0 u1:Int}(h:Sbx w b saw clk ord nxt u0 u1):b<w.heap.size:=gZ (h.cell 0)
theorem Sbx.of_block{w w':World}{b:Nat}{saw clk ord nxt:Value}{u0 u1:Int}(h:Sbx w b saw clk ord nxt u0 u1)(hb:w'.heap[b]? =w.heap[b]?):Sbx w' b saw clk ord nxt u0 u1:=hb.trans h
theorem Sbx.later{w w':World}{b:Nat}{saw clk ord nxt:Value}{u0 u1:Int}(h:Sbx w b saw clk ord nxt u0 u1)(hb:Below w.heap.size w w'):Sbx w' b saw clk ord nxt u0 u1:=h.of_block (hb.block b h.lt)
end Go.Proofs.YtiionicikdnnpaaGreatDoor
