/- Texts of this seat, joined. -/
import Derived.Test.YtiionicikdnnpaaGreatDoorStepH
import Derived.Deep.RegionHeld3
set_option linter.unusedVariables false
set_option linter.unusedSimpArgs false
set_option linter.constructorNameAsVariable false
namespace Go.Proofs.YtiionicikdnnpaaGreatDoor
open Go.RowKit
def StrsOff(b:Nat)(w:World)(v:Value)(l:List bA):Prop:=Strs w v l/\∀a n c,v=.slice (some a) n c->l≠[]->b<a.block
theorem StrsOff.only{b:Nat}{w w':World}{v:Value}{l:List bA}(h:StrsOff b w v l)(ho:kS b w w'):StrsOff b w' v l:=by
 refine⟨?_,h.2⟩;obtain⟨a,c,hv,h1,h2,h3⟩:=h.1;refine⟨a,c,hv,h1,h2,fun pP=>?_⟩;obtain⟨b',o',ha,hc⟩:=h3 pP;refine⟨b',o',ha,fun i x' hx=>?_⟩;obtain⟨cs,e,hl,hj⟩:=hc i x' hx;exact⟨cs,e,hl,fun j u hu=>ho.cell (Nat.ne_of_gt (h.2 ⟨b',o',none⟩ l.length c (by rw[hv,ha]) pP)) (hj j u hu)⟩
def IntsOff(b:Nat)(w:World)(v:Value)(l:List Int):Prop:=Ints w v l/\∀a n c,v=.slice (some a) n c->l≠[]->a.block≠b
theorem IntsOff.only{b:Nat}{w w':World}{v:Value}{l:List Int}(h:IntsOff b w v l)(ho:kS b w w'):IntsOff b w' v l:=by
 refine⟨?_,h.2⟩;obtain⟨a,c,hv,h1,h2,h3⟩:=h.1;refine⟨a,c,hv,h1,h2,fun pP=>?_⟩;obtain⟨b',o',ha,hc⟩:=h3 pP;refine⟨b',o',ha,fun i x' hx=>?_⟩;obtain⟨cs,e,hl,hj⟩:=hc i x' hx;exact⟨cs,e,hl,fun j u hu=>ho.cell (h.2 ⟨b',o',none⟩ l.length c (by rw[hv,ha]) pP) (hj j u hu)⟩
structure lP (w W:World) (kind:Int) (vf:Value) (out:bA) (sorted:Bool) (vc vo vn:Value) (u0 u1:Int):Prop where
 bs:W.heap[w.heap.size]? =some (.cells #[.int .i64 kind,vf,.string out,.bool sorted] 63 (0,0))
 bw:W.heap[w.heap.size+1]? =some (.cells #[vc,vo,vn] 72 (0,0))
 bu:W.heap[w.heap.size+1+1]? =some (.cells #[.int .i64 u0,.int .i64 u1] 65 (0,0))
 br:W.heap[w.heap.size+1+1+1]? =some (.cells #[.int .i64 0,.int .i64 0] 65 (0,0))
 below:Below w.heap.size w W
theorem mM{W:World}{k:Nat}{o:Obj}(h:W.heap[k]? =some o):k<W.heap.size:=(Array.getElem?_eq_some_iff.1 h).1
theorem lP.made(w:World)(kind:Int)(vf:Value)(out:bA)(sorted:Bool)(vc vo vn:Value)(u0 u1:Int):
  lP w ((((w.alloc (.cells #[.int .i64 kind,vf,.string out,.bool sorted] 63)).alloc (.cells #[vc,vo,vn] 72)).alloc (.cells #[.int .i64 u0,.int .i64 u1] 65)).alloc (.cells #[.int .i64 0,.int .i64 0] 65)) kind vf out sorted vc vo vn u0 u1:=by
 refine⟨?_,?_,?_,?_,((((Below.refl _ w).alloc (Nat.le_refl _) _).alloc (by simp) _).alloc (by simp;omega) _).alloc (by simp;omega) _⟩
 ·rw[Below.heap_alloc _ _ _ (by simp;omega),Below.heap_alloc _ _ _ (by simp;omega),Below.heap_alloc _ _ _ (by simp),alloc_self]
 ·rw[Below.heap_alloc _ _ _ (by simp),Below.heap_alloc _ _ _ (by simp)];have h:=alloc_self (w.alloc (.cells #[.int .i64 kind,vf,.string out,.bool sorted] 63)) (.cells #[vc,vo,vn] 72);simpa only[World.size_alloc] using h
 ·rw[Below.heap_alloc _ _ _ (by simp)];have h:=alloc_self ((w.alloc (.cells #[.int .i64 kind,vf,.string out,.bool sorted] 63)).alloc (.cells #[vc,vo,vn] 72)) (.cells #[.int .i64 u0,.int .i64 u1] 65);simpa only[World.size_alloc] using h
 have h:=alloc_self (((w.alloc (.cells #[.int .i64 kind,vf,.string out,.bool sorted] 63)).alloc (.cells #[vc,vo,vn] 72)).alloc (.cells #[.int .i64 u0,.int .i64 u1] 65)) (.cells #[.int .i64 0,.int .i64 0] 65);simpa only[World.size_alloc] using h
section
variable {w W W':World} {kind:Int} {vf:Value} {out:bA} {sorted:Bool} {vc vo vn:Value} {u0 u1:Int}
theorem lP.later(h:lP w W kind vf out sorted vc vo vn u0 u1)(hb:Below W.heap.size W W'):lP w W' kind vf out sorted vc vo vn u0 u1:=
 ⟨(hb.block _ (mM h.bs)).trans h.bs,(hb.block _ (mM h.bw)).trans h.bw,(hb.block _ (mM h.bu)).trans h.bu,(hb.block _ (mM h.br)).trans h.br,aA h.below hb⟩
theorem lP.only{b:Nat}(h:lP w W kind vf out sorted vc vo vn u0 u1)(hb:kS b W W')(tM:w.heap.size+1+1+1<b):lP w W' kind vf out sorted vc vo vn u0 u1:=
 ⟨(hb.block _ (mM h.bs) (by omega)).trans h.bs,(hb.block _ (mM h.bw) (by omega)).trans h.bw,(hb.block _ (mM h.bu) (by omega)).trans h.bu,(hb.block _ (mM h.br) (by omega)).trans h.br,hb.below h.below (by omega) (by have:=mM h.bs;omega)⟩
theorem lP.cells(h:lP w W kind vf out sorted vc vo vn u0 u1):
  W.cell? ⟨w.heap.size,0,none⟩=some (.int .i64 kind)/\W.cell? ⟨w.heap.size,1,none⟩=some vf/\W.cell? ⟨w.heap.size,2,none⟩=some (.string out)/\W.cell? ⟨w.heap.size,3,none⟩=some (.bool sorted)/\
  W.cell? ⟨w.heap.size+1,0,none⟩=some vc/\W.cell? ⟨w.heap.size+1,1,none⟩=some vo/\W.cell? ⟨w.heap.size+1,2,none⟩=some vn/\
  W.cell? ⟨w.heap.size+1+1,0,none⟩=some (.int .i64 u0)/\W.cell? ⟨w.heap.size+1+1,1,none⟩=some (.int .i64 u1)/\
  W.cell? ⟨w.heap.size+1+1+1,0,none⟩=some (.int .i64 0)/\W.cell? ⟨w.heap.size+1+1+1,1,none⟩=some (.int .i64 0)/\
  W.frozen? ⟨w.heap.size+1+1+1,0,none⟩=false/\W.frozen? ⟨w.heap.size+1+1+1,1,none⟩=false:=by
 obtain⟨h1,h2,h3,h4,-⟩:=h;refine⟨?_,?_,?_,?_,?_,?_,?_,?_,?_,?_,?_,?_,?_⟩<;>simp[World.cell?,World.frozen?,h1,h2,h3,h4]
end
end Go.Proofs.YtiionicikdnnpaaGreatDoor
