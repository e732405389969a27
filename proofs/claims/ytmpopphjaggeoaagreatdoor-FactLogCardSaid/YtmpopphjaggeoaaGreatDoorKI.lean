/- Texts of this seat, joined. -/
import Derived.Test.YtmpopphjaggeoaaGreatDoorBuilder
import Derived.Test.YtmpopphjaggeoaaGreatDoorGlob
import Derived.Lib.ItoaLen
import Derived.Lib.AppendIntMem
set_option maxHeartbeats 1000000
set_option linter.unusedVariables false
set_option linter.unusedSimpArgs false
set_option linter.constructorNameAsVariable false
namespace Go.Proofs.YtmpopphjaggeoaaGreatDoor
open Go.RowKit
theorem bytes_ext'{s t:bA}(h:s.data.toList=t.data.toList):s=t:=by
 cases s;cases t;congr;exact Array.toList_inj.1 h
theorem splitB_size(sep:bA):∀(k:Nat)(s:bA)(x:bA),x∈Lib.splitB sep 0 k s->x.size<=s.size
 |0,s,x,h=>by simp[Lib.splitB] at h;rw[h];exact Nat.le_refl _
 |k+1,s,x,h=>by
  rw[Lib.splitB] at h;split at h
  ·simp at h;rw[h];exact Nat.le_refl _
  rw[List.mem_cons] at h;rcases h with rfl|h
  ·simp;omega
  have:=splitB_size sep k _ x h;simp at this;omega
theorem bytes_append(a b:List UInt8):(⟨a.toArray⟩++⟨b.toArray⟩:bA)=⟨(a++b).toArray⟩:=by
 apply bytes_ext';simp
theorem wireInt_any(n:Int)(w:World)(hG:bC w)(h0: -9223372036854775808<=n)(h1:n<=9223372036854775807):
  Calls Tryz.prog 88 #[.int .i64 n] w fun e w'=>e=.returned (.string (wireInt n))/\Below w.heap.size w w':=by
 have HI:=zh (Tryz.strconv_Itoa n h0 h1 w hG.pow10);clear hG;go_enter Tryz.func88,Tryz.ntmps88;go_wp2_with fail;refine HI.out.mono ?_;rintro e w1 ⟨rfl,k,os,rfl⟩;have hb:Below w.heap.size w (Sort.grow (w.drewN k) os):=Lib.below_grow _ w (Nat.le_refl _) k os;generalize Sort.grow (w.drewN k) os=w1 at hb;have hil:=Lib.itoa_length_le n h0 h1;have HW:=zh (show(⟨(Lib.itoa n).toArray⟩++⟨#[59]⟩:bA)=wireInt n from bytes_append (Lib.itoa n) [59]);generalize Lib.itoa n=it at hil HW;go_wp2_with fail;go_ret;exact⟨bF HW.out,hb⟩
structure fM (b:Nat) (w w':World):Prop where
 os:w'.os=w.os
 tape:w'.tape=w.tape
 output:w'.output=w.output
 size:w.heap.size<=w'.heap.size
 block:∀k,k<w.heap.size->k≠b->w'.heap[k]? =w.heap[k]?
theorem fM.refl(b:Nat)(w:World):fM b w w:=⟨rfl,rfl,rfl,Nat.le_refl _,fun _ _ _=>rfl⟩
theorem fM.trans{b:Nat}{u v w:World}(h:fM b u v)(k:fM b v w):fM b u w:=
 ⟨k.os.trans h.os,k.tape.trans h.tape,k.output.trans h.output,Nat.le_trans h.size k.size,fun i hi kQ=>(k.block i (Nat.lt_of_lt_of_le hi h.size) kQ).trans (h.block i hi kQ)⟩
theorem fM.of_below{b:Nat}{w w':World}(h:Below w.heap.size w w'):fM b w w':=⟨h.os,h.tape,h.output,h.size,fun k hk _=>h.block k hk⟩
theorem fM.below{b:Nat}{u w w':World}{B:Nat}(h:Below B u w)(k:fM b w w')(hb:B<=b)(hB:B<=w.heap.size):Below B u w':=
 ⟨k.os.trans h.os,k.tape.trans h.tape,k.output.trans h.output,Nat.le_trans h.size k.size,fun i hi=>(k.block i CR CR).trans (h.block i hi)⟩
theorem fM.cell{b:Nat}{w w':World}(h:fM b w w'){k o:Nat}{v:Value}(kQ:k≠b)(hc:w.cell? ⟨k,o,none⟩=some v):w'.cell? ⟨k,o,none⟩=some v:=
 (World.cell?_of_block (w:=w) (h.block k (cV hc) kQ)).trans hc
theorem fM.setCell{b o:Nat}{v:Value}(w:World):fM b w (w.setCell ⟨b,o,none⟩ v):=
 ⟨rfl,rfl,rfl,by simp[World.setCell],fun k _ kQ=>Below.heap_setCell _ _ _ _ kQ⟩
theorem fM.drew{b:Nat}{u w:World}(h:fM b u w):fM b u w.drew:=⟨h.os,h.tape,h.output,h.size,h.block⟩
theorem bC.only{b:Nat}{w w':World}(h:bC w)(ho:fM b w w')(hb:11<=b):bC w':=by
 refine⟨Nat.le_trans h.big ho.size,?_,?_,?_,fun i x hx=>ho.cell CR (h.signs i x hx)⟩
 ·obtain⟨m,hm⟩:=h.maxLen;exact⟨m,ho.cell CR hm⟩
 ·exact var?_below (B:=11) (g:=2) ⟨ho.os,ho.tape,ho.output,ho.size,fun k hk=>ho.block k (by have:=h.big;omega) CR⟩ CQ CR h.pow10
 exact var?_below (B:=11) (g:=3) ⟨ho.os,ho.tape,ho.output,ho.size,fun k hk=>ho.block k (by have:=h.big;omega) CR⟩ CQ CR h.spc
end Go.Proofs.YtmpopphjaggeoaaGreatDoor
