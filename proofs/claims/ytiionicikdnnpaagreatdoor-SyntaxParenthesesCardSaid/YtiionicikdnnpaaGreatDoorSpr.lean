/- Texts of this seat, joined. -/
import Derived.Test.YtiionicikdnnpaaGreatDoorNG
import Derived.Test.YtiionicikdnnpaaGreatDoorNS
import Derived.Lib.ConvBytes
set_option maxHeartbeats 8000000
set_option maxRecDepth 100000
set_option linter.unusedVariables false
set_option linter.unusedSimpArgs false
namespace Go.Proofs.YtiionicikdnnpaaGreatDoor
open Go.RowKit
def lf(c:UInt8):UInt8:=if c=32 then 10 else c
def SprAt(w:World)(b:Nat)(s:bA)(q:Nat):Prop:=∀j,j<s.size->w.cell? ⟨b,j,none⟩=some (.int .u8 ((if j<q then lf (s.data.toList.getD j 0) else s.data.toList.getD j 0).toNat:Int))/\w.frozen? ⟨b,j,none⟩=false
theorem SprAt.start(w:World)(s:bA):SprAt (Lib.bytesWorld w 5 s) w.heap.size s 0:=by
 intro j hj;rw[if_neg RY];refine⟨Lib.bytesWorld_cell w 5 s j hj,?_⟩
 have hz:s.size<=(Lib.bytesCells w 5 s).size:=by
  unfold Lib.bytesCells;have:s.size=s.data.size:=rfl;simp
 simp[World.frozen?,Lib.bytesWorld_at_new];try omega
theorem SprAt.keep{w:World}{b:Nat}{s:bA}{q:Nat}(h:SprAt w b s q)(hc:s.data.toList.getD q 0≠32):SprAt w b s (q+1):=by
 intro j hj;obtain⟨h1,h2⟩:=h j hj;refine⟨?_,h2⟩;rw[h1];by_cases h3:j<q
 ·rw[if_pos h3,if_pos RY]
 rw[if_neg h3];by_cases h4:j=q
 ·subst h4;rw[if_pos RY];unfold lf;rw[if_neg hc]
 rw[if_neg RY]
theorem SprAt.put{w:World}{b:Nat}{s:bA}{q:Nat}(h:SprAt w b s q)(hq:q<s.size)(hc:s.data.toList.getD q 0=32):SprAt (w.setCell ⟨b,q,none⟩ (.int .u8 10)) b s (q+1):=by
 intro j hj;obtain⟨h1,h2⟩:=h j hj;refine⟨?_,by rw[World.frozen?_setCell];exact h2⟩;by_cases h4:j=q
 ·subst h4;rw[World.cell?_setCell_same _ _ _ h1,if_pos RY,hc];rfl
 rw[World.cell?_setCell_other _ _ _ _ (by intro e;injection e with e1 e2;omega),h1];by_cases h3:j<q
 ·rw[if_pos h3,if_pos RY]
 rw[if_neg h3,if_neg RY]
theorem spread_back{w:World}{b c:Nat}{s:bA}(h:SprAt w b s s.size):(convert 98 9 (.slice (some ⟨b,0,none⟩) s.size c)).run Tryz.prog w=.ok (.string (gT s)) w:=by
 have hl:(s.data.toList.map lf).length=s.size:=R2
 have:=run_convert_bytes_back (P:=Tryz.prog) w 98 9 5 ⟨b,0,none⟩ c (s.data.toList.map lf) Tryz.underlying98 Tryz.underlying5 Tryz.underlying9 (fun j hj=>by
  rw[hl] at hj;have h1:=(h j hj).1;rw[if_pos hj] at h1;rw[show(⟨b,0,none⟩:Addr).add j=⟨b,0+j,none⟩ by unfold Addr.add;split<;>simp_all,Nat.zero_add,h1];have h2:j<s.data.toList.length:=by simpa using hj
  simp[List.getD,List.getElem?_eq_getElem h2])
 rw[hl] at this;rw[this];rfl
theorem lS(s:bA)(w:World)(hs:s.size<=140737488355328):
  Calls Tryz.prog 34 #[.string s] w fun e w'=>e=.returned (.string (gT s))/\Below w.heap.size w w':=by
 have hcv:=Lib.run_convert_string_bytes (P:=Tryz.prog) w 9 98 5 s (u:=.string) Tryz.underlying9 Tryz.underlying98 Tryz.underlying5;have HS:=zh (SprAt.start w s);have HB:=zh (show Below w.heap.size w (Lib.bytesWorld w 5 s) from⟨rfl,rfl,rfl,by rw[Lib.bytesWorld_size];omega,fun k hk=>Lib.bytesWorld_at_old w 5 s k hk⟩);generalize Lib.bytesWorld w 5 s=w1 at *;generalize grownCap w s.size 0 5=cp at *;go_enter Tryz.func34,Tryz.ntmps34;go_wp2_with fail;clear hcv;go_loopw [4] (fun iv wr=>∃q:Nat,q<=s.size/\iv=.int .i64 (q:Int)/\Hid (Below w.heap.size w wr)/\Hid (SprAt wr w.heap.size s q)) (fun iv _=>s.size-(intOf iv).toNat)
 case atStart=>exact⟨0,Nat.zero_le _,rfl,HB,HS⟩
 case round=>
  obtain⟨q,hq,rfl,HW,HT⟩:=hrel;rename World=>wr
  by_cases qA:q<s.size
  ·obtain⟨c1,f1⟩:=HT.out q qA;rw[if_neg (Nat.lt_irrefl q)] at c1;have tS:(0:Int)<=(q:Int)/\(q:Int)<(s.size:Int):=RY;by_cases hc:s.data.toList.getD q 0=32
   ·have wM:=zh (HT.out.put qA hc);rw[hc] at c1;have c2:wr.cell? ⟨w.heap.size,q,none⟩=some (.int .u8 32):=c1;clear c1;go_wp2_with fail;go_roundw;(case rel=>exact⟨q+1,RY,SK,zh (Below.setCell HW.out (Nat.le_refl _) _),wM⟩);case measure=>simp[intOf];omega
   have wM:=zh (HT.out.keep hc)
   have sI:((((s.data.toList.getD q 0).toNat:Int))==32)=false:=by
    rw[beq_eq_false_iff_ne];intro e;apply hc;apply UInt8.toNat_inj.1;have:(s.data.toList.getD q 0).toNat=32:=RY;rw[this];rfl
   generalize s.data.toList.getD q 0=c at *;go_wp2_with fail;go_roundw;(case rel=>exact⟨q+1,RY,SK,HW,wM⟩);case measure=>simp[intOf];omega
  obtain rfl:q=s.size:=RY;have hb:=spread_back (c:=cp) HT.out;go_wp2_with fail;go_ret;exact⟨rfl,HW.out⟩
end Go.Proofs.YtiionicikdnnpaaGreatDoor
