/- Texts of this seat, joined. -/
import Derived.WalkLawsBesides
import Derived.Test.YtacgopankhpnbaaGreatDoorTQR
set_option maxHeartbeats 1000000
set_option linter.unusedVariables false
set_option linter.unusedSimpArgs false
namespace Go.Proofs.YtacgopankhpnbaaGreatDoor
open Go.RowKit
theorem fils_made{w:World}{g:Nat}{cs:Array Value}{t:TypeId}{fr:Nat×Nat}(l:List Fil)(h:w.heap[g]? =some (.cells cs t fr))(wC:cs.toList=cG l)(hl:l.length<=140737488355328)
  (hz:∀f,f∈l->f.name.size<=140737488355328/\f.text.size<=140737488355328):jZ w (.slice (some ⟨g,0,none⟩) l.length l.length) l:=by
 refine⟨_,l.length,rfl,Nat.le_refl _,aAM,fun _=>⟨g,0,rfl,fun i f hf=>⟨[.string f.name,.string f.text],⟨rfl,hz f (List.mem_of_getElem? hf)⟩,rfl,fun j u hu=>?_⟩⟩⟩;obtain⟨c1,c2⟩:=filCells_at l i f hf;rw[<-wC] at c1 c2
 match j,hu with
 |0,hu=>cases hu;simp only[World.cell?,h];simpa using c1
 |1,hu=>cases hu;simp only[World.cell?,h];simpa using c2
theorem strs_made{w:World}{g:Nat}{cs:Array Value}{t:TypeId}{fr:Nat×Nat}(l:List bA)(h:w.heap[g]? =some (.cells cs t fr))(wC:cs.toList=l.map Value.string)(hl:l.length<=140737488355328)
  (hz:∀x,x∈l->x.size<=140737488355328):Strs w (.slice (some ⟨g,0,none⟩) l.length l.length) l:=by
 refine⟨_,l.length,rfl,Nat.le_refl _,aAM,fun _=>⟨g,0,rfl,fun i x hx=>⟨[.string x],⟨rfl,hz x (List.mem_of_getElem? hx)⟩,rfl,fun j u hu=>?_⟩⟩⟩
 match j,hu with
 |0,hu=>
  cases hu;have h1:cs.toList[i]? =some (.string x):=by rw[wC];simp[hx]
  simp only[World.cell?,h];simpa using h1
theorem ints_made{w:World}{g:Nat}{cs:Array Value}{t:TypeId}{fr:Nat×Nat}(l:List Int)(h:w.heap[g]? =some (.cells cs t fr))(wC:cs.toList=l.map (Value.int .i64))(hl:l.length<=140737488355328):hJ w (.slice (some ⟨g,0,none⟩) l.length l.length) l:=by
 refine⟨_,l.length,rfl,Nat.le_refl _,aAM,fun _=>⟨g,0,rfl,fun i x hx=>⟨[.int .i64 x],rfl,rfl,fun j u hu=>?_⟩⟩⟩
 match j,hu with
 |0,hu=>
  cases hu;have h1:cs.toList[i]? =some (.int .i64 x):=by rw[wC];simp[hx]
  simp only[World.cell?,h];simpa using h1
theorem ZO{p:Prop}(h:p:=by
 go_enter Tryz.func18,Tryz.ntmps18;go_wp2_with fail;refine(HR.out _ (aA _ _)).mono ?_;rintro e w1 ⟨rfl,hb⟩;obtain⟨RE,LO⟩:=bcell hb;go_wp2_with fail;go_ret
 exact⟨aF (by rw[HP.out];rfl),aB (aA _ _) hb⟩):p:=h
theorem oE(s:Stp)(vf:Value)(w:World)(hv:Strs w vf s.src)(QL:s.out.size<=140737488355328):
  Calls Tryz.prog 18 #[nY s.kind vf s.out s.sorted] w fun e w'=>e=.returned (.bool (bZ s))/\Below w.heap.size w w':=by
 have HR:Hid (∀W,Below w.heap.size w W->Calls Tryz.prog 24 #[nY s.kind vf s.out s.sorted] W fun e w'=>e=.returned (.bool (aM s))/\Below W.heap.size W w'):=
  zh fun W hb=>jT s vf W (hv.later hb) QL
 have hP:bZ s=(aM s&&decide (s.kind≠4)&&(decide (s.kind≠2)||s.sorted)):=rfl;have HP:=zh hP;clear hP;generalize bZ s=P at HP ⊢;generalize aM s=r at HP HR;obtain⟨kind,src,out,sorted⟩:=s;obtain⟨a,c,KA,-⟩:=hv;simp only at KA HR HP ⊢;subst KA
 cases r with
 |false=>
  go_enter Tryz.func18,Tryz.ntmps18;go_wp2_with fail;refine(HR.out _ (aA _ _)).mono ?_;rintro e w1 ⟨rfl,hb⟩;go_wp2_with fail;go_ret;exact⟨aF (by rw[HP.out];rfl),aB (aA _ _) hb⟩
 |true=>
  have b4:(kind==4)=decide (kind=4):=by rw[Bool.eq_iff_iff];simp
  by_cases k4:kind=4
  ·subst k4;clear b4;exact ZO
  have n4:(kind != 4)=true:=by rw[bne_iff_ne];exact k4
  have HK4:=zh k4;clear b4 k4;by_cases k2:kind=2
  ·subst k2;clear n4;exact ZO
  have n2:(kind != 2)=true:=by rw[bne_iff_ne];exact k2
  have HK2:=zh k2;clear k2;go_enter Tryz.func18,Tryz.ntmps18;go_wp2_with fail;refine(HR.out _ (aA _ _)).mono ?_;rintro e w1 ⟨rfl,hb⟩;obtain⟨RE,LO⟩:=bcell hb;go_wp2_with fail;go_ret;exact⟨aF (by rw[HP.out,decide_eq_true HK4.out,decide_eq_true HK2.out];rfl),aB (aA _ _) hb⟩
end Go.Proofs.YtacgopankhpnbaaGreatDoor
