/- Texts of this seat, joined. -/
import Derived.Test.YtiionicikdnnpaaGreatDoorNR
import Derived.Test.YtiionicikdnnpaaGreatDoorNG
import Derived.WalkLawsBesides
set_option maxHeartbeats 1000000
set_option linter.unusedVariables false
set_option linter.unusedSimpArgs false
namespace Go.Proofs.YtiionicikdnnpaaGreatDoor
open Go.RowKit
theorem fils_made{w:World}{g:Nat}{cs:Array Value}{t:TypeId}{fr:Nat×Nat}(l:List Fil)(h:w.heap[g]? =some (.cells cs t fr))(vB:cs.toList=filCells l)(hl:l.length<=140737488355328)
  (hz:∀f,f∈l->f.name.size<=140737488355328/\f.text.size<=140737488355328):Fils w (.slice (some ⟨g,0,none⟩) l.length l.length) l:=by
 refine⟨_,l.length,rfl,Nat.le_refl _,RY,fun _=>⟨g,0,rfl,fun i f hf=>⟨[.string f.name,.string f.text],⟨rfl,hz f (List.mem_of_getElem? hf)⟩,rfl,fun j u hu=>?_⟩⟩⟩;obtain⟨c1,c2⟩:=filCells_at l i f hf;rw[<-vB] at c1 c2
 match j,hu with
 |0,hu=>cases hu;simp only[World.cell?,h];simpa using c1
 |1,hu=>cases hu;simp only[World.cell?,h];simpa using c2
theorem strs_made{w:World}{g:Nat}{cs:Array Value}{t:TypeId}{fr:Nat×Nat}(l:List bA)(h:w.heap[g]? =some (.cells cs t fr))(vB:cs.toList=l.map Value.string)(hl:l.length<=140737488355328)
  (hz:∀x,x∈l->x.size<=140737488355328):Strs w (.slice (some ⟨g,0,none⟩) l.length l.length) l:=by
 refine⟨_,l.length,rfl,Nat.le_refl _,RY,fun _=>⟨g,0,rfl,fun i x hx=>⟨[.string x],⟨rfl,hz x (List.mem_of_getElem? hx)⟩,rfl,fun j u hu=>?_⟩⟩⟩
 match j,hu with
 |0,hu=>
  cases hu;have h1:cs.toList[i]? =some (.string x):=by rw[vB];simp[hx]
  simp only[World.cell?,h];simpa using h1
theorem ints_made{w:World}{g:Nat}{cs:Array Value}{t:TypeId}{fr:Nat×Nat}(l:List Int)(h:w.heap[g]? =some (.cells cs t fr))(vB:cs.toList=l.map (Value.int .i64))(hl:l.length<=140737488355328):Ints w (.slice (some ⟨g,0,none⟩) l.length l.length) l:=by
 refine⟨_,l.length,rfl,Nat.le_refl _,RY,fun _=>⟨g,0,rfl,fun i x hx=>⟨[.int .i64 x],rfl,rfl,fun j u hu=>?_⟩⟩⟩
 match j,hu with
 |0,hu=>
  cases hu;have h1:cs.toList[i]? =some (.int .i64 x):=by rw[vB];simp[hx]
  simp only[World.cell?,h];simpa using h1
theorem strs_nil(w:World):Strs w (.slice none 0 0) []:=⟨none,0,rfl,R2,R2,fun h=>absurd rfl h⟩
theorem ints_nil(w:World):Ints w (.slice none 0 0) []:=⟨none,0,rfl,R2,R2,fun h=>absurd rfl h⟩
def lastText(l:List Fil):bA:=match l.getLast? with|none=>ByteArray.empty|some f=>f.text
theorem last_any(l:List Fil)(v:Value)(w:World)(hv:Fils w v l):
  Calls Tryz.prog 41 #[v] w fun e w'=>e=.returned (.string (lastText l))/\w=w':=by
 rcases hv.cases with⟨rfl,a,c,rfl⟩|⟨b,o,c,rfl,h0,h1,h2,hb,hc⟩
 ·go_enter Tryz.func41,Tryz.ntmps41;go_wp2_with fail;go_ret;exact⟨rfl,rfl⟩
 obtain⟨n,hn⟩:∃n,l.length=n+1:=⟨l.length-1,RY⟩;obtain⟨f,hf,-⟩:=getElem?_of_lt (l:=l) (k:=n) RY;obtain⟨-,c2,-,-⟩:=hc n f hf
 have HL:=zh (show lastText l=f.text by
  unfold lastText;rw[List.getLast?_eq_getElem?,hn];simp[hf])
 rw[HL.out];rw[hn] at h1 ⊢;clear hc hf hv HL hn h0;go_enter Tryz.func41,Tryz.ntmps41;go_wp2_with fail;go_ret;exact⟨rfl,rfl⟩
theorem files_any(w:World):
  Calls Tryz.prog 102 #[] w fun e w'=>∃v,e=.returned v/\Fils w' v lawFiles/\Below w.heap.size w w':=by
 go_enter Tryz.func102,Tryz.ntmps102;go_wp2_with fail;go_ret;exact⟨_,rfl,fils_made lawFiles (nN _ _) rfl R0 (fun f hf=>by simp[lawFiles] at hf;rcases hf with rfl|rfl<;>decide),aB _ _⟩
theorem QN{p:Prop}(h:p:=by
 go_enter Tryz.func106,Tryz.ntmps106;go_wp2_with fail;refine(HR.out _ (aB _ _)).mono ?_;rintro e w1 ⟨rfl,hb⟩;obtain⟨I0,GA⟩:=bcell hb;go_wp2_with fail;go_ret
 exact⟨aE (by rw[HP.out];rfl),aA (aB _ _) hb⟩):p:=h
theorem stepPure_any(s:Stp)(vf:Value)(w:World)(hv:Strs w vf s.src)(hto:s.out.size<=140737488355328):
  Calls Tryz.prog 106 #[.agg #[.int .i64 s.kind,vf,.string s.out,.bool s.sorted]] w fun e w'=>e=.returned (.bool (stepPure s))/\Below w.heap.size w w':=by
 have HR:Hid (∀W,Below w.heap.size w W->Calls Tryz.prog 105 #[.agg #[.int .i64 s.kind,vf,.string s.out,.bool s.sorted]] W fun e w'=>e=.returned (.bool (lH s))/\Below W.heap.size W w'):=
  zh fun W hb=>stepRight_any s vf W (hv.later hb) hto
 have hP:stepPure s=(lH s&&decide (s.kind≠4)&&(decide (s.kind≠2)||s.sorted)):=rfl;have HP:=zh hP;clear hP;generalize stepPure s=P at HP ⊢;generalize lH s=r at HP HR;obtain⟨kind,src,out,sorted⟩:=s;obtain⟨a,c,hvv,-⟩:=hv;simp only at hvv HR HP ⊢;subst hvv
 cases r with
 |false=>
  go_enter Tryz.func106,Tryz.ntmps106;go_wp2_with fail;refine(HR.out _ (aB _ _)).mono ?_;rintro e w1 ⟨rfl,hb⟩;go_wp2_with fail;go_ret;exact⟨aE (by rw[HP.out];rfl),aA (aB _ _) hb⟩
 |true=>
  have b4:(kind==4)=decide (kind=4):=by rw[Bool.eq_iff_iff];simp
  by_cases k4:kind=4
  ·subst k4;clear b4;exact QN
  have n4:(kind != 4)=true:=by rw[bne_iff_ne];exact k4
  have HK4:=zh k4;clear b4 k4;by_cases k2:kind=2
  ·subst k2;clear n4;exact QN
  have n2:(kind != 2)=true:=by rw[bne_iff_ne];exact k2
  have HK2:=zh k2;clear k2;go_enter Tryz.func106,Tryz.ntmps106;go_wp2_with fail;refine(HR.out _ (aB _ _)).mono ?_;rintro e w1 ⟨rfl,hb⟩;obtain⟨I0,GA⟩:=bcell hb;go_wp2_with fail;go_ret;exact⟨aE (by rw[HP.out,decide_eq_true HK4.out,decide_eq_true HK2.out];rfl),aA (aB _ _) hb⟩
end Go.Proofs.YtiionicikdnnpaaGreatDoor
