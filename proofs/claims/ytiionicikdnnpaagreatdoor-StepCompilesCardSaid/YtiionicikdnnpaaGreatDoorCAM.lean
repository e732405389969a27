/- Texts of this seat, joined. -/
import Derived.Test.YtiionicikdnnpaaGreatDoorCR
import Derived.Test.YtiionicikdnnpaaGreatDoorCG
import Derived.WalkLawsBesides
set_option maxHeartbeats 4000000
set_option maxRecDepth 100000
set_option linter.unusedVariables false
set_option linter.unusedSimpArgs false
namespace Go.Proofs.YtiionicikdnnpaaGreatDoor
open Go.RowKit
theorem fils_made{w:World}{g:Nat}{cs:Array Value}{t:TypeId}{fr:Nat×Nat}(l:List Fil)(h:w.heap[g]? =some (.cells cs t fr))(yE:cs.toList=dX l)(hl:l.length<=140737488355328)
  (hz:∀f,f∈l->f.name.size<=140737488355328/\f.text.size<=140737488355328):pJ w (.slice (some ⟨g,0,none⟩) l.length l.length) l:=by
 refine⟨_,l.length,rfl,Nat.le_refl _,YM,fun _=>⟨g,0,rfl,fun i f hf=>⟨[.string f.name,.string f.text],⟨rfl,hz f (List.mem_of_getElem? hf)⟩,rfl,fun j u hu=>?_⟩⟩⟩;obtain⟨c1,c2⟩:=filCells_at l i f hf;rw[<-yE] at c1 c2
 match j,hu with
 |0,hu=>cases hu;simp only[World.cell?,h];simpa using c1
 |1,hu=>cases hu;simp only[World.cell?,h];simpa using c2
theorem mS{w:World}{g:Nat}{cs:Array Value}{t:TypeId}{fr:Nat×Nat}(l:List bA)(h:w.heap[g]? =some (.cells cs t fr))(yE:cs.toList=l.map Value.string)(hl:l.length<=140737488355328)
  (hz:∀x,x∈l->x.size<=140737488355328):Strs w (.slice (some ⟨g,0,none⟩) l.length l.length) l:=by
 refine⟨_,l.length,rfl,Nat.le_refl _,YM,fun _=>⟨g,0,rfl,fun i x hx=>⟨[.string x],⟨rfl,hz x (List.mem_of_getElem? hx)⟩,rfl,fun j u hu=>?_⟩⟩⟩
 match j,hu with
 |0,hu=>
  cases hu;have h1:cs.toList[i]? =some (.string x):=by rw[yE];simp[hx]
  simp only[World.cell?,h];simpa using h1
theorem ints_made{w:World}{g:Nat}{cs:Array Value}{t:TypeId}{fr:Nat×Nat}(l:List Int)(h:w.heap[g]? =some (.cells cs t fr))(yE:cs.toList=l.map (Value.int .i64))(hl:l.length<=140737488355328):nA w (.slice (some ⟨g,0,none⟩) l.length l.length) l:=by
 refine⟨_,l.length,rfl,Nat.le_refl _,YM,fun _=>⟨g,0,rfl,fun i x hx=>⟨[.int .i64 x],rfl,rfl,fun j u hu=>?_⟩⟩⟩
 match j,hu with
 |0,hu=>
  cases hu;have h1:cs.toList[i]? =some (.int .i64 x):=by rw[yE];simp[hx]
  simp only[World.cell?,h];simpa using h1
theorem strs_nil(w:World):Strs w (.slice none 0 0) []:=⟨none,0,rfl,YR,YR,fun h=>absurd rfl h⟩
theorem mI(w:World):nA w (.slice none 0 0) []:=⟨none,0,rfl,YR,YR,fun h=>absurd rfl h⟩
def lastText(l:List Fil):bA:=match l.getLast? with|none=>ByteArray.empty|some f=>f.text
theorem last_any(l:List Fil)(v:Value)(w:World)(hv:pJ w v l):
  Calls Tryz.prog 41 #[v] w fun e w'=>e=.returned (.string (lastText l))/\w=w':=by
 rcases hv.cases with⟨rfl,a,c,rfl⟩|⟨b,o,c,rfl,h0,h1,h2,hb,hc⟩
 ·go_enter Tryz.func41,Tryz.ntmps41;exact YG
 obtain⟨n,hn⟩:∃n,l.length=n+1:=⟨l.length-1,YM⟩;obtain⟨f,hf,-⟩:=getElem?_of_lt (l:=l) (k:=n) YM;obtain⟨-,c2,-,-⟩:=hc n f hf
 have HL:=zh (show lastText l=f.text by
  unfold lastText;rw[List.getLast?_eq_getElem?,hn];simp[hf])
 rw[HL.out];rw[hn] at h1 ⊢;clear hc hf hv HL hn h0;go_enter Tryz.func41,Tryz.ntmps41;exact YG
theorem lV(w:World):
  Calls Tryz.prog 102 #[] w fun e w'=>∃v,e=.returned v/\pJ w' v fW/\Below w.heap.size w w':=by
 go_enter Tryz.func102,Tryz.ntmps102;go_wp2_with fail;go_ret;exact⟨_,rfl,fils_made fW (dR _ _) rfl YO (fun f hf=>by simp[fW] at hf;rcases hf with rfl|rfl<;>decide),aA _ _⟩
theorem W5{p:Prop}(h:p:=by
 go_enter Tryz.func106,Tryz.ntmps106;go_wp2_with fail;refine(HR.out _ (aA _ _)).mono ?_;rintro e w1 ⟨rfl,hb⟩;obtain⟨J3,LJ⟩:=bcell hb;go_wp2_with fail;go_ret
 exact⟨aF (by rw[HP.out];rfl),aC (aA _ _) hb⟩):p:=h
theorem stepPure_any(s:Stp)(vf:Value)(w:World)(hv:Strs w vf s.src)(hto:s.out.size<=140737488355328):
  Calls Tryz.prog 106 #[pA s.kind vf s.out s.sorted] w fun e w'=>e=.returned (.bool (stepPure s))/\Below w.heap.size w w':=by
 have HR:Hid (∀W,Below w.heap.size w W->Calls Tryz.prog 105 #[pA s.kind vf s.out s.sorted] W fun e w'=>e=.returned (.bool (cW s))/\Below W.heap.size W w'):=
  zh fun W hb=>iU s vf W (hv.later hb) hto
 have hP:stepPure s=(cW s&&decide (s.kind≠4)&&(decide (s.kind≠2)||s.sorted)):=rfl;have HP:=zh hP;clear hP;generalize stepPure s=P at HP ⊢;generalize cW s=r at HP HR;obtain⟨kind,src,out,sorted⟩:=s;obtain⟨a,c,QT,-⟩:=hv;simp only at QT HR HP ⊢;subst QT
 cases r with
 |false=>
  go_enter Tryz.func106,Tryz.ntmps106;go_wp2_with fail;refine(HR.out _ (aA _ _)).mono ?_;rintro e w1 ⟨rfl,hb⟩;go_wp2_with fail;go_ret;exact⟨aF (by rw[HP.out];rfl),aC (aA _ _) hb⟩
 |true=>
  have b4:(kind==4)=decide (kind=4):=by rw[Bool.eq_iff_iff];simp
  by_cases k4:kind=4
  ·subst k4;clear b4;exact W5
  have n4:(kind != 4)=true:=by rw[bne_iff_ne];exact k4
  have HK4:=zh k4;clear b4 k4;by_cases k2:kind=2
  ·subst k2;clear n4;exact W5
  have n2:(kind != 2)=true:=by rw[bne_iff_ne];exact k2
  have HK2:=zh k2;clear k2;go_enter Tryz.func106,Tryz.ntmps106;go_wp2_with fail;refine(HR.out _ (aA _ _)).mono ?_;rintro e w1 ⟨rfl,hb⟩;obtain⟨J3,LJ⟩:=bcell hb;go_wp2_with fail;go_ret;exact⟨aF (by rw[HP.out,decide_eq_true HK4.out,decide_eq_true HK2.out];rfl),aC (aA _ _) hb⟩
theorem kM(l:List bA)(h:l.all (fun x=>decide (x.size<=100))=true):∀x,x∈l->x.size<=140737488355328:=by
 intro x hx;have:=List.all_eq_true.1 h x hx;simp at this;omega
theorem do_lit(s:Stp)(clock order:List Int)(vf vl vc vo:Value)(u0 u1:Int)(w:World)(hG:eJ w)(hsrc:Strs w vf s.src)(hout:s.out.size<=100)(hfil:pJ w vl fW)(hclk:nA w vc clock)(hord:nA w vo order)
  (hu:0<=u0/\u0<=100/\0<=u1/\u1<=100) (hc:clock.all (fun x=>(Lit.int .i64 x).wf)=true) (ho:order.all (fun x=>(Lit.int .i64 x).wf)=true) (h5:s.kind≠5) {r:DoRes} (hr:fT C0 s fW clock order u0 u1=r):
  Calls Tryz.prog 40 (mW s vf vl vc vo (.slice none 0 0) u0 u1) w (DoPost w s fW u0 u1 r):=by
 rw[<-hr];exact do_any C0 s fW clock order vf vl vc vo _ u0 u1 w ⟨hG,hsrc,YM,hfil,hclk,hord,⟨_,_,_,rfl⟩,YM,YM,List.all_eq_true.1 hc,List.all_eq_true.1 ho⟩ h5
theorem nN(d:World)(u o:Obj):((d.alloc u).alloc o).heap[d.heap.size+1]? =some o:=by
 have:=dR (d.alloc u) o;simpa only[World.size_alloc] using this
theorem used0(d:World)(x y:Value):(d.alloc (.cells #[x,y] 65)).cell? ⟨d.heap.size,0,none⟩=some x:=by simp only[World.cell?,dR];simp
theorem used1(d:World)(x y:Value):(d.alloc (.cells #[x,y] 65)).cell? ⟨d.heap.size,1,none⟩=some y:=by simp only[World.cell?,dR];simp
theorem last_do{s:Stp}{files:List Fil}{text:bA}{v:Value}{w:World}(h:pJ w v (oJ s files text)):
  Calls Tryz.prog 41 #[v] w fun e w'=>e=.returned (.string text)/\w=w':=by
 have:=last_any _ v w h
 rwa [show lastText (oJ s files text)=text by simp[lastText,oJ]] at this
theorem arr20(w:World):(binOp .eql 65 (.agg #[.int .i64 2,.int .i64 0]) (.agg #[.int .i64 2,.int .i64 0])).run Tryz.prog w=.ok (.bool true) w:=YN
theorem arr02(w:World):(binOp .eql 65 (.agg #[.int .i64 0,.int .i64 2]) (.agg #[.int .i64 0,.int .i64 2])).run Tryz.prog w=.ok (.bool true) w:=YN
theorem arr00(w:World):(binOp .eql 65 (.agg #[.int .i64 0,.int .i64 0]) (.agg #[.int .i64 0,.int .i64 0])).run Tryz.prog w=.ok (.bool true) w:=YN
theorem gR{w:World}{v:Value}{l:List Fil}(h:pJ w v l):∃a c,v=.slice a l.length c:=by
 obtain⟨a,c,hv,-⟩:=h;exact⟨a,c,hv⟩
theorem small_any(w:World)(hG:eJ w):
  Calls Tryz.prog 39 #[] w fun e w'=>e=.returned (.bool true)/\Below w.heap.size w w':=by
 have HG:=zh hG;clear hG;have q1:=arr20;have q2:=arr02;have q3:=arr00;go_enter Tryz.func39,Tryz.ntmps39;go_wp2_with fail;refine(lV _).mono ?_;rintro e f1 ⟨v1,rfl,wP,rR⟩;have vL:Hid (Strs f1 (.slice (some ⟨w.heap.size,0,none⟩) 1 1) [⟨#[97]⟩]):=zh ((mS [⟨#[97]⟩] (dR w _) rfl YO (kM _ YO)).later rR);have FK:Hid (Below w.heap.size w f1):=zh (aC (aA w _) rR);obtain⟨a1,c1,e1⟩:=gR wP;subst e1;have HV1:=zh wP;clear wP rR;go_wp2_with fail;refine(do_lit ⟨3,[⟨#[97]⟩],⟨#[99]⟩,false⟩ [] [] _ _ _ _ 0 0 _ (by exact(HG.out.later FK.out)) (by exact vL.out) YO (by exact HV1.out) aAy aAy YO rfl rfl YO ex1).mono ?_;rintro e d1 ⟨OY,vA1,vS1,rfl,PE,hT1⟩;obtain⟨p1,q1,r1⟩:=gR PE;obtain⟨x1,y1,z1⟩:=oT hT1;subst r1 z1;have CC:=zh PE;clear PE hT1;have DU:Hid (Below w.heap.size w d1):=zh (aC (FK.out) OY);clear OY;go_wp2_with fail;refine(lV _).mono ?_;rintro e f2 ⟨v2,rfl,wW,rQ⟩;have yG:Hid (Strs f2 (.slice (some ⟨d1.heap.size+1,0,none⟩) 1 1) [⟨#[98]⟩]):=zh ((mS [⟨#[98]⟩] (nN d1 _ _) rfl YO (kM _ YO)).later rQ);have HF2:Hid (Below w.heap.size w f2):=zh (aC (aC (aC DU.out (aA _ _)) (aA _ _)) rQ);have HFd2:Hid (Below d1.heap.size d1 f2):=zh (aC (aC (aA _ _) (aA _ _)) rQ);have HU1:Hid (f2.cell? ⟨d1.heap.size,0,none⟩=some (.int .i64 0)/\f2.cell? ⟨d1.heap.size,1,none⟩=some (.int .i64 0)):=zh ⟨aD (aC (aA _ _) rQ) (used0 d1 _ _),aD (aC (aA _ _) rQ) (used1 d1 _ _)⟩;obtain⟨a2,c2,e2⟩:=gR wW;subst e2;have HV2:=zh wW;clear wW rQ;go_wp2_with fail;refine(do_lit ⟨4,[⟨#[98]⟩],⟨#[99]⟩,false⟩ [70,80] [] _ _ _ _ 1 0 _ (by exact(HG.out.later (aC HF2.out (aA _ _)))) (by exact(yG.out.later (aA _ _))) YO (by exact(HV2.out.later (aA _ _))) (by exact(ints_made [70,80] (dR _ _) rfl YO)) aAy YO rfl rfl YO ex2).mono ?_;rintro e d2 ⟨TG,vA2,vS2,rfl,RN,hT2⟩;obtain⟨p2,q2,r2⟩:=gR RN;obtain⟨x2,y2,z2⟩:=oT hT2;subst r2 z2;have CQ:=zh RN;clear RN hT2;have DF:Hid (Below w.heap.size w d2):=zh (aC (aC HF2.out (aA _ _)) TG);have HDd2:Hid (Below d1.heap.size d1 d2):=zh (aC (aC HFd2.out (aA _ _)) TG);have HUd1:=zh (show d2.cell? ⟨d1.heap.size,0,none⟩=some (.int .i64 0)/\d2.cell? ⟨d1.heap.size,1,none⟩=some (.int .i64 0) from⟨aD (aC (aA _ _) TG) HU1.out.1,aD (aC (aA _ _) TG) HU1.out.2⟩);clear TG;go_wp2_with fail;refine(lV _).mono ?_;rintro e f3 ⟨v3,rfl,SL,tI⟩;have NT:Hid (Strs f3 (.slice (some ⟨d2.heap.size+1,0,none⟩) 2 2) [⟨#[98]⟩,⟨#[97]⟩]):=zh ((mS [⟨#[98]⟩,⟨#[97]⟩] (nN d2 _ _) rfl YO (kM _ YO)).later tI);have HF3:Hid (Below w.heap.size w f3):=zh (aC (aC (aC DF.out (aA _ _)) (aA _ _)) tI);have HFd3:Hid (Below d2.heap.size d2 f3):=zh (aC (aC (aA _ _) (aA _ _)) tI);have HU2:Hid (f3.cell? ⟨d2.heap.size,0,none⟩=some (.int .i64 2)/\f3.cell? ⟨d2.heap.size,1,none⟩=some (.int .i64 0)):=zh ⟨aD (aC (aA _ _) tI) (used0 d2 _ _),aD (aC (aA _ _) tI) (used1 d2 _ _)⟩;obtain⟨a3,c3,e3⟩:=gR SL;subst e3;have HV3:=zh SL;clear SL tI;go_wp2_with fail;refine(do_lit ⟨2,[⟨#[98]⟩,⟨#[97]⟩],⟨#[99]⟩,false⟩ [] [1] _ _ _ _ 0 0 _ (by exact(HG.out.later (aC HF3.out (aA _ _)))) (by exact(NT.out.later (aA _ _))) YO (by exact(HV3.out.later (aA _ _))) aAy (by exact(ints_made [1] (dR _ _) rfl YO)) YO rfl rfl YO ex3).mono ?_;rintro e d3 ⟨RG,vA3,vS3,rfl,hA3,hT3⟩;obtain⟨p3,q3,r3⟩:=gR hA3;obtain⟨x3,y3,z3⟩:=oT hT3;subst r3 z3;have HA3:=zh hA3;clear hA3 hT3;have H3:Hid (Below w.heap.size w d3):=zh (aC (aC HF3.out (aA _ _)) RG);have HDd3:Hid (Below d2.heap.size d2 d3):=zh (aC (aC HFd3.out (aA _ _)) RG);have HUd2:=zh (show d3.cell? ⟨d2.heap.size,0,none⟩=some (.int .i64 2)/\d3.cell? ⟨d2.heap.size,1,none⟩=some (.int .i64 0) from⟨aD (aC (aA _ _) RG) HU2.out.1,aD (aC (aA _ _) RG) HU2.out.2⟩);clear RG;go_wp2_with fail;refine(lV _).mono ?_;rintro e f4 ⟨v4,rfl,hv4,wO⟩;have MF:Hid (Strs f4 (.slice (some ⟨d3.heap.size+1,0,none⟩) 2 2) [⟨#[98]⟩,⟨#[97]⟩]):=zh ((mS [⟨#[98]⟩,⟨#[97]⟩] (nN d3 _ _) rfl YO (kM _ YO)).later wO);have HF4:Hid (Below w.heap.size w f4):=zh (aC (aC (aC H3.out (aA _ _)) (aA _ _)) wO);have HFd4:Hid (Below d3.heap.size d3 f4):=zh (aC (aC (aA _ _) (aA _ _)) wO);have HU3:Hid (f4.cell? ⟨d3.heap.size,0,none⟩=some (.int .i64 0)/\f4.cell? ⟨d3.heap.size,1,none⟩=some (.int .i64 2)):=zh ⟨aD (aC (aA _ _) wO) (used0 d3 _ _),aD (aC (aA _ _) wO) (used1 d3 _ _)⟩;obtain⟨a4,c4,e4⟩:=gR hv4;subst e4;have HV4:=zh hv4;clear hv4 wO;go_wp2_with fail;refine(do_lit ⟨2,[⟨#[98]⟩,⟨#[97]⟩],⟨#[99]⟩,true⟩ [] [1] _ _ _ _ 0 0 _ (by exact(HG.out.later (aC HF4.out (aA _ _)))) (by exact(MF.out.later (aA _ _))) YO (by exact(HV4.out.later (aA _ _))) aAy (by exact(ints_made [1] (dR _ _) rfl YO)) YO rfl rfl YO ex4).mono ?_;rintro e d4 ⟨OX,vA4,vS4,rfl,hA4,zK⟩;obtain⟨p4,q4,r4⟩:=gR hA4;obtain⟨x4,y4,z4⟩:=oT zK;subst r4 z4;have QG:=zh hA4;clear hA4 zK;have M3:Hid (Below w.heap.size w d4):=zh (aC (aC HF4.out (aA _ _)) OX);have HDd4:Hid (Below d3.heap.size d3 d4):=zh (aC (aC HFd4.out (aA _ _)) OX);have HUd3:=zh (show d4.cell? ⟨d3.heap.size,0,none⟩=some (.int .i64 0)/\d4.cell? ⟨d3.heap.size,1,none⟩=some (.int .i64 2) from⟨aD (aC (aA _ _) OX) HU3.out.1,aD (aC (aA _ _) OX) HU3.out.2⟩);clear OX;go_wp2_with fail;refine(lV _).mono ?_;rintro e f5 ⟨v5,rfl,hv5,hb5⟩;have GO:Hid (Strs f5 (.slice (some ⟨d4.heap.size+1,0,none⟩) 3 3) [⟨#[98]⟩,⟨#[97]⟩,⟨#[98]⟩]):=zh ((mS [⟨#[98]⟩,⟨#[97]⟩,⟨#[98]⟩] (nN d4 _ _) rfl YO (kM _ YO)).later hb5);have HF5:Hid (Below w.heap.size w f5):=zh (aC (aC (aC M3.out (aA _ _)) (aA _ _)) hb5);have HFd5:Hid (Below d4.heap.size d4 f5):=zh (aC (aC (aA _ _) (aA _ _)) hb5);have HU4:Hid (f5.cell? ⟨d4.heap.size,0,none⟩=some (.int .i64 0)/\f5.cell? ⟨d4.heap.size,1,none⟩=some (.int .i64 0)):=zh ⟨aD (aC (aA _ _) hb5) (used0 d4 _ _),aD (aC (aA _ _) hb5) (used1 d4 _ _)⟩;obtain⟨a5,c5,e5⟩:=gR hv5;subst e5;have HV5:=zh hv5;clear hv5 hb5;go_wp2_with fail;refine(do_lit ⟨1,[⟨#[98]⟩,⟨#[97]⟩,⟨#[98]⟩],⟨#[98]⟩,false⟩ [] [] _ _ _ _ 0 0 _ (by exact(HG.out.later HF5.out)) (by exact GO.out) YO (by exact HV5.out) aAy aAy YO rfl rfl YO ex5).mono ?_;rintro e d5 ⟨hd5,rfl⟩;have HD5:Hid (Below w.heap.size w d5):=zh (aC (HF5.out) hd5);have HDd5:Hid (Below d4.heap.size d4 d5):=zh (aC (HFd5.out) hd5);have HUd4:=zh (show d5.cell? ⟨d4.heap.size,0,none⟩=some (.int .i64 0)/\d5.cell? ⟨d4.heap.size,1,none⟩=some (.int .i64 0) from⟨aD (hd5) HU4.out.1,aD (hd5) HU4.out.2⟩);clear hd5;go_wp2_with fail;refine(lV _).mono ?_;rintro e f6 ⟨v6,rfl,hv6,uB⟩;have NS:Hid (Strs f6 (.slice (some ⟨d5.heap.size+1,0,none⟩) 1 1) [⟨#[100]⟩]):=zh ((mS [⟨#[100]⟩] (nN d5 _ _) rfl YO (kM _ YO)).later uB);have HF6:Hid (Below w.heap.size w f6):=zh (aC (aC (aC HD5.out (aA _ _)) (aA _ _)) uB);have HFd6:Hid (Below d5.heap.size d5 f6):=zh (aC (aC (aA _ _) (aA _ _)) uB);have HU5:Hid (f6.cell? ⟨d5.heap.size,0,none⟩=some (.int .i64 0)/\f6.cell? ⟨d5.heap.size,1,none⟩=some (.int .i64 0)):=zh ⟨aD (aC (aA _ _) uB) (used0 d5 _ _),aD (aC (aA _ _) uB) (used1 d5 _ _)⟩;obtain⟨a6,c6,e6⟩:=gR hv6;subst e6;have HV6:=zh hv6;clear hv6 uB;go_wp2_with fail;refine(do_lit ⟨0,[⟨#[100]⟩],⟨#[99]⟩,false⟩ [] [] _ _ _ _ 0 0 _ (by exact(HG.out.later HF6.out)) (by exact NS.out) YO (by exact HV6.out) aAy aAy YO rfl rfl YO ex6).mono ?_;rintro e d6 ⟨hd6,rfl⟩;have HD6:Hid (Below w.heap.size w d6):=zh (aC (HF6.out) hd6);have HDd6:Hid (Below d5.heap.size d5 d6):=zh (aC (HFd6.out) hd6);have HUd5:=zh (show d6.cell? ⟨d5.heap.size,0,none⟩=some (.int .i64 0)/\d6.cell? ⟨d5.heap.size,1,none⟩=some (.int .i64 0) from⟨aD (hd6) HU5.out.1,aD (hd6) HU5.out.2⟩);clear hd6;go_wp2_with fail;refine(lV _).mono ?_;rintro e f7 ⟨v7,rfl,hv7,yF⟩;obtain⟨a7,c7,e7⟩:=gR hv7;subst e7;have HV7:=zh hv7;clear hv7;have HFd7:=zh (aC (aA d6 _) yF);clear yF;go_wp2_with fail;refine(find_any fW _ _ _ HV7.out).mono ?_;rw[show nK fW ⟨#[98]⟩=.tuple #[.string ⟨#[120]⟩,.bool true] by unfold nK;rw[ex7]];rintro e g7 ⟨rfl,hg7⟩;have yX:=zh (aC HFd7.out hg7);clear hg7;have CP:=zh (aC HDd6.out yX.out);have vX:=zh (aC HDd5.out CP.out);have tX:=zh (aC HDd4.out vX.out);have rZ:=zh (aC HDd3.out tX.out);have sT:=zh (aC HDd2.out rZ.out);have k20:=aD tX.out HUd2.out.1;have k21:=aD tX.out HUd2.out.2;have k30:=aD vX.out HUd3.out.1;have k31:=aD vX.out HUd3.out.2;have k40:=aD CP.out HUd4.out.1;have k41:=aD CP.out HUd4.out.2;have HL1:=zh (last_do (CC.out.later sT.out));have HL2:=zh (last_do (CQ.out.later rZ.out));have AA:=zh (last_do (HA3.out.later tX.out));have xZ:=zh (last_do (QG.out.later vX.out));go_wp2_with fail;refine HL1.out.mono ?_;rintro e w' ⟨rfl,rfl⟩;go_wp2_with fail;refine HL2.out.mono ?_;rintro e w' ⟨rfl,rfl⟩;go_wp2_with fail;refine AA.out.mono ?_;rintro e w' ⟨rfl,rfl⟩;go_wp2_with fail;refine xZ.out.mono ?_;rintro e w' ⟨rfl,rfl⟩;go_wp2_with fail;refine(lV _).mono ?_;rintro e f8 ⟨v8,rfl,ND,uI⟩;obtain⟨a8,c8,e8⟩:=gR ND;subst e8;have HV8:=zh ND;have zM:=zh uI;clear ND uI;go_wp2_with fail;refine(kN fW _ _ HV8.out).mono ?_;rw[ex8];rintro e f9 ⟨rfl,vG⟩;have IP:=zh vG;clear vG;go_wp2_with fail;refine(iU ⟨0,[⟨#[98]⟩],⟨#[97]⟩,false⟩ _ _ (mS [⟨#[98]⟩] (dR f9 _) rfl YO (kM _ YO)) YO).mono ?_;rw[ex9];rintro e BW ⟨rfl,zV⟩;have E7:=zh zV;clear zV;go_wp2_with fail;refine(iU ⟨0,[],⟨#[]⟩,false⟩ _ _ (strs_nil _) YO).mono ?_;rw[ex10];rintro e BV ⟨rfl,LT⟩;have uW:=zh LT;clear LT;go_wp2_with fail;refine(stepPure_any ⟨1,[],⟨#[97]⟩,false⟩ _ _ (strs_nil _) YO).mono ?_;rw[ex11];rintro e f12 ⟨rfl,hb12⟩;have HB12:=zh hb12;clear hb12;go_wp2_with fail;refine(stepPure_any ⟨2,[],⟨#[97]⟩,false⟩ _ _ (strs_nil _) YO).mono ?_;rw[ex12];rintro e f13 ⟨rfl,hb13⟩;have HB13:=zh hb13;clear hb13;go_wp2_with fail;go_ret;refine⟨rfl,?_⟩;exact aC (aC (aC (aC (aC (aC (aC (aC HD6.out yX.out) zM.out) IP.out) (aA _ _)) E7.out) uW.out) HB12.out) HB13.out
end Go.Proofs.YtiionicikdnnpaaGreatDoor
