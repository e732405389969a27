/- Texts of this seat, joined. -/
import Derived.Test.YtiionicikdnnpaaGreatDoorNAD
set_option maxHeartbeats 32000000
set_option maxRecDepth 100000
set_option linter.unusedVariables false
set_option linter.unusedSimpArgs false
namespace Go.Proofs.YtiionicikdnnpaaGreatDoor
open Go.RowKit
theorem QZ{p:Prop}(h:p:=by
 rw[wM.out] at h2;go_roundw;case rel=>exact⟨q+1,v2,RY,SK,zh h2,zh (tE.out.trans qB),zh (qB.blk qJ.out.2 qJ.out.1)⟩
 case measure=>simp[intOf];omega):p:=h
theorem Q5{p:Prop}(h:p:=by
 go_wp2_with(go_at_call 67;refine(fI bQ D2.out F6.out).mono ?_;rintro e w5 ⟨v5,rfl,h5,rF⟩);go_end0
 exact⟨_,rfl,by rw[<-HE.out];exact h5,tN.out.trans rF⟩):p:=h
theorem grouped_call{d:Nat}(HX:pK d)(s m:bA)(args:List Xp){B wb:Nat}{st:WSt}{v vn va:Value}{w:World}(hra:∀x∈args,aJ d x=true)(h:WrS B wb st v w)(hf:dO st (aG (.mk 15 0 s m [] args)))
  (he:bJ (dL wb v) w (.mk 15 0 s m [] args) [.int .i64 15,.int .i64 0,.string s,.string m,vn,va]):
  Calls Tryz.prog 198 #[.pointer (some ⟨wb,0,none⟩),nE 15 0 s m vn va] w (WrP B wb v w (.tuple #[]) (st.put (aG (.mk 15 0 s m [] args)))):=by
 rw[wd_call] at hf ⊢;have HRA:=zh hra;rw[aW] at he;obtain⟨vn',va',e,-,-,hn,qN⟩:=he;cases e;have rQ:=qN;obtain⟨a1,c1,vQ,-⟩:=hn.at;obtain rfl:_=Value.slice a1 0 c1:=vQ;obtain⟨a2,c2,vH,DQ,xT,sY⟩:=qN.at;obtain rfl:_=Value.slice a2 args.length c2:=vH;have hb:=aB w (aN 15 0 s m a1 0 c1 a2 args.length c2);have rL:=zh (Ext.below wb v hb);have HC:=zh (h.later hb);have HB:Hid ((w.alloc (aN 15 0 s m a1 0 c1 a2 args.length c2)).heap[w.heap.size]? =some (aN 15 0 s m a1 0 c1 a2 args.length c2)/\dL wb v w.heap.size):=zh ⟨bY w _,h.new (Nat.le_refl _)⟩;have tI:=zh (gQ aH R0 rQ rL.out);have pT:=zh HX;obtain⟨⟨r0,r1,r2,r3,r4,r5⟩,-⟩:=bx6 HB.out.1;by_cases yE:m=noB
 ·rw[if_neg (by rw[yE];exact fun h=>h rfl),List.nil_append] at hf ⊢;have CW:(m.toList==[])=true:=by rw[yE,toList_nil (s:=⟨#[]⟩) rfl];rfl
  obtain⟨f1,f2⟩:=hf.cons;obtain⟨f3,f4⟩:=f2.cons;obtain⟨f5,f6⟩:=f4.app;have F1:=zh f1;have F3:=zh f3;have F5:=zh f5;have F6:=zh f6;have HE:Hid (((((st.put [s]).put [aS]).put (aL (args.map aG))).put [bQ])=st.put ([s]++aS::(aL (args.map aG)++[bQ]))):=zh (by rw[bW,bW,bW];simp);generalize st.put ([s]++aS::(aL (args.map aG)++[bQ]))=sE at *;clear f1 f2 f3 f4 f5 f6 hf hra yE h hn qN sY rQ hb HX;go_enter Tryz.func198,Tryz.ntmps198;go_wp2_with fail;go_at_call 67;refine(fI s HC.out F1.out).mono ?_;rintro e w2 ⟨v2,rfl,h2,qB⟩;have uK:=zh h2;have qW:=zh (rL.out.trans qB);have pZ:=zh (qB.blk HB.out.2 HB.out.1);have BV:=zh (gQ aH R0 tI.out qB);clear h2 qB r0 r1 r2 r3 r4 r5;obtain⟨⟨r0,r1,r2,r3,r4,r5⟩,-⟩:=bx6 pZ.out.1;go_wp2_with fail;go_at_call 67;refine(fI aS uK.out F3.out).mono ?_;rintro e w3 ⟨v3,rfl,h3,qF⟩;have uY:=zh h3;have tE:=zh (qW.out.trans qF);have qJ:=zh (qF.blk pZ.out.2 pZ.out.1);have H7:=zh (gQ aH R0 BV.out qF);obtain⟨⟨r0,r1,r2,r3,r4,r5⟩,-⟩:=bx6 qJ.out.1;clear h3 qF;go_wp2_with(go_at_call 73;refine(exps_any pT.out args HRA.out uY.out F5.out H7.out).mono ?_;rintro e w4 ⟨v4,rfl,h4,qX⟩;have D2:=zh h4;have tN:=zh (tE.out.trans qX);clear h4 qX);exact Q5
 rw[if_pos yE] at hf ⊢;have CW:(m.toList==[])=false:=by rw[beq_eq_false_iff_ne];intro e;exact yE (lV e)
 obtain⟨f0,fr⟩:=hf.app;obtain⟨f1,f2⟩:=fr.cons;obtain⟨f3,f4⟩:=f2.cons;obtain⟨f5,f6⟩:=f4.app;have F0:=zh f0;have F1:=zh f1;have F3:=zh f3;have F5:=zh f5;have F6:=zh f6;have HE:Hid ((((((st.put [m,kX]).put [s]).put [aS]).put (aL (args.map aG))).put [bQ])=st.put ([m,kX]++([s]++aS::(aL (args.map aG)++[bQ])))):=zh (by rw[bW,bW,bW,bW];simp);generalize st.put ([m,kX]++([s]++aS::(aL (args.map aG)++[bQ])))=sE at *;clear f0 fr f1 f2 f3 f4 f5 f6 hf hra yE h hn qN sY rQ hb HX;go_enter Tryz.func198,Tryz.ntmps198;go_wp2_with fail;go_at_call 67;refine(wput2 m kX HC.out F0.out).mono ?_;rintro e w2 ⟨v2,rfl,h2,qB⟩;have uK:=zh h2;have qW:=zh (rL.out.trans qB);have pZ:=zh (qB.blk HB.out.2 HB.out.1);have BV:=zh (gQ aH R0 tI.out qB);clear h2 qB r0 r1 r2 r3 r4 r5;obtain⟨⟨r0,r1,r2,r3,r4,r5⟩,-⟩:=bx6 pZ.out.1;clear CW;go_wp2_with fail;go_at_call 67;refine(fI s uK.out F1.out).mono ?_;rintro e w6 ⟨v6,rfl,h6,tD⟩;have OS:=zh h6;have HX6:=zh (qW.out.trans tD);have sD:=zh (tD.blk pZ.out.2 pZ.out.1);have HRow6:=zh (gQ aH R0 BV.out tD);clear h6 tD r0 r1 r2 r3 r4 r5;obtain⟨⟨r0,r1,r2,r3,r4,r5⟩,-⟩:=bx6 sD.out.1;go_wp2_with fail;go_at_call 67;refine(fI aS OS.out F3.out).mono ?_;rintro e w7 ⟨v7,rfl,h7,rJ⟩;have HC7:=zh h7;have HX7:=zh (HX6.out.trans rJ);have uB:=zh (rJ.blk sD.out.2 sD.out.1);have HRow7:=zh (gQ aH R0 HRow6.out rJ);obtain⟨⟨r0,r1,r2,r3,r4,r5⟩,-⟩:=bx6 uB.out.1;clear h7 rJ;go_wp2_with(go_at_call 73;refine(exps_any pT.out args HRA.out HC7.out F5.out HRow7.out).mono ?_;rintro e w8 ⟨v8,rfl,h8,tC⟩;have JE:=zh h8;have KA:=zh (HX7.out.trans tC);clear h8 tC);go_wp2_with(go_at_call 67;refine(fI bQ JE.out F6.out).mono ?_;rintro e w9 ⟨v9,rfl,h9,CE⟩);go_end0;exact⟨_,rfl,by rw[<-HE.out];exact h9,KA.out.trans CE⟩
def actT(n:Int)(q:Nat):List bA:=((cD.take q).filter fun w=>decide (w.2=n)).map (·.1)
theorem act_next{n:Int}{q:Nat}{t:bA}(ht:bG[q]? =some t):actT n (q+1)=actT n q++(if bN t=n then[t] else[]):=by
 have hq:q<4:=(Yb.1 ht).1
 have h:cD[q]? =some (t,bN t):=by
  match q,hq,ht with
  |0,_,ht=>cases ht;rfl
  |1,_,ht=>cases ht;rfl
  |2,_,ht=>cases ht;rfl
  |3,_,ht=>cases ht;rfl
 unfold actT;rw[List.take_add_one,h,Option.toList_some,List.filter_append,List.map_append];congr 1;by_cases hb:bN t=n<;>simp[hb]
theorem act_put{st:WSt}{n:Int}{q:Nat}{t:bA}(ht:bG[q]? =some t):st.put (actT n (q+1))=(st.put (actT n q)).put (if bN t=n then[t] else[]):=by
 rw[bW,act_next ht]
theorem actT_len(n:Int)(q:Nat):∃z,actT n 4=actT n q++z:=by
 refine⟨((cD.drop q).filter fun w=>decide (w.2=n)).map (·.1),?_⟩;unfold actT;rw[<-List.map_append,<-List.filter_append,List.take_append_drop];rfl
theorem grouped_act{d:Nat}(HX:pK d)(n:Int)(a:Xp)(w0:bA){B wb:Nat}{st:WSt}{v vn va:Value}{w:World}(hw0:(cD.filter fun w=>decide (w.2=n)).map (·.1)=[w0])(ha:aJ d a=true)(h:WrS B wb st v w)(hf:dO st (aG (.mk 16 n noB noB [] [a])))
  (he:bJ (dL wb v) w (.mk 16 n noB noB [] [a]) [.int .i64 16,.int .i64 n,.string noB,.string noB,vn,va]):
  Calls Tryz.prog 198 #[.pointer (some ⟨wb,0,none⟩),nE 16 n noB noB vn va] w (WrP B wb v w (.tuple #[]) (st.put (aG (.mk 16 n noB noB [] [a])))):=by
 rw[wd_act n a hw0] at hf ⊢;have HRA:Hid (∀x∈[a],aJ d x=true):=zh (by intro x hx;rw[List.mem_singleton.1 hx];exact ha);rw[aW] at he;obtain⟨vn',va',e,-,-,hn,qN⟩:=he;cases e;have rQ:=qN;obtain⟨a1,c1,vQ,-⟩:=hn.at;obtain rfl:_=Value.slice a1 0 c1:=vQ;obtain⟨a2,c2,vH,DQ,xT,sY⟩:=qN.at;obtain rfl:_=Value.slice a2 1 c2:=vH;have hb:=aB w (aN 16 n noB noB a1 0 c1 a2 1 c2);have rL:=zh (Ext.below wb v hb);have HC:=zh (h.later hb);have HB:Hid ((w.alloc (aN 16 n noB noB a1 0 c1 a2 1 c2)).heap[w.heap.size]? =some (aN 16 n noB noB a1 0 c1 a2 1 c2)/\dL wb v w.heap.size):=zh ⟨bY w _,h.new (Nat.le_refl _)⟩;have tI:=zh (gQ aH R0 rQ rL.out);have pT:=zh HX;obtain⟨⟨r0,r1,r2,r3,r4,r5⟩,-⟩:=bx6 HB.out.1;have h4:actT n 4=[w0]:=hw0;have uU:dO st (actT n 4++([aS]++(aL ([a].map aG)++[bQ]))):=by rw[h4];exact hf
 obtain⟨f0,fr⟩:=uU.app;obtain⟨f3,f4⟩:=fr.app;obtain⟨f5,f6⟩:=f4.app;have F0:=zh f0;have F3:=zh f3;have F5:=zh f5;have F6:=zh f6;have HE:Hid ((((st.put (actT n 4)).put [aS]).put (aL ([a].map aG))).put [bQ]=st.put (w0::aS::(aG a++[bQ]))):=zh (by rw[bW,bW,bW,h4];simp[aL]);have OK:=zh (fieldsEff _ HC.out.glob.spc);clear f0 fr f3 f4 f5 f6 hf uU h4 hw0 ha h hn qN sY rQ hb HX;go_enter Tryz.func198,Tryz.ntmps198;go_wp2_with(go_at_call 153;refine OK.out.mono ?_;rintro e w9 ⟨rfl,rfl⟩);have C0:=aB (w.alloc (aN 16 n noB noB a1 0 c1 a2 1 c2)) (.cells (bG.map Value.string).toArray 9);have I7:=bY (w.alloc (aN 16 n noB noB a1 0 c1 a2 1 c2)) (.cells (bG.map Value.string).toArray 9);rw[show(w.alloc (aN 16 n noB noB a1 0 c1 a2 1 c2)).heap.size=w.heap.size+1 by simp] at I7;have HW:=zh I7;have sC:=zh C0;clear I7 C0 r0 r1 r2 r3 r4 r5 OK;go_loopw [55] (fun iv wr=>∃(q:Nat)(v':Value),q<=4/\iv=.int .i64 (q:Int)/\Hid (WrS B wb (st.put (actT n q)) v' wr)/\Hid (Ext wb v w v' wr)/\Hid (wr.heap[w.heap.size]? =some (aN 16 n noB noB a1 0 c1 a2 1 c2)/\dL wb v' w.heap.size)/\Hid (wr.heap[w.heap.size+1]? =some (.cells (bG.map Value.string).toArray 9)/\dL wb v' (w.heap.size+1))/\Hid (aO 6 bJ (dL wb v') wr (.slice a2 1 c2) [a])) (fun iv _=>4-(intOf iv).toNat)
 case atStart=>
  exact⟨0,v,RY,rfl,zh VC,zh (rL.out.trans (Ext.below wb v sC.out)),zh ⟨aC sC.out HB.out.1,HB.out.2⟩,zh ⟨HW.out,HC.out.new R2⟩,zh (gQ aH R0 tI.out (Ext.below wb v sC.out))⟩
 case round=>
  clear HB HW sC HC rL tI;obtain⟨q,v1,hq,rfl,HC,EO,HB,HW,tI⟩:=hrel;rename World=>wr
  by_cases qA:q<4
  ·obtain⟨t,ht,-⟩:=getElem?_of_lt (l:=bG) (k:=q) qA;have p0:wr.cell? ⟨w.heap.size+1,q,none⟩=some (.string t):=(bx HW.out.1 q (by rw[List.getElem?_toArray,List.getElem?_map,ht];rfl)).1;have HT:=zh (act_put (st:=st) (n:=n) ht)
   have rC:dO (st.put (actT n q)) (if bN t=n then[t] else[]):=by
    obtain⟨z,hz⟩:=actT_len n (q+1);have h1:=F0.out;rw[hz] at h1;have h2:=h1.app.1;have h4:=act_next (n:=n) ht;rw[h4] at h2;exact h2.app.2
   generalize st.put (actT n q)=s1 at *;have A2:(q:Int)<4:=RY;have tS:(0:Int)<=(q:Int):=RY;obtain⟨⟨r0,r1,r2,r3,r4,r5⟩,-⟩:=bx6 HB.out.1;by_cases EF:bN t=n
   ·rw[if_pos EF] at rC HT;have JC:=zh rC;(have GD:(bN t==n)=true:=by rw[beq_iff_eq];exact EF);clear rC EF ht;go_wp2_with fail;refine wp_region_held_drew (S:=fun W=>Below wr.heap.size wr W) RZ (aF wr) fun hS=>?_;refine zq 0 (.string t) rfl ?_;refine zq 2 (.pointer (some ⟨w.heap.size,1,none⟩)) rfl ?_;refine zt 3 (.int .i64 n) rfl (fun W hW=>by have q1:=aD hW r1;go_simp) ?_;(try simp only[zn]);refine zr 1 rfl (fun K hK=>?_);(try simp only[z1,z2,z3]);go_simp;refine(iS t _ (HC.out.glob.later (aF wr)).spc).mono ?_;rintro e w8 ⟨rfl,uG⟩;have qS:=aA (aF wr) uG;refine hK.out _ _ qS (fun hS=>?_);clear hK K;(try simp only[zn]);generalize bN t=bt at *;refine zq 4 (.bool true) rfl ?_;(try simp only[zn]);refine wpAnyH_done RZ ?_ _;have KA:=zh (EO.out.trans (Ext.below wb v1 qS));have sM:=zh (Ext.blk (Ext.below wb v1 qS) HB.out.2 HB.out.1);have KC:=zh (Ext.blk (Ext.below wb v1 qS) HW.out.2 HW.out.1);have H6:=zh (gQ aH R0 tI.out (Ext.below wb v1 qS));have JE:=zh (HC.out.later qS);clear hS qS uG r0 r1 r2 r3 r4 r5 p0;obtain⟨⟨y0,y1,y2,y3,y4,y5⟩,-⟩:=bx6 sM.out.1;go_wp2_with(go_at_call 67;refine(fI t JE.out JC.out).mono ?_;rintro e w2 ⟨v2,rfl,h2,qB⟩);rw[<-HT.out] at h2;go_roundw;(case rel=>exact⟨q+1,v2,RY,SK,zh h2,zh (KA.out.trans qB),zh (qB.blk sM.out.2 sM.out.1),zh (qB.blk KC.out.2 KC.out.1),zh (gQ aH R0 H6.out qB)⟩);case measure=>simp[intOf];omega
   rw[if_neg EF] at rC HT;rw[jI] at HT;(have GD:(bN t==n)=false:=by rw[beq_eq_false_iff_ne];exact EF);clear rC EF ht;go_wp2_with fail;refine wp_region_held_drew (S:=fun W=>Below wr.heap.size wr W) RZ (aF wr) fun hS=>?_;refine zq 0 (.string t) rfl ?_;refine zq 2 (.pointer (some ⟨w.heap.size,1,none⟩)) rfl ?_;refine zt 3 (.int .i64 n) rfl (fun W hW=>by have q1:=aD hW r1;go_simp) ?_;(try simp only[zn]);refine zr 1 rfl (fun K hK=>?_);(try simp only[z1,z2,z3]);go_simp;refine(iS t _ (HC.out.glob.later (aF wr)).spc).mono ?_;rintro e w8 ⟨rfl,uG⟩;have qS:=aA (aF wr) uG;refine hK.out _ _ qS (fun hS=>?_);clear hK K;(try simp only[zn]);generalize bN t=bt at *;refine zq 4 (.bool false) rfl ?_;(try simp only[zn]);refine wpAnyH_done RZ ?_ _;have KA:=zh (EO.out.trans (Ext.below wb v1 qS));have sM:=zh (Ext.blk (Ext.below wb v1 qS) HB.out.2 HB.out.1);have KC:=zh (Ext.blk (Ext.below wb v1 qS) HW.out.2 HW.out.1);have H6:=zh (gQ aH R0 tI.out (Ext.below wb v1 qS));have JE:=zh (HC.out.later qS);clear hS qS uG r0 r1 r2 r3 r4 r5 p0;obtain⟨⟨y0,y1,y2,y3,y4,y5⟩,-⟩:=bx6 sM.out.1;go_wp2_with fail;rw[<-HT.out] at JE;go_roundw;(case rel=>exact⟨q+1,v1,RY,SK,JE,KA,sM,KC,H6⟩);case measure=>simp[intOf];omega
  have tT:q=4:=RY;subst tT;obtain⟨⟨r0,r1,r2,r3,r4,r5⟩,-⟩:=bx6 HB.out.1;go_wp2_with fail;go_wp2_with fail;go_at_call 67;refine(fI aS HC.out F3.out).mono ?_;rintro e w3 ⟨v3,rfl,h3,qF⟩;have uY:=zh h3;have tE:=zh (EO.out.trans qF);have qJ:=zh (qF.blk HB.out.2 HB.out.1);have H7:=zh (gQ aH R0 tI.out qF);obtain⟨⟨r0,r1,r2,r3,r4,r5⟩,-⟩:=bx6 qJ.out.1;clear h3 qF;go_wp2_with(go_at_call 73;refine(exps_any pT.out [a] HRA.out uY.out F5.out H7.out).mono ?_;rintro e w4 ⟨v4,rfl,h4,qX⟩;have D2:=zh h4;have tN:=zh (tE.out.trans qX);clear h4 qX);exact Q5
theorem recT_at:∀(names:List bA)(args:List Xp)(q:Nat)(s:bA)(x:Xp),names[q]? =some s->args[q]? =some x->(iG names (cV args))[q]? =some (s::kEq::aG x)
 |[],_,q,s,x,h,_=>TP
 |_::_,[],q,s,x,_,h=>TP
 |n::ns,y::ys,0,s,x,h1,h2=>by simp at h1 h2;subst h1;subst h2;rw[cV,iG];rfl
 |n::ns,y::ys,q+1,s,x,h1,h2=>by rw[cV,iG];simpa using recT_at ns ys q s x (by simpa using h1) (by simpa using h2)
theorem recT_len:∀(names:List bA)(args:List Xp),names.length=args.length->(iG names (cV args)).length=names.length
 |[],_,_=>by simp[iG]
 |_::_,[],h=>TP
 |n::ns,y::ys,h=>by rw[cV,iG,List.length_cons,List.length_cons,recT_len ns ys TR]
theorem grouped_rec{d:Nat}(HX:pK d)(names:List bA)(args:List Xp){B wb:Nat}{st:WSt}{v vn va:Value}{w:World}(qG:names.length=args.length)(hra:∀x∈args,aJ d x=true)(h:WrS B wb st v w)(hf:dO st (aG (.mk 13 0 noB noB names args)))
  (he:bJ (dL wb v) w (.mk 13 0 noB noB names args) [.int .i64 13,.int .i64 0,.string noB,.string noB,vn,va]):
  Calls Tryz.prog 198 #[.pointer (some ⟨wb,0,none⟩),nE 13 0 noB noB vn va] w (WrP B wb v w (.tuple #[]) (st.put (aG (.mk 13 0 noB noB names args)))):=by
 rw[wd_rec] at hf ⊢;have HRA:=zh hra;rw[aW] at he;obtain⟨vn',va',e,-,-,hn,qN⟩:=he;cases e;have rQ:=qN;have hnr:=hn;obtain⟨a1,c1,vQ,MP,FP,hna⟩:=hn.at;obtain rfl:_=Value.slice a1 names.length c1:=vQ;obtain⟨a2,c2,vH,DQ,xT,sY⟩:=qN.at;obtain rfl:_=Value.slice a2 args.length c2:=vH;have hb:=aB w (aN 13 0 noB noB a1 names.length c1 a2 args.length c2);have rL:=zh (Ext.below wb v hb);have HC:=zh (h.later hb);have HB:Hid ((w.alloc (aN 13 0 noB noB a1 names.length c1 a2 args.length c2)).heap[w.heap.size]? =some (aN 13 0 noB noB a1 names.length c1 a2 args.length c2)/\dL wb v w.heap.size):=zh ⟨bY w _,h.new (Nat.le_refl _)⟩;have tI:=zh (gQ aH R0 rQ rL.out);have pT:=zh HX;obtain⟨⟨r0,r1,r2,r3,r4,r5⟩,-⟩:=bx6 HB.out.1;obtain⟨f1,LP⟩:=hf.cons;obtain⟨f2,f3⟩:=LP.app;have F1:=zh f1;have F2:=zh f2;have F3:=zh f3;have HE:Hid (((st.put [bH]).put (aL (iG names (cV args)))).put [cL]=st.put (bH::(aL (iG names (cV args))++[cL]))):=zh (by rw[bW,bW];rfl);have HRL:=zh (recT_len names args qG);have HRT:=zh (recT_at names args);have HNa:=zh hna;have HGa:=zh sY;have HLe:=zh qG;have hlen2:(args.length:Int)=(names.length:Int):=RY;generalize iG names (cV args)=RT at *;generalize hln:names.length=ln at *;generalize yF:args.length=la at *;have HLN:=zh hln;have HLA:=zh yF;have hll:la=ln:=RY;have HLL:=zh hll;clear f1 LP f2 f3 hf hra h hn hnr qN sY hna rQ hb HX qG hln yF hlen2 hll tI;go_enter Tryz.func198,Tryz.ntmps198;go_wp2_with(go_at_call 67;refine(fI bH HC.out F1.out).mono ?_;rintro e w2 ⟨v2,rfl,h2,qB⟩;have uK:=zh h2;have qW:=zh (rL.out.trans qB);have pZ:=zh (qB.blk HB.out.2 HB.out.1);clear h2 qB r0 r1 r2 r3 r4 r5;obtain⟨⟨r0,r1,r2,r3,r4,r5⟩,-⟩:=bx6 pZ.out.1);clear r0 r1 r2 r3 r4 r5;clear HB HC rL;go_loopw [17] (fun iv wr=>∃(q:Nat)(v':Value),q<=ln/\iv=.int .i64 (q:Int)/\Hid (WrS B wb ((st.put [bH]).put (aL (RT.take q))) v' wr)/\Hid (Ext wb v w v' wr)/\Hid (wr.heap[w.heap.size]? =some (aN 13 0 noB noB a1 ln c1 a2 la c2)/\dL wb v' w.heap.size)) (fun iv _=>ln-(intOf iv).toNat)
 case atStart=>
  exact⟨0,v2,RY,rfl,zh (by show WrS B wb ((st.put [bH]).put []) v2 _;rw[jI];exact uK.out),qW,pZ⟩
 case round=>
  clear pZ uK qW;obtain⟨q,v1,hq,rfl,HC,EO,HB⟩:=hrel;rename World=>wr
  by_cases qA:q<ln
  ·obtain⟨s,hs,-⟩:=getElem?_of_lt (l:=names) (k:=q) (by rw[HLN.out];exact qA);obtain⟨x,hx,tM⟩:=getElem?_of_lt (l:=args) (k:=q) (by have:=HLA.out;have:=HLL.out;omega);obtain⟨bn,on,rfl,AG,cs,⟨rfl,IW⟩,-,hj⟩:=HNa.out q s hs;have IY:¬inC wb v bn:=fun e=>e.elim AG.1 AG.2;have HP0:Hid (∀V W,Ext wb v w V W->W.cell? ⟨bn,on+q,none⟩=some (.string s)):=zh (fun V W hE=>by have h:=hE.off.cell IY (hj 0 _ rfl);simpa using h);(have p0:wr.cell? ⟨bn,on+q,none⟩=some (.string s):=by have h:=EO.out.off.cell IY (hj 0 _ rfl);simpa using h);obtain⟨b,o,rfl,op,n,sx,m,i1,j1,k1,i2,j2,k2,ho⟩:=op_of HGa.out hx;have HO:=zh (ho.ext EO.out);have yY:=zh (HRA.out x tM);have hrt:=HRT.out q s x hs hx;have rC:=F2.out.comma hrt;have HT:=zh (comma_put (st:=st.put [bH]) hrt);generalize (st.put [bH]).put (aL (RT.take q))=s1 at *;(have A2:(q:Int)<(la:Int):=by have:=HLL.out;omega);have uO:(q:Int)<(ln:Int):=RY;have hq00:(0:Int)<=(q:Int):=RY;clear hs hx tM AG hj IW IY ho hrt;obtain⟨⟨r0,r1,r2,r3,r4,r5⟩,-⟩:=bx6 HB.out.1;by_cases tS:q=0
   ·(have vR:sepT q=[]:=by unfold sepT;rw[if_pos tS]);rw[vR] at rC HT;rw[jI] at HT;have EN:=zh (dO.app (a:=[s,kEq]) (b:=aG x) rC);have wM:Hid ((s1.put [s,kEq]).put (aX x 0)=(st.put [bH]).put (aL (RT.take (q+1)))):=zh (by rw[HT.out,bW,fX];rfl);have zF:¬0<q:=RY;have zE:¬(0:Int)<(q:Int):=RY;clear tS vR rC HT;go_wp2_with(go_at_call 67;refine(wput2 s kEq HC.out EN.out.1).mono ?_;rintro e w3 ⟨v3,rfl,h3,qF⟩;have uY:=zh h3;have tE:=zh (EO.out.trans qF);have qJ:=zh (qF.blk HB.out.2 HB.out.1);have IE:=zh (HO.out.ext qF);clear h3 qF r0 r1 r2 r3 r4 r5;obtain⟨⟨r0,r1,r2,r3,r4,r5⟩,-⟩:=bx6 qJ.out.1;obtain⟨y0,y1,y2,y3,y4,y5⟩:=IE.out.p);go_wp2_with(go_at_call 70;refine(pT.out x 0 0 B wb (s1.put [s,kEq]) v3 _ _ _ _ _ _ _ yY.out RY rfl uY.out (by rw[fX];exact EN.out.2) IE.out.enc).mono ?_;rintro e w2 ⟨v2,rfl,h2,qB⟩);exact QZ
   (have vR:sepT q=[aY]:=by unfold sepT;rw[if_neg tS]);rw[vR] at rC HT;have L6:=zh rC.app.1;have EN:=zh (dO.app (a:=[s,kEq]) (b:=aG x) rC.app.2);have wM:Hid (((s1.put [aY]).put [s,kEq]).put (aX x 0)=(st.put [bH]).put (aL (RT.take (q+1)))):=zh (by rw[HT.out,bW (s1.put [aY]),fX];rfl);have zF:0<q:=RY;have zE:(0:Int)<(q:Int):=RY;clear tS vR rC HT;go_wp2_with fail;go_at_call 67;refine(fI aY HC.out L6.out).mono ?_;rintro e w5 ⟨v5,rfl,h5,rF⟩;have OT:=zh h5;have EJ:=zh (EO.out.trans rF);have rS:=zh (rF.blk HB.out.2 HB.out.1);have HO5:=zh (HO.out.ext rF);have CA:w5.cell? ⟨bn,on+q,none⟩=some (.string s):=HP0.out v5 w5 EJ.out;clear h5 rF r0 r1 r2 r3 r4 r5 p0;obtain⟨⟨r0,r1,r2,r3,r4,r5⟩,-⟩:=bx6 rS.out.1;go_wp2_with fail;go_at_call 67;refine(wput2 s kEq OT.out EN.out.1).mono ?_;rintro e w3 ⟨v3,rfl,h3,qF⟩;have uY:=zh h3;have tE:=zh (EJ.out.trans qF);have qJ:=zh (qF.blk rS.out.2 rS.out.1);have IE:=zh (HO5.out.ext qF);clear h3 qF r0 r1 r2 r3 r4 r5;obtain⟨⟨r0,r1,r2,r3,r4,r5⟩,-⟩:=bx6 qJ.out.1;obtain⟨y0,y1,y2,y3,y4,y5⟩:=IE.out.p;go_wp2_with(go_at_call 70;refine(pT.out x 0 0 B wb ((s1.put [aY]).put [s,kEq]) v3 _ _ _ _ _ _ _ yY.out RY rfl uY.out (by rw[fX];exact EN.out.2) IE.out.enc).mono ?_;rintro e w2 ⟨v2,rfl,h2,qB⟩);exact QZ
  have tT:q=ln:=RY;have HT:Hid (RT.take q=RT):=zh (by rw[List.take_of_length_le (by rw[HRL.out];omega)]);rw[HT.out] at HC;go_wp2_with(go_at_call 67;refine(fI cL HC.out F3.out).mono ?_;rintro e w4 ⟨v4,rfl,h4,qX⟩);go_end0;exact⟨_,rfl,by rw[<-HE.out];exact h4,EO.out.trans qX⟩
theorem RD{p:Prop}(h:p:=by
 go_wp2_with fail;go_ret
 exact⟨aE (by rw[HT.out,<-HD.out]),HB.out⟩):p:=h
theorem RK{p:Prop}(h:p:=by
 go_roundw;case rel=>exact⟨q+1,RY,SK,zh (aA HB.out (aA (aB _ _) pO)),wR⟩
 case measure=>simp[intOf];omega):p:=h
def RightTyAll:Prop:=∀(d:Nat)(t:Ty)(N:Nat->Prop)(k:Int)(vf:Value)(w:World),d<=100->iF w->gB N w t [.int .i64 k,vf]->
  Calls Tryz.prog 94 #[.agg #[.int .i64 k,vf],.int .i64 (d:Int)] w fun e w'=>e=.returned (.bool (aR d t))/\Below w.heap.size w w'
def RightXpAll:Prop:=∀(d:Nat)(x:Xp)(N:Nat->Prop)(op n:Int)(s m:bA)(vn va:Value)(w:World),d<=100->iF w->bJ N w x [.int .i64 op,.int .i64 n,.string s,.string m,vn,va]->
  Calls Tryz.prog 92 #[nE op n s m vn va,.int .i64 (d:Int)] w fun e w'=>e=.returned (.bool (aJ d x))/\Below w.heap.size w w'
theorem oD(hT:RightTyAll)(t:Ty)(N:Nat->Prop)(k:Int)(vf:Value)(w:World)(hg:iF w)(he:gB N w t [.int .i64 k,vf]):
  Calls Tryz.prog 29 #[.agg #[.int .i64 k,vf]] w fun e w'=>e=.returned (.bool (aR 4 t))/\Below w.heap.size w w':=by
 have hb:=aB w (.cells #[.int .i64 k,vf] 45);have HT:=zh (hT 4 t N k vf _ R0 (hg.later hb) (dM _ _ _ _ _ _ (aQ.later hb) he));obtain⟨a,n,c,rfl⟩:=encT_slice he;generalize aR 4 t=r at *;clear hT hg he;go_enter Tryz.func29,Tryz.ntmps29;go_wp2_with(go_at_call 94;refine HT.out.mono ?_;rintro e w2 ⟨rfl,pN⟩);go_ret;exact⟨rfl,aA hb pN⟩
theorem fG(hX:RightXpAll)(x:Xp)(N:Nat->Prop)(op n:Int)(s m:bA)(vn va:Value)(w:World)(hg:iF w)(he:bJ N w x [.int .i64 op,.int .i64 n,.string s,.string m,vn,va]):
  Calls Tryz.prog 27 #[nE op n s m vn va] w fun e w'=>e=.returned (.bool (aJ 12 x))/\Below w.heap.size w w':=by
 have hb:=aB w (oBx19 op n s m vn va);have HT:=zh (hX 12 x N op n s m vn va _ R0 (hg.later hb) (aH _ _ _ _ _ _ (aQ.later hb) he));obtain⟨⟨a1,n1,c1,rfl⟩,a2,n2,c2,rfl⟩:=jS he;generalize aJ 12 x=r at *;clear hX hg he;go_enter Tryz.func27,Tryz.ntmps27;go_wp2_with(go_at_call 92;refine HT.out.mono ?_;rintro e w2 ⟨rfl,pN⟩);go_ret;exact⟨rfl,aA hb pN⟩
theorem all_at{α:Type}{p:α->Bool}{l:List α}{q:Nat}{x:α}(hx:l[q]? =some x):(l.drop q).all p=(p x&&(l.drop (q+1)).all p):=by
 obtain⟨hk,he⟩:=Yb.1 hx;rw[List.drop_eq_getElem_cons hk,he,List.all_cons]
theorem nY(hX:RightXpAll)(l:List Xp)(n:Nat)(N:Nat->Prop)(v:Value)(w:World)(hn:n<=1000)(hg:iF w)(he:aO 6 bJ N w v l):
  Calls Tryz.prog 81 #[v,.int .i64 (n:Int)] w fun e w'=>e=.returned (.bool (cB l n))/\Below w.heap.size w w':=by
 have HG:=zh (fun W(hb:Below w.heap.size w W)=>hg.later hb);have HX:=zh hX;have LA:l.length<=9223372036854775807:=by obtain⟨_,_,_,h1,h2,-⟩:=he;omega
 have MP:(n:Int)<=1000:=RY;have HR:Hid (cB l n=(l.all (aJ 12)&&decide (l.length=n))):=zh rfl;have HD:Hid (((l.length:Int)==(n:Int))=decide (l.length=n)):=zh SP;clear hg hX;rcases he.cases R0 with⟨rfl,a,c,rfl⟩|⟨b,o,c,rfl,h0,h1,h2,hb,hN,hc⟩
 ·clear he;go_enter Tryz.func81,Tryz.ntmps81;go_wp2_with fail;go_loop [9] (fun i=>i=.int .i64 0) (fun _=>0)
  case atStart=>rfl
  case round=>
   subst hrel;go_wp2_with fail;go_ret;exact⟨aE (by rw[HR.out,<-HD.out];rfl),Below.refl _ _⟩
 have HC:=zh hc;clear hc he;go_enter Tryz.func81,Tryz.ntmps81;go_wp2_with fail;go_loopw [9] (fun iv wr=>∃q:Nat,q<=l.length/\iv=.int .i64 (q:Int)/\Hid (Below w.heap.size w wr)/\Hid (l.all (aJ 12)=(l.drop q).all (aJ 12))) (fun iv _=>l.length-(intOf iv).toNat)
 case atStart=>exact⟨0,Nat.zero_le _,rfl,zh (Below.refl _ _),zh rfl⟩
 case round=>
  obtain⟨q,hq,rfl,HB,qI⟩:=hrel;rename World=>wr
  by_cases qA:q<l.length
  ·obtain⟨x,hx,-⟩:=getElem?_of_lt qA;obtain⟨cs,sT,-,hj⟩:=HC.out q x hx;have uR:=zh (qI.out.trans (all_at hx))
   cases x with
   |mk sW n2 s2 m2 names2 args2=>
    have wK:=sT;rw[aW] at wK;obtain⟨vn2,va2,rfl,-,-,JO,yV⟩:=wK;obtain⟨a1,cc1,rfl,-⟩:=JO;obtain⟨a2,cc2,rfl,-⟩:=yV;have c0:wr.cell? ⟨b,o+q*6,none⟩=some (.int .i64 sW):=aD HB.out (hj 0 _ rfl);have c1:=aD HB.out (hj 1 _ rfl);have c2:=aD HB.out (hj 2 _ rfl);have c3:=aD HB.out (hj 3 _ rfl);have c4:=aD HB.out (hj 4 _ rfl);have c5:=aD HB.out (hj 5 _ rfl);have HL:=zh (fun W(h:Below w.heap.size w W)=>fG HX.out (.mk sW n2 s2 m2 names2 args2) N sW n2 s2 m2 _ _ W (HG.out W h) (aH _ _ _ _ _ _ (aQ.later h) sT));clear hj sT hx;generalize aJ 12 (.mk sW n2 s2 m2 names2 args2)=r0 at HL uR;generalize names2.length=ln at *;generalize args2.length=la at *
    cases r0 with
    |false=>
     have HF:Hid (cB l n=false):=zh (by rw[HR.out,uR.out];rfl);clear uR qI;go_wp2_with(go_at_call 27;refine(HL.out _ (aA HB.out (aB _ _))).mono ?_;rintro e w1 ⟨rfl,pO⟩);go_ret;exact⟨aE SU,aA HB.out (aA (aB _ _) pO)⟩
    |true=>
     have wR:Hid (l.all (aJ 12)=(l.drop (q+1)).all (aJ 12)):=zh (by rw[uR.out];rfl);clear uR qI;go_wp2_with(go_at_call 27;refine(HL.out _ (aA HB.out (aB _ _))).mono ?_;rintro e w1 ⟨rfl,pO⟩);exact RK
  have tT:q=l.length:=RY;have HT:Hid (cB l n=decide (l.length=n)):=zh (by rw[HR.out,qI.out,tT,List.drop_length];rfl);exact RD
theorem P2{p:Prop}(h:p:=by
 go_enter Tryz.func163,Tryz.ntmps163;go_wp2_with fail;go_ret
 exact⟨aE (by rw[HR.out];decide),hb⟩):p:=h
theorem QM{p:Prop}(h:p:=by
 go_wp2_with fail;go_ret
 exact⟨aE SY,hb⟩):p:=h
def gF(x:Xp)(op n:Int)(s m:bA)(vn va:Value)(w:World):Prop:=Calls Tryz.prog 163 #[nE op n s m vn va] w fun e w'=>e=.returned (.bool (gE x))/\Below w.heap.size w w'
theorem leaf_0(n:Int)(s m:bA)(names:List bA)(args:List Xp)(a1:Option Addr)(n1 c1:Nat)(a2:Option Addr)(c2:Nat)(w:World)(hg:iF w)(hs:s.size<=8000)(hm:m.size<=8000):gF (.mk 0 n s m names args) 0 n s m (.slice a1 n1 c1) (.slice a2 args.length c2) w:=by
 unfold gF;have hb:=aB w (aN 0 n s m a1 n1 c1 a2 args.length c2);have HR:Hid (gE (.mk 0 n s m names args)=(decide (0<=n)&&decide (n<=1099511627776))):=zh rfl;clear hg;by_cases h1:0<=n
 ·by_cases h2:n<=1099511627776
  ·rw[decide_eq_true h1,decide_eq_true h2] at HR;go_enter Tryz.func163,Tryz.ntmps163;exact QM
  rw[decide_eq_true h1,decide_eq_false h2] at HR;go_enter Tryz.func163,Tryz.ntmps163;exact QM
 rw[decide_eq_false h1] at HR;go_enter Tryz.func163,Tryz.ntmps163;exact QM
theorem leaf_1(n:Int)(s m:bA)(names:List bA)(args:List Xp)(a1:Option Addr)(n1 c1:Nat)(a2:Option Addr)(c2:Nat)(w:World)(hg:iF w)(hs:s.size<=8000)(hm:m.size<=8000):gF (.mk 1 n s m names args) 1 n s m (.slice a1 n1 c1) (.slice a2 args.length c2) w:=by
 unfold gF;have hb:=aB w (aN 1 n s m a1 n1 c1 a2 args.length c2);have HR:Hid (gE (.mk 1 n s m names args)=(decide (n=0)||decide (n=1))):=zh rfl;clear hg;by_cases h0:n=0
 ·subst h0;exact P2
 have g0:(n==0)=false:=by rw[beq_eq_false_iff_ne];exact h0
 by_cases h1:n=1
 ·subst h1;exact P2
 have g1:(n==1)=false:=by rw[beq_eq_false_iff_ne];exact h1
 go_enter Tryz.func163,Tryz.ntmps163;go_wp2_with fail;go_ret;exact⟨aE (by rw[HR.out];simp[h0,h1]),hb⟩
theorem leaf_16(n:Int)(s m:bA)(names:List bA)(args:List Xp)(a1:Option Addr)(n1 c1:Nat)(a2:Option Addr)(c2:Nat)(w:World)(hg:iF w)(hs:s.size<=8000)(hm:m.size<=8000):gF (.mk 16 n s m names args) 16 n s m (.slice a1 n1 c1) (.slice a2 args.length c2) w:=by
 unfold gF;have hb:=aB w (aN 16 n s m a1 n1 c1 a2 args.length c2);have HR:Hid (gE (.mk 16 n s m names args)=(decide (n=1)||decide (n=2)||decide (n=4)||decide (n=8))):=zh rfl;clear hg;by_cases h1:n=1
 ·subst h1;exact P2
 have g1:(n==1)=false:=by rw[beq_eq_false_iff_ne];exact h1
 by_cases h2:n=2
 ·subst h2;exact P2
 have g2:(n==2)=false:=by rw[beq_eq_false_iff_ne];exact h2
 by_cases h4:n=4
 ·subst h4;exact P2
 have g4:(n==4)=false:=by rw[beq_eq_false_iff_ne];exact h4
 by_cases h8:n=8
 ·subst h8;exact P2
 have g8:(n==8)=false:=by rw[beq_eq_false_iff_ne];exact h8
 go_enter Tryz.func163,Tryz.ntmps163;go_wp2_with fail;go_ret;exact⟨aE (by rw[HR.out];simp[h1,h2,h4,h8]),hb⟩
theorem pB(op:Int)(ho:op=2\/op=17\/op=18\/op=14\/op=12)(n:Int)(s m:bA)(names:List bA)(args:List Xp)(a1:Option Addr)(n1 c1:Nat)(a2:Option Addr)(c2:Nat)(w:World)(hg:iF w)(hs:s.size<=8000)(hm:m.size<=8000):gF (.mk op n s m names args) op n s m (.slice a1 n1 c1) (.slice a2 args.length c2) w:=by
 unfold gF;have hb:=aB w (aN op n s m a1 n1 c1 a2 args.length c2);have HR:Hid (gE (.mk op n s m names args)=aM s):=zh (by rcases ho with rfl|rfl|rfl|rfl|rfl<;>rfl);have HS:=zh (iX s _ RY (hg.later hb));generalize aM s=r at *;clear hg;rcases ho with rfl|rfl|rfl|rfl|rfl
 all_goals
  go_enter Tryz.func163,Tryz.ntmps163;go_wp2_with(go_at_call 17;refine HS.out.mono ?_;rintro e w2 ⟨rfl,rfl⟩);go_ret;exact⟨aE (by rw[HR.out]),hb⟩
theorem leaf_15(n:Int)(s m:bA)(names:List bA)(args:List Xp)(a1:Option Addr)(n1 c1:Nat)(a2:Option Addr)(c2:Nat)(w:World)(hg:iF w)(hs:s.size<=8000)(hm:m.size<=8000):gF (.mk 15 n s m names args) 15 n s m (.slice a1 n1 c1) (.slice a2 args.length c2) w:=by
 unfold gF;have hb:=aB w (aN 15 n s m a1 n1 c1 a2 args.length c2);have HR:Hid (gE (.mk 15 n s m names args)=(aM s&&(decide (m=noB)||aM m)&&decide (args.length<=6))):=zh rfl;have HS:=zh (iX s _ RY (hg.later hb));have HM:=zh (iX m _ RY (hg.later hb));clear hg;have HL:Hid (decide ((args.length:Int)<=6)=decide (args.length<=6)):=zh SP
 cases yU:aM s with
 |false=>
  rw[yU] at HS HR;clear HM yU;go_enter Tryz.func163,Tryz.ntmps163;go_wp2_with fail;go_at_call 17;refine HS.out.mono ?_;rintro e w2 ⟨rfl,rfl⟩;exact QM
 |true=>
  rw[yU] at HS HR;clear yU;by_cases yE:m=noB
  ·subst yE;clear HM;go_enter Tryz.func163,Tryz.ntmps163;go_wp2_with fail;go_at_call 17;refine HS.out.mono ?_;rintro e w2 ⟨rfl,rfl⟩;go_wp2_with fail;go_ret;exact⟨aE (by rw[HR.out];rw[<-HL.out];rfl),hb⟩
  have CW:(m.toList==[])=false:=by rw[beq_eq_false_iff_ne];intro e;exact yE (lV e)
  rw[decide_eq_false yE] at HR;clear yE
  cases hmn:aM m with
  |false=>
   rw[hmn] at HM HR;clear hmn;go_enter Tryz.func163,Tryz.ntmps163;go_wp2_with fail;go_at_call 17;refine HS.out.mono ?_;rintro e w2 ⟨rfl,rfl⟩;go_wp2_with fail;go_at_call 17;refine HM.out.mono ?_;rintro e w3 ⟨rfl,rfl⟩;exact QM
  |true=>
   rw[hmn] at HM HR;clear hmn;go_enter Tryz.func163,Tryz.ntmps163;go_wp2_with fail;go_at_call 17;refine HS.out.mono ?_;rintro e w2 ⟨rfl,rfl⟩;go_wp2_with fail;go_at_call 17;refine HM.out.mono ?_;rintro e w3 ⟨rfl,rfl⟩;go_wp2_with fail;go_ret;exact⟨aE (by rw[HR.out];rw[<-HL.out];rfl),hb⟩
theorem jX(op:Int)(ho:op=3\/op=4\/op=5\/op=6\/op=7\/op=8\/op=9\/op=10\/op=11)(n:Int)(s m:bA)(names:List bA)(args:List Xp)(a1:Option Addr)(n1 c1:Nat)(a2:Option Addr)(c2:Nat)(w:World)(hg:iF w)(hs:s.size<=8000)(hm:m.size<=8000):gF (.mk op n s m names args) op n s m (.slice a1 n1 c1) (.slice a2 args.length c2) w:=by
 unfold gF;have hb:=aB w (aN op n s m a1 n1 c1 a2 args.length c2);have HR:Hid (gE (.mk op n s m names args)=true):=zh (by rcases ho with rfl|rfl|rfl|rfl|rfl|rfl|rfl|rfl|rfl<;>rfl);clear hg;rcases ho with rfl|rfl|rfl|rfl|rfl|rfl|rfl|rfl|rfl
 all_goals
  go_enter Tryz.func163,Tryz.ntmps163;go_wp2_with fail;go_ret;exact⟨aE (by rw[HR.out]),hb⟩
theorem P9{p:Prop}(h:p:=by
 refine zq 19 (.bool true) rfl ?_;refine zq 20 (.bool true) rfl ?_;refine zu 21 rfl ?_;refine zu 22 rfl ?_;refine zu 23 rfl ?_;refine zu 24 rfl ?_;refine zu 25 rfl ?_;refine zu 26 rfl ?_;refine zq 27 (.bool true) rfl ?_;try simp only[zn]
 refine wpAnyH_done RZ ?_ _;go_wp2_with fail;go_ret
 exact⟨aE SU,aA HB.out (aA (aB _ _) (aF _))⟩):p:=h
theorem QE{p:Prop}(h:p:=by
 go_enter Tryz.func94,Tryz.ntmps94;go_wp2_with fail;go_ret
 exact⟨aE SU,aB _ _⟩):p:=h
theorem QQ{p:Prop}(h:p:=by
 go_enter Tryz.func94,Tryz.ntmps94;go_wp2_with fail;go_loop [39] (fun i=>i=.int .i64 0) (fun _=>0)
 case atStart=>rfl
 case round=>
  subst hrel;go_wp2_with fail;go_ret
  exact⟨aE (by rw[HT.out]),aB _ _⟩):p:=h
theorem RB{p:Prop}(h:p:=by
 have HF:Hid (aR (d+1) (.mk kind fs)=false):=zh (by rw[wR.out];rfl);clear wR;go_wp2_with fail;go_ret
 exact⟨aE SU,sM.out⟩):p:=h
theorem fieldsOk_at{p:Ty->Bool}{fs:List Fld}{q:Nat}{nm:bA}{t:Ty}(hx:fs[q]? =some (nm,t))(before:Option bA):eQ p before (fs.drop q)=(aM nm&&(match before with|none=>true|some b=>gtB nm b)&&p t&&eQ p (some nm) (fs.drop (q+1))):=by
 obtain⟨hk,he⟩:=Yb.1 hx;rw[List.drop_eq_getElem_cons hk,he];rfl
def nB(fs:List Fld)(q:Nat):Option bA:=if q=0 then none else(fs[q-1]?).map (·.1)
theorem nQ(t:TypeId)(a b:bA)(w:World):(binOp .leq t (.string a) (.string b)).run Tryz.prog w=.ok (.bool (!gtB a b)) w:=by
 simp[binOp,Op.stringOp,gtB]
def RightTyAt(d:Nat):Prop:=∀(t:Ty)(N:Nat->Prop)(k:Int)(vf:Value)(w:World),d<=100->iF w->gB N w t [.int .i64 k,vf]->
  Calls Tryz.prog 94 #[.agg #[.int .i64 k,vf],.int .i64 (d:Int)] w fun e w'=>e=.returned (.bool (aR d t))/\Below w.heap.size w w'
theorem rightType_zero:RightTyAt 0:=by
  intro t N k vf w _ hg he
  cases t with
  |mk kind fs=>
   have HR:Hid (aR 0 (.mk kind fs)=false):=zh rfl;obtain⟨a,n,c,rfl⟩:=encT_slice he;clear he hg;go_enter Tryz.func94,Tryz.ntmps94;go_wp2_with fail;go_ret;exact⟨aE (by rw[HR.out]),aB _ _⟩
theorem rightType_step(d:Nat)(IH:RightTyAt d):RightTyAt (d+1):=by
  rintro⟨kind,fs⟩ N k' vf w hd hg he;have BC:=he;rw[fE] at he;obtain⟨vf',hv,hr⟩:=he;cases hv;have OG:=zh (fun t N k vf w h2 h3=>IH t N k vf w RY h2 h3);have HG:=zh (fun W(hb:Below w.heap.size w W)=>hg.later hb);have HE0:=zh BC;have vL:((d+1:Nat):Int)=(d:Int)+1:=RY;rw[vL];have hd0:((d:Int)+1==0)=false:=SA;have hd1:(d:Int)<=100:=RY;have HR:Hid (aR (d+1) (.mk kind fs)=(decide (0<=kind)&&decide (kind<3)&&decide (fs.length<=8)&&(decide (kind=2)||decide (fs.length=0))&&eQ (aR d) none fs)):=zh rfl;clear vL hg BC
  have wC:Hid (¬(0<=kind/\kind<3/\fs.length<=8/\(kind=2\/fs.length=0))->aR (d+1) (.mk kind fs)=false):=zh (fun h=>by
   rw[HR.out]
   cases hb:(decide (0<=kind)&&decide (kind<3)&&decide (fs.length<=8)&&(decide (kind=2)||decide (fs.length=0))&&eQ (aR d) none fs) with
   |false=>rfl
   |true=>
    simp only[Bool.and_eq_true,Bool.or_eq_true,decide_eq_true_eq] at hb
    exact absurd ⟨hb.1.1.1.1,hb.1.1.1.2,hb.1.1.2,hb.1.2⟩ h)
  obtain⟨a,c,rfl,hlc⟩:∃a c,vf=.slice a fs.length c/\fs.length<=c:=by obtain⟨a,c,h1,h2,-⟩:=hr;exact⟨a,c,h1,h2⟩
  have LA:fs.length<=9223372036854775807:=by obtain⟨_,_,_,h1,h2,-⟩:=hr;omega
  by_cases g1:0<=kind
  ·have g1':¬kind<0:=RY;by_cases g2:kind<3
   ·have g2':¬3<=kind:=RY;by_cases g3:fs.length<=8
    ·have g3':¬(8:Int)<(fs.length:Int):=RY;by_cases g4:kind=2\/fs.length=0
     ·have sL:Hid (aR (d+1) (.mk kind fs)=eQ (aR d) none fs):=zh (by rw[HR.out,decide_eq_true g1,decide_eq_true g2,decide_eq_true g3];rcases g4 with h|h<;>simp[h]);have hrc:=hr.cases R0;clear wC HR;rcases hrc with⟨rfl,a',c',hv⟩|⟨b,o,c',hv,h0,h1,h2,hb,hN,hc⟩
      ·have HT:Hid (aR (d+1) (.mk kind [])=true):=zh sL.out;clear sL hv hr hlc LA g4 g3 g3';by_cases g5:kind=2
       ·(have h5:(kind != 2)=false:=by rw[bne_eq_false_iff_eq];exact g5);clear g5;exact QQ
       (have h5:(kind != 2)=true:=by rw[bne_iff_ne];exact g5);exact QQ
      cases hv;(have hk:kind=2:=by rcases g4 with h|h;(exact h);omega);(have h5:(kind != 2)=false:=by rw[bne_eq_false_iff_eq];exact hk);have HC:=zh hc;have OU:=zh (bY w (hO kind (some ⟨b,o,none⟩) fs.length c));clear hc hr g4 hk;go_enter Tryz.func94,Tryz.ntmps94;go_wp2_with fail;(go_loopw [39] (fun iv wr=>∃q:Nat,q<=fs.length/\iv=.int .i64 (q:Int)/\Hid (Below (w.alloc (hO kind (some ⟨b,o,none⟩) fs.length c)).heap.size (w.alloc (hO kind (some ⟨b,o,none⟩) fs.length c)) wr)/\Hid (aR (d+1) (.mk kind fs)=eQ (aR d) (nB fs q) (fs.drop q))) (fun iv _=>fs.length-(intOf iv).toNat));case atStart=>exact⟨0,Nat.zero_le _,rfl,zh (Below.refl _ _),sL⟩
      case round=>
       obtain⟨q,hq,rfl,qL,qI⟩:=hrel;(rename World=>wr);have HB:=zh (aA (aB w (hO kind (some ⟨b,o,none⟩) fs.length c)) qL.out);by_cases qA:q<fs.length
       ·obtain⟨x,hx,-⟩:=getElem?_of_lt qA;obtain⟨cs,⟨ct,rfl,hn,sT⟩,-,hj⟩:=HC.out q x hx;obtain⟨nm,ty⟩:=x
        cases ty with
        |mk k2 f2=>
         have wK:=sT;rw[fE] at wK;obtain⟨vf2,rfl,yV⟩:=wK;obtain⟨a2,c2,rfl,-⟩:=yV;generalize f2.length=n2 at *;have p0:wr.cell? ⟨b,o+q*3,none⟩=some (.string nm):=aD HB.out (hj 0 _ rfl);have p1:=aD HB.out (hj 1 _ rfl);have p2:=aD HB.out (hj 2 _ rfl);have HL:=zh (fun W(h:Below w.heap.size w W)=>OG.out (.mk k2 f2) N k2 _ W (HG.out W h) (dM _ _ _ _ _ _ (aQ.later h) sT));have uR:=zh (qI.out.trans (fieldsOk_at hx (nB fs q)));(have hpv:nB fs (q+1)=some nm:=by unfold nB;rw[if_neg RY,Nat.add_sub_cancel,hx];rfl);rw[<-hpv] at uR;have sV:nm.size<=8000:=hn;clear hj hpv sT hn;generalize aR d (.mk k2 f2)=r0 at HL uR;go_wp2_with fail;obtain⟨q0,q1,q2,-⟩:=bxT3 (bY wr (cA nm k2 a2 n2 c2));obtain⟨t0,t1,-⟩:=bxT2 (aC (aA qL.out (aB wr (cA nm k2 a2 n2 c2))) OU.out)
         cases yU:aM nm with
         |false=>
          have HF:Hid (aR (d+1) (.mk kind fs)=false):=zh (by rw[uR.out,yU];rfl);clear uR qI;refine wp_region_held_drew (S:=(fun W=>Below (wr.alloc (cA nm k2 a2 n2 c2)).heap.size (wr.alloc (cA nm k2 a2 n2 c2)) W)) RZ (aF _) fun hS=>?_;refine zq 0 (.pointer (some ⟨wr.heap.size,0,none⟩)) rfl ?_;refine zt 1 (.string nm) rfl (fun W hW=>R4) ?_;(try simp only[zn]);refine zr 2 rfl (fun K hK=>?_);(try simp only[z1,z2,z3]);go_simp;refine(iX nm (wr.alloc (cA nm k2 a2 n2 c2)).drew RY (HG.out _ (aA HB.out (aA (aB _ _) (aF _))))).mono ?_;rintro e w5 ⟨rfl,rfl⟩;rw[yU];refine hK.out _ _ hS (fun hS=>?_);clear hK K;refine zq 3 (.bool true) rfl ?_;refine zq 4 (.bool true) rfl ?_;refine zu 5 rfl ?_;refine zu 6 rfl ?_;refine zu 7 rfl ?_;refine zu 8 rfl ?_;refine zu 9 rfl ?_;refine zu 10 rfl ?_;refine zu 11 rfl ?_;refine zu 12 rfl ?_;refine zu 13 rfl ?_;refine zu 14 rfl ?_;refine zu 15 rfl ?_;refine zu 16 rfl ?_;refine zu 17 rfl ?_;refine zu 18 rfl ?_;exact P9
         |true=>
          by_cases tS:q=0
          ·subst tS;have wR:Hid (aR (d+1) (.mk kind fs)=(r0&&eQ (aR d) (nB fs (0+1)) (fs.drop (0+1)))):=zh (by rw[uR.out,yU];simp[nB]);clear uR qI;refine wp_region_held_drew (S:=(fun W=>Below (wr.alloc (cA nm k2 a2 n2 c2)).heap.size (wr.alloc (cA nm k2 a2 n2 c2)) W)) RZ (aF _) fun hS=>?_;refine zq 0 (.pointer (some ⟨wr.heap.size,0,none⟩)) rfl ?_;refine zt 1 (.string nm) rfl (fun W hW=>R4) ?_;(try simp only[zn]);refine zr 2 rfl (fun K hK=>?_);(try simp only[z1,z2,z3]);go_simp;refine(iX nm (wr.alloc (cA nm k2 a2 n2 c2)).drew RY (HG.out _ (aA HB.out (aA (aB _ _) (aF _))))).mono ?_;rintro e w5 ⟨rfl,rfl⟩;rw[yU];refine hK.out _ _ hS (fun hS=>?_);clear hK K;refine zq 3 (.bool false) rfl ?_;refine zq 4 (.bool false) rfl ?_;refine zq 5 (.int .i64 0) rfl ?_;refine zq 6 (.bool false) rfl ?_;refine zq 7 (.bool false) rfl ?_;refine zu 8 rfl ?_;refine zu 9 rfl ?_;refine zu 10 rfl ?_;refine zu 11 rfl ?_;refine zu 12 rfl ?_;refine zu 13 rfl ?_;refine zu 14 rfl ?_;refine zu 15 rfl ?_;refine zu 16 rfl ?_;refine zu 17 rfl ?_;refine zq 18 (.bool false) rfl ?_;refine zq 19 (.bool false) rfl ?_;refine zq 20 (.bool false) rfl ?_;refine zq 21 (.pointer (some ⟨wr.heap.size,1,none⟩)) rfl ?_;refine zt 22 (.agg #[.int .i64 k2,.slice a2 n2 c2]) rfl (fun W hW=>R4) ?_;refine zq 23 (.int .i64 ((d:Int)+1)) rfl ?_;refine zt 24 (.int .i64 (d:Int)) rfl (fun W hW=>UK) ?_;(try simp only[zn]);refine zr 25 rfl (fun K hK=>?_);(try simp only[z1,z2,z3]);go_simp;refine(HL.out _ (aA HB.out (aA (aB _ _) (aF _)))).mono ?_;rintro e w6 ⟨rfl,qZ⟩;have NC:Below (wr.alloc (cA nm k2 a2 n2 c2)).heap.size (wr.alloc (cA nm k2 a2 n2 c2)) w6:=aA (aF _) qZ;refine hK.out _ _ NC (fun hS=>?_);clear hK K;refine zq 26 (.bool (!r0)) rfl ?_;refine zq 27 (.bool (!r0)) rfl ?_;(try simp only[zn]);refine wpAnyH_done RZ ?_ _;have uB:=zh (aA qL.out (aA (aB wr (cA nm k2 a2 n2 c2)) NC));have sM:=zh (aA (aB w (hO kind (some ⟨b,o,none⟩) fs.length c)) uB.out)
           cases r0 with
           |false=>
            exact RB
           |true=>
            have L0:Hid (aR (d+1) (.mk kind fs)=eQ (aR d) (nB fs (0+1)) (fs.drop (0+1))):=zh (by rw[wR.out];rfl);clear wR hS NC qZ HL q0 q1 q2 t0 t1 p0 p1 p2;go_wp2_with fail;go_roundw;(case rel=>exact⟨0+1,RY,SK,uB,L0⟩);case measure=>simp[intOf];omega
          have zF:0<q:=RY;obtain⟨y,hy,-⟩:=getElem?_of_lt (l:=fs) (k:=q-1) RY;obtain⟨cs',⟨ct',rfl,yW,het'⟩,-,hj'⟩:=HC.out (q-1) y hy;obtain⟨pn,ty'⟩:=y;have hp0:(wr.alloc (cA nm k2 a2 n2 c2)).cell? ⟨b,o+(q-1)*3,none⟩=some (.string pn):=aD (aA HB.out (aB _ _)) (by have h:=hj' 0 _ rfl;simpa using h);(have hpv:nB fs q=some pn:=by unfold nB;rw[if_neg tS,hy];rfl);rw[hpv] at uR;clear hj' het' yW hpv
          cases yG:gtB nm pn with
          |false=>
           (have FV:∀W,(binOp .leq 9 (.string nm) (.string pn)).run Tryz.prog W=.ok (.bool true) W:=fun W=>by rw[nQ,yG];rfl);have HF:Hid (aR (d+1) (.mk kind fs)=false):=zh U4;clear uR qI;refine wp_region_held_drew (S:=(fun W=>Below (wr.alloc (cA nm k2 a2 n2 c2)).heap.size (wr.alloc (cA nm k2 a2 n2 c2)) W)) RZ (aF _) fun hS=>?_;refine zq 0 (.pointer (some ⟨wr.heap.size,0,none⟩)) rfl ?_;refine zt 1 (.string nm) rfl (fun W hW=>R4) ?_;(try simp only[zn]);refine zr 2 rfl (fun K hK=>?_);(try simp only[z1,z2,z3]);go_simp;refine(iX nm (wr.alloc (cA nm k2 a2 n2 c2)).drew RY (HG.out _ (aA HB.out (aA (aB _ _) (aF _))))).mono ?_;rintro e w5 ⟨rfl,rfl⟩;rw[yU];refine hK.out _ _ hS (fun hS=>?_);clear hK K;refine zq 3 (.bool false) rfl ?_;refine zq 4 (.bool false) rfl ?_;refine zq 5 (.int .i64 (q:Int)) rfl ?_;refine zq 6 (.bool true) rfl ?_;refine zq 7 (.bool true) rfl ?_;refine zq 8 (.pointer (some ⟨wr.heap.size,0,none⟩)) rfl ?_;refine zt 9 (.string nm) rfl (fun W hW=>R4) ?_;refine zq 10 (.pointer (some ⟨w.heap.size,1,none⟩)) rfl ?_;refine zt 11 (.slice (some ⟨b,o,none⟩) fs.length c) rfl (fun W hW=>R4) ?_;refine zq 12 (.int .i64 (q:Int)) rfl ?_;refine zt 13 (.int .i64 ((q:Int)-1)) rfl (fun W hW=>UH) ?_;refine zt 14 (.pointer (some ⟨b,o+(q-1)*3,none⟩)) rfl (fun W hW=>TB) ?_;refine zq 15 (.pointer (some ⟨b,o+(q-1)*3,none⟩)) rfl ?_;refine zt 16 (.string pn) rfl (fun W hW=>TU) ?_;refine zt 17 (.bool true) rfl (fun W hW=>by have zS:=FV W;go_simp) ?_;refine zq 18 (.bool true) rfl ?_;exact P9
          |true=>
           (have FV:∀W,(binOp .leq 9 (.string nm) (.string pn)).run Tryz.prog W=.ok (.bool false) W:=fun W=>by rw[nQ,yG];rfl);have wR:Hid (aR (d+1) (.mk kind fs)=(r0&&eQ (aR d) (nB fs (q+1)) (fs.drop (q+1)))):=zh U4;clear uR qI;refine wp_region_held_drew (S:=(fun W=>Below (wr.alloc (cA nm k2 a2 n2 c2)).heap.size (wr.alloc (cA nm k2 a2 n2 c2)) W)) RZ (aF _) fun hS=>?_;refine zq 0 (.pointer (some ⟨wr.heap.size,0,none⟩)) rfl ?_;refine zt 1 (.string nm) rfl (fun W hW=>R4) ?_;(try simp only[zn]);refine zr 2 rfl (fun K hK=>?_);(try simp only[z1,z2,z3]);go_simp;refine(iX nm (wr.alloc (cA nm k2 a2 n2 c2)).drew RY (HG.out _ (aA HB.out (aA (aB _ _) (aF _))))).mono ?_;rintro e w5 ⟨rfl,rfl⟩;rw[yU];refine hK.out _ _ hS (fun hS=>?_);clear hK K;refine zq 3 (.bool false) rfl ?_;refine zq 4 (.bool false) rfl ?_;refine zq 5 (.int .i64 (q:Int)) rfl ?_;refine zq 6 (.bool true) rfl ?_;refine zq 7 (.bool true) rfl ?_;refine zq 8 (.pointer (some ⟨wr.heap.size,0,none⟩)) rfl ?_;refine zt 9 (.string nm) rfl (fun W hW=>R4) ?_;refine zq 10 (.pointer (some ⟨w.heap.size,1,none⟩)) rfl ?_;refine zt 11 (.slice (some ⟨b,o,none⟩) fs.length c) rfl (fun W hW=>R4) ?_;refine zq 12 (.int .i64 (q:Int)) rfl ?_;refine zt 13 (.int .i64 ((q:Int)-1)) rfl (fun W hW=>UH) ?_;refine zt 14 (.pointer (some ⟨b,o+(q-1)*3,none⟩)) rfl (fun W hW=>TB) ?_;refine zq 15 (.pointer (some ⟨b,o+(q-1)*3,none⟩)) rfl ?_;refine zt 16 (.string pn) rfl (fun W hW=>TU) ?_;refine zt 17 (.bool false) rfl (fun W hW=>by have zS:=FV W;go_simp) ?_;refine zq 18 (.bool false) rfl ?_;refine zq 19 (.bool false) rfl ?_;refine zq 20 (.bool false) rfl ?_;refine zq 21 (.pointer (some ⟨wr.heap.size,1,none⟩)) rfl ?_;refine zt 22 (.agg #[.int .i64 k2,.slice a2 n2 c2]) rfl (fun W hW=>R4) ?_;refine zq 23 (.int .i64 ((d:Int)+1)) rfl ?_;refine zt 24 (.int .i64 (d:Int)) rfl (fun W hW=>UK) ?_;(try simp only[zn]);refine zr 25 rfl (fun K hK=>?_);(try simp only[z1,z2,z3]);go_simp;refine(HL.out _ (aA HB.out (aA (aB _ _) (aF _)))).mono ?_;rintro e w6 ⟨rfl,qZ⟩;have NC:Below (wr.alloc (cA nm k2 a2 n2 c2)).heap.size (wr.alloc (cA nm k2 a2 n2 c2)) w6:=aA (aF _) qZ;refine hK.out _ _ NC (fun hS=>?_);clear hK K;refine zq 26 (.bool (!r0)) rfl ?_;refine zq 27 (.bool (!r0)) rfl ?_;(try simp only[zn]);refine wpAnyH_done RZ ?_ _;have uB:=zh (aA qL.out (aA (aB wr (cA nm k2 a2 n2 c2)) NC));have sM:=zh (aA (aB w (hO kind (some ⟨b,o,none⟩) fs.length c)) uB.out)
           cases r0 with
           |false=>
            exact RB
           |true=>
            have L0:Hid (aR (d+1) (.mk kind fs)=eQ (aR d) (nB fs (q+1)) (fs.drop (q+1))):=zh (by rw[wR.out];rfl);clear wR hS NC qZ HL q0 q1 q2 t0 t1 p0 p1 p2;go_wp2_with fail;go_roundw;(case rel=>exact⟨q+1,RY,SK,uB,L0⟩);case measure=>simp[intOf];omega
       have tT:q=fs.length:=RY;have HT:Hid (aR (d+1) (.mk kind fs)=true):=zh U0;go_wp2_with fail;go_ret;exact⟨aE (by rw[HT.out]),HB.out⟩
     have h4:¬kind=2:=fun e=>g4 (.inl e);(have LN:(kind != 2)=true:=by rw[bne_iff_ne];exact h4);(have h5:(0:Int)<(fs.length:Int):=by have:¬fs.length=0:=fun e=>g4 (.inr e);omega);have HF:=zh (wC.out (fun h=>g4 h.2.2.2));clear wC g4;exact QE
    have g3':(8:Int)<(fs.length:Int):=RY;have HF:=zh (wC.out (fun h=>g3 h.2.2.1));clear wC;exact QE
   have g2':3<=kind:=RY;have HF:=zh (wC.out (fun h=>g2 h.2.1));clear wC;exact QE
  have g1':kind<0:=RY;have HF:=zh (wC.out (fun h=>g1 h.1));clear wC;exact QE
theorem nX:∀(d:Nat)(t:Ty)(N:Nat->Prop)(k:Int)(vf:Value)(w:World),d<=100->iF w->gB N w t [.int .i64 k,vf]->
  Calls Tryz.prog 94 #[.agg #[.int .i64 k,vf],.int .i64 (d:Int)] w fun e w'=>e=.returned (.bool (aR d t))/\Below w.heap.size w w':=fun d=>by
 induction d with
 |zero=>exact rightType_zero
 |succ d ih=>exact rightType_step d ih
theorem Q3{p:Prop}(h:p:=by
 clear uR qI;go_wp2_with(go_at_call 17;refine(iY x wr hzx (HG.out _ HB.out)).mono ?_;rintro e w5 ⟨rfl,rfl⟩;rw[yU]);go_ret
 exact⟨aE SU,HB.out⟩):p:=h
theorem iY(s:bA)(w:World)(hs:s.size<=140737488355328)(hg:iF w):
  Calls Tryz.prog 17 #[.string s] w fun e w'=>e=.returned (.bool (aM s))/\w=w':=by
 exact PT
theorem namesOk_at{l:List bA}{q:Nat}{x:bA}(hx:l[q]? =some x)(before:Option bA):dJ before (l.drop q)=(aM x&&(match before with|none=>true|some b=>gtB x b)&&dJ (some x) (l.drop (q+1))):=by
 obtain⟨hk,he⟩:=Yb.1 hx;rw[List.drop_eq_getElem_cons hk,he];rfl
def prevS(l:List bA)(q:Nat):Option bA:=if q=0 then none else l[q-1]?
theorem leaf_13(n:Int)(s m:bA)(names:List bA)(args:List Xp)(N:Nat->Prop)(vn:Value)(a2:Option Addr)(n2 c2:Nat)(w:World)(hg:iF w)(hr:aO 1 iD N w vn names):gF (.mk 13 n s m names args) 13 n s m vn (.slice a2 n2 c2) w:=by
 unfold gF;have HG:=zh (fun W(hb:Below w.heap.size w W)=>hg.later hb);have HR:Hid (gE (.mk 13 n s m names args)=(dJ none names&&decide (names.length<=8))):=zh rfl;have HD:Hid (decide ((names.length:Int)<=8)=decide (names.length<=8)):=zh SP;clear hg;have LA:names.length<=9223372036854775807:=by obtain⟨_,_,_,h1,h2,-⟩:=hr;omega
 rcases hr.cases R0 with⟨rfl,a,c,rfl⟩|⟨b,o,c,rfl,h0,h1,h2,hb,hN,hc⟩
 ·clear hr;go_enter Tryz.func163,Tryz.ntmps163;go_wp2_with fail;go_loop [82] (fun i=>i=.int .i64 0) (fun _=>0)
  case atStart=>rfl
  case round=>
   subst hrel;go_wp2_with fail;go_ret;exact⟨aE SY,aB _ _⟩
 have HC:=zh hc;have OU:=zh (bY w (aN 13 n s m (some ⟨b,o,none⟩) names.length c a2 n2 c2));clear hc hr;go_enter Tryz.func163,Tryz.ntmps163;go_wp2_with fail;go_loopw [82] (fun iv wr=>∃q:Nat,q<=names.length/\iv=.int .i64 (q:Int)/\Hid (Below (w.alloc (aN 13 n s m (some ⟨b,o,none⟩) names.length c a2 n2 c2)).heap.size (w.alloc (aN 13 n s m (some ⟨b,o,none⟩) names.length c a2 n2 c2)) wr)/\Hid (gE (.mk 13 n s m names args)=(dJ (prevS names q) (names.drop q)&&decide (names.length<=8)))) (fun iv _=>names.length-(intOf iv).toNat)
 case atStart=>exact⟨0,Nat.zero_le _,rfl,zh (Below.refl _ _),HR⟩
 case round=>
  obtain⟨q,hq,rfl,qL,qI⟩:=hrel;rename World=>wr
  have HB:=zh (aA (aB w (aN 13 n s m (some ⟨b,o,none⟩) names.length c a2 n2 c2)) qL.out);obtain⟨⟨t0,t1,t2,t3,t4,t5⟩,-⟩:=bx6 (aC qL.out OU.out);by_cases qA:q<names.length
  ·obtain⟨x,hx,tM⟩:=getElem?_of_lt qA;obtain⟨cs,⟨rfl,hzx⟩,-,hj⟩:=HC.out q x hx;have p0:wr.cell? ⟨b,o+q,none⟩=some (.string x):=aD HB.out TN;have uR:=zh (qI.out.trans (congrArg (fun z=>z&&decide (names.length<=8)) (namesOk_at hx (prevS names q))));(have hpv:prevS names (q+1)=some x:=by unfold prevS;rw[if_neg RY,Nat.add_sub_cancel,hx]);rw[<-hpv] at uR;clear hj hpv tM
   cases yU:aM x with
   |false=>
    have HF:Hid (gE (.mk 13 n s m names args)=false):=zh (by rw[uR.out,yU];rfl);exact Q3
   |true=>
    by_cases tS:q=0
    ·subst tS;(have CB:wr.cell? ⟨b,o,none⟩=some (.string x):=by simpa using p0);have wR:Hid (gE (.mk 13 n s m names args)=(dJ (prevS names (0+1)) (names.drop (0+1))&&decide (names.length<=8))):=zh (by rw[uR.out,yU];simp[prevS]);clear uR qI;go_wp2_with(go_at_call 17;refine(iY x wr hzx (HG.out _ HB.out)).mono ?_;rintro e w5 ⟨rfl,rfl⟩;rw[yU]);go_roundw;(case rel=>exact⟨0+1,RY,SK,qL,wR⟩);case measure=>simp[intOf];omega
    have zF:0<q:=RY;obtain⟨y,hy,-⟩:=getElem?_of_lt (l:=names) (k:=q-1) RY;obtain⟨cs',⟨rfl,-⟩,-,hj'⟩:=HC.out (q-1) y hy;have hp0:wr.cell? ⟨b,o+(q-1),none⟩=some (.string y):=aD HB.out (by have h:=hj' 0 _ rfl;simpa using h);(have hpv:prevS names q=some y:=by unfold prevS;rw[if_neg tS,hy]);rw[hpv] at uR;clear hj' hpv;have xS:(0:Int)<(q:Int):=RY;have LE:(0:Int)<=(q:Int)-1:=RY;have LD:(q:Int)-1<(names.length:Int):=RY;have hi3:((q:Int)-1).toNat=q-1:=RY;have hi4:¬(q:Int)<1:=RY
    cases yG:gtB x y with
    |false=>
     (have FV:∀W,(binOp .leq 9 (.string x) (.string y)).run Tryz.prog W=.ok (.bool true) W:=fun W=>by rw[nQ,yG];rfl);have HF:Hid (gE (.mk 13 n s m names args)=false):=zh U4;exact Q3
    |true=>
     (have FV:∀W,(binOp .leq 9 (.string x) (.string y)).run Tryz.prog W=.ok (.bool false) W:=fun W=>by rw[nQ,yG];rfl);have wR:Hid (gE (.mk 13 n s m names args)=(dJ (prevS names (q+1)) (names.drop (q+1))&&decide (names.length<=8))):=zh U4;clear uR qI;go_wp2_with(go_at_call 17;refine(iY x wr hzx (HG.out _ HB.out)).mono ?_;rintro e w5 ⟨rfl,rfl⟩;rw[yU]);go_roundw;(case rel=>exact⟨q+1,RY,SK,qL,wR⟩);case measure=>simp[intOf];omega
  have tT:q=names.length:=RY;have HT:Hid (gE (.mk 13 n s m names args)=decide (names.length<=8)):=zh U0;exact RD
def cleanN(op n:Int):Int:=if op=0\/op=1\/op=16 then n else 0
def cleanS(op:Int)(s:bA):bA:=if op=2\/op=17\/op=18\/op=14\/op=12\/op=15 then s else noB
def cleanM(op:Int)(m:bA):bA:=if op=15 then m else noB
def cleanC(op:Int)(k:Nat):Int:=if op=0\/op=1\/op=2\/op=17 then 0 else if op=18\/op=14\/op=16\/op=10 then 1 else if op=11 then 3 else if op=13 then k else if op=15 then -1 else 2
theorem clean_all(op n:Int)(s m:bA)(a1:Option Addr)(n1 c1:Nat)(a2:Option Addr)(n2 c2:Nat)(w:World)(h0:0<=op)(h1:op<19):
  Calls Tryz.prog 162 #[dW op n s m a1 n1 c1 a2 n2 c2] w fun e w'=>e=.returned (.tuple #[.agg #[.int .i64 op,.int .i64 (cleanN op n),.string (cleanS op s),.string (cleanM op m),if op=13 then .slice a1 n1 c1 else .slice none 0 0,.slice a2 n2 c2],.int .i64 (cleanC op n1)])/\Below w.heap.size w w':=by
 obtain⟨V,HV⟩:∃V,Hid (V=Value.tuple #[.agg #[.int .i64 op,.int .i64 (cleanN op n),.string (cleanS op s),.string (cleanM op m),if op=13 then .slice a1 n1 c1 else .slice none 0 0,.slice a2 n2 c2],.int .i64 (cleanC op n1)]):=⟨_,zh rfl⟩;rw[<-HV.out];have hc:(op=0\/op=1\/op=2\/op=3\/op=4\/op=5\/op=6\/op=7\/op=8\/op=9\/op=10\/op=11\/op=12\/op=14\/op=16\/op=17\/op=18)\/op=13\/op=15:=RY;clear h0 h1;rcases hc with(rfl|rfl|rfl|rfl|rfl|rfl|rfl|rfl|rfl|rfl|rfl|rfl|rfl|rfl|rfl|rfl|rfl)|rfl|rfl
 all_goals
  go_enter Tryz.func162,Tryz.ntmps162;go_wp2_with fail;try go_region
  all_goals try go_wp2_with fail
  all_goals refine bodyPost_ret (v:=V) (by rw[HV.out];simp[results,Tryz.results162,go_sem,cleanN,cleanS,cleanM,cleanC,noB]) rfl ⟨rfl,?_⟩
  all_goals repeat(first|exact Below.refl _ _|refine Below.drew ?_|refine Below.alloc ?_ (by simp<;>omega) _|refine Below.setCell ?_ (by simp<;>omega) _)
end Go.Proofs.YtiionicikdnnpaaGreatDoor
