/- Texts of this seat, joined. -/
import Derived.Test.YtiionicikdnnpaaGreatDoorCAJ
import Derived.Test.YtiionicikdnnpaaGreatDoorCAI
set_option maxHeartbeats 32000000
set_option maxRecDepth 100000
set_option linter.unusedVariables false
set_option linter.unusedSimpArgs false
namespace Go.Proofs.YtiionicikdnnpaaGreatDoor
open Go.RowKit
theorem XJ{p:Prop}(h:p:=by
 rw[L8.out] at h2;go_roundw;case rel=>exact⟨q+1,v2,YM,YZ,zh h2,zh (uT.out.trans rV),zh (rV.blk tX.out.2 tX.out.1)⟩
 case measure=>simp[intOf];omega):p:=h
theorem XL{p:Prop}(h:p:=by
 go_wp2_with(go_at_call 67;refine(fS cF CB.out F6.out).mono ?_;rintro e w5 ⟨v5,rfl,h5,sQ⟩);go_end0
 exact⟨_,rfl,by rw[<-HE.out];exact h5,uH.out.trans sQ⟩):p:=h
theorem grouped_call{d:Nat}(HX:rL d)(s m:bA)(args:List Xp){B wb:Nat}{st:WSt}{v vn va:Value}{w:World}(hra:∀x∈args,aJ d x=true)(h:WrS B wb st v w)(hf:eE st (aG (.mk 15 0 s m [] args)))
  (he:bN (cE wb v) w (.mk 15 0 s m [] args) [.int .i64 15,.int .i64 0,.string s,.string m,vn,va]):
  Calls Tryz.prog 198 #[.pointer (some ⟨wb,0,none⟩),kP 15 0 s m vn va] w (WrP B wb v w (.tuple #[]) (st.put (aG (.mk 15 0 s m [] args)))):=by
 rw[wd_call] at hf ⊢;have HRA:=zh hra;rw[aU] at he;obtain⟨vn',va',e,-,-,hn,rT⟩:=he;cases e;have sJ:=rT;obtain⟨a1,c1,wP,-⟩:=hn.at;obtain rfl:_=Value.slice a1 0 c1:=wP;obtain⟨a2,c2,wW,A3,yI,tL⟩:=rT.at;obtain rfl:_=Value.slice a2 args.length c2:=wW;have hb:=aA w (aN 15 0 s m a1 0 c1 a2 args.length c2);have sN:=zh (Ext.below wb v hb);have HC:=zh (h.later hb);have HB:Hid ((w.alloc (aN 15 0 s m a1 0 c1 a2 args.length c2)).heap[w.heap.size]? =some (aN 15 0 s m a1 0 c1 a2 args.length c2)/\cE wb v w.heap.size):=zh ⟨bY w _,h.new (Nat.le_refl _)⟩;have vP:=zh (dE aI YO sJ sN.out);have xB:=zh HX;obtain⟨⟨r0,r1,r2,r3,r4,r5⟩,-⟩:=bx6 HB.out.1;by_cases sM:m=noB
 ·rw[if_neg (by rw[sM];exact fun h=>h rfl),List.nil_append] at hf ⊢;have AK:(m.toList==[])=true:=by rw[sM,toList_nil (s:=⟨#[]⟩) rfl];rfl
  obtain⟨f1,f2⟩:=hf.cons;obtain⟨f3,f4⟩:=f2.cons;obtain⟨f5,f6⟩:=f4.app;have F1:=zh f1;have F3:=zh f3;have F5:=zh f5;have F6:=zh f6;have HE:Hid (((((st.put [s]).put [aX]).put (aM (args.map aG))).put [cF])=st.put ([s]++aX::(aM (args.map aG)++[cF]))):=zh (by rw[cG,cG,cG];simp);generalize st.put ([s]++aX::(aM (args.map aG)++[cF]))=sE at *;clear f1 f2 f3 f4 f5 f6 hf hra sM h hn rT tL sJ hb HX;go_enter Tryz.func198,Tryz.ntmps198;go_wp2_with fail;go_at_call 67;refine(fS s HC.out F1.out).mono ?_;rintro e w2 ⟨v2,rfl,h2,rV⟩;have uU:=zh h2;have sL:=zh (sN.out.trans rV);have rZ:=zh (rV.blk HB.out.2 HB.out.1);have EZ:=zh (dE aI YO vP.out rV);clear h2 rV r0 r1 r2 r3 r4 r5;obtain⟨⟨r0,r1,r2,r3,r4,r5⟩,-⟩:=bx6 rZ.out.1;go_wp2_with fail;go_at_call 67;refine(fS aX uU.out F3.out).mono ?_;rintro e w3 ⟨v3,rfl,h3,rW⟩;have xJ:=zh h3;have uT:=zh (sL.out.trans rW);have tX:=zh (rW.blk rZ.out.2 rZ.out.1);have MI:=zh (dE aI YO EZ.out rW);obtain⟨⟨r0,r1,r2,r3,r4,r5⟩,-⟩:=bx6 tX.out.1;clear h3 rW;go_wp2_with(go_at_call 73;refine(exps_any xB.out args HRA.out xJ.out F5.out MI.out).mono ?_;rintro e w4 ⟨v4,rfl,h4,sI⟩;have CB:=zh h4;have uH:=zh (uT.out.trans sI);clear h4 sI);exact XL
 rw[if_pos sM] at hf ⊢;have AK:(m.toList==[])=false:=YY;obtain⟨f0,fr⟩:=hf.app;obtain⟨f1,f2⟩:=fr.cons;obtain⟨f3,f4⟩:=f2.cons;obtain⟨f5,f6⟩:=f4.app;have F0:=zh f0;have F1:=zh f1;have F3:=zh f3;have F5:=zh f5;have F6:=zh f6;have HE:Hid ((((((st.put [m,mH]).put [s]).put [aX]).put (aM (args.map aG))).put [cF])=st.put ([m,mH]++([s]++aX::(aM (args.map aG)++[cF])))):=zh (by rw[cG,cG,cG,cG];simp);generalize st.put ([m,mH]++([s]++aX::(aM (args.map aG)++[cF])))=sE at *;clear f0 fr f1 f2 f3 f4 f5 f6 hf hra sM h hn rT tL sJ hb HX;go_enter Tryz.func198,Tryz.ntmps198;go_wp2_with fail;go_at_call 67;refine(wput2 m mH HC.out F0.out).mono ?_;rintro e w2 ⟨v2,rfl,h2,rV⟩;have uU:=zh h2;have sL:=zh (sN.out.trans rV);have rZ:=zh (rV.blk HB.out.2 HB.out.1);have EZ:=zh (dE aI YO vP.out rV);clear h2 rV r0 r1 r2 r3 r4 r5;obtain⟨⟨r0,r1,r2,r3,r4,r5⟩,-⟩:=bx6 rZ.out.1;clear AK;go_wp2_with fail;go_at_call 67;refine(fS s uU.out F1.out).mono ?_;rintro e w6 ⟨v6,rfl,h6,uX⟩;have KC:=zh h6;have GH:=zh (sL.out.trans uX);have yX:=zh (uX.blk rZ.out.2 rZ.out.1);have HRow6:=zh (dE aI YO EZ.out uX);clear h6 uX r0 r1 r2 r3 r4 r5;obtain⟨⟨r0,r1,r2,r3,r4,r5⟩,-⟩:=bx6 yX.out.1;go_wp2_with fail;go_at_call 67;refine(fS aX KC.out F3.out).mono ?_;rintro e w7 ⟨v7,rfl,h7,tJ⟩;have HC7:=zh h7;have ID:=zh (GH.out.trans tJ);have BN:=zh (tJ.blk yX.out.2 yX.out.1);have HRow7:=zh (dE aI YO HRow6.out tJ);obtain⟨⟨r0,r1,r2,r3,r4,r5⟩,-⟩:=bx6 BN.out.1;clear h7 tJ;go_wp2_with(go_at_call 73;refine(exps_any xB.out args HRA.out HC7.out F5.out HRow7.out).mono ?_;rintro e w8 ⟨v8,rfl,h8,uD⟩;have KB:=zh h8;have FG:=zh (ID.out.trans uD);clear h8 uD);go_wp2_with(go_at_call 67;refine(fS cF KB.out F6.out).mono ?_;rintro e w9 ⟨v9,rfl,h9,CU⟩);go_end0;exact⟨_,rfl,by rw[<-HE.out];exact h9,FG.out.trans CU⟩
def actT(n:Int)(q:Nat):List bA:=((cR.take q).filter fun w=>decide (w.2=n)).map (·.1)
theorem act_next{n:Int}{q:Nat}{t:bA}(ht:bF[q]? =some t):actT n (q+1)=actT n q++(if bR t=n then[t] else[]):=by
 have hq:q<4:=(Yb.1 ht).1
 have h:cR[q]? =some (t,bR t):=by
  match q,hq,ht with
  |0,_,ht=>cases ht;rfl
  |1,_,ht=>cases ht;rfl
  |2,_,ht=>cases ht;rfl
  |3,_,ht=>cases ht;rfl
 unfold actT;rw[List.take_add_one,h,Option.toList_some,List.filter_append,List.map_append];congr 1;by_cases hb:bR t=n<;>simp[hb]
theorem act_put{st:WSt}{n:Int}{q:Nat}{t:bA}(ht:bF[q]? =some t):st.put (actT n (q+1))=(st.put (actT n q)).put (if bR t=n then[t] else[]):=by
 rw[cG,act_next ht]
theorem actT_len(n:Int)(q:Nat):∃z,actT n 4=actT n q++z:=by
 refine⟨((cR.drop q).filter fun w=>decide (w.2=n)).map (·.1),?_⟩;unfold actT;rw[<-List.map_append,<-List.filter_append,List.take_append_drop];rfl
theorem grouped_act{d:Nat}(HX:rL d)(n:Int)(a:Xp)(w0:bA){B wb:Nat}{st:WSt}{v vn va:Value}{w:World}(DK:(cR.filter fun w=>decide (w.2=n)).map (·.1)=[w0])(ha:aJ d a=true)(h:WrS B wb st v w)(hf:eE st (aG (.mk 16 n noB noB [] [a])))
  (he:bN (cE wb v) w (.mk 16 n noB noB [] [a]) [.int .i64 16,.int .i64 n,.string noB,.string noB,vn,va]):
  Calls Tryz.prog 198 #[.pointer (some ⟨wb,0,none⟩),kP 16 n noB noB vn va] w (WrP B wb v w (.tuple #[]) (st.put (aG (.mk 16 n noB noB [] [a])))):=by
 rw[wd_act n a DK] at hf ⊢;have HRA:Hid (∀x∈[a],aJ d x=true):=zh (by intro x hx;rw[List.mem_singleton.1 hx];exact ha);rw[aU] at he;obtain⟨vn',va',e,-,-,hn,rT⟩:=he;cases e;have sJ:=rT;obtain⟨a1,c1,wP,-⟩:=hn.at;obtain rfl:_=Value.slice a1 0 c1:=wP;obtain⟨a2,c2,wW,A3,yI,tL⟩:=rT.at;obtain rfl:_=Value.slice a2 1 c2:=wW;have hb:=aA w (aN 16 n noB noB a1 0 c1 a2 1 c2);have sN:=zh (Ext.below wb v hb);have HC:=zh (h.later hb);have HB:Hid ((w.alloc (aN 16 n noB noB a1 0 c1 a2 1 c2)).heap[w.heap.size]? =some (aN 16 n noB noB a1 0 c1 a2 1 c2)/\cE wb v w.heap.size):=zh ⟨bY w _,h.new (Nat.le_refl _)⟩;have vP:=zh (dE aI YO sJ sN.out);have xB:=zh HX;obtain⟨⟨r0,r1,r2,r3,r4,r5⟩,-⟩:=bx6 HB.out.1;have h4:actT n 4=[w0]:=DK;have xL:eE st (actT n 4++([aX]++(aM ([a].map aG)++[cF]))):=by rw[h4];exact hf
 obtain⟨f0,fr⟩:=xL.app;obtain⟨f3,f4⟩:=fr.app;obtain⟨f5,f6⟩:=f4.app;have F0:=zh f0;have F3:=zh f3;have F5:=zh f5;have F6:=zh f6;have HE:Hid ((((st.put (actT n 4)).put [aX]).put (aM ([a].map aG))).put [cF]=st.put (w0::aX::(aG a++[cF]))):=zh (by rw[cG,cG,cG,h4];simp[aM]);have M1:=zh (fieldsEff _ HC.out.glob.spc);clear f0 fr f3 f4 f5 f6 hf xL h4 DK ha h hn rT tL sJ hb HX;go_enter Tryz.func198,Tryz.ntmps198;go_wp2_with(go_at_call 153;refine M1.out.mono ?_;rintro e w9 ⟨rfl,rfl⟩);have EF:=aA (w.alloc (aN 16 n noB noB a1 0 c1 a2 1 c2)) (.cells (bF.map Value.string).toArray 9);have JK:=bY (w.alloc (aN 16 n noB noB a1 0 c1 a2 1 c2)) (.cells (bF.map Value.string).toArray 9);rw[show(w.alloc (aN 16 n noB noB a1 0 c1 a2 1 c2)).heap.size=w.heap.size+1 by simp] at JK;have HW:=zh JK;have NZ:=zh EF;clear JK EF r0 r1 r2 r3 r4 r5 M1;go_loopw [55] (fun iv wr=>∃(q:Nat)(v':Value),q<=4/\iv=.int .i64 (q:Int)/\Hid (WrS B wb (st.put (actT n q)) v' wr)/\Hid (Ext wb v w v' wr)/\Hid (wr.heap[w.heap.size]? =some (aN 16 n noB noB a1 0 c1 a2 1 c2)/\cE wb v' w.heap.size)/\Hid (wr.heap[w.heap.size+1]? =some (.cells (bF.map Value.string).toArray 9)/\cE wb v' (w.heap.size+1))/\Hid (aO 6 bN (cE wb v') wr (.slice a2 1 c2) [a])) (fun iv _=>4-(intOf iv).toNat)
 case atStart=>
  exact⟨0,v,YM,rfl,zh aBr,zh (sN.out.trans (Ext.below wb v NZ.out)),zh ⟨aH NZ.out HB.out.1,HB.out.2⟩,zh ⟨HW.out,HC.out.new YR⟩,zh (dE aI YO vP.out (Ext.below wb v NZ.out))⟩
 case round=>
  clear HB HW NZ HC sN vP;obtain⟨q,v1,hq,rfl,HC,JT,HB,HW,vP⟩:=hrel;rename World=>wr
  by_cases rU:q<4
  ·obtain⟨t,ht,-⟩:=getElem?_of_lt (l:=bF) (k:=q) rU;have p0:wr.cell? ⟨w.heap.size+1,q,none⟩=some (.string t):=(bx HW.out.1 q (by rw[List.getElem?_toArray,List.getElem?_map,ht];rfl)).1;have HT:=zh (act_put (st:=st) (n:=n) ht)
   have sX:eE (st.put (actT n q)) (if bR t=n then[t] else[]):=by
    obtain⟨z,hz⟩:=actT_len n (q+1);have h1:=F0.out;rw[hz] at h1;have h2:=h1.app.1;have h4:=act_next (n:=n) ht;rw[h4] at h2;exact h2.app.2
   generalize st.put (actT n q)=s1 at *;have D1:(q:Int)<4:=YM;have wI:(0:Int)<=(q:Int):=YM;obtain⟨⟨r0,r1,r2,r3,r4,r5⟩,-⟩:=bx6 HB.out.1;by_cases JE:bR t=n
   ·rw[if_pos JE] at sX HT;have JS:=zh sX;(have LO:(bR t==n)=true:=by rw[beq_iff_eq];exact JE);clear sX JE ht;go_wp2_with fail;refine wp_region_held_drew (S:=fun W=>Below wr.heap.size wr W) YN (aE wr) fun hS=>?_;refine zq 0 (.string t) rfl ?_;refine zq 2 (.pointer (some ⟨w.heap.size,1,none⟩)) rfl ?_;refine zt 3 (.int .i64 n) rfl (fun W hW=>by have q1:=aD hW r1;go_simp) ?_;(try simp only[zn]);refine zr 1 rfl (fun K hK=>?_);(try simp only[z1,z2,z3]);go_simp;refine(jN t _ (HC.out.glob.later (aE wr)).spc).mono ?_;rintro e w8 ⟨rfl,A4⟩;have uI:=aC (aE wr) A4;refine hK.out _ _ uI (fun hS=>?_);clear hK K;(try simp only[zn]);generalize bR t=bt at *;refine zq 4 (.bool true) rfl ?_;(try simp only[zn]);refine wpAnyH_done YN ?_ _;have FG:=zh (JT.out.trans (Ext.below wb v1 uI));have zM:=zh (Ext.blk (Ext.below wb v1 uI) HB.out.2 HB.out.1);have PM:=zh (Ext.blk (Ext.below wb v1 uI) HW.out.2 HW.out.1);have MH:=zh (dE aI YO vP.out (Ext.below wb v1 uI));have KB:=zh (HC.out.later uI);clear hS uI A4 r0 r1 r2 r3 r4 r5 p0;obtain⟨⟨y0,y1,y2,y3,y4,y5⟩,-⟩:=bx6 zM.out.1;go_wp2_with(go_at_call 67;refine(fS t KB.out JS.out).mono ?_;rintro e w2 ⟨v2,rfl,h2,rV⟩);rw[<-HT.out] at h2;go_roundw;(case rel=>exact⟨q+1,v2,YM,YZ,zh h2,zh (FG.out.trans rV),zh (rV.blk zM.out.2 zM.out.1),zh (rV.blk PM.out.2 PM.out.1),zh (dE aI YO MH.out rV)⟩);case measure=>simp[intOf];omega
   rw[if_neg JE] at sX HT;rw[kC] at HT;(have LO:(bR t==n)=false:=by rw[beq_eq_false_iff_ne];exact JE);clear sX JE ht;go_wp2_with fail;refine wp_region_held_drew (S:=fun W=>Below wr.heap.size wr W) YN (aE wr) fun hS=>?_;refine zq 0 (.string t) rfl ?_;refine zq 2 (.pointer (some ⟨w.heap.size,1,none⟩)) rfl ?_;refine zt 3 (.int .i64 n) rfl (fun W hW=>by have q1:=aD hW r1;go_simp) ?_;(try simp only[zn]);refine zr 1 rfl (fun K hK=>?_);(try simp only[z1,z2,z3]);go_simp;refine(jN t _ (HC.out.glob.later (aE wr)).spc).mono ?_;rintro e w8 ⟨rfl,A4⟩;have uI:=aC (aE wr) A4;refine hK.out _ _ uI (fun hS=>?_);clear hK K;(try simp only[zn]);generalize bR t=bt at *;refine zq 4 (.bool false) rfl ?_;(try simp only[zn]);refine wpAnyH_done YN ?_ _;have FG:=zh (JT.out.trans (Ext.below wb v1 uI));have zM:=zh (Ext.blk (Ext.below wb v1 uI) HB.out.2 HB.out.1);have PM:=zh (Ext.blk (Ext.below wb v1 uI) HW.out.2 HW.out.1);have MH:=zh (dE aI YO vP.out (Ext.below wb v1 uI));have KB:=zh (HC.out.later uI);clear hS uI A4 r0 r1 r2 r3 r4 r5 p0;obtain⟨⟨y0,y1,y2,y3,y4,y5⟩,-⟩:=bx6 zM.out.1;go_wp2_with fail;rw[<-HT.out] at KB;go_roundw;(case rel=>exact⟨q+1,v1,YM,YZ,KB,FG,zM,PM,MH⟩);case measure=>simp[intOf];omega
  have wK:q=4:=YM;subst wK;obtain⟨⟨r0,r1,r2,r3,r4,r5⟩,-⟩:=bx6 HB.out.1;go_wp2_with fail;go_wp2_with fail;go_at_call 67;refine(fS aX HC.out F3.out).mono ?_;rintro e w3 ⟨v3,rfl,h3,rW⟩;have xJ:=zh h3;have uT:=zh (JT.out.trans rW);have tX:=zh (rW.blk HB.out.2 HB.out.1);have MI:=zh (dE aI YO vP.out rW);obtain⟨⟨r0,r1,r2,r3,r4,r5⟩,-⟩:=bx6 tX.out.1;clear h3 rW;go_wp2_with(go_at_call 73;refine(exps_any xB.out [a] HRA.out xJ.out F5.out MI.out).mono ?_;rintro e w4 ⟨v4,rfl,h4,sI⟩;have CB:=zh h4;have uH:=zh (uT.out.trans sI);clear h4 sI);exact XL
theorem recT_at:∀(names:List bA)(args:List Xp)(q:Nat)(s:bA)(x:Xp),names[q]? =some s->args[q]? =some x->(kO names (eC args))[q]? =some (s::kEq::aG x)
 |[],_,q,s,x,h,_=>Z0
 |_::_,[],q,s,x,_,h=>Z0
 |n::ns,y::ys,0,s,x,h1,h2=>by simp at h1 h2;subst h1;subst h2;rw[eC,kO];rfl
 |n::ns,y::ys,q+1,s,x,h1,h2=>by rw[eC,kO];simpa using recT_at ns ys q s x (by simpa using h1) (by simpa using h2)
theorem recT_len:∀(names:List bA)(args:List Xp),names.length=args.length->(kO names (eC args)).length=names.length
 |[],_,_=>by simp[kO]
 |_::_,[],h=>Z0
 |n::ns,y::ys,h=>by rw[eC,kO,List.length_cons,List.length_cons,recT_len ns ys ZS]
theorem grouped_rec{d:Nat}(HX:rL d)(names:List bA)(args:List Xp){B wb:Nat}{st:WSt}{v vn va:Value}{w:World}(hlen:names.length=args.length)(hra:∀x∈args,aJ d x=true)(h:WrS B wb st v w)(hf:eE st (aG (.mk 13 0 noB noB names args)))
  (he:bN (cE wb v) w (.mk 13 0 noB noB names args) [.int .i64 13,.int .i64 0,.string noB,.string noB,vn,va]):
  Calls Tryz.prog 198 #[.pointer (some ⟨wb,0,none⟩),kP 13 0 noB noB vn va] w (WrP B wb v w (.tuple #[]) (st.put (aG (.mk 13 0 noB noB names args)))):=by
 rw[wd_rec] at hf ⊢;have HRA:=zh hra;rw[aU] at he;obtain⟨vn',va',e,-,-,hn,rT⟩:=he;cases e;have sJ:=rT;have hnr:=hn;obtain⟨a1,c1,wP,DM,OO,hna⟩:=hn.at;obtain rfl:_=Value.slice a1 names.length c1:=wP;obtain⟨a2,c2,wW,A3,yI,tL⟩:=rT.at;obtain rfl:_=Value.slice a2 args.length c2:=wW;have hb:=aA w (aN 13 0 noB noB a1 names.length c1 a2 args.length c2);have sN:=zh (Ext.below wb v hb);have HC:=zh (h.later hb);have HB:Hid ((w.alloc (aN 13 0 noB noB a1 names.length c1 a2 args.length c2)).heap[w.heap.size]? =some (aN 13 0 noB noB a1 names.length c1 a2 args.length c2)/\cE wb v w.heap.size):=zh ⟨bY w _,h.new (Nat.le_refl _)⟩;have vP:=zh (dE aI YO sJ sN.out);have xB:=zh HX;obtain⟨⟨r0,r1,r2,r3,r4,r5⟩,-⟩:=bx6 HB.out.1;obtain⟨f1,RV⟩:=hf.cons;obtain⟨f2,f3⟩:=RV.app;have F1:=zh f1;have F2:=zh f2;have F3:=zh f3;have HE:Hid (((st.put [bH]).put (aM (kO names (eC args)))).put [dH]=st.put (bH::(aM (kO names (eC args))++[dH]))):=zh (by rw[cG,cG];rfl);have HRL:=zh (recT_len names args hlen);have HRT:=zh (recT_at names args);have HNa:=zh hna;have HGa:=zh tL;have HLe:=zh hlen;have Q6:(args.length:Int)=(names.length:Int):=YM;generalize kO names (eC args)=RT at *;generalize LB:names.length=ln at *;generalize AC:args.length=la at *;have HLN:=zh LB;have HLA:=zh AC;have hll:la=ln:=YM;have HLL:=zh hll;clear f1 RV f2 f3 hf hra h hn hnr rT tL hna sJ hb HX hlen LB AC Q6 hll vP;go_enter Tryz.func198,Tryz.ntmps198;go_wp2_with(go_at_call 67;refine(fS bH HC.out F1.out).mono ?_;rintro e w2 ⟨v2,rfl,h2,rV⟩;have uU:=zh h2;have sL:=zh (sN.out.trans rV);have rZ:=zh (rV.blk HB.out.2 HB.out.1);clear h2 rV r0 r1 r2 r3 r4 r5;obtain⟨⟨r0,r1,r2,r3,r4,r5⟩,-⟩:=bx6 rZ.out.1);clear r0 r1 r2 r3 r4 r5;clear HB HC sN;go_loopw [17] (fun iv wr=>∃(q:Nat)(v':Value),q<=ln/\iv=.int .i64 (q:Int)/\Hid (WrS B wb ((st.put [bH]).put (aM (RT.take q))) v' wr)/\Hid (Ext wb v w v' wr)/\Hid (wr.heap[w.heap.size]? =some (aN 13 0 noB noB a1 ln c1 a2 la c2)/\cE wb v' w.heap.size)) (fun iv _=>ln-(intOf iv).toNat)
 case atStart=>
  exact⟨0,v2,YM,rfl,zh (by show WrS B wb ((st.put [bH]).put []) v2 _;rw[kC];exact uU.out),sL,rZ⟩
 case round=>
  clear rZ uU sL;obtain⟨q,v1,hq,rfl,HC,JT,HB⟩:=hrel;rename World=>wr
  by_cases rU:q<ln
  ·obtain⟨s,hs,-⟩:=getElem?_of_lt (l:=names) (k:=q) (by rw[HLN.out];exact rU);obtain⟨x,hx,tD⟩:=getElem?_of_lt (l:=args) (k:=q) (by have:=HLA.out;have:=HLL.out;omega);obtain⟨bn,on,rfl,wR,cs,⟨rfl,NB⟩,-,hj⟩:=HNa.out q s hs;have CF:¬inC wb v bn:=fun e=>e.elim wR.1 wR.2;have HP0:Hid (∀V W,Ext wb v w V W->W.cell? ⟨bn,on+q,none⟩=some (.string s)):=zh (fun V W hE=>by have h:=hE.off.cell CF (hj 0 _ rfl);simpa using h);(have p0:wr.cell? ⟨bn,on+q,none⟩=some (.string s):=by have h:=JT.out.off.cell CF (hj 0 _ rfl);simpa using h);obtain⟨b,o,rfl,op,n,sx,m,i1,j1,k1,i2,j2,k2,ho⟩:=op_of HGa.out hx;have HO:=zh (ho.ext JT.out);have BL:=zh (HRA.out x tD);have KR:=HRT.out q s x hs hx;have sX:=F2.out.comma KR;have HT:=zh (comma_put (st:=st.put [bH]) KR);generalize (st.put [bH]).put (aM (RT.take q))=s1 at *;(have D1:(q:Int)<(la:Int):=by have:=HLL.out;omega);have xH:(q:Int)<(ln:Int):=YM;have hq00:(0:Int)<=(q:Int):=YM;clear hs hx tD wR hj NB CF ho KR;obtain⟨⟨r0,r1,r2,r3,r4,r5⟩,-⟩:=bx6 HB.out.1;by_cases wI:q=0
   ·(have xP:sepT q=[]:=by unfold sepT;rw[if_pos wI]);rw[xP] at sX HT;rw[kC] at HT;have FK:=zh (eE.app (a:=[s,kEq]) (b:=aG x) sX);have L8:Hid ((s1.put [s,kEq]).put (bE x 0)=(st.put [bH]).put (aM (RT.take (q+1)))):=zh (by rw[HT.out,cG,jJ];rfl);have AJ:¬0<q:=YM;have BR:¬(0:Int)<(q:Int):=YM;clear wI xP sX HT;go_wp2_with(go_at_call 67;refine(wput2 s kEq HC.out FK.out.1).mono ?_;rintro e w3 ⟨v3,rfl,h3,rW⟩;have xJ:=zh h3;have uT:=zh (JT.out.trans rW);have tX:=zh (rW.blk HB.out.2 HB.out.1);have JP:=zh (HO.out.ext rW);clear h3 rW r0 r1 r2 r3 r4 r5;obtain⟨⟨r0,r1,r2,r3,r4,r5⟩,-⟩:=bx6 tX.out.1;obtain⟨y0,y1,y2,y3,y4,y5⟩:=JP.out.p);go_wp2_with(go_at_call 70;refine(xB.out x 0 0 B wb (s1.put [s,kEq]) v3 _ _ _ _ _ _ _ BL.out YM rfl xJ.out (by rw[jJ];exact FK.out.2) JP.out.enc).mono ?_;rintro e w2 ⟨v2,rfl,h2,rV⟩);exact XJ
   (have xP:sepT q=[aY]:=by unfold sepT;rw[if_neg wI]);rw[xP] at sX HT;have SA:=zh sX.app.1;have FK:=zh (eE.app (a:=[s,kEq]) (b:=aG x) sX.app.2);have L8:Hid (((s1.put [aY]).put [s,kEq]).put (bE x 0)=(st.put [bH]).put (aM (RT.take (q+1)))):=zh (by rw[HT.out,cG (s1.put [aY]),jJ];rfl);have AJ:0<q:=YM;have BR:(0:Int)<(q:Int):=YM;clear wI xP sX HT;go_wp2_with fail;go_at_call 67;refine(fS aY HC.out SA.out).mono ?_;rintro e w5 ⟨v5,rfl,h5,sQ⟩;have QE:=zh h5;have DR:=zh (JT.out.trans sQ);have CP:=zh (sQ.blk HB.out.2 HB.out.1);have uQ:=zh (HO.out.ext sQ);have FA:w5.cell? ⟨bn,on+q,none⟩=some (.string s):=HP0.out v5 w5 DR.out;clear h5 sQ r0 r1 r2 r3 r4 r5 p0;obtain⟨⟨r0,r1,r2,r3,r4,r5⟩,-⟩:=bx6 CP.out.1;go_wp2_with fail;go_at_call 67;refine(wput2 s kEq QE.out FK.out.1).mono ?_;rintro e w3 ⟨v3,rfl,h3,rW⟩;have xJ:=zh h3;have uT:=zh (DR.out.trans rW);have tX:=zh (rW.blk CP.out.2 CP.out.1);have JP:=zh (uQ.out.ext rW);clear h3 rW r0 r1 r2 r3 r4 r5;obtain⟨⟨r0,r1,r2,r3,r4,r5⟩,-⟩:=bx6 tX.out.1;obtain⟨y0,y1,y2,y3,y4,y5⟩:=JP.out.p;go_wp2_with(go_at_call 70;refine(xB.out x 0 0 B wb ((s1.put [aY]).put [s,kEq]) v3 _ _ _ _ _ _ _ BL.out YM rfl xJ.out (by rw[jJ];exact FK.out.2) JP.out.enc).mono ?_;rintro e w2 ⟨v2,rfl,h2,rV⟩);exact XJ
  have wK:q=ln:=YM;have HT:Hid (RT.take q=RT):=zh (by rw[List.take_of_length_le (by rw[HRL.out];omega)]);rw[HT.out] at HC;go_wp2_with(go_at_call 67;refine(fS dH HC.out F3.out).mono ?_;rintro e w4 ⟨v4,rfl,h4,sI⟩);go_end0;exact⟨_,rfl,by rw[<-HE.out];exact h4,JT.out.trans sI⟩
def PlSays(x:Xp)(B wb:Nat)(st:WSt)(v:Value)(op n:Int)(s m:bA)(vn va:Value)(w:World):Prop:=
 Calls Tryz.prog 152 #[.pointer (some ⟨wb,0,none⟩),kP op n s m vn va,.int .i64 ((hJ op).1:Int),.string (hJ op).2] w (WrP B wb v w (.tuple #[]) (st.put (aG x)))
theorem qD(op:Int)(ho:op=13\/op=15\/op=16)(n:Int)(s m:bA)(names:List bA)(args:List Xp){B wb:Nat}{st:WSt}{v vn va:Value}{w:World}(h:WrS B wb st v w)
  (he:bN (cE wb v) w (.mk op n s m names args) [.int .i64 op,.int .i64 n,.string s,.string m,vn,va])
  (HG:∀W,WrS B wb st v W->bN (cE wb v) W (.mk op n s m names args) [.int .i64 op,.int .i64 n,.string s,.string m,vn,va]->Calls Tryz.prog 198 #[.pointer (some ⟨wb,0,none⟩),kP op n s m vn va] W (WrP B wb v W (.tuple #[]) (st.put (aG (.mk op n s m names args))))):
  PlSays (.mk op n s m names args) B wb st v op n s m vn va w:=by
 unfold PlSays;obtain⟨⟨a1,n1,c1,rfl⟩,a2,n2,c2,rfl⟩:=hZ he;have hb:=aA w (aN op n s m a1 n1 c1 a2 n2 c2);have sN:=zh (Ext.below wb v hb);have HQ:=zh (HG _ (h.later hb) (eR he sN.out));obtain⟨⟨r0,r1,r2,r3,r4,r5⟩,-⟩:=bx6 (bY w (aN op n s m a1 n1 c1 a2 n2 c2));have hf:hJ op=(8,noB):=by rcases ho with rfl|rfl|rfl<;>rfl
 rw[hf];generalize st.put (aG (.mk op n s m names args))=s1 at *;clear HG he h hb hf;rcases ho with rfl|rfl|rfl
 all_goals
  go_enter Tryz.func152,Tryz.ntmps152;go_wp2_with(go_at_call 198;refine HQ.out.mono ?_;rintro e w2 ⟨v2,rfl,h2,rV⟩);go_end0;exact⟨_,rfl,h2,sN.out.trans rV⟩
theorem oper_max{t:bA}{op:Int}{fm:Nat}(h:(t,op,fm)∈eW):fm<=6:=by rcases lP h with h|h|h|h|h|h|h<;>omega
theorem plain_any{d:Nat}(HX:rL d)(x:Xp){B wb:Nat}{st:WSt}{v:Value}{op n:Int}{s m:bA}{vn va:Value}{w:World}(hr:aJ (d+1) x=true)(h:WrS B wb st v w)(hf:eE st (aG x))
  (he:bN (cE wb v) w x [.int .i64 op,.int .i64 n,.string s,.string m,vn,va]):PlSays x B wb st v op n s m vn va w:=by
 have hx:∃op' n' s' m' ns ys,x=.mk op' n' s' m' ns ys:=by cases x;exact⟨_,_,_,_,_,_,rfl⟩
 obtain⟨op',n',s',m',ns,ys,AB⟩:=hx
 have hp:op'=op/\n'=n/\s'=s/\m'=m:=by
  rw[AB,aU] at he;obtain⟨v1,v2,e,-⟩:=he;cases e;exact⟨rfl,rfl,rfl,rfl⟩
 obtain⟨rfl,rfl,rfl,rfl⟩:=hp
 cases shape_of hr with
 |int n h0 h1=>cases AB;exact plain_int HX _ h0 h1 h hf he
 |bool n hn=>cases AB;exact plain_bool HX _ hn h hf he
 |var s hs=>cases AB;exact plain_var HX _ h hf he
 |get s hs=>cases AB;exact plain_get HX _ h hf he
 |bin t op fm a b ht ha hb=>
  cases AB;unfold PlSays;rw[(qU ht).1];by_cases h4:fm=4
  ·exact plain_bin4 HX t op' fm a b h4 ht (oper_max ht) ha hb h hf he
  exact plain_binn HX t op' fm a b h4 ht (oper_max ht) ha hb h hf he
 |not a ha=>cases AB;exact plain_not HX a ha h hf he
 |iff a b c ha hb hc=>cases AB;exact plain_if HX a b c ha hb hc h hf he
 |lets s a b hs ha hb=>cases AB;exact plain_let HX _ a b ha hb h hf he
 |set s a hs ha=>cases AB;exact plain_set HX _ a ha h hf he
 |field s a hs ha=>cases AB;exact plain_field HX _ a ha h hf he
 |recd names args hn h8 hlen ha=>cases AB;exact qD 13 (.inl rfl) _ _ _ _ _ h he fun W hW hE=>grouped_rec HX _ _ YM ha hW hf hE
 |call s m args hs hm h6 ha=>cases AB;exact qD 15 (.inr (.inl rfl)) _ _ _ _ _ h he fun W hW hE=>grouped_call HX _ _ _ ha hW hf hE
 |act n a hn ha=>
  cases AB;have key:∀w0,(cR.filter fun w=>decide (w.2=n')).map (·.1)=[w0]->PlSays (.mk 16 n' noB noB [] [a]) B wb st v 16 n' noB noB vn va w:=fun w0 h0=>qD 16 (.inr (.inr rfl)) _ _ _ _ _ h he fun W hW hE=>grouped_act HX n' a w0 h0 ha hW hf hE;rcases hn with rfl|rfl|rfl|rfl
  ·exact key qF (by decide+kernel)
  ·exact key kNet (by decide+kernel)
  ·exact key qG (by decide+kernel)
  exact key lH (by decide+kernel)
theorem pr_zero:rL 0:=fun x form fi B wb st v op n s m vn va w h=>by cases x;simp[aJ] at h
theorem pr_step(d:Nat)(HX:rL d):rL (d+1):=by
 rintro x form _ B wb st v op n s m vn va w hr FF rfl h hf he;obtain⟨⟨a1,n1,c1,rfl⟩,a2,n2,c2,rfl⟩:=hZ he
 have rP:lG x=(hJ op).1:=by
  cases x;rw[aU] at he;obtain⟨v1,v2,e,-⟩:=he;cases e;rfl
 have hb:=aA w (aN op n s m a1 n1 c1 a2 n2 c2);have sN:=zh (Ext.below wb v hb);have HC:=zh (h.later hb);have DT:=zh (eR he sN.out);have HB:Hid ((w.alloc (aN op n s m a1 n1 c1 a2 n2 c2)).heap[w.heap.size]? =some (aN op n s m a1 n1 c1 a2 n2 c2)/\cE wb v w.heap.size):=zh ⟨bY w _,h.new (Nat.le_refl _)⟩;have FJ:=zh (fun W=>formOf_any op n s m a1 n1 c1 a2 n2 c2 W);have HPl:=zh (fun st v W(hW:WrS B wb st v W)hf he=>plain_any HX x (st:=st) (v:=v) (w:=W) (op:=op) (n:=n) (s:=s) (m:=m) (vn:=.slice a1 n1 c1) (va:=.slice a2 n2 c2) hr hW hf he);unfold PlSays at HPl;rw[bE,atForm,rP] at hf;have hT:bE x form=if(hJ op).1<form then aX::(aG x++[cF]) else aG x:=by rw[bE,atForm,rP]
 simp only at hf;generalize bE x form=tk at hT ⊢;generalize aG x=wx at *;obtain⟨⟨r0,r1,r2,r3,r4,r5⟩,-⟩:=bx6 HB.out.1;generalize hJ op=fo at *;obtain⟨own,sign⟩:=fo;simp only at *;clear he h hr rP hb HX;by_cases rU:own<form
 ·rw[if_pos rU] at hf hT;obtain⟨f1,RV⟩:=hf.cons;obtain⟨f2,f3⟩:=RV.app;have F1:=zh f1;have F2:=zh f2;have F3:=zh f3;have HE:Hid (((st.put [aX]).put wx).put [cF]=st.put tk):=zh (by rw[hT,cG,cG];rfl);have hl:(own:Int)<(form:Int):=YM;clear f1 RV f2 f3 hf hT;go_enter Tryz.func70,Tryz.ntmps70;go_wp2_with(go_at_call 151;refine(FJ.out _).mono ?_;rintro e w9 ⟨rfl,vG⟩;have HX9:=zh (sN.out.trans (Ext.below wb v vG));have HC9:=zh (HC.out.later vG);have IP:=zh (Ext.blk (Ext.below wb v vG) HB.out.2 HB.out.1);have U9:=zh (eR DT.out (Ext.below wb v vG));clear vG r0 r1 r2 r3 r4 r5;obtain⟨⟨r0,r1,r2,r3,r4,r5⟩,-⟩:=bx6 IP.out.1);go_wp2_with(go_at_call 67;refine(fS aX HC9.out F1.out).mono ?_;rintro e w2 ⟨v2,rfl,h2,rV⟩;have uU:=zh h2;have sL:=zh (HX9.out.trans rV);have rZ:=zh (rV.blk IP.out.2 IP.out.1);have M2:=zh (eR U9.out rV);clear h2 rV r0 r1 r2 r3 r4 r5;obtain⟨⟨r0,r1,r2,r3,r4,r5⟩,-⟩:=bx6 rZ.out.1);go_wp2_with(go_at_call 152;refine(HPl.out (st.put [aX]) v2 w2 uU.out F2.out M2.out).mono ?_;rintro e w3 ⟨v3,rfl,h3,rW⟩;have xJ:=zh h3;have uT:=zh (sL.out.trans rW);clear h3 rW);go_wp2_with(go_at_call 67;refine(fS cF xJ.out F3.out).mono ?_;rintro e w4 ⟨v4,rfl,h4,sI⟩);go_end0;exact⟨_,rfl,by rw[<-HE.out];exact h4,uT.out.trans sI⟩
 rw[if_neg rU] at hf hT;have F1:=zh hf;have hl:¬(own:Int)<(form:Int):=YM;have zC:(form:Int)<=(own:Int):=YM;subst hT;clear hf;go_enter Tryz.func70,Tryz.ntmps70;go_wp2_with(go_at_call 151;refine(FJ.out _).mono ?_;rintro e w9 ⟨rfl,vG⟩;have HX9:=zh (sN.out.trans (Ext.below wb v vG));have HC9:=zh (HC.out.later vG);have IP:=zh (Ext.blk (Ext.below wb v vG) HB.out.2 HB.out.1);have U9:=zh (eR DT.out (Ext.below wb v vG));clear vG r0 r1 r2 r3 r4 r5;obtain⟨⟨r0,r1,r2,r3,r4,r5⟩,-⟩:=bx6 IP.out.1);go_wp2_with(go_at_call 152;refine(HPl.out st v w9 HC9.out F1.out U9.out).mono ?_;rintro e w3 ⟨v3,rfl,h3,rW⟩);go_end0;exact⟨_,rfl,h3,HX9.out.trans rW⟩
theorem pr_all:∀d,rL d
 |0=>pr_zero
 |d+1=>pr_step d (pr_all d)
def doneV:Except Int bA->Value
 | .error x=>.tuple #[.string noB,.int .i64 x]
 | .ok s=>.tuple #[.string s,.int .i64 0]
theorem wlen_any{B wb:Nat}{st:WSt}{v:Value}{w:World}(h:WrS B wb st v w):
  Calls Tryz.prog 155 #[.pointer (some ⟨wb,0,none⟩)] w fun e w'=>e=.returned (.int .i64 (st.1.length:Int))/\w=w':=by
 obtain⟨p,hp,vE⟩:=h.box;obtain⟨a,c,rfl⟩:=h.val;obtain⟨⟨h0,h1,h2⟩,f0,-⟩:=bx3 vE;clear h vE hp;go_enter Tryz.func155,Tryz.ntmps155
 go_wp2
 go_ret;exact⟨rfl,rfl⟩
theorem wstr_any{B wb:Nat}{st:WSt}{v:Value}{w:World}(h:WrS B wb st v w)(h0:st.1≠[]):
  Calls Tryz.prog 156 #[.pointer (some ⟨wb,0,none⟩)] w fun e w'=>e=.returned (.string (bs st.1))/\Below B w w':=by
 obtain⟨l,ins⟩:=st;simp only at h h0 ⊢;have tU:l.length≠0:=by simpa using h0
 obtain⟨p,hp,vE⟩:=h.box;have rP:=h.own
 obtain⟨g,cap,cur,rfl,TN,hg,hnc,hcm,yE,QU⟩:∃g cap cur,v=.slice (some ⟨g,0,none⟩) l.length cap/\B<=g/\w.heap[g]? =some (.cells cur 5 (0,0))/\l.length<=cap/\cap<=maxLen/\cur.size=cap*1/\cur.toList.take (l.length*1)=bv l:=by
  rcases rP.2 with⟨_,hz⟩|⟨g,cap,cur,hv,r⟩
  ·exact absurd hz tU
  exact⟨g,cap,cur,hv,r⟩
 have c1:w.drew.cell? ⟨wb,1,none⟩=some (.slice (some ⟨g,0,none⟩) l.length cap):=by
  have:w.drew.heap[wb]? =some (.cells #[p,.slice (some ⟨g,0,none⟩) l.length cap,.bool ins] 102 (0,0)):=vE;rw[Lib.cell_of_heap this];rfl
 have hSD:(Builtin.unsafeSliceData_ #[98] 211 #[.slice (some ⟨g,0,none⟩) l.length cap]).run Tryz.prog w.drew=.ok (.pointer (some ⟨g,0,none⟩)) w.drew:=
  Lib.run_unsafeSliceData_row _ _ _ _ _ _ YM
 have hUS:(Builtin.unsafeString_ #[211,3] 9 #[.pointer (some ⟨g,0,none⟩),.int .i64 l.length]).run Tryz.prog w.drew=.ok (.string (bs l)) (w.drew.freeze ⟨g,0,none⟩ l.length):=by
  refine Lib.run_unsafeString_row w.drew 211 3 9 5 Tryz.underlying211 YN g cur.size (by have hg':w.drew.heap[g]? =some (.cells cur 5 (0,0)):=hg;simp[World.shape?,hg']) l h0 YM (by unfold maxLen at hcm;omega) ?_;intro j x hx;have:=rP.cells (g:=g) rfl j (.int .u8 x.toNat) (by simp[bv,hx]);exact this
 clear h vE hp rP hg yE QU h0 tU hnc hcm;go_enter Tryz.func156,Tryz.ntmps156
 go_wp2
 go_region
 all_goals(go_wp2;go_ret;exact⟨rfl,Lib.below_freeze (Below.drew (Below.refl B w)) (p:=⟨g,0,none⟩) TN _⟩)
theorem wdone_any{B wb:Nat}{st:WSt}{v:Value}{w:World}(h:WrS B wb st v w)(h0:st.1≠[]):
  Calls Tryz.prog 74 #[.pointer (some ⟨wb,0,none⟩)] w fun e w'=>e=.returned (doneV (pV (bs st.1)))/\Below B w w':=by
 have HL:=zh (wlen_any h);have HS:=zh (wstr_any h h0);have tK:(bs st.1).size=st.1.length:=by simp[bs,ByteArray.size]
 have hD:pV (bs st.1)=if 8000<st.1.length then .error 6 else .ok (bs st.1):=by unfold pV;rw[tK]
 generalize pV (bs st.1)=dn at *;generalize bs st.1=tx at *;generalize st.1.length=ln at *;have HB:=zh (Below.refl B w);clear h h0 tK;by_cases rU:8000<ln
 ·rw[if_pos rU] at hD;subst hD;have hl:(8000:Int)<(ln:Int):=YM;clear rU;go_enter Tryz.func74,Tryz.ntmps74;go_wp2_with(go_at_call 155;refine HL.out.mono ?_;rintro e w9 ⟨rfl,rfl⟩);go_ret2;exact⟨rfl,HB.out⟩
 rw[if_neg rU] at hD;subst hD;have hl:¬(8000:Int)<(ln:Int):=YM;have zC:(ln:Int)<=8000:=YM;clear rU;go_enter Tryz.func74,Tryz.ntmps74;go_wp2_with(first|(go_at_call 156;refine HS.out.mono ?_;rintro e w2 ⟨rfl,rQ⟩)|(go_at_call 155;refine HL.out.mono ?_;rintro e w9 ⟨rfl,rfl⟩));go_ret2;exact⟨rfl,rQ⟩
def selT(p:Int->Bool)(q:Nat):List bA:=((cR.take q).filter fun w=>p w.2).map (·.1)
theorem sel_put{st:WSt}{p:Int->Bool}{q:Nat}{t:bA}(ht:bF[q]? =some t):selT p (q+1)=selT p q++(if p (bR t) then[t] else[]):=by
 have hq:q<4:=(Yb.1 ht).1
 have h:cR[q]? =some (t,bR t):=by
  match q,hq,ht with
  |0,_,ht=>cases ht;rfl
  |1,_,ht=>cases ht;rfl
  |2,_,ht=>cases ht;rfl
  |3,_,ht=>cases ht;rfl
 unfold selT;rw[List.take_add_one,h,Option.toList_some,List.filter_append,List.map_append];congr 1;cases hb:p (bR t)<;>simp[hb]
theorem selT_len(p:Int->Bool)(q:Nat):∃z,selT p 4=selT p q++z:=by
 refine⟨((cR.drop q).filter fun w=>p w.2).map (·.1),?_⟩;unfold selT;rw[<-List.map_append,<-List.filter_append,List.take_append_drop];rfl
theorem wr_fresh{w:World}(hg:eJ w):WrS (w.heap.size+1) w.heap.size ([],false) (.slice none 0 0) (w.alloc (pR (.pointer none) none 0 0 false)):=
 ⟨⟨_,.inl rfl,bY w _⟩,World.ownsRow_nil _ _ _ _,Nat.lt_succ_self _,hg.big,YR,hg.later (aA _ _)⟩
theorem moves_fresh{N:Nat->Prop}{w:World}:bU N w (cE w.heap.size (.slice none 0 0)) (w.alloc (pR (.pointer none) none 0 0 false)):=fun b hb rU=>⟨⟨YM,aAo⟩,fun o v hv=>aD (aA _ _) hv⟩
theorem below_wr{w0 w w2 w3:World}{v:Value}(h:Below w0.heap.size w0 w)(hx:Ext w.heap.size (.slice none 0 0) (w.alloc (pR (.pointer none) none 0 0 false)) v w2)(hb:Below (w.heap.size+1) w2 w3):Below w0.heap.size w0 w3:=by
 have hz:=h.size
 have h1:Below w0.heap.size w0 w2:=Off.below (aC h (aA _ _)) hx.off (fun k hk=>by
  rcases hk with hk|hk
  ·omega
  simp[Value.ownBlock] at hk) Y9
 exact h1.trans (hb.mono YM)
theorem join_ne{ts:List bA}(h0:ts≠[])(h:∀t∈ts,eL t=true):lI ts≠[]:=by
 intro e;have h1:=join_size ts h0;rw[e] at h1
 cases ts with
 |nil=>exact h0 rfl
 |cons t r=>
  rw[aW] at h1;have h2:=h t YR
  have h3:t.size≠0:=fun hz=>by
   have ht:t=noB:=iN (List.eq_nil_of_length_eq_zero (by rw[<-eF];exact hz));rw[ht] at h2;revert h2;decide
  simp at h1;omega
theorem printExp_any(x:Xp)(N:Nat->Prop)(op n:Int)(s m:bA)(vn va:Value)(w:World)(hg:eJ w)(he:bN N w x [.int .i64 op,.int .i64 n,.string s,.string m,vn,va]):
  Calls Tryz.prog 25 #[kP op n s m vn va] w fun e w'=>e=.returned (doneV (printX x))/\Below w.heap.size w w':=by
 obtain⟨⟨a1,n1,c1,rfl⟩,a2,n2,c2,rfl⟩:=hZ he;have hb:=aA w (aN op n s m a1 n1 c1 a2 n2 c2);have HB:=zh hb;have HG:=zh (fun W(h:Below w.heap.size w W)=>hg.later h);have DT:=zh (fun W(h:Below w.heap.size w W)=>aI _ _ _ _ _ _ (bU.later h) he);have tB:=zh (bY w (aN op n s m a1 n1 c1 a2 n2 c2));have HR:=zh (RightExp_any mB x N op n s m _ _ _ (HG.out _ hb) (DT.out _ hb));have hP:printX x=if aJ 12 x then pV (bs (lI (aG x))) else .error 1:=rfl
 obtain⟨⟨r0,r1,r2,r3,r4,r5⟩,-⟩:=bx6 tB.out;clear hb hg he
 cases hr:aJ 12 x with
 |false=>
  rw[hr] at HR hP;rw[hP];clear hr hP;go_enter Tryz.func25,Tryz.ntmps25;go_wp2_with(go_at_call 27;refine HR.out.mono ?_;rintro e w2 ⟨rfl,rQ⟩);go_ret2;exact⟨rfl,aC HB.out rQ⟩
 |true=>
  have hz:=exp_size12 hr;have hf:eE ([],false) (bE x 0):=by unfold eE;rw[jJ];simp only[List.length_nil];omega
  have HF:=zh hf;have BL:=zh hr;have rO:lI (aG x)≠[]:=join_ne (by obtain⟨t,r,ht,-⟩:=wd_head 12 x hr;rw[ht];simp) (oP 12 x hr);have HS:Hid ((WSt.put ([],false) (bE x 0)).1=lI (aG x)):=zh (by rw[jJ];show[]++kF false (aG x)=_;rw[List.nil_append,emit_join]);have HNE:=zh rO;have HP:Hid (printX x=pV (bs (lI (aG x)))):=zh (by rw[hP,hr];rfl);rw[hr] at HR;clear hr hP hz hf rO;generalize printX x=px at *;generalize lI (aG x)=jw at *;go_enter Tryz.func25,Tryz.ntmps25;go_wp2_with(go_at_call 27;refine HR.out.mono ?_;rintro e w2 ⟨rfl,rQ⟩;have rZ:=zh (aC HB.out rQ);have HBX2:=zh (aH (aC rQ (aA w2 (pR (.pointer none) none 0 0 false))) tB.out);clear rQ r0 r1 r2 r3 r4 r5;obtain⟨⟨r0,r1,r2,r3,r4,r5⟩,-⟩:=bx6 HBX2.out);go_wp2_with(go_at_call 70;refine(pr_all 12 x 0 0 (w2.heap.size+1) w2.heap.size ([],false) (.slice none 0 0) _ _ _ _ _ _ _ BL.out YM rfl (wr_fresh (HG.out w2 rZ.out)) HF.out (aI _ _ _ _ _ _ moves_fresh (DT.out w2 rZ.out))).mono ?_;rintro e w3 ⟨v3,rfl,h3,rW⟩;have xJ:=zh h3;have uT:=zh rW;clear h3 rW);go_wp2_with fail;go_at_call 74;refine(wdone_any xJ.out (by rw[HS.out];exact HNE.out)).mono ?_;rintro e w4 ⟨he,wO⟩;rw[HS.out,<-HP.out] at he;subst he;have vQ:=zh (below_wr rZ.out uT.out wO);clear wO HP
  cases px with
  |error y=>
   unfold doneV;go_wp2_with fail;go_ret2;exact⟨rfl,vQ.out⟩
  |ok y=>
   unfold doneV;go_wp2_with fail;go_ret2;exact⟨rfl,vQ.out⟩
theorem encFn_form{N:Nat->Prop}{w:World}{f:Fnc}{cs:List Value}(h:mK N w f cs):∃(k:Int)(ap:Option Addr)(np cp:Nat)(ar:Option Addr)(nr cr:Nat)(op n:Int)(s m:bA)(a1:Option Addr)(n1 c1:Nat)(a2:Option Addr)(n2 c2:Nat),cs=[.string f.name,.bool f.pub,.slice ap np cp,.int .i64 k,.slice ar nr cr,.int .i64 f.effects,.int .i64 op,.int .i64 n,.string s,.string m,.slice a1 n1 c1,.slice a2 n2 c2]:=by
 obtain⟨vp,k,vf,op,n,s,m,vn,va,rfl,-,h3,h4,h5⟩:=h;obtain⟨ap,cp,rfl,-⟩:=h3.at;obtain⟨k',ar,nr,cr,e⟩:=encT_form h4;cases e;obtain⟨⟨a1,n1,c1,rfl⟩,a2,n2,c2,rfl⟩:=hZ h5;exact⟨k,ap,_,cp,ar,nr,cr,op,n,s,m,a1,n1,c1,a2,n2,c2,rfl⟩
theorem encFn_parts{N:Nat->Prop}{w:World}{f:Fnc}{k:Int}{vp vf vn va:Value}{op n:Int}{s m:bA}(h:mK N w f [.string f.name,.bool f.pub,vp,.int .i64 k,vf,.int .i64 f.effects,.int .i64 op,.int .i64 n,.string s,.string m,vn,va]):aO 3 gS N w vp f.params/\iY N w f.result [.int .i64 k,vf]/\bN N w f.body [.int .i64 op,.int .i64 n,.string s,.string m,vn,va]:=by
 obtain⟨vp',k',vf',op',n',s',m',vn',va',e,-,h3,h4,h5⟩:=h;cases e;exact⟨h3,h4,h5⟩
theorem line_put{st:WSt}{a b:List bA}(h:st.put a=st.put b):(st.put a).line=(st.put b).line:=by rw[h]
theorem wfunction_any(f:Fnc){B wb:Nat}{st:WSt}{v:Value}{cs:List Value}{w:World}(hr:fG f=true)(h:WrS B wb st v w)(LJ:eE st (fnT f))(K9:(st.put (fnT f)).1.length+3<=140737488355328)(he:mK (cE wb v) w f cs):
  Calls Tryz.prog 71 #[.pointer (some ⟨wb,0,none⟩),.agg cs.toArray] w (WrP B wb v w (.tuple #[]) (st.put (fnT f)).line):=by
 obtain⟨k,ap,np,cp,ar,nr,cr,op,n,s,m,a1,n1,c1,a2,n2,c2,rfl⟩:=encFn_form he;have NF:=hr;unfold fG at hr;simp only[Bool.and_eq_true] at hr;obtain⟨⟨⟨hrp,hrr⟩,hrb⟩,IU⟩:=hr;have HRP:Hid (∀x∈f.params,aR 4 x.2=true):=zh fun x hx=>(iE hrp x hx).2;have HRR:=zh hrr;have HRB:=zh hrb;have hb:=aA w (jQ f.name f.pub ap np cp k ar nr cr f.effects op n s m a1 n1 c1 a2 n2 c2);have sN:=zh (Ext.below wb v hb);have VE:=zh (h.later hb);have uJ:Hid ((w.alloc (jQ f.name f.pub ap np cp k ar nr cr f.effects op n s m a1 n1 c1 a2 n2 c2)).heap[w.heap.size]? =some (jQ f.name f.pub ap np cp k ar nr cr f.effects op n s m a1 n1 c1 a2 n2 c2)/\cE wb v w.heap.size):=zh ⟨bY w _,h.new (Nat.le_refl _)⟩;have VC:=zh (bK _ _ _ _ _ _ sN.out.moves he);have HLn:=zh K9;have hFn:fnT f=(if f.pub then[lE] else[])++([kFn,f.name,aX]++(aM (cO f.params)++([cF]++(dV f.result++((if f.effects≠0 then[jA] else[])++(selT (fun b=>decide (Go.bits .and .i64 f.effects b≠0)) 4++([kEq]++aG f.body))))))):=rfl;rw[hFn] at LJ;obtain⟨f1,g1⟩:=LJ.app;obtain⟨f2,g2⟩:=g1.app;obtain⟨f3,g3⟩:=g2.app;obtain⟨f4,g4⟩:=g3.app;obtain⟨f5,g5⟩:=g4.app;obtain⟨f6,g6⟩:=g5.app;obtain⟨f7,g7⟩:=g6.app;obtain⟨f8,f9⟩:=g7.app
 have hEnd:st.put (fnT f)=((((((((st.put (if f.pub then[lE] else[])).put [kFn,f.name,aX]).put (aM (cO f.params))).put [cF]).put (dV f.result)).put (if f.effects≠0 then[jA] else[])).put (selT (fun b=>decide (Go.bits .and .i64 f.effects b≠0)) 4)).put [kEq]).put (aG f.body):=by
  rw[hFn];simp only[cG,List.append_assoc]
 generalize st.put (fnT f)=sE at *;generalize xD:st.put (if f.pub then[lE] else[])=s1 at *;generalize OH:s1.put [kFn,f.name,aX]=s2 at *;generalize hs3:s2.put (aM (cO f.params))=s3 at *;generalize hs4:s3.put [cF]=s4 at *;generalize QW:s4.put (dV f.result)=s5 at *;generalize J0:s5.put (if f.effects≠0 then[jA] else[])=s6 at *;generalize hs7:s6.put (selT (fun b=>decide (Go.bits .and .i64 f.effects b≠0)) 4)=s7 at *;generalize hs8:s7.put [kEq]=s8 at *;have F1:=zh f1;have F2:=zh f2;have F3:=zh f3;have F4:=zh f4;have F5:=zh f5;have F6:=zh f6;have F7:=zh f7;have F8:=zh f8;have F9:=zh f9;have S1:=zh xD;have S2:=zh OH;have S3:=zh hs3;have S4:=zh hs4;have S5:=zh QW;have S6:=zh J0;have S7:=zh hs7;have S8:=zh hs8;have SE:=zh hEnd;obtain⟨⟨r0,r1,r2,r3,r4,r5,r6,r7,r8,r9,zO,zN⟩,-⟩:=iS uJ.out.1;clear f1 f2 f3 f4 f5 f6 f7 f8 f9 g1 g2 g3 g4 g5 g6 g7 xD OH hs3 hs4 QW J0 hs7 hs8 hEnd hFn K9 LJ NF hrp hrr hrb hb he h IU;obtain⟨nm,pub,params,result,effects,body⟩:=f;simp only at *;cases pub
 focus
  have HT1:Hid (s1=st):=zh (by rw[<-S1.out];exact kC st);go_enter Tryz.func71,Tryz.ntmps71;go_wp2_with(go_at_call 67;refine(wput3 kFn nm aX (show WrS B wb s1 v _ by rw[HT1.out];exact VE.out) F2.out).mono ?_;rintro e w2 ⟨v2,rfl,h2,rV⟩;have uU:=zh h2;have sL:=zh (sN.out.trans rV);have rZ:=zh (rV.blk uJ.out.2 uJ.out.1);have M2:=zh (bK _ _ _ _ _ _ rV.moves VC.out);clear h2 rV;clear r0 r1 r2 r3 r4 r5 r6 r7 r8 r9 zO zN;obtain⟨⟨r0,r1,r2,r3,r4,r5,r6,r7,r8,r9,zO,zN⟩,-⟩:=iS rZ.out.1);clear HT1
 rotate_left
 focus
  have F1':Hid (eE st [lE]):=zh F1.out;have S1':Hid (st.put [lE]=s1):=zh S1.out;go_enter Tryz.func71,Tryz.ntmps71;go_wp2_with fail;go_at_call 67;refine(fS lE VE.out F1'.out).mono ?_;rintro e w1 ⟨v1,rfl,h1,xF⟩;have zL:Hid (WrS B wb s1 v1 w1):=zh (by rw[<-S1'.out];exact h1);have A8:=zh (sN.out.trans xF);have sT:=zh (xF.blk uJ.out.2 uJ.out.1);have HEN1:=zh (bK _ _ _ _ _ _ xF.moves VC.out);clear h1 xF;clear r0 r1 r2 r3 r4 r5 r6 r7 r8 r9 zO zN;obtain⟨⟨r0,r1,r2,r3,r4,r5,r6,r7,r8,r9,zO,zN⟩,-⟩:=iS sT.out.1;clear F1' S1';go_wp2_with(go_at_call 67;refine(wput3 kFn nm aX zL.out F2.out).mono ?_;rintro e w2 ⟨v2,rfl,h2,rV⟩;have uU:=zh h2;have sL:=zh (A8.out.trans rV);have rZ:=zh (rV.blk sT.out.2 sT.out.1);have M2:=zh (bK _ _ _ _ _ _ rV.moves HEN1.out);clear h2 rV;clear r0 r1 r2 r3 r4 r5 r6 r7 r8 r9 zO zN;obtain⟨⟨r0,r1,r2,r3,r4,r5,r6,r7,r8,r9,zO,zN⟩,-⟩:=iS rZ.out.1;clear zL A8 sT HEN1)
 all_goals
  clear VE sN uJ VC;go_wp2_with(go_at_call 72;refine(wfields_any (lY 4) params HRP.out (by rw[<-S2.out] at *;exact uU.out) F3.out (encFn_parts M2.out).1).mono ?_;rintro e w3 ⟨v3,rfl,h3,rW⟩;have xJ:=zh h3;have uT:=zh (sL.out.trans rW);have tX:=zh (rW.blk rZ.out.2 rZ.out.1);have H0:=zh (bK _ _ _ _ _ _ rW.moves M2.out);clear h3 rW;clear r0 r1 r2 r3 r4 r5 r6 r7 r8 r9 zO zN;obtain⟨⟨r0,r1,r2,r3,r4,r5,r6,r7,r8,r9,zO,zN⟩,-⟩:=iS tX.out.1);go_wp2_with(go_at_call 67;refine(fS cF (by rw[<-S3.out];exact xJ.out) F4.out).mono ?_;rintro e w4 ⟨v4,rfl,h4,sI⟩;have CB:=zh h4;have uH:=zh (uT.out.trans sI);have vX:=zh (sI.blk tX.out.2 tX.out.1);have QD:=zh (bK _ _ _ _ _ _ sI.moves H0.out);clear h4 sI;clear r0 r1 r2 r3 r4 r5 r6 r7 r8 r9 zO zN;obtain⟨⟨r0,r1,r2,r3,r4,r5,r6,r7,r8,r9,zO,zN⟩,-⟩:=iS vX.out.1);go_wp2_with fail;go_at_call 69;refine(lY 4 result B wb s4 v4 _ _ _ HRR.out (by rw[<-S4.out];exact CB.out) F5.out (encFn_parts QD.out).2.1).mono ?_;rintro e w5 ⟨v5,rfl,h5,sQ⟩;have QE:=zh h5;have DR:=zh (uH.out.trans sQ);have CP:=zh (sQ.blk vX.out.2 vX.out.1);have QC:=zh (bK _ _ _ _ _ _ sQ.moves QD.out);clear h5 sQ;clear r0 r1 r2 r3 r4 r5 r6 r7 r8 r9 zO zN;obtain⟨⟨r0,r1,r2,r3,r4,r5,r6,r7,r8,r9,zO,zN⟩,-⟩:=iS CP.out.1;by_cases EE:effects=0
  focus
   have KC:Hid (WrS B wb s6 v5 w5):=zh (by rw[<-S6.out,EE,if_neg (fun h=>h rfl),kC,<-S5.out];exact QE.out);(have hz:(effects != 0)=false:=by rw[bne_eq_false_iff_eq];exact EE);clear EE;go_wp2_with fail;generalize hw6:w5=w6 at *;generalize hv6:v5=v6 at *;clear hw6 hv6;have GH:=DR;have yX:=CP;have VB:=QC;clear DR CP QC
  rotate_left
  focus
   have F6':Hid (eE s5 [jA]):=zh (by have h:=F6.out;rwa [if_pos EE] at h);have S6':Hid (s5.put [jA]=s6):=zh (by have h:=S6.out;rwa [if_pos EE] at h);(have hz:(effects != 0)=true:=by rw[bne_iff_ne];exact EE);clear EE;go_wp2_with(go_at_call 67;refine(fS jA (by rw[<-S5.out];exact QE.out) F6'.out).mono ?_;rintro e w6 ⟨v6,rfl,h6,uX⟩;have KC:Hid (WrS B wb s6 v6 w6):=zh (by rw[<-S6'.out];exact h6);have GH:=zh (DR.out.trans uX);have yX:=zh (uX.blk CP.out.2 CP.out.1);have VB:=zh (bK _ _ _ _ _ _ uX.moves QC.out);clear h6 uX QE DR CP QC F6' S6';clear r0 r1 r2 r3 r4 r5 r6 r7 r8 r9 zO zN;obtain⟨⟨r0,r1,r2,r3,r4,r5,r6,r7,r8,r9,zO,zN⟩,-⟩:=iS yX.out.1)
  all_goals
   clear hz;have M1:=zh (fieldsEff w6 KC.out.glob.spc);go_at_call 153;refine M1.out.mono ?_;rintro e w9 ⟨rfl,rfl⟩;go_wp2_with fail;have EF:=aA w6 (.cells (bF.map Value.string).toArray 9);have JK:=bY w6 (.cells (bF.map Value.string).toArray 9);have hxw:=Ext.below wb v6 EF;have HI1:=zh (KC.out.later EF);have FI:=zh (GH.out.trans hxw);have U5:=zh (Ext.blk hxw yX.out.2 yX.out.1);have U4:Hid ((w6.alloc (.cells (bF.map Value.string).toArray 9)).heap[w6.heap.size]? =some (.cells (bF.map Value.string).toArray 9)/\cE wb v6 w6.heap.size):=zh ⟨JK,KC.out.new (Nat.le_refl _)⟩;have HI5:=zh (bK _ _ _ _ _ _ hxw.moves VB.out);clear EF JK hxw M1 KC GH yX VB r0 r1 r2 r3 r4 r5 r6 r7 r8 r9 zO zN;(go_loopw [35] (fun iv wr=>∃(pb:Bool)(q:Nat)(v9:Value),q<=4/\iv=.int .i64 (q:Int)/\Hid (WrS B wb (s6.put (selT (fun b=>decide (Go.bits .and .i64 effects b≠0)) q)) v9 wr)/\Hid (Ext wb v w v9 wr)/\Hid (wr.heap[w.heap.size]? =some (jQ nm pb ap np cp k ar nr cr effects op n s m a1 n1 c1 a2 n2 c2)/\cE wb v9 w.heap.size)/\Hid (wr.heap[w6.heap.size]? =some (.cells (bF.map Value.string).toArray 9)/\cE wb v9 w6.heap.size)/\Hid (mK (cE wb v9) wr ⟨nm,pb,params,result,effects,body⟩ [.string nm,.bool pb,.slice ap np cp,.int .i64 k,.slice ar nr cr,.int .i64 effects,.int .i64 op,.int .i64 n,.string s,.string m,.slice a1 n1 c1,.slice a2 n2 c2])) (fun iv _=>4-(intOf iv).toNat));case atStart=>exact⟨_,0,v6,YM,rfl,zh (by show WrS B wb (s6.put []) v6 _;rw[kC];exact HI1.out),FI,U5,U4,HI5⟩
   case round=>
    clear HI1 FI U5 U4 HI5;obtain⟨pb,q,v9,hq,rfl,HC,JT,HB,HW,DT⟩:=hrel;(rename World=>wr);by_cases rU:q<4
    ·obtain⟨t,ht,-⟩:=getElem?_of_lt (l:=bF) (k:=q) rU;have p0:wr.cell? ⟨w6.heap.size,q,none⟩=some (.string t):=(bx HW.out.1 q (by rw[List.getElem?_toArray,List.getElem?_map,ht];rfl)).1;have hse:=sel_put (st:=s6) (p:=fun b=>decide (Go.bits .and .i64 effects b≠0)) ht;have HT:Hid (s6.put (selT (fun b=>decide (Go.bits .and .i64 effects b≠0)) (q+1))=(s6.put (selT (fun b=>decide (Go.bits .and .i64 effects b≠0)) q)).put (if decide (Go.bits .and .i64 effects (bR t)≠0) then[t] else[])):=zh (by rw[hse,cG])
     have sX:eE (s6.put (selT (fun b=>decide (Go.bits .and .i64 effects b≠0)) q)) (if decide (Go.bits .and .i64 effects (bR t)≠0) then[t] else[]):=by
      obtain⟨z,hzz⟩:=selT_len (fun b=>decide (Go.bits .and .i64 effects b≠0)) (q+1);have h1:=F7.out;rw[hzz,hse] at h1;exact h1.app.1.app.2
     generalize s6.put (selT (fun b=>decide (Go.bits .and .i64 effects b≠0)) q)=s66 at *;have D1:(q:Int)<4:=YM;have wI:(0:Int)<=(q:Int):=YM;clear hse;obtain⟨⟨r0,r1,r2,r3,r4,r5,r6,r7,r8,r9,zO,zN⟩,-⟩:=iS HB.out.1;by_cases JE:Go.bits .and .i64 effects (bR t)=0
     ·rw[if_neg (by simp[JE])] at sX HT;rw[kC] at HT;(have LO:(Go.bits .and .i64 effects (bR t) != 0)=false:=by rw[bne_eq_false_iff_eq];exact JE);clear sX JE ht;go_wp2_with fail;refine wp_region_held_drew (S:=fun W=>Below wr.heap.size wr W) YN (aE wr) fun hS=>?_;refine zq 0 (.pointer (some ⟨w.heap.size,5,none⟩)) rfl ?_;refine zt 1 (.int .i64 effects) rfl (fun W hW=>by have q1:=aD hW r5;go_simp) ?_;refine zq 2 (.string t) rfl ?_;(try simp only[zn]);refine zr 3 rfl (fun K hK=>?_);(try simp only[z1,z2,z3]);go_simp;refine(jN t _ (HC.out.glob.later (aE wr)).spc).mono ?_;rintro e w8 ⟨rfl,A4⟩;have uI:=aC (aE wr) A4;refine hK.out _ _ uI (fun hS=>?_);clear hK K;(try simp only[zn]);generalize bR t=bt at *;refine zq 4 (.int .i64 (Go.bits .and .i64 effects bt)) rfl ?_;refine zq 5 (.bool false) rfl ?_;(try simp only[zn]);refine wpAnyH_done YN ?_ _;have KM:=Ext.below wb v9 uI;have FG:=zh (JT.out.trans KM);have zM:=zh (Ext.blk KM HB.out.2 HB.out.1);have PM:=zh (Ext.blk KM HW.out.2 HW.out.1);have VA:=zh (bK _ _ _ _ _ _ KM.moves DT.out);have KB:=zh (HC.out.later uI);clear hS uI A4 KM p0;clear r0 r1 r2 r3 r4 r5 r6 r7 r8 r9 zO zN;obtain⟨⟨r0,r1,r2,r3,r4,r5,r6,r7,r8,r9,zO,zN⟩,-⟩:=iS zM.out.1;go_wp2_with fail;go_roundw;(case rel=>exact⟨pb,q+1,v9,YM,YZ,zh (by rw[HT.out];exact KB.out),FG,zM,PM,VA⟩);case measure=>simp[intOf];omega
     rw[if_pos (by simp[JE])] at sX HT;have JS:=zh sX;(have LO:(Go.bits .and .i64 effects (bR t) != 0)=true:=by rw[bne_iff_ne];exact JE);clear sX JE ht;go_wp2_with fail;refine wp_region_held_drew (S:=fun W=>Below wr.heap.size wr W) YN (aE wr) fun hS=>?_;refine zq 0 (.pointer (some ⟨w.heap.size,5,none⟩)) rfl ?_;refine zt 1 (.int .i64 effects) rfl (fun W hW=>by have q1:=aD hW r5;go_simp) ?_;refine zq 2 (.string t) rfl ?_;(try simp only[zn]);refine zr 3 rfl (fun K hK=>?_);(try simp only[z1,z2,z3]);go_simp;refine(jN t _ (HC.out.glob.later (aE wr)).spc).mono ?_;rintro e w8 ⟨rfl,A4⟩;have uI:=aC (aE wr) A4;refine hK.out _ _ uI (fun hS=>?_);clear hK K;(try simp only[zn]);generalize bR t=bt at *;refine zq 4 (.int .i64 (Go.bits .and .i64 effects bt)) rfl ?_;refine zq 5 (.bool true) rfl ?_;(try simp only[zn]);refine wpAnyH_done YN ?_ _;have KM:=Ext.below wb v9 uI;have FG:=zh (JT.out.trans KM);have zM:=zh (Ext.blk KM HB.out.2 HB.out.1);have PM:=zh (Ext.blk KM HW.out.2 HW.out.1);have VA:=zh (bK _ _ _ _ _ _ KM.moves DT.out);have KB:=zh (HC.out.later uI);clear hS uI A4 KM p0;clear r0 r1 r2 r3 r4 r5 r6 r7 r8 r9 zO zN;obtain⟨⟨r0,r1,r2,r3,r4,r5,r6,r7,r8,r9,zO,zN⟩,-⟩:=iS zM.out.1;go_wp2_with(go_at_call 67;refine(fS t KB.out JS.out).mono ?_;rintro e w2 ⟨v2,rfl,h2,rV⟩);go_roundw;(case rel=>exact⟨pb,q+1,v2,YM,YZ,zh (by rw[HT.out];exact h2),zh (FG.out.trans rV),zh (rV.blk zM.out.2 zM.out.1),zh (rV.blk PM.out.2 PM.out.1),zh (bK _ _ _ _ _ _ rV.moves VA.out)⟩);case measure=>simp[intOf];omega
    have wK:q=4:=YM;subst wK;rw[S7.out] at HC;obtain⟨⟨r0,r1,r2,r3,r4,r5,r6,r7,r8,r9,zO,zN⟩,-⟩:=iS HB.out.1;go_wp2_with(go_at_call 67;refine(fS kEq HC.out F8.out).mono ?_;rintro e sV ⟨v10,rfl,CK,wJ⟩;have HC10:Hid (WrS B wb s8 v10 sV):=zh (by rw[<-S8.out];exact CK);have PL:=zh (JT.out.trans wJ);have E7:=zh (wJ.blk HB.out.2 HB.out.1);have HEN10:=zh (bK _ _ _ _ _ _ wJ.moves DT.out);clear CK wJ;clear r0 r1 r2 r3 r4 r5 r6 r7 r8 r9 zO zN;obtain⟨⟨r0,r1,r2,r3,r4,r5,r6,r7,r8,r9,zO,zN⟩,-⟩:=iS E7.out.1);go_wp2_with(go_at_call 70;refine(pr_all 12 body 0 0 B wb s8 v10 _ _ _ _ _ _ _ HRB.out YM rfl HC10.out (by rw[jJ];exact F9.out) (encFn_parts HEN10.out).2.2).mono ?_;rintro e yB ⟨v11,rfl,h11,yL⟩;have HC11:Hid (WrS B wb sE v11 yB):=zh (by rw[SE.out,<-jJ];exact h11);have HX11:=zh (PL.out.trans yL);clear h11 yL);go_wp2_with(go_at_call 68;refine(qJ HC11.out HLn.out).mono ?_;rintro e tH ⟨v12,rfl,AG,tC⟩);go_end0;exact⟨_,rfl,AG,HX11.out.trans tC⟩
end Go.Proofs.YtiionicikdnnpaaGreatDoor
