/- Joined. -/
import Derived.Test.YtacgopankhpnbaaGreatDoorTQAD
set_option maxHeartbeats 32000000
set_option maxRecDepth 100000
set_option linter.unusedVariables false
set_option linter.unusedSimpArgs false
namespace Go.Proofs.YtacgopankhpnbaaGreatDoor
open Go.RowKit
theorem bs_data(l:List UInt8):(bs l).data.toList=l:=by simp[bs]
theorem app_data(a b:ByteArray):(a++b).data.toList=a.data.toList++b.data.toList:=by simp[ByteArray.data_append]
theorem mk_data(a:Array UInt8):(⟨a⟩:ByteArray).data.toList=a.toList:=rfl
def parseV(B:Nat)(r:Except (Int×Int) Mdl)(e:Ending)(w':World):Prop:=match r with
 | .error x=>e=.returned (.tuple #[.agg eE,.int .i64 x.1,.int .i64 x.2])
 | .ok m=>∃au nu du av nv dv ai ni di af nf df ao no do_ aw nw dw ab nb db,e=.returned (.tuple #[oBx23 m.name au nu du av nv dv ai ni di af nf df m.moves ao no do_ aw nw dw ab nb db,.int .i64 0,.int .i64 0])/\
   encM (bM B) w' m [.string m.name,.slice au nu du,.slice av nv dv,.slice ai ni di,.slice af nf df,.bool m.moves,.slice ao no do_,.slice aw nw dw,.slice ab nb db]
theorem parseL_lex{s:bA}{x:Int×Int}(h:lexL s=.error x):pF s=.error x:=by unfold pF;rw[h]
theorem parseL_bad{s:bA}{l:List Tok}{x:Int×Int}(h:lexL s=.ok l)(hm:iD l=.error x):pF s=.error x:=by unfold pF;rw[h];simp only[hm]
theorem parseL_ok{s:bA}{l:List Tok}{m:Mdl}{j:Nat}(h:lexL s=.ok l)(hm:iD l=.ok (m,j)):pF s=.ok m:=by unfold pF;rw[h];simp only[hm]
theorem prs_made{s:bA}{l:List Tok}{b o c B pb:Nat}{w w':World}(ht:TokOk s l)(hs:s.size<=8000)(hc:l.length<=c/\c<=9223372036854775807)(hb:b<w.heap.size)
  (hr:∀i x,l[i]? =some x->∃cs,encTok (bM B) w x cs/\cs.length=4/\∀j u,cs[j]? =some u->w.cell? ⟨b,o+i*4+j,none⟩=some u) (uZ:Below w.heap.size w w')
  (xH:w'.heap[pb]? =some (oBx27 (some ⟨b,o,none⟩) l.length c 0)) (hge:w.heap.size<=pb) (hg:dL w') (QN:Lib.TabIs Tryz.prog w' "strings.asciiSpace" .u8 Lib.asciiSpaceTab) (h11:11<=w.heap.size):
  Prs.At ⟨l,b,o,c,pb⟩ w' 0:=by
 refine⟨xH,fun k t hk=>?_,by show b≠pb;omega,ht.pos,by have:=ht.len;show l.length<=8001;omega,hc,fun k t hk hn=>ht.last k t hk hn,hg,QN,fun k hk=>by show k≠pb;omega⟩;obtain⟨cs,⟨rfl,hz⟩,-,hj⟩:=hr k t hk;exact⟨⟨aC uZ (hj 0 _ rfl),aC uZ (hj 1 _ rfl),aC uZ (hj 2 _ rfl),aC uZ (hj 3 _ rfl)⟩,hz⟩
theorem rY{w w2 w':World}(h:Below w.heap.size w w2)(ho:Off (fun k=>w.heap.size<=k) w2 w'):Below w.heap.size w w':=
 ⟨ho.os.trans h.os,ho.tape.trans h.tape,ho.output.trans h.output,Nat.le_trans h.size ho.size,fun k hk=>(ho.block k (by have:=h.size;omega) (fun e=>by have e:w.heap.size<=k:=e;omega)).trans (h.block k hk)⟩
theorem aL.pos{α:Type}{k:Nat}{enc:(Nat->Prop)->World->α->List Value->Prop}{N:Nat->Prop}{w:World}{v:Value}{l:List α}(hk:0<k)(h:aL k enc N w v l)(hp:0<l.length):∃b o c,v=.slice (some ⟨b,o,none⟩) l.length c/\l.length<=c/\c<=9223372036854775807/\b<w.heap.size/\
  ∀i x,l[i]? =some x->∃cs,enc N w x cs/\cs.length=k/\∀j u,cs[j]? =some u->w.cell? ⟨b,o+i*k+j,none⟩=some u:=by
 rcases h.cases hk with⟨rfl,-⟩|⟨b,o,c,h1,h2,h3,h4,h5,h6,h7⟩
 ·simp at hp
 exact⟨b,o,c,h1,h3,h4,h5,h7⟩
theorem lexL_size{s:bA}{l:List Tok}(h:lexL s=.ok l):s.size<=8000:=by
 unfold lexL at h;split at h
 ·cases h
 omega
theorem parse_any(s:bA)(w:World)(hs:s.size<=140737488355328)(hg:dL w)(hsg:SignsAt w)(QN:Lib.TabIs Tryz.prog w "strings.asciiSpace" .u8 Lib.asciiSpaceTab):
  Calls Tryz.prog 84 #[.string s] w fun e w'=>parseV w.heap.size (pF s) e w'/\Below w.heap.size w w':=by
 have hmf:∀(fn:Fn)(first cap:Array Value)(w:World),(Instr.makeFunc fn first cap).run Tryz.prog w=.ok (.func fn first cap) w:=fun _ _ _ _=>rfl;have h11:=hg.big;have wX:=zh (aA w (.cells eE 132));have HLx:=zh (lex_any s (w.alloc (.cells eE 132)) hs (hsg.later wX.out));have HG:=zh (fun w'(hb:Below w.heap.size w w')=>hg.later hb);have sK:=zh (fun w'(hb:Below w.heap.size w w')=>spc_off QN hg.big (Ba (S:=fun _=>False) hb) (fun _ _ h=>h));have xG:(w.alloc (.cells eE 132)).heap.size=w.heap.size+1:=aAQ;clear hg hsg QN
 cases hl:lexL s with
 |error x=>
  have tV:(x.2 != 0)=true:=by rw[bne_iff_ne];exact lexL_nz hl
  have HR:=zh (parseL_lex hl);rw[hl] at HLx;clear hl;go_enter Tryz.func84,Tryz.ntmps84;go_wp2_with(go_at_call 107;refine HLx.out.mono ?_;rintro e w2 ⟨he,sD⟩;obtain rfl:e=.returned (.tuple #[.slice none 0 0,.int .i64 x.1,.int .i64 x.2]):=he;obtain⟨⟨c0,c1,c2,c3,c4,c5,c6,c7,c8⟩,f0,f1,f2,f3,f4,f5,f6,f7,f8⟩:=bx9 (aD sD (bY w (.cells eE 132))));refine bodyPost_ret (v:=.tuple #[.agg eE,.int .i64 x.1,.int .i64 x.2]) (by simp[results,Tryz.results84,go_sem,c0,c1,c2,c3,c4,c5,c6,c7,c8]) rfl ⟨aBr,?_⟩;have ho:=rC w2 w.heap.size (.string ⟨#[]⟩) (.slice none 0 0) (.slice none 0 0) (.slice none 0 0) (.slice none 0 0) (.bool false) (.slice none 0 0) (.slice none 0 0) (.slice none 0 0);unfold set9 at ho;exact rY (aB wX.out sD) (ho.mono fun k hk=>Nat.le_of_eq (Eq.symm hk))
 |ok l=>
  have hs8:=lexL_size hl;have HE:=zh (fun x hx=>parseL_bad (x:=x) hl hx);have HK:=zh (fun m j hx=>parseL_ok (m:=m) (j:=j) hl hx);rw[hl] at HLx;clear hl;go_enter Tryz.func84,Tryz.ntmps84;go_wp2_with(first|(go_at_call 108;refine(run_any ⟨l,b,o,c,w2.heap.size+1⟩ ((((w2.alloc (.cells eE 132)).alloc (oBx27 (some ⟨b,o,none⟩) l.length c 0)).alloc (.cells #[.pointer (some ⟨w2.heap.size+1,0,none⟩)] 160))) (w2.heap.size+2) w2.heap.size xT.out).mono ?_;rintro e w6 (⟨x,hx,rfl,ho⟩|⟨m,j,hx,rfl,hm,ho⟩)<;>have GV:=zh (ho.heap (fun e=>Or.elim e (fun e=>by have e:w.heap.size=w2.heap.size+1:=e;omega) (fun e=>by have e:w.heap.size=w2.heap.size:=e;omega)) uH.out)<;>obtain⟨⟨r0,r1,r2,r3,r4,r5,r6,r7,r8⟩,g0,g1,g2,g3,g4,g5,g6,g7,g8⟩:=bx9 GV.out<;>first|(have tV:(x.2 != 0)=true:=by rw[bne_iff_ne];exact module_nz x hx)|(obtain⟨au,nu,du,av,nv,dv,ai,ni,di,af,nf,df,ao,no,do_,aw,nw,dw,ab,nb,db,tH,hem⟩:=hm;obtain⟨⟨d0,d1,d2,d3,d4,d5,d6,d7,d8⟩,e0,e1,e2,e3,e4,e5,e6,e7,e8⟩:=bx9 tH))|(go_at_call 107;refine HLx.out.mono ?_;rintro e w2 ⟨he,sD⟩;obtain⟨v,rfl,tF,uO⟩:=he;obtain⟨b,o,c,rfl,NM,tU,hb,wC⟩:=tF.pos aAO uO.pos;have sX:=sD.size;have B3:=aA w2 (.cells eE 132);have B4:=aA (w2.alloc (.cells eE 132)) (oBx27 (some ⟨b,o,none⟩) l.length c 0);have B5:=aA ((w2.alloc (.cells eE 132)).alloc (oBx27 (some ⟨b,o,none⟩) l.length c 0)) (.cells #[.pointer (some ⟨w2.heap.size+1,0,none⟩)] 160);have z3:(w2.alloc (.cells eE 132)).heap.size=w2.heap.size+1:=aAQ;have z4:((w2.alloc (.cells eE 132)).alloc (oBx27 (some ⟨b,o,none⟩) l.length c 0)).heap.size=w2.heap.size+2:=aAQ;have WB:=zh (aB B3 (aB B4 B5));have PM:=zh (aB (aB wX.out sD) WB.out);have hp1:=bY (w2.alloc (.cells eE 132)) (oBx27 (some ⟨b,o,none⟩) l.length c 0);have hp2:=bY ((w2.alloc (.cells eE 132)).alloc (oBx27 (some ⟨b,o,none⟩) l.length c 0)) (.cells #[.pointer (some ⟨w2.heap.size+1,0,none⟩)] 160);rw[z3] at hp1;rw[z4] at hp2;have xT:Hid (RunAt ⟨l,b,o,c,w2.heap.size+1⟩ (((w2.alloc (.cells eE 132)).alloc (oBx27 (some ⟨b,o,none⟩) l.length c 0)).alloc (.cells #[.pointer (some ⟨w2.heap.size+1,0,none⟩)] 160)) (w2.heap.size+2) w2.heap.size):=zh ⟨prs_made uO hs8 ⟨NM,tU⟩ hb wC WB.out (aD B5 hp1) aAM (HG.out _ PM.out) (sK.out _ PM.out) aAM,hp2,aD (aB B4 B5) (bY w2 _),by show w2.heap.size≠w2.heap.size+1;omega,by show w2.heap.size+2≠w2.heap.size+1;omega,aAM⟩;have uH:=zh (aD (aB sD WB.out) (bY w (.cells eE 132)));clear hp1 hp2 B3 B4 B5 z3 z4 wC tF uO))
  ·have hB6:=rY PM.out (ho.mono (S':=fun k=>w.heap.size<=k) fun k hk=>Or.elim hk (fun e=>by have e:k=w2.heap.size+1:=e;omega) (fun e=>by have e:k=w2.heap.size:=e;omega));refine bodyPost_ret (v:=.tuple #[.agg eE,.int .i64 x.1,.int .i64 x.2]) aC9 rfl ⟨by rw[HE.out x hx];rfl,?_⟩;have wN:=rC w6 w.heap.size (.string ⟨#[]⟩) (.slice none 0 0) (.slice none 0 0) (.slice none 0 0) (.slice none 0 0) (.bool false) (.slice none 0 0) (.slice none 0 0) (.slice none 0 0);unfold set9 at wN;exact rY hB6 (wN.mono fun k hk=>Nat.le_of_eq (Eq.symm hk))
  have hB6:=rY PM.out (ho.mono (S':=fun k=>w.heap.size<=k) fun k hk=>Or.elim hk (fun e=>by have e:k=w2.heap.size+1:=e;omega) (fun e=>by have e:k=w2.heap.size:=e;omega));have BO:=WB.out.size;have wN:=rC w6 w.heap.size (.string m.name) (.slice au nu du) (.slice av nv dv) (.slice ai ni di) (.slice af nf df) (.bool m.moves) (.slice ao no do_) (.slice aw nw dw) (.slice ab nb db);have hem9:=encM_ok.wide (N':=bM w.heap.size) (encM_ok.off hem wN (fun b' tO hn=>by have tO:b'=w.heap.size:=tO;have hn:=Nat.le_trans BO hn;omega)) (fun b' tO _=>by have hn:=Nat.le_trans BO tO;show w.heap.size<=b';omega);unfold set9 at wN hem9;refine bodyPost_ret (v:=.tuple #[oBx23 m.name au nu du av nv dv ai ni di af nf df m.moves ao no do_ aw nw dw ab nb db,.int .i64 0,.int .i64 0]) aC9 rfl ⟨?_,rY hB6 (wN.mono fun k hk=>Nat.le_of_eq (Eq.symm hk))⟩;rw[HK.out m j hx];exact⟨au,nu,du,av,nv,dv,ai,ni,di,af,nf,df,ao,no,do_,aw,nw,dw,ab,nb,db,rfl,hem9⟩
theorem ZX{p:Prop}(h:p:=by
 go_wp2_with fail;go_ret
 exact⟨aF (by rw[HT.out,<-HD.out]),HB.out⟩):p:=h
theorem aAu{p:Prop}(h:p:=by
 go_roundw;case rel=>exact⟨q+1,aAM,aAV,zh (aB HB.out (aB (aA _ _) sF)),xS⟩
 case measure=>simp[intOf];omega):p:=h
def RightTyAll:Prop:=∀(d:Nat)(t:Ty)(N:Nat->Prop)(k:Int)(vf:Value)(w:World),d<=100->dL w->jQ N w t [.int .i64 k,vf]->
  Calls Tryz.prog 197 #[.agg #[.int .i64 k,vf],.int .i64 (d:Int)] w fun e w'=>e=.returned (.bool (cK d t))/\Below w.heap.size w w'
def RightXpAll:Prop:=∀(d:Nat)(x:Xp)(N:Nat->Prop)(op n:Int)(s m:bA)(vn va:Value)(w:World),d<=100->dL w->cJ N w x [.int .i64 op,.int .i64 n,.string s,.string m,vn,va]->
  Calls Tryz.prog 198 #[nS op n s m vn va,.int .i64 (d:Int)] w fun e w'=>e=.returned (.bool (aW d x))/\Below w.heap.size w w'
theorem RightType_any(hT:RightTyAll)(t:Ty)(N:Nat->Prop)(k:Int)(vf:Value)(w:World)(hg:dL w)(he:jQ N w t [.int .i64 k,vf]):
  Calls Tryz.prog 149 #[.agg #[.int .i64 k,vf]] w fun e w'=>e=.returned (.bool (cK 4 t))/\Below w.heap.size w w':=by
 have hb:=aA w (.cells #[.int .i64 k,vf] 175);have HT:=zh (hT 4 t N k vf _ aAO (hg.later hb) (fO _ _ _ _ _ _ (bU.later hb) he));obtain⟨a,n,c,rfl⟩:=encT_slice he;generalize cK 4 t=r at *;clear hT hg he;go_enter Tryz.func149,Tryz.ntmps149;go_wp2_with(go_at_call 197;refine HT.out.mono ?_;rintro e w2 ⟨rfl,sD⟩);go_ret;exact⟨rfl,aB hb sD⟩
theorem mH{N:Nat->Prop}{w:World}{x:Xp}{op n:Int}{s m:bA}{vn va:Value}(h:cJ N w x [.int .i64 op,.int .i64 n,.string s,.string m,vn,va]):(∃a n c,vn=.slice a n c)/\∃a n c,va=.slice a n c:=by
 cases x with
 |mk op' n' s' m' names args=>
  rw[bG] at h;obtain⟨v1,v2,e,-,-,⟨a1,c1,h1,-⟩,⟨a2,c2,h2,-⟩⟩:=h;cases e;exact⟨⟨_,_,_,h1⟩,_,_,_,h2⟩
theorem RightExp_any(hX:RightXpAll)(x:Xp)(N:Nat->Prop)(op n:Int)(s m:bA)(vn va:Value)(w:World)(hg:dL w)(he:cJ N w x [.int .i64 op,.int .i64 n,.string s,.string m,vn,va]):
  Calls Tryz.prog 150 #[nS op n s m vn va] w fun e w'=>e=.returned (.bool (aW 12 x))/\Below w.heap.size w w':=by
 have hb:=aA w (oBx31 op n s m vn va);have HT:=zh (hX 12 x N op n s m vn va _ aAO (hg.later hb) (aG _ _ _ _ _ _ (bU.later hb) he));obtain⟨⟨a1,n1,c1,rfl⟩,a2,n2,c2,rfl⟩:=mH he;generalize aW 12 x=r at *;clear hX hg he;go_enter Tryz.func150,Tryz.ntmps150;go_wp2_with(go_at_call 198;refine HT.out.mono ?_;rintro e w2 ⟨rfl,sD⟩);go_ret;exact⟨rfl,aB hb sD⟩
theorem all_at{α:Type}{p:α->Bool}{l:List α}{q:Nat}{x:α}(hx:l[q]? =some x):(l.drop q).all p=(p x&&(l.drop (q+1)).all p):=by
 obtain⟨hk,he⟩:=Yb.1 hx;rw[List.drop_eq_getElem_cons hk,he,List.all_cons]
theorem qT(hX:RightXpAll)(l:List Xp)(n:Nat)(N:Nat->Prop)(v:Value)(w:World)(hn:n<=1000)(hg:dL w)(he:aL 6 cJ N w v l):
  Calls Tryz.prog 151 #[v,.int .i64 (n:Int)] w fun e w'=>e=.returned (.bool (fZ l n))/\Below w.heap.size w w':=by
 have HG:=zh (fun W(hb:Below w.heap.size w W)=>hg.later hb);have HX:=zh hX;have JH:l.length<=9223372036854775807:=by obtain⟨_,_,_,h1,h2,-⟩:=he;omega
 have BE:(n:Int)<=1000:=aAM;have HR:Hid (fZ l n=(l.all (aW 12)&&decide (l.length=n))):=zh rfl;have HD:Hid (((l.length:Int)==(n:Int))=decide (l.length=n)):=zh aBh;clear hg hX;rcases he.cases aAO with⟨rfl,a,c,rfl⟩|⟨b,o,c,rfl,h0,h1,h2,hb,hN,hc⟩
 ·clear he;go_enter Tryz.func151,Tryz.ntmps151;go_wp2_with fail;go_loop [9] (fun i=>i=.int .i64 0) (fun _=>0)
  case atStart=>rfl
  case round=>
   subst hrel;go_wp2_with fail;go_ret;exact⟨aF (by rw[HR.out,<-HD.out];rfl),Below.refl _ _⟩
 have HC:=zh hc;clear hc he;go_enter Tryz.func151,Tryz.ntmps151;go_wp2_with fail;go_loopw [9] (fun iv wr=>∃q:Nat,q<=l.length/\iv=.int .i64 (q:Int)/\Hid (Below w.heap.size w wr)/\Hid (l.all (aW 12)=(l.drop q).all (aW 12))) (fun iv _=>l.length-(intOf iv).toNat)
 case atStart=>exact⟨0,Nat.zero_le _,rfl,zh (Below.refl _ _),zh rfl⟩
 case round=>
  obtain⟨q,hq,rfl,HB,sK⟩:=hrel;rename World=>wr
  by_cases sE:q<l.length
  ·obtain⟨x,hx,-⟩:=getElem?_of_lt sE;obtain⟨cs,wB,-,hj⟩:=HC.out q x hx;have vQ:=zh (sK.out.trans (all_at hx))
   cases x with
   |mk xI n2 s2 m2 names2 args2=>
    have yE:=wB;rw[bG] at yE;obtain⟨J2,va2,rfl,-,-,yC,yB⟩:=yE;obtain⟨a1,T5,rfl,-⟩:=yC;obtain⟨a2,cc2,rfl,-⟩:=yB;have c0:wr.cell? ⟨b,o+q*6,none⟩=some (.int .i64 xI):=aC HB.out (hj 0 _ rfl);have c1:=aC HB.out (hj 1 _ rfl);have c2:=aC HB.out (hj 2 _ rfl);have c3:=aC HB.out (hj 3 _ rfl);have c4:=aC HB.out (hj 4 _ rfl);have c5:=aC HB.out (hj 5 _ rfl);have HL:=zh (fun W(h:Below w.heap.size w W)=>RightExp_any HX.out (.mk xI n2 s2 m2 names2 args2) N xI n2 s2 m2 _ _ W (HG.out W h) (aG _ _ _ _ _ _ (bU.later h) wB));clear hj wB hx;generalize aW 12 (.mk xI n2 s2 m2 names2 args2)=r0 at HL vQ;generalize names2.length=ln at *;generalize args2.length=la at *
    cases r0 with
    |false=>
     have HF:Hid (fZ l n=false):=zh (by rw[HR.out,vQ.out];rfl);clear vQ sK;go_wp2_with(go_at_call 150;refine(HL.out _ (aB HB.out (aA _ _))).mono ?_;rintro e w1 ⟨rfl,sF⟩);go_ret;exact⟨aF aBk,aB HB.out (aB (aA _ _) sF)⟩
    |true=>
     have xS:Hid (l.all (aW 12)=(l.drop (q+1)).all (aW 12)):=zh (by rw[vQ.out];rfl);clear vQ sK;go_wp2_with(go_at_call 150;refine(HL.out _ (aB HB.out (aA _ _))).mono ?_;rintro e w1 ⟨rfl,sF⟩);exact aAu
  have AR:q=l.length:=aAM;have HT:Hid (fZ l n=decide (l.length=n)):=zh (by rw[HR.out,sK.out,AR,List.drop_length];rfl);exact ZX
theorem YY{p:Prop}(h:p:=by
 go_enter Tryz.func225,Tryz.ntmps225;go_wp2_with fail;go_ret
 exact⟨aF (by rw[HR.out];decide),hb⟩):p:=h
theorem ZL{p:Prop}(h:p:=by
 go_wp2_with fail;go_ret
 exact⟨aF aBr,hb⟩):p:=h
def gB(x:Xp)(op n:Int)(s m:bA)(vn va:Value)(w:World):Prop:=Calls Tryz.prog 225 #[nS op n s m vn va] w fun e w'=>e=.returned (.bool (iW x))/\Below w.heap.size w w'
theorem leaf_0(n:Int)(s m:bA)(names:List bA)(args:List Xp)(a1:Option Addr)(n1 c1:Nat)(a2:Option Addr)(c2:Nat)(w:World)(hg:dL w)(hs:s.size<=8000)(hm:m.size<=8000):gB (.mk 0 n s m names args) 0 n s m (.slice a1 n1 c1) (.slice a2 args.length c2) w:=by
 unfold gB;have hb:=aA w (aQ 0 n s m a1 n1 c1 a2 args.length c2);have HR:Hid (iW (.mk 0 n s m names args)=(decide (0<=n)&&decide (n<=1099511627776))):=zh rfl;clear hg;by_cases h1:0<=n
 ·by_cases h2:n<=1099511627776
  ·rw[decide_eq_true h1,decide_eq_true h2] at HR;go_enter Tryz.func225,Tryz.ntmps225;exact ZL
  rw[decide_eq_true h1,decide_eq_false h2] at HR;go_enter Tryz.func225,Tryz.ntmps225;exact ZL
 rw[decide_eq_false h1] at HR;go_enter Tryz.func225,Tryz.ntmps225;exact ZL
theorem leaf_1(n:Int)(s m:bA)(names:List bA)(args:List Xp)(a1:Option Addr)(n1 c1:Nat)(a2:Option Addr)(c2:Nat)(w:World)(hg:dL w)(hs:s.size<=8000)(hm:m.size<=8000):gB (.mk 1 n s m names args) 1 n s m (.slice a1 n1 c1) (.slice a2 args.length c2) w:=by
 unfold gB;have hb:=aA w (aQ 1 n s m a1 n1 c1 a2 args.length c2);have HR:Hid (iW (.mk 1 n s m names args)=(decide (n=0)||decide (n=1))):=zh rfl;clear hg;by_cases h0:n=0
 ·subst h0;exact YY
 have g0:(n==0)=false:=by rw[beq_eq_false_iff_ne];exact h0
 by_cases h1:n=1
 ·subst h1;exact YY
 have g1:(n==1)=false:=aB0;go_enter Tryz.func225,Tryz.ntmps225;go_wp2_with fail;go_ret;exact⟨aF (by rw[HR.out];simp[h0,h1]),hb⟩
theorem leaf_16(n:Int)(s m:bA)(names:List bA)(args:List Xp)(a1:Option Addr)(n1 c1:Nat)(a2:Option Addr)(c2:Nat)(w:World)(hg:dL w)(hs:s.size<=8000)(hm:m.size<=8000):gB (.mk 16 n s m names args) 16 n s m (.slice a1 n1 c1) (.slice a2 args.length c2) w:=by
 unfold gB;have hb:=aA w (aQ 16 n s m a1 n1 c1 a2 args.length c2);have HR:Hid (iW (.mk 16 n s m names args)=(decide (n=1)||decide (n=2)||decide (n=4)||decide (n=8))):=zh rfl;clear hg;by_cases h1:n=1
 ·subst h1;exact YY
 have g1:(n==1)=false:=aB0;by_cases h2:n=2
 ·subst h2;exact YY
 have g2:(n==2)=false:=by rw[beq_eq_false_iff_ne];exact h2
 by_cases h4:n=4
 ·subst h4;exact YY
 have g4:(n==4)=false:=by rw[beq_eq_false_iff_ne];exact h4
 by_cases h8:n=8
 ·subst h8;exact YY
 have g8:(n==8)=false:=by rw[beq_eq_false_iff_ne];exact h8
 go_enter Tryz.func225,Tryz.ntmps225;go_wp2_with fail;go_ret;exact⟨aF (by rw[HR.out];simp[h1,h2,h4,h8]),hb⟩
theorem rN(op:Int)(ho:op=2\/op=17\/op=18\/op=14\/op=12)(n:Int)(s m:bA)(names:List bA)(args:List Xp)(a1:Option Addr)(n1 c1:Nat)(a2:Option Addr)(c2:Nat)(w:World)(hg:dL w)(hs:s.size<=8000)(hm:m.size<=8000):gB (.mk op n s m names args) op n s m (.slice a1 n1 c1) (.slice a2 args.length c2) w:=by
 unfold gB;have hb:=aA w (aQ op n s m a1 n1 c1 a2 args.length c2);have HR:Hid (iW (.mk op n s m names args)=aR s):=zh (by rcases ho with rfl|rfl|rfl|rfl|rfl<;>rfl);have HS:=zh (jU s _ aAM (hg.later hb));generalize aR s=r at *;clear hg;rcases ho with rfl|rfl|rfl|rfl|rfl
 all_goals
  go_enter Tryz.func225,Tryz.ntmps225;go_wp2_with(go_at_call 147;refine HS.out.mono ?_;rintro e w2 ⟨rfl,rfl⟩);go_ret;exact⟨aF (by rw[HR.out]),hb⟩
theorem leaf_15(n:Int)(s m:bA)(names:List bA)(args:List Xp)(a1:Option Addr)(n1 c1:Nat)(a2:Option Addr)(c2:Nat)(w:World)(hg:dL w)(hs:s.size<=8000)(hm:m.size<=8000):gB (.mk 15 n s m names args) 15 n s m (.slice a1 n1 c1) (.slice a2 args.length c2) w:=by
 unfold gB;have hb:=aA w (aQ 15 n s m a1 n1 c1 a2 args.length c2);have HR:Hid (iW (.mk 15 n s m names args)=(aR s&&(decide (m=noB)||aR m)&&decide (args.length<=6))):=zh rfl;have HS:=zh (jU s _ aAM (hg.later hb));have HM:=zh (jU m _ aAM (hg.later hb));clear hg;have HL:Hid (decide ((args.length:Int)<=6)=decide (args.length<=6)):=zh aBh
 cases tT:aR s with
 |false=>
  rw[tT] at HS HR;clear HM tT;go_enter Tryz.func225,Tryz.ntmps225;go_wp2_with fail;go_at_call 147;refine HS.out.mono ?_;rintro e w2 ⟨rfl,rfl⟩;exact ZL
 |true=>
  rw[tT] at HS HR;clear tT;by_cases tJ:m=noB
  ·subst tJ;clear HM;go_enter Tryz.func225,Tryz.ntmps225;go_wp2_with fail;go_at_call 147;refine HS.out.mono ?_;rintro e w2 ⟨rfl,rfl⟩;go_wp2_with fail;go_ret;exact⟨aF (by rw[HR.out];rw[<-HL.out];rfl),hb⟩
  have zQ:(m.toList==[])=false:=aA2;rw[decide_eq_false tJ] at HR;clear tJ
  cases QZ:aR m with
  |false=>
   rw[QZ] at HM HR;clear QZ;go_enter Tryz.func225,Tryz.ntmps225;go_wp2_with fail;go_at_call 147;refine HS.out.mono ?_;rintro e w2 ⟨rfl,rfl⟩;go_wp2_with fail;go_at_call 147;refine HM.out.mono ?_;rintro e w3 ⟨rfl,rfl⟩;exact ZL
  |true=>
   rw[QZ] at HM HR;clear QZ;go_enter Tryz.func225,Tryz.ntmps225;go_wp2_with fail;go_at_call 147;refine HS.out.mono ?_;rintro e w2 ⟨rfl,rfl⟩;go_wp2_with fail;go_at_call 147;refine HM.out.mono ?_;rintro e w3 ⟨rfl,rfl⟩;go_wp2_with fail;go_ret;exact⟨aF (by rw[HR.out];rw[<-HL.out];rfl),hb⟩
theorem kX(op:Int)(ho:op=3\/op=4\/op=5\/op=6\/op=7\/op=8\/op=9\/op=10\/op=11)(n:Int)(s m:bA)(names:List bA)(args:List Xp)(a1:Option Addr)(n1 c1:Nat)(a2:Option Addr)(c2:Nat)(w:World)(hg:dL w)(hs:s.size<=8000)(hm:m.size<=8000):gB (.mk op n s m names args) op n s m (.slice a1 n1 c1) (.slice a2 args.length c2) w:=by
 unfold gB;have hb:=aA w (aQ op n s m a1 n1 c1 a2 args.length c2);have HR:Hid (iW (.mk op n s m names args)=true):=zh (by rcases ho with rfl|rfl|rfl|rfl|rfl|rfl|rfl|rfl|rfl<;>rfl);clear hg;rcases ho with rfl|rfl|rfl|rfl|rfl|rfl|rfl|rfl|rfl
 all_goals
  go_enter Tryz.func225,Tryz.ntmps225;go_wp2_with fail;go_ret;exact⟨aF (by rw[HR.out]),hb⟩
theorem Y8{p:Prop}(h:p:=by
 refine zq 19 (.bool true) rfl ?_;refine zq 20 (.bool true) rfl ?_;refine zu 21 rfl ?_;refine zu 22 rfl ?_;refine zu 23 rfl ?_;refine zu 24 rfl ?_;refine zu 25 rfl ?_;refine zu 26 rfl ?_;refine zq 27 (.bool true) rfl ?_;try simp only[zn]
 refine wpAnyH_done aAN ?_ _;go_wp2_with fail;go_ret
 exact⟨aF aBk,aB HB.out (aB (aA _ _) (aE _))⟩):p:=h
theorem ZD{p:Prop}(h:p:=by
 go_enter Tryz.func197,Tryz.ntmps197;go_wp2_with fail;go_ret
 exact⟨aF aBk,aA _ _⟩):p:=h
theorem ZR{p:Prop}(h:p:=by
 go_enter Tryz.func197,Tryz.ntmps197;go_wp2_with fail;go_loop [39] (fun i=>i=.int .i64 0) (fun _=>0)
 case atStart=>rfl
 case round=>
  subst hrel;go_wp2_with fail;go_ret
  exact⟨aF (by rw[HT.out]),aA _ _⟩):p:=h
theorem aAh{p:Prop}(h:p:=by
 have HF:Hid (cK (d+1) (.mk kind fs)=false):=zh (by rw[xS.out];rfl);clear xS;go_wp2_with fail;go_ret
 exact⟨aF aBk,AO.out⟩):p:=h
theorem aAs{p:Prop}(h:p:=by
 obtain⟨hk,he⟩:=Yb.1 hx
 rw[List.drop_eq_getElem_cons hk,he];rfl):p:=h
theorem fieldsOk_at{p:Ty->Bool}{fs:List Fld}{q:Nat}{nm:bA}{t:Ty}(hx:fs[q]? =some (nm,t))(before:Option bA):jP p before (fs.drop q)=(aR nm&&(match before with|none=>true|some b=>gtB nm b)&&p t&&jP p (some nm) (fs.drop (q+1))):=by
 exact aAs
def pD(fs:List Fld)(q:Nat):Option bA:=if q=0 then none else(fs[q-1]?).map (·.1)
theorem qH(t:TypeId)(a b:bA)(w:World):(binOp .leq t (.string a) (.string b)).run Tryz.prog w=.ok (.bool (!gtB a b)) w:=by
 simp[binOp,Op.stringOp,gtB]
def RightTyAt(d:Nat):Prop:=∀(t:Ty)(N:Nat->Prop)(k:Int)(vf:Value)(w:World),d<=100->dL w->jQ N w t [.int .i64 k,vf]->
  Calls Tryz.prog 197 #[.agg #[.int .i64 k,vf],.int .i64 (d:Int)] w fun e w'=>e=.returned (.bool (cK d t))/\Below w.heap.size w w'
theorem rightType_zero:RightTyAt 0:=by
  intro t N k vf w _ hg he
  cases t with
  |mk kind fs=>
   have HR:Hid (cK 0 (.mk kind fs)=false):=zh rfl;obtain⟨a,n,c,rfl⟩:=encT_slice he;clear he hg;go_enter Tryz.func197,Tryz.ntmps197;go_wp2_with fail;go_ret;exact⟨aF (by rw[HR.out]),aA _ _⟩
theorem rightType_step(d:Nat)(IH:RightTyAt d):RightTyAt (d+1):=by
  rintro⟨kind,fs⟩ N k' vf w hd hg he;have JK:=he;rw[iF] at he;obtain⟨vf',hv,hr⟩:=he;cases hv;have XH:=zh (fun t N k vf w h2 h3=>IH t N k vf w aAM h2 h3);have HG:=zh (fun W(hb:Below w.heap.size w W)=>hg.later hb);have HE0:=zh JK;have yW:((d+1:Nat):Int)=(d:Int)+1:=aAM;rw[yW];have hd0:((d:Int)+1==0)=false:=aAW;have hd1:(d:Int)<=100:=aAM;have HR:Hid (cK (d+1) (.mk kind fs)=(decide (0<=kind)&&decide (kind<3)&&decide (fs.length<=8)&&(decide (kind=2)||decide (fs.length=0))&&jP (cK d) none fs)):=zh rfl;clear yW hg JK
  have wA:Hid (¬(0<=kind/\kind<3/\fs.length<=8/\(kind=2\/fs.length=0))->cK (d+1) (.mk kind fs)=false):=zh (fun h=>by
   rw[HR.out]
   cases hb:(decide (0<=kind)&&decide (kind<3)&&decide (fs.length<=8)&&(decide (kind=2)||decide (fs.length=0))&&jP (cK d) none fs) with
   |false=>rfl
   |true=>
    simp only[Bool.and_eq_true,Bool.or_eq_true,decide_eq_true_eq] at hb
    exact absurd ⟨hb.1.1.1.1,hb.1.1.1.2,hb.1.1.2,hb.1.2⟩ h)
  obtain⟨a,c,rfl,hlc⟩:∃a c,vf=.slice a fs.length c/\fs.length<=c:=by obtain⟨a,c,h1,h2,-⟩:=hr;exact⟨a,c,h1,h2⟩
  have JH:fs.length<=9223372036854775807:=aC6;by_cases g1:0<=kind
  ·have g1':¬kind<0:=aAM;by_cases g2:kind<3
   ·have g2':¬3<=kind:=aAM;by_cases g3:fs.length<=8
    ·have g3':¬(8:Int)<(fs.length:Int):=aAM;by_cases g4:kind=2\/fs.length=0
     ·have F8:Hid (cK (d+1) (.mk kind fs)=jP (cK d) none fs):=zh (by rw[HR.out,decide_eq_true g1,decide_eq_true g2,decide_eq_true g3];rcases g4 with h|h<;>simp[h]);have QU:=hr.cases aAO;clear wA HR;rcases QU with⟨rfl,a',c',hv⟩|⟨b,o,c',hv,h0,h1,h2,hb,hN,hc⟩
      ·have HT:Hid (cK (d+1) (.mk kind [])=true):=zh F8.out;clear F8 hv hr hlc JH g4 g3 g3';by_cases g5:kind=2
       ·(have h5:(kind != 2)=false:=by rw[bne_eq_false_iff_eq];exact g5);clear g5;exact ZR
       (have h5:(kind != 2)=true:=by rw[bne_iff_ne];exact g5);exact ZR
      cases hv;(have hk:kind=2:=by rcases g4 with h|h;(exact h);omega);(have h5:(kind != 2)=false:=by rw[bne_eq_false_iff_eq];exact hk);have HC:=zh hc;have uV:=zh (bY w (lH kind (some ⟨b,o,none⟩) fs.length c));clear hc hr g4 hk;go_enter Tryz.func197,Tryz.ntmps197;go_wp2_with fail;(go_loopw [39] (fun iv wr=>∃q:Nat,q<=fs.length/\iv=.int .i64 (q:Int)/\Hid (Below (w.alloc (lH kind (some ⟨b,o,none⟩) fs.length c)).heap.size (w.alloc (lH kind (some ⟨b,o,none⟩) fs.length c)) wr)/\Hid (cK (d+1) (.mk kind fs)=jP (cK d) (pD fs q) (fs.drop q))) (fun iv _=>fs.length-(intOf iv).toNat));case atStart=>exact⟨0,Nat.zero_le _,rfl,zh (Below.refl _ _),F8⟩
      case round=>
       obtain⟨q,hq,rfl,sV,sK⟩:=hrel;(rename World=>wr);have HB:=zh (aB (aA w (lH kind (some ⟨b,o,none⟩) fs.length c)) sV.out);by_cases sE:q<fs.length
       ·obtain⟨x,hx,-⟩:=getElem?_of_lt sE;obtain⟨cs,⟨ct,rfl,hn,wB⟩,-,hj⟩:=HC.out q x hx;obtain⟨nm,ty⟩:=x
        cases ty with
        |mk k2 f2=>
         have yE:=wB;rw[iF] at yE;obtain⟨vf2,rfl,yB⟩:=yE;obtain⟨a2,c2,rfl,-⟩:=yB;generalize f2.length=n2 at *;have p0:wr.cell? ⟨b,o+q*3,none⟩=some (.string nm):=aC HB.out (hj 0 _ rfl);have p1:=aC HB.out (hj 1 _ rfl);have p2:=aC HB.out (hj 2 _ rfl);have HL:=zh (fun W(h:Below w.heap.size w W)=>XH.out (.mk k2 f2) N k2 _ W (HG.out W h) (fO _ _ _ _ _ _ (bU.later h) wB));have vQ:=zh (sK.out.trans (fieldsOk_at hx (pD fs q)));(have hpv:pD fs (q+1)=some nm:=by unfold pD;rw[if_neg aAM,Nat.add_sub_cancel,hx];rfl);rw[<-hpv] at vQ;have tI:nm.size<=8000:=hn;clear hj hpv wB hn;generalize cK d (.mk k2 f2)=r0 at HL vQ;go_wp2_with fail;obtain⟨q0,q1,q2,-⟩:=bxT3 (bY wr (cX nm k2 a2 n2 c2));obtain⟨t0,t1,-⟩:=bxT2 (aD (aB sV.out (aA wr (cX nm k2 a2 n2 c2))) uV.out)
         cases tT:aR nm with
         |false=>
          have HF:Hid (cK (d+1) (.mk kind fs)=false):=zh (by rw[vQ.out,tT];rfl);clear vQ sK;refine wp_region_held_drew (S:=(fun W=>Below (wr.alloc (cX nm k2 a2 n2 c2)).heap.size (wr.alloc (cX nm k2 a2 n2 c2)) W)) aAN (aE _) fun hS=>?_;refine zq 0 (.pointer (some ⟨wr.heap.size,0,none⟩)) rfl ?_;refine zt 1 (.string nm) rfl (fun W hW=>aAU) ?_;(try simp only[zn]);refine zr 2 rfl (fun K hK=>?_);(try simp only[z1,z2,z3]);go_simp;refine(jU nm (wr.alloc (cX nm k2 a2 n2 c2)).drew aAM (HG.out _ (aB HB.out (aB (aA _ _) (aE _))))).mono ?_;rintro e w5 ⟨rfl,rfl⟩;rw[tT];refine hK.out _ _ hS (fun hS=>?_);clear hK K;refine zq 3 (.bool true) rfl ?_;refine zq 4 (.bool true) rfl ?_;refine zu 5 rfl ?_;refine zu 6 rfl ?_;refine zu 7 rfl ?_;refine zu 8 rfl ?_;refine zu 9 rfl ?_;refine zu 10 rfl ?_;refine zu 11 rfl ?_;refine zu 12 rfl ?_;refine zu 13 rfl ?_;refine zu 14 rfl ?_;refine zu 15 rfl ?_;refine zu 16 rfl ?_;refine zu 17 rfl ?_;refine zu 18 rfl ?_;exact Y8
         |true=>
          by_cases yP:q=0
          ·subst yP;have xS:Hid (cK (d+1) (.mk kind fs)=(r0&&jP (cK d) (pD fs (0+1)) (fs.drop (0+1)))):=zh (by rw[vQ.out,tT];simp[pD]);clear vQ sK;refine wp_region_held_drew (S:=(fun W=>Below (wr.alloc (cX nm k2 a2 n2 c2)).heap.size (wr.alloc (cX nm k2 a2 n2 c2)) W)) aAN (aE _) fun hS=>?_;refine zq 0 (.pointer (some ⟨wr.heap.size,0,none⟩)) rfl ?_;refine zt 1 (.string nm) rfl (fun W hW=>aAU) ?_;(try simp only[zn]);refine zr 2 rfl (fun K hK=>?_);(try simp only[z1,z2,z3]);go_simp;refine(jU nm (wr.alloc (cX nm k2 a2 n2 c2)).drew aAM (HG.out _ (aB HB.out (aB (aA _ _) (aE _))))).mono ?_;rintro e w5 ⟨rfl,rfl⟩;rw[tT];refine hK.out _ _ hS (fun hS=>?_);clear hK K;refine zq 3 (.bool false) rfl ?_;refine zq 4 (.bool false) rfl ?_;refine zq 5 (.int .i64 0) rfl ?_;refine zq 6 (.bool false) rfl ?_;refine zq 7 (.bool false) rfl ?_;refine zu 8 rfl ?_;refine zu 9 rfl ?_;refine zu 10 rfl ?_;refine zu 11 rfl ?_;refine zu 12 rfl ?_;refine zu 13 rfl ?_;refine zu 14 rfl ?_;refine zu 15 rfl ?_;refine zu 16 rfl ?_;refine zu 17 rfl ?_;refine zq 18 (.bool false) rfl ?_;refine zq 19 (.bool false) rfl ?_;refine zq 20 (.bool false) rfl ?_;refine zq 21 (.pointer (some ⟨wr.heap.size,1,none⟩)) rfl ?_;refine zt 22 (.agg #[.int .i64 k2,.slice a2 n2 c2]) rfl (fun W hW=>aAU) ?_;refine zq 23 (.int .i64 ((d:Int)+1)) rfl ?_;refine zt 24 (.int .i64 (d:Int)) rfl (fun W hW=>aCl) ?_;(try simp only[zn]);refine zr 25 rfl (fun K hK=>?_);(try simp only[z1,z2,z3]);go_simp;refine(HL.out _ (aB HB.out (aB (aA _ _) (aE _)))).mono ?_;rintro e w6 ⟨rfl,vI⟩;have V6:Below (wr.alloc (cX nm k2 a2 n2 c2)).heap.size (wr.alloc (cX nm k2 a2 n2 c2)) w6:=aB (aE _) vI;refine hK.out _ _ V6 (fun hS=>?_);clear hK K;refine zq 26 (.bool (!r0)) rfl ?_;refine zq 27 (.bool (!r0)) rfl ?_;(try simp only[zn]);refine wpAnyH_done aAN ?_ _;have AC:=zh (aB sV.out (aB (aA wr (cX nm k2 a2 n2 c2)) V6));have AO:=zh (aB (aA w (lH kind (some ⟨b,o,none⟩) fs.length c)) AC.out)
           cases r0 with
           |false=>
            exact aAh
           |true=>
            have PQ:Hid (cK (d+1) (.mk kind fs)=jP (cK d) (pD fs (0+1)) (fs.drop (0+1))):=zh (by rw[xS.out];rfl);clear xS hS V6 vI HL q0 q1 q2 t0 t1 p0 p1 p2;go_wp2_with fail;go_roundw;(case rel=>exact⟨0+1,aAM,aAV,AC,PQ⟩);case measure=>simp[intOf];omega
          have AQ:0<q:=aAM;obtain⟨y,hy,-⟩:=getElem?_of_lt (l:=fs) (k:=q-1) aAM;obtain⟨cs',⟨ct',rfl,hn',het'⟩,-,zJ⟩:=HC.out (q-1) y hy;obtain⟨pn,ty'⟩:=y;have hp0:(wr.alloc (cX nm k2 a2 n2 c2)).cell? ⟨b,o+(q-1)*3,none⟩=some (.string pn):=aC (aB HB.out (aA _ _)) aCN;(have hpv:pD fs q=some pn:=by unfold pD;rw[if_neg yP,hy];rfl);rw[hpv] at vQ;clear zJ het' hn' hpv
          cases BG:gtB nm pn with
          |false=>
           (have G9:∀W,(binOp .leq 9 (.string nm) (.string pn)).run Tryz.prog W=.ok (.bool true) W:=fun W=>by rw[qH,BG];rfl);have HF:Hid (cK (d+1) (.mk kind fs)=false):=zh aBR;clear vQ sK;refine wp_region_held_drew (S:=(fun W=>Below (wr.alloc (cX nm k2 a2 n2 c2)).heap.size (wr.alloc (cX nm k2 a2 n2 c2)) W)) aAN (aE _) fun hS=>?_;refine zq 0 (.pointer (some ⟨wr.heap.size,0,none⟩)) rfl ?_;refine zt 1 (.string nm) rfl (fun W hW=>aAU) ?_;(try simp only[zn]);refine zr 2 rfl (fun K hK=>?_);(try simp only[z1,z2,z3]);go_simp;refine(jU nm (wr.alloc (cX nm k2 a2 n2 c2)).drew aAM (HG.out _ (aB HB.out (aB (aA _ _) (aE _))))).mono ?_;rintro e w5 ⟨rfl,rfl⟩;rw[tT];refine hK.out _ _ hS (fun hS=>?_);clear hK K;refine zq 3 (.bool false) rfl ?_;refine zq 4 (.bool false) rfl ?_;refine zq 5 (.int .i64 (q:Int)) rfl ?_;refine zq 6 (.bool true) rfl ?_;refine zq 7 (.bool true) rfl ?_;refine zq 8 (.pointer (some ⟨wr.heap.size,0,none⟩)) rfl ?_;refine zt 9 (.string nm) rfl (fun W hW=>aAU) ?_;refine zq 10 (.pointer (some ⟨w.heap.size,1,none⟩)) rfl ?_;refine zt 11 (.slice (some ⟨b,o,none⟩) fs.length c) rfl (fun W hW=>aAU) ?_;refine zq 12 (.int .i64 (q:Int)) rfl ?_;refine zt 13 (.int .i64 ((q:Int)-1)) rfl (fun W hW=>aCc) ?_;refine zt 14 (.pointer (some ⟨b,o+(q-1)*3,none⟩)) rfl (fun W hW=>aBt) ?_;refine zq 15 (.pointer (some ⟨b,o+(q-1)*3,none⟩)) rfl ?_;refine zt 16 (.string pn) rfl (fun W hW=>aBO) ?_;refine zt 17 (.bool true) rfl (fun W hW=>by have zI:=G9 W;go_simp) ?_;refine zq 18 (.bool true) rfl ?_;exact Y8
          |true=>
           (have G9:∀W,(binOp .leq 9 (.string nm) (.string pn)).run Tryz.prog W=.ok (.bool false) W:=fun W=>by rw[qH,BG];rfl);have xS:Hid (cK (d+1) (.mk kind fs)=(r0&&jP (cK d) (pD fs (q+1)) (fs.drop (q+1)))):=zh aBR;clear vQ sK;refine wp_region_held_drew (S:=(fun W=>Below (wr.alloc (cX nm k2 a2 n2 c2)).heap.size (wr.alloc (cX nm k2 a2 n2 c2)) W)) aAN (aE _) fun hS=>?_;refine zq 0 (.pointer (some ⟨wr.heap.size,0,none⟩)) rfl ?_;refine zt 1 (.string nm) rfl (fun W hW=>aAU) ?_;(try simp only[zn]);refine zr 2 rfl (fun K hK=>?_);(try simp only[z1,z2,z3]);go_simp;refine(jU nm (wr.alloc (cX nm k2 a2 n2 c2)).drew aAM (HG.out _ (aB HB.out (aB (aA _ _) (aE _))))).mono ?_;rintro e w5 ⟨rfl,rfl⟩;rw[tT];refine hK.out _ _ hS (fun hS=>?_);clear hK K;refine zq 3 (.bool false) rfl ?_;refine zq 4 (.bool false) rfl ?_;refine zq 5 (.int .i64 (q:Int)) rfl ?_;refine zq 6 (.bool true) rfl ?_;refine zq 7 (.bool true) rfl ?_;refine zq 8 (.pointer (some ⟨wr.heap.size,0,none⟩)) rfl ?_;refine zt 9 (.string nm) rfl (fun W hW=>aAU) ?_;refine zq 10 (.pointer (some ⟨w.heap.size,1,none⟩)) rfl ?_;refine zt 11 (.slice (some ⟨b,o,none⟩) fs.length c) rfl (fun W hW=>aAU) ?_;refine zq 12 (.int .i64 (q:Int)) rfl ?_;refine zt 13 (.int .i64 ((q:Int)-1)) rfl (fun W hW=>aCc) ?_;refine zt 14 (.pointer (some ⟨b,o+(q-1)*3,none⟩)) rfl (fun W hW=>aBt) ?_;refine zq 15 (.pointer (some ⟨b,o+(q-1)*3,none⟩)) rfl ?_;refine zt 16 (.string pn) rfl (fun W hW=>aBO) ?_;refine zt 17 (.bool false) rfl (fun W hW=>by have zI:=G9 W;go_simp) ?_;refine zq 18 (.bool false) rfl ?_;refine zq 19 (.bool false) rfl ?_;refine zq 20 (.bool false) rfl ?_;refine zq 21 (.pointer (some ⟨wr.heap.size,1,none⟩)) rfl ?_;refine zt 22 (.agg #[.int .i64 k2,.slice a2 n2 c2]) rfl (fun W hW=>aAU) ?_;refine zq 23 (.int .i64 ((d:Int)+1)) rfl ?_;refine zt 24 (.int .i64 (d:Int)) rfl (fun W hW=>aCl) ?_;(try simp only[zn]);refine zr 25 rfl (fun K hK=>?_);(try simp only[z1,z2,z3]);go_simp;refine(HL.out _ (aB HB.out (aB (aA _ _) (aE _)))).mono ?_;rintro e w6 ⟨rfl,vI⟩;have V6:Below (wr.alloc (cX nm k2 a2 n2 c2)).heap.size (wr.alloc (cX nm k2 a2 n2 c2)) w6:=aB (aE _) vI;refine hK.out _ _ V6 (fun hS=>?_);clear hK K;refine zq 26 (.bool (!r0)) rfl ?_;refine zq 27 (.bool (!r0)) rfl ?_;(try simp only[zn]);refine wpAnyH_done aAN ?_ _;have AC:=zh (aB sV.out (aB (aA wr (cX nm k2 a2 n2 c2)) V6));have AO:=zh (aB (aA w (lH kind (some ⟨b,o,none⟩) fs.length c)) AC.out)
           cases r0 with
           |false=>
            exact aAh
           |true=>
            have PQ:Hid (cK (d+1) (.mk kind fs)=jP (cK d) (pD fs (q+1)) (fs.drop (q+1))):=zh (by rw[xS.out];rfl);clear xS hS V6 vI HL q0 q1 q2 t0 t1 p0 p1 p2;go_wp2_with fail;go_roundw;(case rel=>exact⟨q+1,aAM,aAV,AC,PQ⟩);case measure=>simp[intOf];omega
       have AR:q=fs.length:=aAM;have HT:Hid (cK (d+1) (.mk kind fs)=true):=zh aBW;go_wp2_with fail;go_ret;exact⟨aF (by rw[HT.out]),HB.out⟩
     have h4:¬kind=2:=fun e=>g4 (.inl e);(have h4':(kind != 2)=true:=by rw[bne_iff_ne];exact h4);(have h5:(0:Int)<(fs.length:Int):=by have:¬fs.length=0:=fun e=>g4 (.inr e);omega);have HF:=zh (wA.out (fun h=>g4 h.2.2.2));clear wA g4;exact ZD
    have g3':(8:Int)<(fs.length:Int):=aAM;have HF:=zh (wA.out (fun h=>g3 h.2.2.1));clear wA;exact ZD
   have g2':3<=kind:=aAM;have HF:=zh (wA.out (fun h=>g2 h.2.1));clear wA;exact ZD
  have g1':kind<0:=aAM;have HF:=zh (wA.out (fun h=>g1 h.1));clear wA;exact ZD
theorem rightType_any:∀(d:Nat)(t:Ty)(N:Nat->Prop)(k:Int)(vf:Value)(w:World),d<=100->dL w->jQ N w t [.int .i64 k,vf]->
  Calls Tryz.prog 197 #[.agg #[.int .i64 k,vf],.int .i64 (d:Int)] w fun e w'=>e=.returned (.bool (cK d t))/\Below w.heap.size w w':=fun d=>by
 induction d with
 |zero=>exact rightType_zero
 |succ d ih=>exact rightType_step d ih
theorem YW{p:Prop}(h:p:=by
 clear vQ sK;go_wp2_with(go_at_call 147;refine(eN x wr PC (HG.out _ HB.out)).mono ?_;rintro e w5 ⟨rfl,rfl⟩;rw[tT]);go_ret
 exact⟨aF aBk,HB.out⟩):p:=h
theorem eN(s:bA)(w:World)(hs:s.size<=140737488355328)(hg:dL w):
  Calls Tryz.prog 147 #[.string s] w fun e w'=>e=.returned (.bool (aR s))/\w=w':=by
 exact YJ
theorem namesOk_at{l:List bA}{q:Nat}{x:bA}(hx:l[q]? =some x)(before:Option bA):qN before (l.drop q)=(aR x&&(match before with|none=>true|some b=>gtB x b)&&qN (some x) (l.drop (q+1))):=by
 exact aAs
def nB(l:List bA)(q:Nat):Option bA:=if q=0 then none else l[q-1]?
theorem leaf_13(n:Int)(s m:bA)(names:List bA)(args:List Xp)(N:Nat->Prop)(vn:Value)(a2:Option Addr)(n2 c2:Nat)(w:World)(hg:dL w)(hr:aL 1 cZ N w vn names):gB (.mk 13 n s m names args) 13 n s m vn (.slice a2 n2 c2) w:=by
 unfold gB;have HG:=zh (fun W(hb:Below w.heap.size w W)=>hg.later hb);have HR:Hid (iW (.mk 13 n s m names args)=(qN none names&&decide (names.length<=8))):=zh rfl;have HD:Hid (decide ((names.length:Int)<=8)=decide (names.length<=8)):=zh aBh;clear hg;have JH:names.length<=9223372036854775807:=aC6;rcases hr.cases aAO with⟨rfl,a,c,rfl⟩|⟨b,o,c,rfl,h0,h1,h2,hb,hN,hc⟩
 ·clear hr;go_enter Tryz.func225,Tryz.ntmps225;go_wp2_with fail;go_loop [82] (fun i=>i=.int .i64 0) (fun _=>0)
  case atStart=>rfl
  case round=>
   subst hrel;go_wp2_with fail;go_ret;exact⟨aF aBr,aA _ _⟩
 have HC:=zh hc;have uV:=zh (bY w (aQ 13 n s m (some ⟨b,o,none⟩) names.length c a2 n2 c2));clear hc hr;go_enter Tryz.func225,Tryz.ntmps225;go_wp2_with fail;go_loopw [82] (fun iv wr=>∃q:Nat,q<=names.length/\iv=.int .i64 (q:Int)/\Hid (Below (w.alloc (aQ 13 n s m (some ⟨b,o,none⟩) names.length c a2 n2 c2)).heap.size (w.alloc (aQ 13 n s m (some ⟨b,o,none⟩) names.length c a2 n2 c2)) wr)/\Hid (iW (.mk 13 n s m names args)=(qN (nB names q) (names.drop q)&&decide (names.length<=8)))) (fun iv _=>names.length-(intOf iv).toNat)
 case atStart=>exact⟨0,Nat.zero_le _,rfl,zh (Below.refl _ _),HR⟩
 case round=>
  obtain⟨q,hq,rfl,sV,sK⟩:=hrel;rename World=>wr
  have HB:=zh (aB (aA w (aQ 13 n s m (some ⟨b,o,none⟩) names.length c a2 n2 c2)) sV.out);obtain⟨⟨t0,t1,t2,t3,t4,t5⟩,-⟩:=bx6 (aD sV.out uV.out);by_cases sE:q<names.length
  ·obtain⟨x,hx,vW⟩:=getElem?_of_lt sE;obtain⟨cs,⟨rfl,PC⟩,-,hj⟩:=HC.out q x hx;have p0:wr.cell? ⟨b,o+q,none⟩=some (.string x):=aC HB.out aB1;have vQ:=zh (sK.out.trans (congrArg (fun z=>z&&decide (names.length<=8)) (namesOk_at hx (nB names q))));(have hpv:nB names (q+1)=some x:=by unfold nB;rw[if_neg aAM,Nat.add_sub_cancel,hx]);rw[<-hpv] at vQ;clear hj hpv vW
   cases tT:aR x with
   |false=>
    have HF:Hid (iW (.mk 13 n s m names args)=false):=zh (by rw[vQ.out,tT];rfl);exact YW
   |true=>
    by_cases yP:q=0
    ·subst yP;(have p00:wr.cell? ⟨b,o,none⟩=some (.string x):=by simpa using p0);have xS:Hid (iW (.mk 13 n s m names args)=(qN (nB names (0+1)) (names.drop (0+1))&&decide (names.length<=8))):=zh (by rw[vQ.out,tT];simp[nB]);clear vQ sK;go_wp2_with(go_at_call 147;refine(eN x wr PC (HG.out _ HB.out)).mono ?_;rintro e w5 ⟨rfl,rfl⟩;rw[tT]);go_roundw;(case rel=>exact⟨0+1,aAM,aAV,sV,xS⟩);case measure=>simp[intOf];omega
    have AQ:0<q:=aAM;obtain⟨y,hy,-⟩:=getElem?_of_lt (l:=names) (k:=q-1) aAM;obtain⟨cs',⟨rfl,-⟩,-,zJ⟩:=HC.out (q-1) y hy;have hp0:wr.cell? ⟨b,o+(q-1),none⟩=some (.string y):=aC HB.out aCN;(have hpv:nB names q=some y:=by unfold nB;rw[if_neg yP,hy]);rw[hpv] at vQ;clear zJ hpv;have vA:(0:Int)<(q:Int):=aAM;have DD:(0:Int)<=(q:Int)-1:=aAM;have JI:(q:Int)-1<(names.length:Int):=aAM;have Q9:((q:Int)-1).toNat=q-1:=aAM;have hi4:¬(q:Int)<1:=aAM
    cases BG:gtB x y with
    |false=>
     (have G9:∀W,(binOp .leq 9 (.string x) (.string y)).run Tryz.prog W=.ok (.bool true) W:=fun W=>by rw[qH,BG];rfl);have HF:Hid (iW (.mk 13 n s m names args)=false):=zh aBR;exact YW
    |true=>
     (have G9:∀W,(binOp .leq 9 (.string x) (.string y)).run Tryz.prog W=.ok (.bool false) W:=fun W=>by rw[qH,BG];rfl);have xS:Hid (iW (.mk 13 n s m names args)=(qN (nB names (q+1)) (names.drop (q+1))&&decide (names.length<=8))):=zh aBR;clear vQ sK;go_wp2_with(go_at_call 147;refine(eN x wr PC (HG.out _ HB.out)).mono ?_;rintro e w5 ⟨rfl,rfl⟩;rw[tT]);go_roundw;(case rel=>exact⟨q+1,aAM,aAV,sV,xS⟩);case measure=>simp[intOf];omega
  have AR:q=names.length:=aAM;have HT:Hid (iW (.mk 13 n s m names args)=decide (names.length<=8)):=zh aBW;exact ZX
def cleanN(op n:Int):Int:=if op=0\/op=1\/op=16 then n else 0
def cleanS(op:Int)(s:bA):bA:=if op=2\/op=17\/op=18\/op=14\/op=12\/op=15 then s else noB
def cleanM(op:Int)(m:bA):bA:=if op=15 then m else noB
def pV(op:Int)(k:Nat):Int:=if op=0\/op=1\/op=2\/op=17 then 0 else if op=18\/op=14\/op=16\/op=10 then 1 else if op=11 then 3 else if op=13 then k else if op=15 then -1 else 2
theorem clean_all(op n:Int)(s m:bA)(a1:Option Addr)(n1 c1:Nat)(a2:Option Addr)(n2 c2:Nat)(w:World)(h0:0<=op)(h1:op<19):
  Calls Tryz.prog 224 #[dV op n s m a1 n1 c1 a2 n2 c2] w fun e w'=>e=.returned (.tuple #[.agg #[.int .i64 op,.int .i64 (cleanN op n),.string (cleanS op s),.string (cleanM op m),if op=13 then .slice a1 n1 c1 else .slice none 0 0,.slice a2 n2 c2],.int .i64 (pV op n1)])/\Below w.heap.size w w':=by
 obtain⟨V,HV⟩:∃V,Hid (V=Value.tuple #[.agg #[.int .i64 op,.int .i64 (cleanN op n),.string (cleanS op s),.string (cleanM op m),if op=13 then .slice a1 n1 c1 else .slice none 0 0,.slice a2 n2 c2],.int .i64 (pV op n1)]):=⟨_,zh rfl⟩;rw[<-HV.out];have hc:(op=0\/op=1\/op=2\/op=3\/op=4\/op=5\/op=6\/op=7\/op=8\/op=9\/op=10\/op=11\/op=12\/op=14\/op=16\/op=17\/op=18)\/op=13\/op=15:=aAM;clear h0 h1;rcases hc with(rfl|rfl|rfl|rfl|rfl|rfl|rfl|rfl|rfl|rfl|rfl|rfl|rfl|rfl|rfl|rfl|rfl)|rfl|rfl
 all_goals
  go_enter Tryz.func224,Tryz.ntmps224;go_wp2_with fail;try go_region
  all_goals try go_wp2_with fail
  all_goals refine bodyPost_ret (v:=V) (by rw[HV.out];simp[results,Tryz.results224,go_sem,cleanN,cleanS,cleanM,pV,noB]) rfl ⟨rfl,?_⟩
  all_goals repeat(first|exact Below.refl _ _|refine Below.drew ?_|refine Below.alloc ?_ aBA _|refine Below.setCell ?_ aBA _)
theorem leaf_any(op n:Int)(s m:bA)(names:List bA)(args:List Xp)(N:Nat->Prop)(vn va:Value)(w:World)(h0:0<=op)(h1:op<19)(hg:dL w)(he:cJ N w (.mk op n s m names args) [.int .i64 op,.int .i64 n,.string s,.string m,vn,va]):
  gB (.mk op n s m names args) op n s m vn va w:=by
 rw[bG] at he;obtain⟨v1,v2,e,hs,hm,hn,a2,c2,rfl,-⟩:=he;cases e;have hn':=hn;obtain⟨a1,c1,rfl,-⟩:=hn';have hc:op=0\/op=1\/op=2\/op=3\/op=4\/op=5\/op=6\/op=7\/op=8\/op=9\/op=10\/op=11\/op=12\/op=13\/op=14\/op=15\/op=16\/op=17\/op=18:=aAM;rcases hc with rfl|rfl|rfl|rfl|rfl|rfl|rfl|rfl|rfl|rfl|rfl|rfl|rfl|rfl|rfl|rfl|rfl|rfl|rfl
 ·exact leaf_0 n s m names args a1 names.length c1 a2 c2 w hg hs hm
 ·exact leaf_1 n s m names args a1 names.length c1 a2 c2 w hg hs hm
 ·exact rN 2 aAQ n s m names args a1 names.length c1 a2 c2 w hg hs hm
 ·exact kX 3 aAQ n s m names args a1 names.length c1 a2 c2 w hg hs hm
 ·exact kX 4 aAQ n s m names args a1 names.length c1 a2 c2 w hg hs hm
 ·exact kX 5 aAQ n s m names args a1 names.length c1 a2 c2 w hg hs hm
 ·exact kX 6 aAQ n s m names args a1 names.length c1 a2 c2 w hg hs hm
 ·exact kX 7 aAQ n s m names args a1 names.length c1 a2 c2 w hg hs hm
 ·exact kX 8 aAQ n s m names args a1 names.length c1 a2 c2 w hg hs hm
 ·exact kX 9 aAQ n s m names args a1 names.length c1 a2 c2 w hg hs hm
 ·exact kX 10 aAQ n s m names args a1 names.length c1 a2 c2 w hg hs hm
 ·exact kX 11 aAQ n s m names args a1 names.length c1 a2 c2 w hg hs hm
 ·exact rN 12 aAQ n s m names args a1 names.length c1 a2 c2 w hg hs hm
 ·exact leaf_13 n s m names args N _ a2 args.length c2 w hg hn
 ·exact rN 14 aAQ n s m names args a1 names.length c1 a2 c2 w hg hs hm
 ·exact leaf_15 n s m names args a1 names.length c1 a2 c2 w hg hs hm
 ·exact leaf_16 n s m names args a1 names.length c1 a2 c2 w hg hs hm
 ·exact rN 17 aAQ n s m names args a1 names.length c1 a2 c2 w hg hs hm
 exact rN 18 aAQ n s m names args a1 names.length c1 a2 c2 w hg hs hm
def CleanSays(op n:Int)(s m:bA)(a1:Option Addr)(n1 c1:Nat)(va:Value)(w:World):Prop:=Calls Tryz.prog 224 #[.agg #[.int .i64 op,.int .i64 n,.string s,.string m,.slice a1 n1 c1,va]] w fun e w'=>∃a3 n3 c3,e=.returned (.tuple #[.agg #[.int .i64 op,.int .i64 (cleanN op n),.string (cleanS op s),.string (cleanM op m),.slice a3 n3 c3,va],.int .i64 (pV op n1)])/\n3=(if op=13 then n1 else 0)/\Below w.heap.size w w'
theorem clean_any(op n:Int)(s m:bA)(a1:Option Addr)(n1 c1:Nat)(a2:Option Addr)(n2 c2:Nat)(w:World)(h0:0<=op)(h1:op<19):CleanSays op n s m a1 n1 c1 (.slice a2 n2 c2) w:=by
 by_cases h:op=13
 ·subst h;exact(clean_all 13 n s m a1 n1 c1 a2 n2 c2 w aAM aAM).mono fun e w' h=>⟨a1,n1,c1,h.1,rfl,h.2⟩
 refine(clean_all op n s m a1 n1 c1 a2 n2 c2 w h0 h1).mono fun e w' h2=>?_;rw[if_neg h] at h2;exact⟨none,0,0,h2.1,by rw[if_neg h],h2.2⟩
theorem cleanX_eq(op n:Int)(s m:bA)(names:List bA)(args:List Xp)(h0:0<=op)(h1:op<19):cleanX (.mk op n s m names args)=((cleanN op n,cleanS op s,cleanM op m,if op=13 then names else[]),pV op names.length):=by
 have hc:op=0\/op=1\/op=2\/op=3\/op=4\/op=5\/op=6\/op=7\/op=8\/op=9\/op=10\/op=11\/op=12\/op=13\/op=14\/op=15\/op=16\/op=17\/op=18:=aAM;rcases hc with rfl|rfl|rfl|rfl|rfl|rfl|rfl|rfl|rfl|rfl|rfl|rfl|rfl|rfl|rfl|rfl|rfl|rfl|rfl<;>rfl
theorem aAA{p:Prop}(h:p:=by
 go_ret
 exact⟨aF aBk,uS.out⟩):p:=h
theorem aN{B:Nat}{a b:World}(h:Below B a b)(n:Nat):Below B a (b.drewN n):=⟨h.os,h.tape,h.output,h.size,h.block⟩
theorem flds_bad{l:List Fld}{k:Nat}{x:Fld}{known:List bA}{r:Bool}(hx:l[k]? =some x)(h:(known.any fun y=>decide (y=x.1))=true\/aR x.1=false\/cK 4 x.2=false)
  (hr:r=dK (l.drop k) known):r=false:=by
 obtain⟨hk,rfl⟩:=Yb.1 hx;rw[hr,List.drop_eq_getElem_cons hk];revert h;obtain⟨n,t⟩:=l[k];intro h;rw[dK];rcases h with h|h|h<;>simp[h]
theorem flds_good{l:List Fld}{k:Nat}{x:Fld}{known:List bA}{r:Bool}(hx:l[k]? =some x)(h1:(known.any fun y=>decide (y=x.1))=false)(h2:aR x.1=true)(h3:cK 4 x.2=true)
  (hr:r=dK (l.drop k) known):r=dK (l.drop (k+1)) (x.1::known):=by
 obtain⟨hk,rfl⟩:=Yb.1 hx;rw[hr,List.drop_eq_getElem_cons hk];revert h1 h2 h3;obtain⟨n,t⟩:=l[k];intro h1 h2 h3;rw[dK,h1,h2,h3];rfl
theorem flds_end{l:List Fld}{k:Nat}{known:List bA}{r:Bool}(hk:l.length<=k)(hr:r=dK (l.drop k) known):r=true:=by
 rw[hr,List.drop_of_length_le hk,dK]
theorem nV(l:List Fld)(most:Nat)(N:Nat->Prop)(v:Value)(w:World)(hn:most<=1000)(hg:dL w)(he:aL 3 gR N w v l):
  Calls Tryz.prog 148 #[v,.int .i64 (most:Int)] w fun e w'=>e=.returned (.bool (eH l most))/\Below w.heap.size w w':=by
 have HG:=zh (fun W(hb:Below w.heap.size w W)=>hg.later hb);have JH:l.length<=9223372036854775807:=by obtain⟨_,_,_,h1,h2,-⟩:=he;omega
 have BE:(most:Int)<=1000:=aAM;have HR:Hid (eH l most=(dK l []&&decide (l.length<=most))):=zh rfl;generalize eH l most=res at HR;have HD:Hid (decide ((l.length:Int)<=(most:Int))=decide (l.length<=most)):=zh (by rw[Bool.eq_iff_iff];simp);have yV:=@run_makeMap Tryz.prog;have HRT:=zh (rightType_any);clear hg;rcases he.cases aAO with⟨rfl,a,c,rfl⟩|⟨b,o,c,rfl,h0,h1,h2,hb,hN,hc⟩
 ·clear he;go_enter Tryz.func148,Tryz.ntmps148;go_wp2_with fail;go_loop [11] (fun i=>i=.int .i64 0) (fun _=>0)
  case atStart=>rfl
  case round=>
   subst hrel;go_wp2_with fail;go_ret;exact⟨aF (by rw[HR.out,<-HD.out];simp[dK]),aA _ _⟩
 have HC:=zh hc;clear hc he;go_enter Tryz.func148,Tryz.ntmps148;go_wp2_with fail;clear yV;go_loopw [11] (fun iv wr=>∃(q:Nat)(known:List bA),q<=l.length/\iv=.int .i64 (q:Int)/\Hid (Below w.heap.size w wr)/\Hid (dK l []=dK (l.drop q) known)/\Hid (aX eQ dS wr w.heap.size q (nP known))) (fun iv _=>l.length-(intOf iv).toNat)
 case atStart=>exact⟨0,[],Nat.zero_le _,rfl,zh (aA _ _),zh rfl,zh ((aX.made w).ext (fun _=>rfl))⟩
 case round=>
  obtain⟨q,known,hq,rfl,HB,sK,HM⟩:=hrel;rename World=>wr
  have TT:w.heap.size<wr.heap.size:=HM.out.lt;by_cases sE:q<l.length
  ·obtain⟨x,hx,-⟩:=getElem?_of_lt sE;obtain⟨cs,wB,-,hj⟩:=HC.out q x hx;obtain⟨nm,t⟩:=x;obtain⟨ct,rfl,tI,E0⟩:=wB;have hty0:=E0
   cases t with
   |mk kd fs=>
    rw[iF] at hty0;obtain⟨vf,rfl,yC⟩:=hty0;obtain⟨a1,T5,rfl,-⟩:=yC;have c0:wr.cell? ⟨b,o+q*3,none⟩=some (.string nm):=aC HB.out (hj 0 _ rfl);have c1:=aC HB.out (hj 1 _ rfl);have c2:=aC HB.out (hj 2 _ rfl);have s1:nm.size<=140737488355328:=Nat.le_trans (show nm.size<=8000 from tI) aAO;have HL:=zh (fun W(h:Below w.heap.size w W)=>RightType_any HRT.out (.mk kd fs) N kd _ W (HG.out W h) (fO _ _ _ _ _ _ (bU.later h) E0));have HS:=zh (fun W(h:Below w.heap.size w W)=>eN nm W s1 (HG.out W h));have HK:=zh (mR known nm);have HX:=zh hx;have uS:=zh (aB HB.out (aA wr (cX nm kd a1 fs.length T5)));clear hj E0 hx HC;generalize AQ:(known.any fun y=>decide (y=nm))=r1 at HK;generalize DW:aR nm=r2 at HS;generalize S5:cK 4 (.mk kd fs)=r3 at HL;have T7:=zh AQ;have T6:=zh DW;have Hq3:=zh S5;clear AQ DW S5;generalize fs.length=ln at *
    cases r1 with
    |true=>
     have HF:Hid (res=false):=zh (by rw[HR.out,flds_bad HX.out (.inl T7.out) sK.out];rfl);go_wp2_with(at_lookup;refine bR (HM.out.alloc _) s1 HK.out rfl rfl rfl rfl ?_);exact aAA
    |false=>
     cases r2 with
     |false=>
      have HF:Hid (res=false):=zh (by rw[HR.out,flds_bad HX.out (.inr (.inl T6.out)) sK.out];rfl);go_wp2_with(first|(at_lookup;refine bR (HM.out.alloc _) s1 HK.out rfl rfl rfl rfl ?_)|(go_at_call 147;refine(HS.out _ uS.out).mono ?_;rintro e w1 ⟨rfl,rfl⟩));exact aAA
     |true=>
      cases r3 with
      |false=>
       have HF:Hid (res=false):=zh (by rw[HR.out,flds_bad HX.out (.inr (.inr Hq3.out)) sK.out];rfl);go_wp2_with(first|(at_lookup;refine bR (HM.out.alloc _) s1 HK.out rfl rfl rfl rfl ?_)|(go_at_call 147;refine(HS.out _ uS.out).mono ?_;rintro e w1 ⟨rfl,rfl⟩)|(go_at_call 149;refine(HL.out _ uS.out).mono ?_;rintro e w2 ⟨rfl,sD⟩));go_ret;exact⟨aF aBk,aB uS.out sD⟩
      |true=>
       have xS:=zh (flds_good HX.out T7.out T6.out Hq3.out sK.out);have xP:=uS.out.size;go_wp2_with(first|(at_lookup;refine bR (HM.out.alloc _) s1 HK.out rfl rfl rfl rfl ?_)|(go_at_call 147;refine(HS.out _ uS.out).mono ?_;rintro e w1 ⟨rfl,rfl⟩)|(go_at_call 149;refine(HL.out _ uS.out).mono ?_;rintro e w2 ⟨rfl,sD⟩;have HM2:=zh ((HM.out.alloc (cX nm kd a1 ln T5)).later sD);obtain⟨u0,u1,u2⟩:=(bx3 (aD sD (bY wr (cX nm kd a1 ln T5)))).1)|(at_mapUpdate;refine lE HM2.out aAM s1 rfl rfl rfl rfl rfl ?_;intro w3 Q0 PL));go_roundw;(case rel=>exact⟨q+1,nm::known,aAM,aAV,zh ((aB uS.out sD).grown PL (by have:=(aB uS.out sD).size;omega) (fun i hi=>by cases hi;exact Nat.le_refl _)),xS,zh (Q0.ext (fun z=>congrFun (oM known nm) z))⟩);case measure=>simp[intOf];omega
  have AR:l.length<=q:=aAM;have HT:Hid (res=decide (l.length<=most)):=zh (by rw[HR.out,flds_end AR sK.out];simp);exact ZX
def pQ(N:Nat->Prop)(w:World)(i:Ins)(cs:List Value):Prop:=∃vn,cs=[.int .i64 i.op,.int .i64 i.a,.string i.s,.string i.m,vn]/\i.s.size<=8000/\i.m.size<=8000/\aL 1 cZ N w vn i.names/\ -1<=i.a/\i.a<=1099511627776
theorem hZ:eW pQ:=fun _ _ _ _ _ cs hm h=>by
 obtain⟨vn,h1,h2,h3,h4,h5⟩:=h;exact⟨vn,h1,h2,h3,h4.moves aS hm aAO,h5⟩
def encCod(N:Nat->Prop)(w:World)(c:Cod)(cs:List Value):Prop:=∃vc,cs=[.string c.name,.int .i64 (c.params:Int),.int .i64 (c.locals:Int),vc]/\c.name.size<=8000/\aL 5 pQ N w vc c.code
theorem oW:eW encCod:=fun _ _ _ _ _ cs hm h=>by
 obtain⟨vc,h1,h2,h3⟩:=h;exact⟨vc,h1,h2,h3.moves hZ hm aAO⟩
abbrev iK(cb:Nat)(v:Value):Nat->Prop:=fun b=>b≠cb/\v.ownBlock≠some b
abbrev inC(cb:Nat)(v:Value):Nat->Prop:=fun b=>b=cb\/v.ownBlock=some b
structure Cp (B cb:Nat) (vars:List Fld) (vv:Value) (c:Cmp) (css:List (List Value)) (v:Value) (w:World):Prop where
 box:w.heap[cb]? =some (.cells #[vv,v,.int .i64 (c.locals:Int)] 182)
 gro:Gro 5 171 pQ B c.code css v w
 row:aL 3 gR (iK cb v) w vv vars
 hcb:cb<B
 h11:11<=cb
 nv:vars.length<=1000
 glob:dL w
structure Ext (cb:Nat) (v:Value) (w:World) (v':Value) (w':World):Prop where
 off:Off (inC cb v) w w'
 own:∀b,v'.ownBlock=some b->v.ownBlock=some b\/w.heap.size<=b
section
variable {B cb:Nat} {vars:List Fld} {vv v v' v'':Value} {c:Cmp} {css:List (List Value)} {w w' w'':World}
theorem Ext.refl(cb:Nat)(v:Value)(w:World):Ext cb v w v w:=⟨Off.refl _ _,fun _ h=>.inl h⟩
theorem Ext.below(cb:Nat)(v:Value)(hb:Below w.heap.size w w'):Ext cb v w v w':=⟨Ba hb,fun _ h=>.inl h⟩
theorem Ext.trans(h:Ext cb v w v' w')(k:Ext cb v' w' v'' w''):Ext cb v w v'' w'':=by
 refine⟨Off.fresh (B:=w.heap.size) ((h.off.or _).trans (k.off.mono fun b hb=>?_)) (Nat.le_refl _),fun b hb=>?_⟩
 ·rcases hb with hb|hb
  ·exact .inl (.inl hb)
  rcases h.own b hb with h1|h1
  ·exact .inl (.inr h1)
  exact .inr h1
 rcases k.own b hb with h1|h1
 ·exact h.own b h1
 exact .inr (Nat.le_trans h.off.size h1)
theorem Ext.moves(h:Ext cb v w v' w'):bU (iK cb v) w (iK cb v') w':=fun b hb sE=>
 ⟨⟨hb.1,fun e=>(h.own b e).elim hb.2 (fun h1=>aAM)⟩,fun _ _ hu=>h.off.cell (fun hs=>hs.elim hb.1 hb.2) hu⟩
theorem Cp.lt(h:Cp B cb vars vv c css v w):cb<w.heap.size:=(Array.getElem?_eq_some_iff.1 h.box).1
theorem Cp.own(h:Cp B cb vars vv c css v w):∀b,v.ownBlock=some b->B<=b/\b<w.heap.size:=h.gro.lt
theorem Cp.n11(h:Cp B cb vars vv c css v w):∀k,k<11->¬inC cb v k:=fun k hk hs=>by
 have h1:=h.h11;have h2:=h.hcb;rcases hs with hs|hs
 ·omega
 have:=(h.own k hs).1;omega
theorem Cp.later(h:Cp B cb vars vv c css v w)(hb:Below w.heap.size w w'):Cp B cb vars vv c css v w':=
 ⟨aD hb h.box,h.gro.later hZ hb,h.row.moves bB (bU.later hb) aAO,h.hcb,h.h11,h.nv,h.glob.later hb⟩
theorem Cp.size_le(h:Cp B cb vars vv c css v w):B<=w.heap.size:=h.gro.big
theorem Cp.put{c':Cmp}{css':List (List Value)}(h:Cp B cb vars vv c css v w)(hx:Ext cb v w v' w')(IA:w'.heap[cb]? =some (.cells #[vv,v',.int .i64 (c'.locals:Int)] 182))
  (hgro:Gro 5 171 pQ B c'.code css' v' w'):Cp B cb vars vv c' css' v' w':=
 ⟨IA,hgro,h.row.moves bB hx.moves aAO,h.hcb,h.h11,h.nv,h.glob.off hx.off h.n11⟩
end
theorem set_flat{k:Nat}{u:Value}{j:Nat}(hj:j<k):∀(css:List (List Value))(i:Nat)(c:List Value),(∀c,c∈css->c.length=k)->css[i]? =some c->(css.set i (c.set j u)).flatten=css.flatten.set (i*k+j) u
 |[],i,c,_,h=>aBF
 |d::css,0,c,hk,h=>by
  simp at h;subst h;have hd:=hk d aAQ;rw[List.set_cons_zero,List.flatten_cons,List.flatten_cons,Nat.zero_mul,Nat.zero_add,List.set_append,if_pos aAM]
 |d::css,i+1,c,hk,h=>by
  have hd:=hk d aAQ;rw[List.set_cons_succ,List.flatten_cons,List.flatten_cons,set_flat hj css i c (fun c hc=>hk c (by simp[hc])) aBn,List.set_append,if_neg (by rw[hd,Nat.succ_mul];omega),hd];congr 2;rw[Nat.succ_mul];omega
theorem Gro.set1{α:Type}{k:Nat}{T:TypeId}{enc:(Nat->Prop)->World->α->List Value->Prop}{B:Nat}{l:List α}{css:List (List Value)}{w:World}{g cap n i j:Nat}{x y:α}{c:List Value}{u:Value}(he:eW enc)
  (h:Gro k T enc B l css (.slice (some ⟨g,0,none⟩) n cap) w) (hx:l[i]? =some x) (hc:css[i]? =some c) (hj:j<k)
  (hy:∀N W,enc N W x c->enc N W y (c.set j u)):Gro k T enc B (l.set i y) (css.set i (c.set j u)) (.slice (some ⟨g,0,none⟩) n cap) (w.setCell ⟨g,i*k+j,none⟩ u):=by
 have hm:bU (nA B (.slice (some ⟨g,0,none⟩) n cap)) w (nA B (.slice (some ⟨g,0,none⟩) n cap)) (w.setCell ⟨g,i*k+j,none⟩ u):=fun b hb sE=>by
  refine⟨hb,fun o z hz=>?_⟩;have sC:b≠g:=fun e=>hb.2 (by rw[e];rfl);exact(Off.setCell (S:=fun b=>b=g) w rfl).cell sC hz
 obtain⟨h1,h2⟩:=h.own;have hi:=(Yb.1 hc).1;refine⟨⟨?_,?_⟩,by simp[h.len],fun d hd=>?_,fun a z d hz hd=>?_,by simpa using h.big⟩
 ·rw[set_flat hj css i c h.ks hc,List.length_set,h1,List.length_set]
 ·rcases h2 with⟨h2,-⟩|⟨g',cap',cur,hv,hg,KR,r1,r2,r3,r4⟩
  ·cases h2
  cases hv;refine .inr ⟨g,cap,cur.setIfInBounds (i*k+j) u,by rw[List.length_set],hg,aO KR u,by rw[List.length_set];exact r1,r2,by simpa using r3,?_⟩;rw[set_flat hj css i c h.ks hc,<-r4,Array.toList_setIfInBounds,List.length_set,List.take_set]
 ·rcases List.mem_or_eq_of_mem_set hd with hd|rfl
  ·exact h.ks d hd
  rw[List.length_set];exact h.ks c (List.mem_of_getElem? hc)
 by_cases ha:a=i
 ·subst ha;have hil:a<l.length:=by rw[<-h.len];exact hi
  rw[List.getElem?_set_self hil] at hz;rw[List.getElem?_set_self hi] at hd;cases hz;cases hd;exact hy _ _ (he _ _ _ _ _ _ hm (h.enc a x c hx hc))
 rw[List.getElem?_set_ne (fun e=>ha e.symm)] at hz hd;exact he _ _ _ _ _ _ hm (h.enc a z d hz hd)
theorem bx5{w:World}{b:Nat}{x0 x1 x2 x3 x4:Value}{t:TypeId}(h:w.heap[b]? =some (.cells #[x0,x1,x2,x3,x4] t)):
  (w.cell? ⟨b,0,none⟩=some x0/\w.cell? ⟨b,1,none⟩=some x1/\w.cell? ⟨b,2,none⟩=some x2/\w.cell? ⟨b,3,none⟩=some x3/\w.cell? ⟨b,4,none⟩=some x4)/\(w.frozen? ⟨b,0,none⟩=false/\w.frozen? ⟨b,1,none⟩=false/\w.frozen? ⟨b,2,none⟩=false/\w.frozen? ⟨b,3,none⟩=false/\w.frozen? ⟨b,4,none⟩=false):=
 ⟨⟨(bx h 0 rfl).1,(bx h 1 rfl).1,(bx h 2 rfl).1,(bx h 3 rfl).1,(bx h 4 rfl).1⟩,(bx h 0 (u:=x0) rfl).2,(bx h 1 (u:=x1) rfl).2,(bx h 2 (u:=x2) rfl).2,(bx h 3 (u:=x3) rfl).2,(bx h 4 (u:=x4) rfl).2⟩
def setI5(w:World)(b:Nat)(x0 x1 x2 x3 x4:Value):World:=((((w.setCell ⟨b,0,none⟩ x0).setCell ⟨b,1,none⟩ x1).setCell ⟨b,2,none⟩ x2).setCell ⟨b,3,none⟩ x3).setCell ⟨b,4,none⟩ x4
theorem setI5_off(w:World)(b:Nat)(x0 x1 x2 x3 x4:Value):Off (fun k=>k=b) w (setI5 w b x0 x1 x2 x3 x4):=by
 unfold setI5;exact(Off.refl _ _).one.one.one.one.one
theorem setI5_heap{w:World}{b:Nat}{y0 y1 y2 y3 y4:Value}{t:TypeId}(h:w.heap[b]? =some (.cells #[y0,y1,y2,y3,y4] t))(x0 x1 x2 x3 x4:Value):(setI5 w b x0 x1 x2 x3 x4).heap[b]? =some (.cells #[x0,x1,x2,x3,x4] t):=by
 unfold setI5;rw[aO (aO (aO (aO (aO h _) _) _) _) _];rfl
theorem insInfo:(Tryz.prog.info? 171).map (fun i=>(i.zero,i.size,i.bytes))=some (some (nZ 0 0 ByteArray.empty ByteArray.empty none 0 0),5,72):=aAN
theorem codInfo:(Tryz.prog.info? 168).map (fun i=>(i.zero,i.size,i.bytes))=some (some (oBx28 ByteArray.empty 0 0 none 0 0),4,56):=aAN
end Go.Proofs.YtacgopankhpnbaaGreatDoor
namespace Go.Proofs.YtacgopankhpnbaaGreatDoor
open Go.RowKit
theorem ascOk_at{l:List bA}{q:Nat}{x:bA}(hx:l[q]? =some x)(before:Option bA):pW before (l.drop q)=(aR x&&(match before with|none=>true|some b=>Op.bytesLess b.toList x.toList)&&pW (some x) (l.drop (q+1))):=by
 exact aAs
theorem run_geq_str(t:TypeId)(a b:bA)(w:World):(binOp .geq t (.string a) (.string b)).run Tryz.prog w=.ok (.bool (!Op.bytesLess a.toList b.toList)) w:=by
 simp[binOp,Op.stringOp]
theorem ascending_any(names:List bA)(N:Nat->Prop)(vn:Value)(w:World)(hg:dL w)(hr:aL 1 cZ N w vn names):
  Calls Tryz.prog 223 #[vn] w fun e w'=>e=.returned (.bool (pW none names&&decide (names.length<=8)))/\Below w.heap.size w w':=by
 have HG:=zh (fun W(hb:Below w.heap.size w W)=>hg.later hb);generalize vM:(pW none names&&decide (names.length<=8))=res;have HR:Hid (res=(pW none names&&decide (names.length<=8))):=zh vM.symm;clear vM;have HD:Hid (decide ((names.length:Int)<=8)=decide (names.length<=8)):=zh aBh;clear hg;have JH:names.length<=9223372036854775807:=aC6;rcases hr.cases aAO with⟨rfl,a,c,rfl⟩|⟨b,o,c,rfl,h0,h1,h2,hb,hN,hc⟩
 ·clear hr;go_enter Tryz.func223,Tryz.ntmps223;go_wp2_with fail;go_loop [7] (fun i=>i=.int .i64 0) (fun _=>0)
  case atStart=>rfl
  case round=>
   subst hrel;go_wp2_with fail;go_ret;exact⟨aF aBr,Below.refl _ _⟩
 have HC:=zh hc;clear hc hr;go_enter Tryz.func223,Tryz.ntmps223;go_wp2_with fail;go_loopw [7] (fun iv wr=>∃q:Nat,q<=names.length/\iv=.int .i64 (q:Int)/\Hid (Below w.heap.size w wr)/\Hid (res=(pW (nB names q) (names.drop q)&&decide (names.length<=8)))) (fun iv _=>names.length-(intOf iv).toNat)
 case atStart=>exact⟨0,Nat.zero_le _,rfl,zh (Below.refl _ _),HR⟩
 case round=>
  obtain⟨q,hq,rfl,HB,sK⟩:=hrel;rename World=>wr
  by_cases sE:q<names.length
  ·obtain⟨x,hx,vW⟩:=getElem?_of_lt sE;obtain⟨cs,⟨rfl,PC⟩,-,hj⟩:=HC.out q x hx;have p0:wr.cell? ⟨b,o+q,none⟩=some (.string x):=aC HB.out aB1;have vQ:=zh (sK.out.trans (congrArg (fun z=>z&&decide (names.length<=8)) (ascOk_at hx (nB names q))));(have hpv:nB names (q+1)=some x:=by unfold nB;rw[if_neg aAM,Nat.add_sub_cancel,hx]);rw[<-hpv] at vQ;clear hj hpv vW
   cases tT:aR x with
   |false=>
    have HF:Hid (res=false):=zh (by rw[vQ.out,tT];rfl);exact YW
   |true=>
    by_cases yP:q=0
    ·subst yP;(have p00:wr.cell? ⟨b,o,none⟩=some (.string x):=by simpa using p0);have xS:Hid (res=(pW (nB names (0+1)) (names.drop (0+1))&&decide (names.length<=8))):=zh (by rw[vQ.out,tT];simp[nB]);clear vQ sK;go_wp2_with(go_at_call 147;refine(eN x wr PC (HG.out _ HB.out)).mono ?_;rintro e w5 ⟨rfl,rfl⟩;rw[tT]);go_roundw;(case rel=>exact⟨0+1,aAM,aAV,HB,xS⟩);case measure=>simp[intOf];omega
    have AQ:0<q:=aAM;obtain⟨y,hy,-⟩:=getElem?_of_lt (l:=names) (k:=q-1) aAM;obtain⟨cs',⟨rfl,-⟩,-,zJ⟩:=HC.out (q-1) y hy;have hp0:wr.cell? ⟨b,o+(q-1),none⟩=some (.string y):=aC HB.out aCN;(have hpv:nB names q=some y:=by unfold nB;rw[if_neg yP,hy]);rw[hpv] at vQ;clear zJ hpv;have vA:(0:Int)<(q:Int):=aAM;have DD:(0:Int)<=(q:Int)-1:=aAM;have JI:(q:Int)-1<(names.length:Int):=aAM;have Q9:((q:Int)-1).toNat=q-1:=aAM;have hi4:¬(q:Int)<1:=aAM
    cases BG:Op.bytesLess y.toList x.toList with
    |false=>
     (have G9:∀W,(binOp .geq 9 (.string y) (.string x)).run Tryz.prog W=.ok (.bool true) W:=fun W=>by rw[run_geq_str,BG];rfl);have HF:Hid (res=false):=zh aBR;exact YW
    |true=>
     (have G9:∀W,(binOp .geq 9 (.string y) (.string x)).run Tryz.prog W=.ok (.bool false) W:=fun W=>by rw[run_geq_str,BG];rfl);have xS:Hid (res=(pW (nB names (q+1)) (names.drop (q+1))&&decide (names.length<=8))):=zh aBR;clear vQ sK;go_wp2_with(go_at_call 147;refine(eN x wr PC (HG.out _ HB.out)).mono ?_;rintro e w5 ⟨rfl,rfl⟩;rw[tT]);go_roundw;(case rel=>exact⟨q+1,aAM,aAV,HB,xS⟩);case measure=>simp[intOf];omega
  have AR:q=names.length:=aAM;have HT:Hid (res=decide (names.length<=8)):=zh aBW;exact ZX
def cF(c:Cod)(i:Ins)(vc vn:Value)(w:World):Prop:=
 Calls Tryz.prog 193 #[.agg #[.string c.name,.int .i64 (c.params:Int),.int .i64 (c.locals:Int),vc],.agg #[.int .i64 i.op,.int .i64 i.a,.string i.s,.string i.m,vn]] w fun e w'=>e=.returned (.bool (cE c i))/\Below w.heap.size w w'
theorem aAv{p:Prop}(h:p:=by
 try simp only[zn]
 refine wpAnyH_done aAN ?_ _;clear hS;go_wp2_with fail;go_ret
 exact⟨oH HF.out,aB hb uA⟩):p:=h
def jS(i:Ins)(vn:Value)(w:World):Prop:=
 Calls Tryz.prog 112 #[.agg #[.int .i64 i.op,.int .i64 i.a,.string i.s,.string i.m,vn]] w fun e w'=>e=.returned (.string (bs (iO i)))/\Below w.heap.size w w'
theorem qR(l:List UInt8):(bs l).size=l.length:=by show l.toArray.size=_;simp
theorem line_bare(op:Int)(ho:op=4\/op=5\/op=6\/op=7\/op=8\/op=9\/op=18\/op=19){wd:List UInt8}(EZ:jW[op.toNat]? =some wd)(PD:wd.length<=6)(a:Int)(s m:bA)(names:List bA)(an:Option Addr)(cn:Nat)(w:World)(hg:dL w)(wK: -1<=a)(sT:a<=1099511627776):
  jS ⟨op,a,s,m,names⟩ (.slice an names.length cn) w:=by
 unfold jS;dsimp only;have hb:=aA w (dY op a s m an names.length cn);have hw:=aC hb (hg.words _ _ EZ);have hwl:(bs wd).size<=6:=by rw[qR];exact PD
 have HF:Hid ((bs wd++⟨#[10]⟩:bA)=bs (iO ⟨op,a,s,m,names⟩)):=zh (jA (by
  unfold iO;dsimp only;rw[List.getD_eq_getElem?_getD,EZ];clear EZ hw
  rcases ho with rfl|rfl|rfl|rfl|rfl|rfl|rfl|rfl<;>simp[app_data,mk_data,bs_data]))
 generalize bs wd=W at *;clear hg EZ PD;rcases ho with rfl|rfl|rfl|rfl|rfl|rfl|rfl|rfl
 all_goals
  simp only[Int.reduceToNat] at hw;go_enter Tryz.func112,Tryz.ntmps112;go_wp2_with fail;go_ret;exact⟨oH HF.out,hb⟩
theorem line_num(op:Int)(ho:op=0\/op=1\/op=2\/op=3\/op=10\/op=11\/op=15\/op=16\/op=17){wd:List UInt8}(EZ:jW[op.toNat]? =some wd)(PD:wd.length<=6)(a:Int)(s m:bA)(names:List bA)(an:Option Addr)(cn:Nat)(w:World)(hg:dL w)(wK: -1<=a)(sT:a<=1099511627776):
  jS ⟨op,a,s,m,names⟩ (.slice an names.length cn) w:=by
 unfold jS;dsimp only;have hb:=aA w (dY op a s m an names.length cn);have hw:=aC hb (hg.words _ _ EZ);have hwl:(bs wd).size<=6:=by rw[qR];exact PD
 have HI:=zh (Tryz.strconv_Itoa a aAM aAM (w.alloc (dY op a s m an names.length cn)) (hg.later hb).pow10);have hil:=Lib.itoa_length_le a aAM aAM;have K9:=zh (fun k os=>Lib.below_grow _ (w.alloc (dY op a s m an names.length cn)) (Nat.le_refl _) k os)
 have HF:Hid (((bs wd++(⟨#[32]⟩++⟨(Lib.itoa a).toArray⟩))++⟨#[10]⟩:bA)=bs (iO ⟨op,a,s,m,names⟩)):=zh (jA (by
  unfold iO;dsimp only;rw[List.getD_eq_getElem?_getD,EZ];clear EZ hw
  rcases ho with rfl|rfl|rfl|rfl|rfl|rfl|rfl|rfl|rfl<;>simp[app_data,mk_data,bs_data,itoaB]))
 generalize bs wd=W at *;generalize Lib.itoa a=it at *;clear hg EZ PD;rcases ho with rfl|rfl|rfl|rfl|rfl|rfl|rfl|rfl|rfl
 all_goals
  simp only[Int.reduceToNat] at hw;go_enter Tryz.func112,Tryz.ntmps112;go_wp2_with(go_at_call 106;refine HI.out.mono ?_;rintro e w1 ⟨rfl,k,os,zH⟩;have uA:=K9.out k os;rw[<-zH] at uA;clear zH);go_ret;exact⟨oH HF.out,aB hb uA⟩
theorem line_12(a:Int)(s m:bA)(names:List bA)(an:Option Addr)(cn:Nat)(N:Nat->Prop)(w:World)(hg:dL w)(wK: -1<=a)(sT:a<=1099511627776)(hs:s.size<=8000)(hm:m.size<=8000)(hn:aL 1 cZ N w (.slice an names.length cn) names)(hl:names.length<=1000):
  jS ⟨12,a,s,m,names⟩ (.slice an names.length cn) w:=by
 unfold jS;dsimp only;have hb:=aA w (dY 12 a s m an names.length cn);have hw:(w.alloc (dY 12 a s m an names.length cn)).cell? ⟨0,12,none⟩=some (.string (bs [114,101,99])):=aC hb (hg.words 12 _ rfl);have hwl:=qR [114,101,99];have HG:=zh (fun(q:Nat)(x:bA)(hx:names[q]? =some x)=>(show(bs ([114,101,99]++(names.take (q+1)).flatMap (fun x=>[32]++x.data.toList)):bA)=bs ([114,101,99]++(names.take q).flatMap (fun x=>[32]++x.data.toList))++(⟨#[32]⟩++x) from jA (by rw[List.take_add_one,hx];simp[app_data,mk_data,bs_data])));have HF:Hid ((bs ([114,101,99]++names.flatMap (fun x=>[32]++x.data.toList))++⟨#[10]⟩:bA)=bs (iO ⟨12,a,s,m,names⟩)):=zh (jA (by simp[app_data,mk_data,bs_data,iO,jW]))
 have HS:Hid (∀q,(bs ([114,101,99]++(names.take q).flatMap (fun x=>[32]++x.data.toList))).size<=3+q*140737488355329):=zh (fun q=>by
  rw[qR,List.length_append]
  have:∀(l:List bA),(∀x∈l,x.size<=140737488355328)->(l.flatMap (fun x=>[32]++x.data.toList)).length<=l.length*140737488355329:=by
   intro l hl
   induction l with
   |nil=>simp
   |cons x l ih=>
    have h1:=ih (fun y hy=>hl y (by simp[hy]));have h2:=hl x aAQ;rw[List.flatMap_cons,List.length_append,List.length_cons,Nat.succ_mul];(have h3:([32]++x.data.toList).length=x.size+1:=by simp[Nat.add_comm]);omega
  have h4:=this (names.take q) (fun x hx=>lZ hn.strs (List.mem_of_mem_take hx));have h5:(names.take q).length*140737488355329<=q*140737488355329:=Nat.mul_le_mul_right _ aCm;simp only[List.length_cons,List.length_nil]
  omega)
 obtain⟨a9,c9,e9,yQ,zR,hca⟩:=hn.at;cases e9;have HC:=zh hca;have uJ:=(bx5 (bY w (dY 12 a s m an names.length cn))).1;clear hg hn hca;go_enter Tryz.func112,Tryz.ntmps112;go_wp2_with fail;go_loop [3,50] (fun sv iv=>∃q:Nat,q<=names.length/\iv=.int .i64 (q:Int)/\sv=.string (bs ([114,101,99]++(names.take q).flatMap (fun x=>[32]++x.data.toList)))) (fun _ iv=>names.length-(intOf iv).toNat)
 case atStart=>exact⟨0,Nat.zero_le _,rfl,rfl⟩
 case round=>
  obtain⟨q,hq,rfl,rfl⟩:=hrel;by_cases sE:q<names.length
  ·obtain⟨x,hx,-⟩:=getElem?_of_lt sE;obtain⟨b,o,rfl,-,cs,⟨rfl,PC⟩,-,hj⟩:=HC.out q x hx;have p0:w.cell? ⟨b,o+q,none⟩=some (.string x):=aB1;have hp:=aC hb p0;have hG:=HG.out q x hx;have hSz:=HS.out q;have HGq:=zh hG;have QY:q*140737488355329<=1000*140737488355329:=Nat.mul_le_mul_right _ aAM;clear hj hx hG;generalize bs ([114,101,99]++(names.take q).flatMap (fun x=>[32]++x.data.toList))=acc at *;go_wp2_with fail
   go_round
   (case rel=>exact⟨q+1,aAM,aAV,by rw[HGq.out]⟩);case measure=>simp[intOf];omega
  have AR:names.take q=names:=List.take_of_length_le aAM;have hSz:=HS.out q;have QY:q*140737488355329<=1000*140737488355329:=Nat.mul_le_mul_right _ aAM;rw[AR] at hSz ⊢;generalize bs ([114,101,99]++names.flatMap (fun x=>[32]++x.data.toList))=acc at *;go_wp2_with fail;go_ret;exact⟨oH HF.out,hb⟩
theorem line_13(a:Int)(s m:bA)(names:List bA)(an:Option Addr)(cn:Nat)(N:Nat->Prop)(w:World)(hg:dL w)(wK: -1<=a)(sT:a<=1099511627776)(hs:s.size<=8000)(hm:m.size<=8000)(hn:aL 1 cZ N w (.slice an names.length cn) names)(hl:names.length<=1000):
  jS ⟨13,a,s,m,names⟩ (.slice an names.length cn) w:=by
 unfold jS;dsimp only;have hb:=aA w (dY 13 a s m an names.length cn);have hw:(w.alloc (dY 13 a s m an names.length cn)).cell? ⟨0,13,none⟩=some (.string (bs [102,105,101,108,100])):=aC hb (hg.words 13 _ rfl);have hwl:=qR [102,105,101,108,100];have HF:Hid (((bs [102,105,101,108,100]++(⟨#[32]⟩++s))++⟨#[10]⟩:bA)=bs (iO ⟨13,a,s,m,names⟩)):=zh (jA (by simp[app_data,mk_data,bs_data,iO,jW]));generalize bs [102,105,101,108,100]=W at *;clear hg hn;go_enter Tryz.func112,Tryz.ntmps112;go_wp2_with fail;go_ret;exact⟨oH HF.out,hb⟩
theorem line_14(a:Int)(s m:bA)(names:List bA)(an:Option Addr)(cn:Nat)(N:Nat->Prop)(w:World)(hg:dL w)(wK: -1<=a)(sT:a<=1099511627776)(hs:s.size<=8000)(hm:m.size<=8000)(hn:aL 1 cZ N w (.slice an names.length cn) names)(hl:names.length<=1000):
  jS ⟨14,a,s,m,names⟩ (.slice an names.length cn) w:=by
 unfold jS;dsimp only;have hb:=aA w (dY 14 a s m an names.length cn);have hw:(w.alloc (dY 14 a s m an names.length cn)).cell? ⟨0,14,none⟩=some (.string (bs [99,97,108,108])):=aC hb (hg.words 14 _ rfl);have hwl:=qR [99,97,108,108];have HI:=zh (fun W(h:Below (w.alloc (dY 14 a s m an names.length cn)).heap.size (w.alloc (dY 14 a s m an names.length cn)) W)=>Tryz.strconv_Itoa a aAM aAM W (hg.later (aB hb h)).pow10);have hil:=Lib.itoa_length_le a aAM aAM;have uS:=zh (bY w (dY 14 a s m an names.length cn));have uJ:=(bx5 uS.out).1;clear hg hn;by_cases tJ:m=noB
 ·subst tJ;have HF:Hid ((bs [99,97,108,108]++(((((⟨#[32]⟩++⟨#[46]⟩)++⟨#[32]⟩)++s)++⟨#[32]⟩)++⟨(Lib.itoa a).toArray⟩))++⟨#[10]⟩=bs (iO ⟨14,a,s,noB,names⟩)):=zh (jA (by simp[app_data,mk_data,bs_data,iO,jW,itoaB]));generalize bs [99,97,108,108]=W at *;generalize Lib.itoa a=it at *;go_enter Tryz.func112,Tryz.ntmps112;go_wp2_with fail;refine wp_region_held_drew (S:=fun W=>Below (w.alloc (dY 14 a s noB an names.length cn)).heap.size (w.alloc (dY 14 a s noB an names.length cn)) W) aAN (aE _) fun hS=>?_;refine zt 0 (.string W) rfl (fun W hW=>aA8) ?_;refine zt 1 (.string ⟨#[46]⟩) rfl (fun W hW=>aA8) ?_;refine zt 2 (.string (⟨#[32]⟩++⟨#[46]⟩)) rfl (fun W hW=>aA8) ?_;refine zt 3 (.string ((⟨#[32]⟩++⟨#[46]⟩)++⟨#[32]⟩)) rfl (fun W hW=>aA8) ?_;refine zt 4 (.pointer (some ⟨w.heap.size,2,none⟩)) rfl (fun W hW=>aA8) ?_;refine zt 5 (.string s) rfl (fun W hW=>aBo) ?_;refine zt 6 (.string (((⟨#[32]⟩++⟨#[46]⟩)++⟨#[32]⟩)++s)) rfl (fun W hW=>aA8) ?_;refine zt 7 (.string ((((⟨#[32]⟩++⟨#[46]⟩)++⟨#[32]⟩)++s)++⟨#[32]⟩)) rfl (fun W hW=>aA8) ?_;refine zt 8 (.pointer (some ⟨w.heap.size,1,none⟩)) rfl (fun W hW=>aA8) ?_;refine zt 9 (.int .i64 a) rfl (fun W hW=>aBo) ?_;try simp only[zn]
  refine zr 10 rfl (fun K hK=>?_);try simp only[z1,z2,z3]
  go_simp;refine(HI.out (w.alloc (dY 14 a s noB an names.length cn)).drew (aE _)).mono ?_;rintro e w1 ⟨rfl,k,os,rfl⟩;have uA:=aB (aE (w.alloc (dY 14 a s noB an names.length cn))) (Lib.below_grow _ (w.alloc (dY 14 a s noB an names.length cn)).drew (Nat.le_refl _) k os);generalize Sort.grow (World.drewN (w.alloc (dY 14 a s noB an names.length cn)).drew k) os=w1 at uA ⊢;refine hK.out _ _ uA (fun hS=>?_);clear hK K;refine zt 11 (.string (((((⟨#[32]⟩++⟨#[46]⟩)++⟨#[32]⟩)++s)++⟨#[32]⟩)++⟨it.toArray⟩)) rfl (fun W hW=>aA8) ?_;refine zt 12 (.string (W++(((((⟨#[32]⟩++⟨#[46]⟩)++⟨#[32]⟩)++s)++⟨#[32]⟩)++⟨it.toArray⟩))) rfl (fun W hW=>aA8) ?_;refine zt 13 (.string (W++(((((⟨#[32]⟩++⟨#[46]⟩)++⟨#[32]⟩)++s)++⟨#[32]⟩)++⟨it.toArray⟩))) rfl (fun W hW=>aA8) ?_;exact aAv
 have zQ:(m.toList==[])=false:=aA2;have HF:Hid ((bs [99,97,108,108]++(((((⟨#[32]⟩++m)++⟨#[32]⟩)++s)++⟨#[32]⟩)++⟨(Lib.itoa a).toArray⟩))++⟨#[10]⟩=bs (iO ⟨14,a,s,m,names⟩)):=zh (jA (by simp[app_data,mk_data,bs_data,iO,jW,itoaB,tJ]));generalize bs [99,97,108,108]=W at *;generalize Lib.itoa a=it at *;clear tJ;go_enter Tryz.func112,Tryz.ntmps112;go_wp2_with fail;refine wp_region_held_drew (S:=fun W=>Below (w.alloc (dY 14 a s m an names.length cn)).heap.size (w.alloc (dY 14 a s m an names.length cn)) W) aAN (aE _) fun hS=>?_;refine zt 0 (.string W) rfl (fun W hW=>aA8) ?_;refine zt 1 (.string m) rfl (fun W hW=>aA8) ?_;refine zt 2 (.string (⟨#[32]⟩++m)) rfl (fun W hW=>aA8) ?_;refine zt 3 (.string ((⟨#[32]⟩++m)++⟨#[32]⟩)) rfl (fun W hW=>aA8) ?_;refine zt 4 (.pointer (some ⟨w.heap.size,2,none⟩)) rfl (fun W hW=>aA8) ?_;refine zt 5 (.string s) rfl (fun W hW=>aBo) ?_;refine zt 6 (.string (((⟨#[32]⟩++m)++⟨#[32]⟩)++s)) rfl (fun W hW=>aA8) ?_;refine zt 7 (.string ((((⟨#[32]⟩++m)++⟨#[32]⟩)++s)++⟨#[32]⟩)) rfl (fun W hW=>aA8) ?_;refine zt 8 (.pointer (some ⟨w.heap.size,1,none⟩)) rfl (fun W hW=>aA8) ?_;refine zt 9 (.int .i64 a) rfl (fun W hW=>aBo) ?_;try simp only[zn]
 refine zr 10 rfl (fun K hK=>?_);try simp only[z1,z2,z3]
 go_simp;refine(HI.out (w.alloc (dY 14 a s m an names.length cn)).drew (aE _)).mono ?_;rintro e w1 ⟨rfl,k,os,rfl⟩;have uA:=aB (aE (w.alloc (dY 14 a s m an names.length cn))) (Lib.below_grow _ (w.alloc (dY 14 a s m an names.length cn)).drew (Nat.le_refl _) k os);generalize Sort.grow (World.drewN (w.alloc (dY 14 a s m an names.length cn)).drew k) os=w1 at uA ⊢;refine hK.out _ _ uA (fun hS=>?_);clear hK K;refine zt 11 (.string (((((⟨#[32]⟩++m)++⟨#[32]⟩)++s)++⟨#[32]⟩)++⟨it.toArray⟩)) rfl (fun W hW=>aA8) ?_;refine zt 12 (.string (W++(((((⟨#[32]⟩++m)++⟨#[32]⟩)++s)++⟨#[32]⟩)++⟨it.toArray⟩))) rfl (fun W hW=>aA8) ?_;refine zt 13 (.string (W++(((((⟨#[32]⟩++m)++⟨#[32]⟩)++s)++⟨#[32]⟩)++⟨it.toArray⟩))) rfl (fun W hW=>aA8) ?_;exact aAv
theorem X1{p:Prop}(h:p:=by
 go_enter Tryz.func193,Tryz.ntmps193;go_wp2_with fail;go_quiet(fail)
 go_wp2_with(go_at_call 147;refine(HS.out _ (aN (aB (aA _ _) (aA _ _)) _)).mono ?_;rintro e w2 ⟨rfl,rfl⟩);go_ret
 exact⟨aF aBa,aN (aB (aA _ _) (aA _ _)) _⟩):p:=h
theorem formed_0(c:Cod)(a:Int)(s m:bA)(names:List bA)(ac:Option Addr)(cc:Nat)(an:Option Addr)(cn:Nat)(N:Nat->Prop)(w:World)(hg:dL w)(hs:s.size<=8000)(hm:m.size<=8000)(hn:aL 1 cZ N w (.slice an names.length cn) names):
  cF c ⟨0,a,s,m,names⟩ (.slice ac c.code.length cc) (.slice an names.length cn) w:=by
 unfold cF;dsimp only;have HR:Hid (cE c ⟨0,a,s,m,names⟩=(decide (s=noB)&&decide (m=noB)&&decide (names.length=0))):=zh rfl;have yN:=aB (aA w (gY c.name (c.params:Int) (c.locals:Int) ac c.code.length cc)) (aA _ (dY 0 a s m an names.length cn));clear hg hn;by_cases uC:s=noB
 focus
  subst uC;simp only[decide_true,Bool.true_and,Bool.and_true] at HR;by_cases tJ:m=noB
  focus
   subst tJ;simp only[decide_true,Bool.true_and,Bool.and_true] at HR;by_cases uQ:names.length=0
   focus
    rw[decide_eq_true uQ] at HR;rw[uQ]
   rotate_right
   focus
    have yQ:((names.length:Int)==0)=false:=aAW;rw[decide_eq_false uQ] at HR
  rotate_right
  focus
   have zQ:(m.toList==[])=false:=aA2;rw[decide_eq_false tJ] at HR
 rotate_right
 focus
  have xG:(s.toList==[])=false:=aA7;rw[decide_eq_false uC] at HR
 all_goals
  go_enter Tryz.func193,Tryz.ntmps193;go_wp2_with fail;go_quiet(fail)
  go_wp2_with fail;go_ret;exact⟨aF aBa,aN (aB (aA _ _) (aA _ _)) _⟩
theorem formed_1(c:Cod)(a:Int)(s m:bA)(names:List bA)(ac:Option Addr)(cc:Nat)(an:Option Addr)(cn:Nat)(N:Nat->Prop)(w:World)(hg:dL w)(hs:s.size<=8000)(hm:m.size<=8000)(hn:aL 1 cZ N w (.slice an names.length cn) names):
  cF c ⟨1,a,s,m,names⟩ (.slice ac c.code.length cc) (.slice an names.length cn) w:=by
 unfold cF;dsimp only;have HR:Hid (cE c ⟨1,a,s,m,names⟩=((decide (a=0)||decide (a=1))&&decide (s=noB)&&decide (m=noB)&&decide (names.length=0))):=zh rfl;have yN:=aB (aA w (gY c.name (c.params:Int) (c.locals:Int) ac c.code.length cc)) (aA _ (dY 1 a s m an names.length cn));clear hg hn;by_cases h0:a=0
 focus
  subst h0;simp only[decide_true,Bool.true_or,Bool.or_true,Bool.true_and] at HR;by_cases uC:s=noB
  focus
   subst uC;simp only[decide_true,Bool.true_and,Bool.and_true] at HR;by_cases tJ:m=noB
   focus
    subst tJ;simp only[decide_true,Bool.true_and,Bool.and_true] at HR;by_cases uQ:names.length=0
    focus
     rw[decide_eq_true uQ] at HR;rw[uQ]
    rotate_right
    focus
     have yQ:((names.length:Int)==0)=false:=aAW;rw[decide_eq_false uQ] at HR
   rotate_right
   focus
    have zQ:(m.toList==[])=false:=aA2;rw[decide_eq_false tJ] at HR
  rotate_right
  focus
   have xG:(s.toList==[])=false:=aA7;rw[decide_eq_false uC] at HR
 rotate_right
 focus
  have g0:(a==0)=false:=by rw[beq_eq_false_iff_ne];exact h0
  rw[decide_eq_false h0] at HR;by_cases h1:a=1
  focus
   subst h1;simp only[decide_true,Bool.true_or,Bool.or_true,Bool.true_and] at HR;by_cases uC:s=noB
   focus
    subst uC;simp only[decide_true,Bool.true_and,Bool.and_true] at HR;by_cases tJ:m=noB
    focus
     subst tJ;simp only[decide_true,Bool.true_and,Bool.and_true] at HR;by_cases uQ:names.length=0
     focus
      rw[decide_eq_true uQ] at HR;rw[uQ]
     rotate_right
     focus
      have yQ:((names.length:Int)==0)=false:=aAW;rw[decide_eq_false uQ] at HR
    rotate_right
    focus
     have zQ:(m.toList==[])=false:=aA2;rw[decide_eq_false tJ] at HR
   rotate_right
   focus
    have xG:(s.toList==[])=false:=aA7;rw[decide_eq_false uC] at HR
  rotate_right
  focus
   have g1:(a==1)=false:=aB0;rw[decide_eq_false h1] at HR;simp only[Bool.false_or,Bool.or_false,Bool.false_and] at HR
 all_goals
  go_enter Tryz.func193,Tryz.ntmps193;go_wp2_with fail;go_quiet(fail)
  go_wp2_with fail;go_ret;exact⟨aF aBa,aN (aB (aA _ _) (aA _ _)) _⟩
theorem formed_13(c:Cod)(a:Int)(s m:bA)(names:List bA)(ac:Option Addr)(cc:Nat)(an:Option Addr)(cn:Nat)(N:Nat->Prop)(w:World)(hg:dL w)(hs:s.size<=8000)(hm:m.size<=8000)(hn:aL 1 cZ N w (.slice an names.length cn) names):
  cF c ⟨13,a,s,m,names⟩ (.slice ac c.code.length cc) (.slice an names.length cn) w:=by
 unfold cF;dsimp only;have HR:Hid (cE c ⟨13,a,s,m,names⟩=(aR s&&decide (a=0)&&decide (m=noB)&&decide (names.length=0))):=zh rfl;have yN:=aB (aA w (gY c.name (c.params:Int) (c.locals:Int) ac c.code.length cc)) (aA _ (dY 13 a s m an names.length cn));have HS:=zh (fun W(hb:Below w.heap.size w W)=>eN s W aAM (hg.later hb));clear hg hn
 cases tT:aR s with
 |false=>
  rw[tT] at HS HR;clear tT;exact X1
 |true=>
  rw[tT] at HS HR;clear tT;simp only[Bool.true_and] at HR;by_cases ha:a=0
  ·subst ha;simp only[decide_true,Bool.true_and,Bool.and_true] at HR;by_cases tJ:m=noB
   ·subst tJ;simp only[decide_true,Bool.true_and,Bool.and_true] at HR;by_cases uQ:names.length=0
    ·rw[decide_eq_true uQ] at HR;rw[uQ];exact X1
    have yQ:((names.length:Int)==0)=false:=aAW;rw[decide_eq_false uQ] at HR;exact X1
   have zQ:(m.toList==[])=false:=aA2;rw[decide_eq_false tJ] at HR;exact X1
  have sT:(a==0)=false:=aCO;rw[decide_eq_false ha] at HR;exact X1
theorem formed_loc(op:Int)(ho:op=2\/op=3)(c:Cod)(a:Int)(s m:bA)(names:List bA)(ac:Option Addr)(cc:Nat)(an:Option Addr)(cn:Nat)(N:Nat->Prop)(w:World)(hg:dL w)(hs:s.size<=8000)(hm:m.size<=8000)(hn:aL 1 cZ N w (.slice an names.length cn) names):
  cF c ⟨op,a,s,m,names⟩ (.slice ac c.code.length cc) (.slice an names.length cn) w:=by
 unfold cF;dsimp only;have HR:Hid (cE c ⟨op,a,s,m,names⟩=((decide (0<=a)&&decide (a<(c.locals:Int)))&&decide (s=noB)&&decide (m=noB)&&decide (names.length=0))):=zh (by rcases ho with rfl|rfl<;>rfl);have yN:=aB (aA w (gY c.name (c.params:Int) (c.locals:Int) ac c.code.length cc)) (aA _ (dY op a s m an names.length cn));clear hg hn;by_cases h0:0<=a
 focus
  rw[decide_eq_true h0] at HR;by_cases h1:a<(c.locals:Int)
  focus
   rw[decide_eq_true h1] at HR;simp only[Bool.true_and] at HR;by_cases uC:s=noB
   focus
    subst uC;simp only[decide_true,Bool.true_and,Bool.and_true] at HR;by_cases tJ:m=noB
    focus
     subst tJ;simp only[decide_true,Bool.true_and,Bool.and_true] at HR;by_cases uQ:names.length=0
     focus
      rw[decide_eq_true uQ] at HR;rw[uQ]
     rotate_right
     focus
      have yQ:((names.length:Int)==0)=false:=aAW;rw[decide_eq_false uQ] at HR
    rotate_right
    focus
     have zQ:(m.toList==[])=false:=aA2;rw[decide_eq_false tJ] at HR
   rotate_right
   focus
    have xG:(s.toList==[])=false:=aA7;rw[decide_eq_false uC] at HR
  rotate_right
  focus
   rw[decide_eq_false h1] at HR
 rotate_right
 focus
  rw[decide_eq_false h0] at HR
 all_goals rcases ho with rfl|rfl
 all_goals
  go_enter Tryz.func193,Tryz.ntmps193;go_wp2_with fail;go_quiet(fail)
  go_wp2_with fail;go_ret;exact⟨aF aBa,aN (aB (aA _ _) (aA _ _)) _⟩
theorem formed_code(op:Int)(ho:op=10\/op=11)(c:Cod)(a:Int)(s m:bA)(names:List bA)(ac:Option Addr)(cc:Nat)(an:Option Addr)(cn:Nat)(N:Nat->Prop)(w:World)(hg:dL w)(hs:s.size<=8000)(hm:m.size<=8000)(hn:aL 1 cZ N w (.slice an names.length cn) names):
  cF c ⟨op,a,s,m,names⟩ (.slice ac c.code.length cc) (.slice an names.length cn) w:=by
 unfold cF;dsimp only;have HR:Hid (cE c ⟨op,a,s,m,names⟩=((decide (0<=a)&&decide (a<(c.code.length:Int)))&&decide (s=noB)&&decide (m=noB)&&decide (names.length=0))):=zh (by rcases ho with rfl|rfl<;>rfl);have yN:=aB (aA w (gY c.name (c.params:Int) (c.locals:Int) ac c.code.length cc)) (aA _ (dY op a s m an names.length cn));clear hg hn;by_cases h0:0<=a
 focus
  rw[decide_eq_true h0] at HR;by_cases h1:a<(c.code.length:Int)
  focus
   rw[decide_eq_true h1] at HR;simp only[Bool.true_and] at HR;by_cases uC:s=noB
   focus
    subst uC;simp only[decide_true,Bool.true_and,Bool.and_true] at HR;by_cases tJ:m=noB
    focus
     subst tJ;simp only[decide_true,Bool.true_and,Bool.and_true] at HR;by_cases uQ:names.length=0
     focus
      rw[decide_eq_true uQ] at HR;rw[uQ]
     rotate_right
     focus
      have yQ:((names.length:Int)==0)=false:=aAW;rw[decide_eq_false uQ] at HR
    rotate_right
    focus
     have zQ:(m.toList==[])=false:=aA2;rw[decide_eq_false tJ] at HR
   rotate_right
   focus
    have xG:(s.toList==[])=false:=aA7;rw[decide_eq_false uC] at HR
  rotate_right
  focus
   rw[decide_eq_false h1] at HR
 rotate_right
 focus
  rw[decide_eq_false h0] at HR
 all_goals rcases ho with rfl|rfl
 all_goals
  go_enter Tryz.func193,Tryz.ntmps193;go_wp2_with fail;go_quiet(fail)
  go_wp2_with fail;go_ret;exact⟨aF aBa,aN (aB (aA _ _) (aA _ _)) _⟩
theorem formed_eight(op:Int)(ho:op=16\/op=17)(c:Cod)(a:Int)(s m:bA)(names:List bA)(ac:Option Addr)(cc:Nat)(an:Option Addr)(cn:Nat)(N:Nat->Prop)(w:World)(hg:dL w)(hs:s.size<=8000)(hm:m.size<=8000)(hn:aL 1 cZ N w (.slice an names.length cn) names):
  cF c ⟨op,a,s,m,names⟩ (.slice ac c.code.length cc) (.slice an names.length cn) w:=by
 unfold cF;dsimp only;have HR:Hid (cE c ⟨op,a,s,m,names⟩=((decide (0<=a)&&decide (a<8))&&decide (s=noB)&&decide (m=noB)&&decide (names.length=0))):=zh (by rcases ho with rfl|rfl<;>rfl);have yN:=aB (aA w (gY c.name (c.params:Int) (c.locals:Int) ac c.code.length cc)) (aA _ (dY op a s m an names.length cn));clear hg hn;by_cases h0:0<=a
 focus
  rw[decide_eq_true h0] at HR;by_cases h1:a<8
  focus
   rw[decide_eq_true h1] at HR;simp only[Bool.true_and] at HR;by_cases uC:s=noB
   focus
    subst uC;simp only[decide_true,Bool.true_and,Bool.and_true] at HR;by_cases tJ:m=noB
    focus
     subst tJ;simp only[decide_true,Bool.true_and,Bool.and_true] at HR;by_cases uQ:names.length=0
     focus
      rw[decide_eq_true uQ] at HR;rw[uQ]
     rotate_right
     focus
      have yQ:((names.length:Int)==0)=false:=aAW;rw[decide_eq_false uQ] at HR
    rotate_right
    focus
     have zQ:(m.toList==[])=false:=aA2;rw[decide_eq_false tJ] at HR
   rotate_right
   focus
    have xG:(s.toList==[])=false:=aA7;rw[decide_eq_false uC] at HR
  rotate_right
  focus
   rw[decide_eq_false h1] at HR
 rotate_right
 focus
  rw[decide_eq_false h0] at HR
 all_goals rcases ho with rfl|rfl
 all_goals
  go_enter Tryz.func193,Tryz.ntmps193;go_wp2_with fail;go_quiet(fail)
  go_wp2_with fail;go_ret;exact⟨aF aBa,aN (aB (aA _ _) (aA _ _)) _⟩
end Go.Proofs.YtacgopankhpnbaaGreatDoor
