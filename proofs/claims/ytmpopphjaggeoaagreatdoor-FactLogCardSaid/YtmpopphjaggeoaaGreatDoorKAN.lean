/- Texts of this seat, joined. -/
import Derived.Test.YtmpopphjaggeoaaGreatDoorKAM
set_option maxHeartbeats 64000000
set_option maxRecDepth 100000
set_option linter.unusedVariables false
set_option linter.unusedSimpArgs false
set_option linter.constructorNameAsVariable false
namespace Go.Proofs.YtmpopphjaggeoaaGreatDoor
open Go.RowKit Go.Shelf Go.Lib Go.Sort
theorem CF{p:Prop}(h:p:=by
 go_wp2_with fail;go_roundw;case rel=>exact⟨q+1,out,css,CR,C5,pM,oT,vW⟩
 case measure=>simp[intOf]<;>omega):p:=h
theorem verInfo:(Tryz.prog.info? 23).map (fun i=>(i.zero,i.size,i.bytes))=some (some (.agg #[.int .i64 0,.int .i64 0,.int .i64 0]),3,24):=CQ
theorem leV_lt:(fun x y:Ver=> !(ltOf fun x y:Ver=>bB x y) y x)=leV:=by
 funext x y;unfold leV ltOf;have h:=cmpV_swap x y;by_cases h1:bB y x<0
 ·rw[decide_eq_true h1,decide_eq_false CR];rfl
 rw[decide_eq_false h1,decide_eq_true CR];rfl
theorem verC_one(x:Ver):∀u∈verC x,u.oneCell'=true:=fun u hu=>by
 simp[verC] at hu;rcases hu with rfl|rfl|rfl<;>rfl
theorem sort_ver(l:List Ver)(B g cap:Nat)(w:World)(hH:RowH verC 3 w g 0 l)(hg:g<w.heap.size)(hB:B<=g)(hl:l.length<=140737488355328):
  Calls Tryz.prog 56 #[.slice (some ⟨g,0,none⟩) l.length cap,.func (.func 21) #[] #[]] w fun e w'=>e=.returned (.tuple #[])/\Below B w w'/\RowH verC 3 w' g 0 (l.mergeSort leV):=by
 have h:=Tryz.slices_SortFunc_total_f56 3 Tryz.isAgg23 Tryz.sizeOf23 verC (fun _=>rfl) verC_one (fun x y:Ver=>bB x y) (swo_ver (fun x:Ver=>x)) 21 #[] g 0 cap l.toArray w
  (enters_of Tryz.func21 CQ rfl) (fun m os dk _ x y=>(fS x y _).mono fun e w' ⟨h1,q,os',h2⟩=>⟨h1,q,os',h2⟩) (hH.holds (fun _=>rfl)) hg DC
  (fun x y h1 h2=>by
   simp only[ltOf,decide_eq_false_iff_not] at h1 h2;have h:=cmpV_swap x y
   exact(cmpV_zero x y).1 CR)
 rw[show l.toArray.size=l.length by simp,leV_lt] at h;refine h.mono ?_;rintro e w' ⟨rfl,n,os,rfl⟩;refine⟨rfl,(below_sortK hB).resolve_right CR,?_⟩;have h9:=RowH.of_holds (enc:=verC) (k:=3) (fun _=>rfl) (holdsK_sortWorldK_c verC 3 w g 0 l.toArray (l.mergeSort leV).toArray n os (hH.holds (fun _=>rfl)) hg C0);simpa using h9
theorem gro_rowH{B g cap n:Nat}{l:List Ver}{css:List (List Value)}{w:World}(h:Gro 3 23 encVer B l css (.slice (some ⟨g,0,none⟩) n cap) w):RowH verC 3 w g 0 l:=fun i x hx j u hu=>by
 obtain⟨h1,h2⟩:=h.own;rcases h2 with⟨e,-⟩|⟨g',cap',cur,e,hg,hgb,r1,r2,r3,r4⟩
 ·cases e
 cases e;have hi:=(Yb.1 hx).1;obtain⟨c,hc⟩:∃c,css[i]? =some c:=⟨_,List.getElem?_eq_getElem (by rw[h.len];exact hi)⟩;have ec:c=verC x:=h.enc i x c hx hc;have hj:j<3:=(Yb.1 hu).1;have jM:i*3+j<l.length*3:=CR;have h3:=congrArg (fun t:List Value=>t[i*3+j]?) r4;simp only[List.getElem?_take,if_pos jM,gT css h.ks i c j hc hj,ec,hu] at h3;have h4:cur[i*3+j]? =some u:=by simpa using h3
 rw[Nat.zero_add];exact⟨by simp[World.cell?,hgb,h4],by simp[World.frozen?,hgb]⟩
theorem relVers_take{l:List Fc}{s:bA}{q:Nat}{f:Fc}(hf:l[q]? =some f):dG (l.take (q+1)) s=dG (l.take q) s++(if f.kind=0/\f.rel.name=s then[f.rel.ver] else[]):=by
 unfold dG;rw[List.take_add_one,hf,List.filterMap_append];by_cases h:f.kind=0/\f.rel.name=s
 ·simp[h]
 simp[h]
theorem relVers_len(l:List Fc)(s:bA):(dG l s).length<=l.length:=List.length_filterMap_le _ _
structure RelQ (l:List Fc) (s:bA) (w:World) (e:Ending) (w':World):Prop where
 below:Below w.heap.size w w'
 val:(dG l s).length<2->∃a c,e=.returned (.slice a (dG l s).length c)
theorem compact_short(a:Option Addr)(n c:Nat)(hn:n<2)(w:World):Calls Tryz.prog 57 #[.slice a n c] w fun e w'=>e=.returned (.slice a n c)/\w'=w:=by
 have h1:(n:Int)<2:=CR;go_enter Tryz.func57,Tryz.ntmps57;go_wp2_with fail;go_ret;exact⟨rfl,rfl⟩
theorem releases_any(l:List Fc)(s:bA){N:Nat->Prop}{vl:Value}(w:World)(hl:aK 29 encFc N w vl l)(kU:l.length<=1000000)(h2:(dG l s).length<2):
  Calls Tryz.prog 19 #[vl,.string s] w fun e w'=>RelQ l s w e w':=by
 obtain⟨i0,oN,pY,lF,nO⟩:=info_parts verInfo;obtain⟨al,cl,rfl,la1,la2,jG⟩:=hl.at;have HA:=zh jG;have vT:Hid (∀q,(dG (l.take q) s).length<=1000000):=zh (fun q=>Nat.le_trans (relVers_len (l.take q) s) EX);clear jG hl;go_enter Tryz.func19,Tryz.ntmps19;go_wp2_with fail;go_loopw [5,10] (fun ov iv wr=>∃(q:Nat)(out:List Ver)(css:List (List Value)),q<=l.length/\iv=.int .i64 (q:Int)/\Hid (Below w.heap.size w wr)/\Hid (out=dG (l.take q) s)/\Hid (Gro 3 23 encVer w.heap.size out css ov wr)) (fun _ iv _=>l.length-(intOf iv).toNat)
 case atStart=>exact⟨0,[],[],Nat.zero_le _,rfl,zh (Below.refl _ _),zh rfl,zh (Gro.first _ _ _ _)⟩
 case round=>
  obtain⟨q,out,css,hq,rfl,HW,HO,HG⟩:=hrel;rename World=>wr
  by_cases jM:q<l.length
  ·obtain⟨f,hf,-⟩:=getElem?_of_lt jM;obtain⟨b,o,rfl,-,cs,⟨p,rfl,hv⟩,-,hj⟩:=HA.out q f hf;have tN:(0:Int)<=(q:Int)/\(q:Int)<(l.length:Int):=CR;obtain⟨A,pR⟩:∃c:Array Value,Hid (c=(fcC f p).toArray):=⟨_,zh rfl⟩;have kA:Hid (A.size=29):=zh DS;have rR:Hid (A.all (fun x=>x.oneCell')=true):=zh (by rw[pR.out];exact gZ hv);have uR:Hid (wr.rangeAt b (o+q*29) (fcC f p)):=zh (fun j u hu=>aD HW.out (hj j u hu));have jZ:=zh (bY wr (.cells aI 37));have kH:Hid (Below wr.heap.size wr ((wr.alloc (.cells aI 37)).setRow wr.heap.size A)):=zh (below_setRow (aB wr _) (Nat.le_refl _) _);have qF:Hid (((wr.alloc (.cells aI 37)).setRow wr.heap.size A).heap[wr.heap.size]? =some (.cells A 37)):=zh (setRow_heap _ _ _ _ _ _ jZ.out);have nK:Hid (A[0]? =some (.int .i64 f.kind)):=zh DS;have AG:Hid (A[5]? =some (.string f.rel.name)):=zh DS;have lO:Hid (A[6]? =some (.int .i64 f.rel.ver.a)):=zh DS;have lG:Hid (A[7]? =some (.int .i64 f.rel.ver.b)):=zh DS;have lA:Hid (A[8]? =some (.int .i64 f.rel.ver.c)):=zh DS;have HTk:=zh (relVers_take (s:=s) hf);have vW:=zh (HG.out.later encVer_ok kH.out);have pM:=zh (aA HW.out kH.out);have hol:=vT.out q;rw[<-HO.out] at hol;clear hj hv hf
   go_upto_region 5 with(first|(refine loadFM (x:=.tmp 12) rfl CQ b (o+q*29) rfl (fcC f p) A pR.out uR.out rfl ?_)|(refine Go.Great.wpList_allocTo rfl (some 7) rfl (.pointer (some ⟨wr.heap.size,0,none⟩)) (.cells aI 37) ?ha ?_;(case ha=>exact eM rfl _ _ rfl))|(refine wpList_store_rowTo rfl 37 (.tmp 7) (.tmp 13) rfl rfl wr.heap.size A rfl rfl 37 aI ?hg DU EG rR.out ?_;(case hg=>exact jZ.out)))
   (try simp only[zn]);clear jZ uR HG kH HW;generalize ((wr.alloc (.cells aI 37)).setRow wr.heap.size A)=W3 at *;have x0:=cfA qF.out nK.out;have x5:=cfA qF.out AG.out;have x6:=cfA qF.out lO.out;have x7:=cfA qF.out lG.out;have x8:=cfA qF.out lA.out;generalize hk9:f.kind=k at *;generalize hn9:f.rel.name=nm at *;generalize hv9:f.rel.ver=vf at *;clear hk9 hn9 hv9;by_cases h1:k=0
   ·subst h1;by_cases h3:nm=s
    ·subst h3;have oT:Hid (out++[vf]=dG (l.take (q+1)) nm):=zh (by rw[HTk.out,if_pos ⟨rfl,rfl⟩,HO.out]);have yN:=zh (vW.out.later encVer_ok (aB W3 (.cells #[.int .i64 vf.a,.int .i64 vf.b,.int .i64 vf.c] 23)));have kS:=yN.out.big;go_wp2_with(at_builtin;refine wpList_append_lies _ rfl _ _ 55 rfl w.heap.size 23 i0 (.agg #[.int .i64 0,.int .i64 0,.int .i64 0]) 3 24 Tryz.underlying55 oN pY lF nO rfl CR _ out.length css.flatten D4 yN.out.own ⟨W3.heap.size,0,none⟩ 1 1 [.int .i64 vf.a,.int .i64 vf.b,.int .i64 vf.c] D4 rfl (World.news_of_block (cs:=#[.int .i64 vf.a,.int .i64 vf.b,.int .i64 vf.c]) (t:=23) (fr:=(0,0)) (bY W3 _)) DR CR DO CR kS (W3.heap.size+1) C0 ?_);intro g cap w6 jY iP mM _;have HNw:=zh (yN.out.added encVer_ok (x:=vf) rfl rfl jY iP EE);have HW6:=zh (gD (aA pM.out (aB W3 (.cells #[.int .i64 vf.a,.int .i64 vf.b,.int .i64 vf.c] 23))) iP (fun b hb=>(yN.out.lt b hb).1));clear jY iP mM vW yN;go_wp2_with fail;go_roundw;(case rel=>exact⟨q+1,out++[vf],css++[verC vf],CR,C5,HW6,oT,HNw⟩);case measure=>simp[intOf]<;>omega
    have g3:(nm.toList==s.toList)=false:=cO h3;have oT:Hid (out=dG (l.take (q+1)) s):=zh (by rw[HTk.out,if_neg (fun h9=>h3 h9.2),List.append_nil];exact HO.out);exact CF
   have g1:(k==0)=false:=beq_eq_false_iff_ne.2 h1;have oT:Hid (out=dG (l.take (q+1)) s):=zh (by rw[HTk.out,if_neg (fun h9=>h1 h9.1),List.append_nil];exact HO.out);exact CF
  have hO:out=dG l s:=by rw[HO.out,List.take_of_length_le CR]
  have hol:out.length<2:=by rw[hO];exact h2
  have HOl:Hid (out.length=(dG l s).length):=zh (by rw[hO]);clear hO h2;rcases HG.out.val with⟨rfl,e1⟩|⟨g,cap,rfl,pJ,oB⟩
  ·subst e1;go_wp2_with fail;refine(Tryz.slices_SortFunc_none_f56 (α:=Ver) none 0 _ wr).mono ?_;rintro e w3 ⟨rfl,rfl⟩;go_wp2_with fail;go_at_call 57;refine(compact_short none 0 0 CR w3).mono ?_;rintro e w4 ⟨rfl,rfl⟩;go_wp2_with fail;go_ret;exact⟨HW.out,fun _=>⟨none,0,by rw[<-HOl.out];rfl⟩⟩
  have rA:=zh (sort_ver out w.heap.size g cap wr (gro_rowH HG.out) oB pJ CR);go_wp2_with fail;refine rA.out.mono ?_;rintro e w3 ⟨rfl,kX,-⟩;have kH:=zh (HW.out.trans kX);clear kX rA;go_wp2_with fail;go_at_call 57;refine(compact_short _ out.length cap hol w3).mono ?_;rintro e w4 ⟨rfl,rfl⟩;go_wp2_with fail;go_ret;exact⟨kH.out,fun _=>⟨some ⟨g,0,none⟩,cap,by rw[<-HOl.out];rfl⟩⟩
end Go.Proofs.YtmpopphjaggeoaaGreatDoor
namespace Go.Proofs.YtmpopphjaggeoaaGreatDoor
open Go.RowKit Go.Shelf
def cY:Array Value:=(fcC dH (pZ (.slice none 0 0))).toArray
def cT(kb:Nat):Array Value:=(fcC toF (pZ (.slice (some ⟨kb,0,none⟩) 2 2))).toArray
def cR:Array Value:=(fcC relF (pZ (.slice none 0 0))).toArray
theorem cY_one:cY.all (fun x=>x.oneCell')=true:=by simp[cY,fcC,pZ,dH,Value.oneCell']
theorem cT_one(kb:Nat):(cT kb).all (fun x=>x.oneCell')=true:=by simp[cT,fcC,pZ,toF,Value.oneCell']
theorem cR_one:cR.all (fun x=>x.oneCell')=true:=by simp[cR,fcC,pZ,relF,Value.oneCell']
theorem builtY:Tryz.prog.built 37 [(0,.int .i64 1),(1,.string gE),(2,.agg #[.int .i64 1,.int .i64 2,.int .i64 3]),(9,.int .i64 7)]=some cY:=CQ
theorem builtT(kb:Nat):Tryz.prog.built 37 [(0,.int .i64 5),(1,.string gE),(5,.slice (some ⟨kb,0,none⟩) 2 2),(6,.int .i64 1)]=some (cT kb):=CQ
theorem builtR:Tryz.prog.built 37 [(0,.int .i64 0),(3,.agg #[.string gE,.int .i64 0,.int .i64 0,.int .i64 0,.string ⟨#[]⟩,.slice none 0 0,.slice none 0 0,.slice none 0 0,.string mitB])]=some cR:=CQ
theorem builtL:Tryz.prog.builtSlice 37 2 [(0,.agg cR),(1,.agg cY)]=some (cR++cY):=CQ
theorem fvY{N:Nat->Prop}{w:World}:FcV N w dH (pZ (.slice none 0 0)):=⟨FB,hI,gV,dL⟩
theorem fvR{N:Nat->Prop}{w:World}:FcV N w relF (pZ (.slice none 0 0)):=⟨sz0,⟨FB,sz0,FB,dL,dL,dL⟩,gV,dL⟩
theorem fvT{kb:Nat}{w:World}(h:w.heap[kb]? =some (.cells #[.int .i64 1,.int .i64 2] 3)):FcV (fun _=>True) w toF (pZ (.slice (some ⟨kb,0,none⟩) 2 2)):=
 ⟨FB,hI,gV,⟨some ⟨kb,0,none⟩,2,rfl,CX,CX,fun _=>⟨kb,0,rfl,trivial,fun i x hx=>⟨[.int .i64 x],rfl,rfl,fun j u hu=>by
  cases j with
  |succ j=>simp at hu
  |zero=>
   cases i with
   |zero=>cases hx;cases hu;exact(aH h 0 rfl).1
   |succ i=>cases i with
    |zero=>cases hx;cases hu;exact(aH h 1 rfl).1
    |succ i=>simp[toF] at hx⟩⟩⟩⟩
theorem rowL{lb:Nat}{w:World}(h:w.heap[lb]? =some (.cells (cR++cY) 37)):aK 29 encFc (fun _=>True) w (.slice (some ⟨lb,0,none⟩) 2 2) [relF,dH]:=
 ⟨some ⟨lb,0,none⟩,2,rfl,CX,CX,fun _=>⟨lb,0,rfl,trivial,fun i x hx=>by
  cases i with
  |zero=>
   cases hx;refine⟨cR.toList,⟨_,rfl,fvR⟩,rfl,fun j u hu=>(aH h _ ?_).1⟩;simp only[Nat.zero_mul,Nat.zero_add];rw[Array.getElem?_append_left (by have:=(Yb.1 hu).1;simpa using this)];simpa using hu
  |succ i=>cases i with
   |zero=>
    cases hx;refine⟨cY.toList,⟨_,rfl,fvY⟩,rfl,fun j u hu=>(aH h _ ?_).1⟩;rw[Array.getElem?_append_right (by show cR.size<=_;have:cR.size=29:=rfl;omega),show 0+(0+1)*29+j-cR.size=j by have:cR.size=29:=rfl;omega];simpa using hu
   |succ i=>simp at hx⟩⟩
theorem small24_any(w:World)(hG:bC w)(hE:ErrV w):Calls Tryz.prog 7 #[] w fun e w'=>e=.returned (.bool true)/\Below w.heap.size w w':=by
 have uY:=zh (bY w (.cells aI 37));have iN:Hid (((w.alloc (.cells aI 37)).setRow w.heap.size cY).heap[w.heap.size]? =some (.cells cY 37)):=zh (setRow_heap _ _ _ _ _ _ uY.out);have jL:Hid (Below w.heap.size w ((w.alloc (.cells aI 37)).setRow w.heap.size cY)):=zh (below_setRow (aB w _) (Nat.le_refl _) _);go_enter Tryz.func7,Tryz.ntmps7
 go_upto_region 2 with(first|(refine wpList_buildTo rfl 37 _ rfl (some 17) rfl cY ?hf ?_;(case hf=>exact(congrArg (Tryz.prog.built 37) CQ).trans builtY))|(refine Go.Great.wpList_allocTo rfl (some 1) rfl (.pointer (some ⟨w.heap.size,0,none⟩)) (.cells aI 37) ?ha ?_;(case ha=>exact eM rfl _ _ rfl))|(refine wpList_store_rowTo rfl 37 (.tmp 1) (.tmp 17) rfl rfl w.heap.size cY rfl rfl 37 aI ?hg CQ D4 cY_one ?_;(case hg=>exact uY.out)))
 try simp only[zn]
 clear uY;generalize (w.alloc (.cells aI 37)).setRow w.heap.size cY=W1 at *;obtain⟨kb,hkb⟩:∃n,n=W1.heap.size:=⟨_,rfl⟩;have hzk:(W1.alloc (.cells #[.int .i64 1,.int .i64 2] 3)).heap.size=kb+1:=by rw[hkb];simp
 have HNk:=zh (bY W1 (.cells #[.int .i64 1,.int .i64 2] 3));have nX:Hid (((W1.alloc (.cells #[.int .i64 1,.int .i64 2] 3)).alloc (.cells aI 37)).heap[kb+1]? =some (.cells aI 37)):=zh (by have h9:=bY (W1.alloc (.cells #[.int .i64 1,.int .i64 2] 3)) (.cells aI 37);rw[hzk] at h9;exact h9);have jI:Hid ((((W1.alloc (.cells #[.int .i64 1,.int .i64 2] 3)).alloc (.cells aI 37)).setRow (kb+1) (cT kb)).heap[kb+1]? =some (.cells (cT kb) 37)):=zh (setRow_heap _ _ _ _ _ _ nX.out);have jP:Below W1.heap.size W1 (((W1.alloc (.cells #[.int .i64 1,.int .i64 2] 3)).alloc (.cells aI 37)).setRow (kb+1) (cT kb)):=below_setRow (aA (aB W1 _) (aB _ _)) CR _;have HKb:Hid ((((W1.alloc (.cells #[.int .i64 1,.int .i64 2] 3)).alloc (.cells aI 37)).setRow (kb+1) (cT kb)).heap[kb]? =some (.cells #[.int .i64 1,.int .i64 2] 3)):=zh ((setRow_other _ _ _ _ CR).trans (aC (aB _ _) (by rw[hkb];exact HNk.out)));have HX1':=zh (aC jP iN.out);have jF:=zh (aA jL.out jP);clear jP iN jL HNk
 go_upto_region 3 with(first|(refine Go.Great.wpList_buildSliceTo rfl _ 3 2 _ rfl kb hkb.symm (some 18) rfl Tryz.underlying35 #[.int .i64 1,.int .i64 2] ?hf ?_;(case hf=>kernel_rfl))|(refine wpList_buildTo rfl 37 _ rfl (some 19) rfl (cT kb) ?hf ?_;(case hf=>exact(congrArg (Tryz.prog.built 37) CQ).trans (builtT kb)))|(refine Go.Great.wpList_allocTo rfl (some 2) rfl (.pointer (some ⟨kb+1,0,none⟩)) (.cells aI 37) ?ha ?_;(case ha=>exact eM hzk _ _ rfl))|(refine wpList_store_rowTo rfl 37 (.tmp 2) (.tmp 19) rfl rfl (kb+1) (cT kb) rfl rfl 37 aI ?hg CQ D4 (cT_one kb) ?_;(case hg=>exact nX.out)))
 try simp only[zn]
 clear nX hzk;generalize (((W1.alloc (.cells #[.int .i64 1,.int .i64 2] 3)).alloc (.cells aI 37)).setRow (kb+1) (cT kb))=W2 at *;have iN:=zh HX1'.out;have mK:=zh (fvT HKb.out);clear HX1' hkb HKb;have pI:Calls Tryz.prog 14 #[.agg cY] W2 fun e w'=>e=.returned (.tuple #[.string (⟨#[49,52,58,121,97,110,107,32,103,101,111,32,49,46,50,46,51,44,49,59,55,59,51,58,103,101,111,44,49,59,50,59,51,59]⟩:bA),.int .i64 0])/\Below W2.heap.size W2 w':=by have h9:=text_any dH W2 (hG.later jF.out) (fvY (N:=fun _=>True)) (Nat.zero_le _) (fun _=>CX);rw[yank_text] at h9;exact h9
 have sW:=zh pI;clear pI;go_wp2_with((refine aN (x:=.tmp 1) rfl CQ w.heap.size rfl cY iN.out rfl ?_));go_at_call 14;refine(sW.out).mono ?_;rintro e w3 ⟨rfl,hb⟩;have HBw3:=zh (aA jF.out hb);have jK:=zh (aC hb iN.out);clear iN;have iN:=zh jK.out;clear jK;have jE:=zh (aC hb jI.out);clear jI;have jI:=zh jE.out;clear jE;have kN:=zh (mK.out.later hb);clear mK;have mK:=zh kN.out;clear kN;clear hb;have pI:Calls Tryz.prog 14 #[.agg (cT kb)] w3 fun e w'=>e=.returned (.tuple #[.string (⟨#[56,58,107,101,121,115,32,103,101,111,44,53,59,48,59,51,58,103,101,111,44,50,91,49,59,50,59,93,49,59,48,59]⟩:bA),.int .i64 0])/\Below w3.heap.size w3 w':=by have h9:=text_any toF w3 (hG.later HBw3.out) mK.out (Nat.zero_le _) (fun _=>CX);rw[to_text] at h9;exact h9
 have pW:=zh pI;clear pI sW;go_wp2_with((refine aN (x:=.tmp 2) rfl CQ (kb+1) rfl (cT kb) jI.out rfl ?_));go_at_call 14;refine(pW.out).mono ?_;rintro e w4 ⟨rfl,hb⟩;have AM:=zh (aA HBw3.out hb);have jK:=zh (aC hb iN.out);clear iN;have iN:=zh jK.out;clear jK;have jE:=zh (aC hb jI.out);clear jI;have jI:=zh jE.out;clear jE;have kN:=zh (mK.out.later hb);clear mK;have mK:=zh kN.out;clear kN;clear hb;have HRdA:=zh (read_12 litA w4 (hG.later AM.out) (hE.later AM.out) CX sA1 sA2 sA3 (Or.inl rfl) sA4 sA5);go_wp2_with fail;go_at_call 15;refine(HRdA.out).mono ?_;rintro e w5 ⟨hb,gA,pA,NA,cA,rfl,hvA,uB⟩;have HBw5:=zh (aA AM.out hb);have jK:=zh (aC hb iN.out);clear iN;have iN:=zh jK.out;clear jK;have jE:=zh (aC hb jI.out);clear jI;have jI:=zh jE.out;clear jE;have kN:=zh (mK.out.later hb);clear mK;have mK:=zh kN.out;clear kN;change (if(bO dH).2=0/\(bO dH).1=litA then gA=dH/\cA=0 else gA=fc0/\cA=2) at uB;rw[yank_text,if_pos ⟨rfl,rfl⟩] at uB;obtain⟨rfl,rfl⟩:=uB;obtain⟨CA,qT⟩:∃c:Array Value,Hid (c=(fcC dH pA).toArray):=⟨_,zh rfl⟩;rw[<-qT.out];have AL:Hid (CA.size=29):=zh (by rw[qT.out];rfl);have HCoA:Hid (CA.all (fun x=>x.oneCell')=true):=zh (by rw[qT.out];exact gZ hvA);have nA:=zh hvA;clear hb hvA HRdA;have nQ:=zh (bY w5 (.cells aI 37));have hb:Below w5.heap.size w5 ((w5.alloc (.cells aI 37)).setRow w5.heap.size CA):=below_setRow (aB w5 _) (Nat.le_refl _) _;have mJ:Hid (((w5.alloc (.cells aI 37)).setRow w5.heap.size CA).heap[w5.heap.size]? =some (.cells CA 37)):=zh (setRow_heap _ _ _ _ _ _ nQ.out);have vB:=zh (aA HBw5.out hb);have jK:=zh (aC hb iN.out);clear iN;have iN:=zh jK.out;clear jK;have jE:=zh (aC hb jI.out);clear jI;have jI:=zh jE.out;clear jE;have kN:=zh (mK.out.later hb);clear mK;have mK:=zh kN.out;clear kN;have kV:=zh (nA.out.later hb);clear nA;have nA:=zh kV.out;clear kV;clear hb;obtain⟨g_A,hg_A⟩:∃n,n=w5.heap.size:=⟨_,rfl⟩
 go_upto_region 6 with(first|(refine Go.Great.wpList_allocTo rfl (some 7) rfl (.pointer (some ⟨w5.heap.size,0,none⟩)) (.cells aI 37) ?ha ?_;(case ha=>exact eM rfl _ _ rfl))|(refine wpList_store_rowTo rfl 37 (.tmp 7) (.tmp 32) rfl rfl w5.heap.size CA rfl rfl 37 aI ?hg (by rw[AL.out];kernel_rfl) (by rw[AL.out];rfl) HCoA.out ?_;(case hg=>exact nQ.out)))
 try simp only[zn]
 clear nQ;generalize ((w5.alloc (.cells aI 37)).setRow w5.heap.size CA)=w5b at *;rw[<-hg_A] at mJ ⊢;clear hg_A;have HRdB:=zh (read_k litB w5b (hG.later vB.out) (hE.later vB.out) CX sB1 sB2 sB3 CX sB4 sB5 sB6 sB7);go_wp2_with fail;go_at_call 15;refine(HRdB.out).mono ?_;rintro e w6 ⟨hb,gB,pB,NB,cB,rfl,hvB,uB⟩;have HBw6:=zh (aA vB.out hb);have jK:=zh (aC hb iN.out);clear iN;have iN:=zh jK.out;clear jK;have jE:=zh (aC hb jI.out);clear jI;have jI:=zh jE.out;clear jE;have kZ:=zh (aC hb mJ.out);clear mJ;have mJ:=zh kZ.out;clear kZ;have kN:=zh (mK.out.later hb);clear mK;have mK:=zh kN.out;clear kN;have kV:=zh (nA.out.later hb);clear nA;have nA:=zh kV.out;clear kV;change (if(bO toF).2=0/\(bO toF).1=litB then gB=toF/\cB=0 else gB=fc0/\cB=2) at uB;rw[to_text,if_pos ⟨rfl,rfl⟩] at uB;obtain⟨rfl,rfl⟩:=uB;obtain⟨CB,HCB⟩:∃c:Array Value,Hid (c=(fcC toF pB).toArray):=⟨_,zh rfl⟩;rw[<-HCB.out];have AK:Hid (CB.size=29):=zh (by rw[HCB.out];rfl);have HCoB:Hid (CB.all (fun x=>x.oneCell')=true):=zh (by rw[HCB.out];exact gZ hvB);have nM:=zh hvB;clear hb hvB HRdB;have nQ:=zh (bY w6 (.cells aI 37));have hb:Below w6.heap.size w6 ((w6.alloc (.cells aI 37)).setRow w6.heap.size CB):=below_setRow (aB w6 _) (Nat.le_refl _) _;have nL:Hid (((w6.alloc (.cells aI 37)).setRow w6.heap.size CB).heap[w6.heap.size]? =some (.cells CB 37)):=zh (setRow_heap _ _ _ _ _ _ nQ.out);have vA:=zh (aA HBw6.out hb);have jK:=zh (aC hb iN.out);clear iN;have iN:=zh jK.out;clear jK;have jE:=zh (aC hb jI.out);clear jI;have jI:=zh jE.out;clear jE;have kZ:=zh (aC hb mJ.out);clear mJ;have mJ:=zh kZ.out;clear kZ;have kN:=zh (mK.out.later hb);clear mK;have mK:=zh kN.out;clear kN;have kV:=zh (nA.out.later hb);clear nA;have nA:=zh kV.out;clear kV;have lB:=zh (nM.out.later hb);clear nM;have nM:=zh lB.out;clear lB;clear hb;obtain⟨g_B,hg_B⟩:∃n,n=w6.heap.size:=⟨_,rfl⟩
 go_upto_region 7 with(first|(refine Go.Great.wpList_allocTo rfl (some 9) rfl (.pointer (some ⟨w6.heap.size,0,none⟩)) (.cells aI 37) ?ha ?_;(case ha=>exact eM rfl _ _ rfl))|(refine wpList_store_rowTo rfl 37 (.tmp 9) (.tmp 36) rfl rfl w6.heap.size CB rfl rfl 37 aI ?hg (by rw[AK.out];kernel_rfl) (by rw[AK.out];rfl) HCoB.out ?_;(case hg=>exact nQ.out)))
 try simp only[zn]
 clear nQ;generalize ((w6.alloc (.cells aI 37)).setRow w6.heap.size CB)=w6b at *;rw[<-hg_B] at nL ⊢;clear hg_B;have HRdC:=zh (read_k litC w6b (hG.later vA.out) (hE.later vA.out) CX sC1 sC2 sC3 CX sC4 sC5 sC6 sC7);go_wp2_with fail;go_at_call 15;refine(HRdC.out).mono ?_;rintro e w7 ⟨hb,gC,pC,NC,cC,rfl,hvC,uB⟩;have HBw7:=zh (aA vA.out hb);have jK:=zh (aC hb iN.out);clear iN;have iN:=zh jK.out;clear jK;have jE:=zh (aC hb jI.out);clear jI;have jI:=zh jE.out;clear jE;have kZ:=zh (aC hb mJ.out);clear mJ;have mJ:=zh kZ.out;clear kZ;have lE:=zh (aC hb nL.out);clear nL;have nL:=zh lE.out;clear lE;have kN:=zh (mK.out.later hb);clear mK;have mK:=zh kN.out;clear kN;have kV:=zh (nA.out.later hb);clear nA;have nA:=zh kV.out;clear kV;have lB:=zh (nM.out.later hb);clear nM;have nM:=zh lB.out;clear lB;change (if(bO badF).2=0/\(bO badF).1=litC then gC=badF/\cC=0 else gC=fc0/\cC=2) at uB;rw[bad_text,if_neg CX] at uB;obtain⟨rfl,rfl⟩:=uB;obtain⟨CC,HCC⟩:∃c:Array Value,Hid (c=(fcC fc0 pC).toArray):=⟨_,zh rfl⟩;rw[<-HCC.out];have HCzC:Hid (CC.size=29):=zh (by rw[HCC.out];rfl);have HCoC:Hid (CC.all (fun x=>x.oneCell')=true):=zh (by rw[HCC.out];exact gZ hvC);have oK:=zh hvC;clear hb hvC HRdC;have nQ:=zh (bY w7 (.cells aI 37));have hb:Below w7.heap.size w7 ((w7.alloc (.cells aI 37)).setRow w7.heap.size CC):=below_setRow (aB w7 _) (Nat.le_refl _) _;have oY:Hid (((w7.alloc (.cells aI 37)).setRow w7.heap.size CC).heap[w7.heap.size]? =some (.cells CC 37)):=zh (setRow_heap _ _ _ _ _ _ nQ.out);have HBw7b:=zh (aA HBw7.out hb);have jK:=zh (aC hb iN.out);clear iN;have iN:=zh jK.out;clear jK;have jE:=zh (aC hb jI.out);clear jI;have jI:=zh jE.out;clear jE;have kZ:=zh (aC hb mJ.out);clear mJ;have mJ:=zh kZ.out;clear kZ;have lE:=zh (aC hb nL.out);clear nL;have nL:=zh lE.out;clear lE;have kN:=zh (mK.out.later hb);clear mK;have mK:=zh kN.out;clear kN;have kV:=zh (nA.out.later hb);clear nA;have nA:=zh kV.out;clear kV;have lB:=zh (nM.out.later hb);clear nM;have nM:=zh lB.out;clear lB;have lI:=zh (oK.out.later hb);clear oK;have oK:=zh lI.out;clear lI;clear hb;obtain⟨g_C,hg_C⟩:∃n,n=w7.heap.size:=⟨_,rfl⟩
 go_upto_region 8 with(first|(refine Go.Great.wpList_allocTo rfl (some 11) rfl (.pointer (some ⟨w7.heap.size,0,none⟩)) (.cells aI 37) ?ha ?_;(case ha=>exact eM rfl _ _ rfl))|(refine wpList_store_rowTo rfl 37 (.tmp 11) (.tmp 40) rfl rfl w7.heap.size CC rfl rfl 37 aI ?hg (by rw[HCzC.out];kernel_rfl) (by rw[HCzC.out];rfl) HCoC.out ?_;(case hg=>exact nQ.out)))
 try simp only[zn]
 clear nQ;generalize ((w7.alloc (.cells aI 37)).setRow w7.heap.size CC)=qC at *;rw[<-hg_C] at oY ⊢;clear hg_C;have nQ:=zh (bY qC (.cells aI 37));have hb:Below qC.heap.size qC ((qC.alloc (.cells aI 37)).setRow qC.heap.size cR):=below_setRow (aB qC _) (Nat.le_refl _) _;have mZ:Hid (((qC.alloc (.cells aI 37)).setRow qC.heap.size cR).heap[qC.heap.size]? =some (.cells cR 37)):=zh (setRow_heap _ _ _ _ _ _ nQ.out);have HBw8:=zh (aA HBw7b.out hb);have jK:=zh (aC hb iN.out);clear iN;have iN:=zh jK.out;clear jK;have jE:=zh (aC hb jI.out);clear jI;have jI:=zh jE.out;clear jE;have kZ:=zh (aC hb mJ.out);clear mJ;have mJ:=zh kZ.out;clear kZ;have lE:=zh (aC hb nL.out);clear nL;have nL:=zh lE.out;clear lE;have mI:=zh (aC hb oY.out);clear oY;have oY:=zh mI.out;clear mI;have kN:=zh (mK.out.later hb);clear mK;have mK:=zh kN.out;clear kN;have kV:=zh (nA.out.later hb);clear nA;have nA:=zh kV.out;clear kV;have lB:=zh (nM.out.later hb);clear nM;have nM:=zh lB.out;clear lB;have lI:=zh (oK.out.later hb);clear oK;have oK:=zh lI.out;clear lI;clear hb
 go_upto_region 9 with(first|(refine wpList_buildTo rfl 37 _ rfl (some 43) rfl cR ?hf ?_;(case hf=>exact(congrArg (Tryz.prog.built 37) CQ).trans builtR))|(refine Go.Great.wpList_allocTo rfl (some 13) rfl (.pointer (some ⟨qC.heap.size,0,none⟩)) (.cells aI 37) ?ha ?_;(case ha=>exact eM rfl _ _ rfl))|(refine wpList_store_rowTo rfl 37 (.tmp 13) (.tmp 43) rfl rfl qC.heap.size cR rfl rfl 37 aI ?hg CQ D4 cR_one ?_;(case hg=>exact nQ.out)))
 try simp only[zn]
 clear nQ;generalize ((qC.alloc (.cells aI 37)).setRow qC.heap.size cR)=w8 at *;obtain⟨gR,hgR⟩:∃n,n=qC.heap.size:=⟨_,rfl⟩;rw[<-hgR] at mZ ⊢;clear hgR;have HNl:=zh (bY w8 (.cells (cR++cY) 37));have hb:Below w8.heap.size w8 (w8.alloc (.cells (cR++cY) 37)):=aB w8 _;have lN:Hid ((w8.alloc (.cells (cR++cY) 37)).heap[w8.heap.size]? =some (.cells (cR++cY) 37)):=zh HNl.out;have HBw9:=zh (aA HBw8.out hb);have jK:=zh (aC hb iN.out);have jE:=zh (aC hb jI.out);have kZ:=zh (aC hb mJ.out);have lE:=zh (aC hb nL.out);have mI:=zh (aC hb oY.out);have mP:=zh (aC hb mZ.out);have kN:=zh (mK.out.later hb);have kV:=zh (nA.out.later hb);have lB:=zh (nM.out.later hb);have lI:=zh (oK.out.later hb)
 go_upto_region 10 with(first|(refine aN (x:=.tmp 13) rfl CQ gR rfl cR mZ.out rfl ?_)|(refine aN (x:=.tmp 1) rfl CQ w.heap.size rfl cY iN.out rfl ?_)|(refine Go.Great.wpList_buildSliceTo rfl _ 37 2 _ rfl w8.heap.size rfl (some 46) rfl Tryz.underlying53 (cR++cY) ?hf ?_;(case hf=>exact(congrArg (Tryz.prog.builtSlice 37 2) CQ).trans builtL)))
 try simp only[zn]
 clear hb HNl;generalize w8.alloc (.cells (cR++cY) 37)=w9 at *;obtain⟨lb,hlb⟩:∃n,n=w8.heap.size:=⟨_,rfl⟩;rw[<-hlb] at lN ⊢;clear hlb;clear iN;have iN:=zh jK.out;clear jK;clear jI;have jI:=zh jE.out;clear jE;clear mJ;have mJ:=zh kZ.out;clear kZ;clear nL;have nL:=zh lE.out;clear lE;clear oY;have oY:=zh mI.out;clear mI;clear mZ;have mZ:=zh mP.out;clear mP;clear mK;have mK:=zh kN.out;clear kN;clear nA;have nA:=zh kV.out;clear kV;clear nM;have nM:=zh lB.out;clear lB;clear oK;have oK:=zh lI.out;clear lI;have nU:Calls Tryz.prog 28 #[.agg CA,.agg cY] w9 fun e w'=>e=.returned (.bool true)/\Below w9.heap.size w9 w':=by have h9:=dB dH dH (p:=pA) nA.out (fvY (N:=fun _=>True) (w:=w9));rw[(sameFc_iff dH dH).2 rfl] at h9;rw[qT.out];exact h9
 have nC:=zh nU;clear nU;go_wp2_with((first|(refine aN (x:=.tmp 7) rfl CQ g_A rfl CA mJ.out AL.out ?_)|(refine aN (x:=.tmp 1) rfl CQ w.heap.size rfl cY iN.out rfl ?_)));go_at_call 28;refine(nC.out).mono ?_;rintro e qD ⟨rfl,hb⟩;have HBw10:=zh (aA HBw9.out hb);have jK:=zh (aC hb iN.out);clear iN;have iN:=zh jK.out;clear jK;have jE:=zh (aC hb jI.out);clear jI;have jI:=zh jE.out;clear jE;have kZ:=zh (aC hb mJ.out);clear mJ;have mJ:=zh kZ.out;clear kZ;have lE:=zh (aC hb nL.out);clear nL;have nL:=zh lE.out;clear lE;have mI:=zh (aC hb oY.out);clear oY;have oY:=zh mI.out;clear mI;have mP:=zh (aC hb mZ.out);clear mZ;have mZ:=zh mP.out;clear mP;have nG:=zh (aC hb lN.out);clear lN;have lN:=zh nG.out;clear nG;have kN:=zh (mK.out.later hb);clear mK;have mK:=zh kN.out;clear kN;have kV:=zh (nA.out.later hb);clear nA;have nA:=zh kV.out;clear kV;have lB:=zh (nM.out.later hb);clear nM;have nM:=zh lB.out;clear lB;have lI:=zh (oK.out.later hb);clear oK;have oK:=zh lI.out;clear lI;clear hb;have nU:Calls Tryz.prog 28 #[.agg CB,.agg (cT kb)] qD fun e w'=>e=.returned (.bool true)/\Below qD.heap.size qD w':=by have h9:=dB toF toF (p:=pB) nM.out mK.out;rw[(sameFc_iff toF toF).2 rfl] at h9;rw[HCB.out];exact h9
 have mQ:=zh nU;clear nU nC;go_wp2_with((first|(refine aN (x:=.tmp 9) rfl CQ g_B rfl CB nL.out AK.out ?_)|(refine aN (x:=.tmp 2) rfl CQ (kb+1) rfl (cT kb) jI.out rfl ?_)));go_at_call 28;refine(mQ.out).mono ?_;rintro e w11 ⟨rfl,hb⟩;have yP:=zh (aA HBw10.out hb);have jK:=zh (aC hb iN.out);clear iN;have iN:=zh jK.out;clear jK;have jE:=zh (aC hb jI.out);clear jI;have jI:=zh jE.out;clear jE;have kZ:=zh (aC hb mJ.out);clear mJ;have mJ:=zh kZ.out;clear kZ;have lE:=zh (aC hb nL.out);clear nL;have nL:=zh lE.out;clear lE;have mI:=zh (aC hb oY.out);clear oY;have oY:=zh mI.out;clear mI;have mP:=zh (aC hb mZ.out);clear mZ;have mZ:=zh mP.out;clear mP;have nG:=zh (aC hb lN.out);clear lN;have lN:=zh nG.out;clear nG;have kN:=zh (mK.out.later hb);clear mK;have mK:=zh kN.out;clear kN;have kV:=zh (nA.out.later hb);clear nA;have nA:=zh kV.out;clear kV;have lB:=zh (nM.out.later hb);clear nM;have nM:=zh lB.out;clear lB;have lI:=zh (oK.out.later hb);clear oK;have oK:=zh lI.out;clear lI;clear hb;have nU:Calls Tryz.prog 9 #[.agg cR] w11 fun e w'=>e=.returned (.bool true)/\Below w11.heap.size w11 w':=by have h9:=bU relF w11 (hG.later yP.out) (fvR (N:=fun _=>True)) (Nat.zero_le _);rw[rel_ok] at h9;exact h9
 have oF:=zh nU;clear nU mQ;go_wp2_with((first|(refine aN (x:=.tmp 13) rfl CQ gR rfl cR mZ.out rfl ?_)));go_at_call 9;refine(oF.out).mono ?_;rintro e w12 ⟨rfl,hb⟩;have yO:=zh (aA yP.out hb);have jK:=zh (aC hb iN.out);clear iN;have iN:=zh jK.out;clear jK;have jE:=zh (aC hb jI.out);clear jI;have jI:=zh jE.out;clear jE;have kZ:=zh (aC hb mJ.out);clear mJ;have mJ:=zh kZ.out;clear kZ;have lE:=zh (aC hb nL.out);clear nL;have nL:=zh lE.out;clear lE;have mI:=zh (aC hb oY.out);clear oY;have oY:=zh mI.out;clear mI;have mP:=zh (aC hb mZ.out);clear mZ;have mZ:=zh mP.out;clear mP;have nG:=zh (aC hb lN.out);clear lN;have lN:=zh nG.out;clear nG;have kN:=zh (mK.out.later hb);clear mK;have mK:=zh kN.out;clear kN;have kV:=zh (nA.out.later hb);clear nA;have nA:=zh kV.out;clear kV;have lB:=zh (nM.out.later hb);clear nM;have nM:=zh lB.out;clear lB;have lI:=zh (oK.out.later hb);clear oK;have oK:=zh lI.out;clear lI;clear hb;have nU:Calls Tryz.prog 13 #[.agg cR] w12 fun e w'=>e=.returned (.string (⟨#[114,101,108,101,97,115,101,32,103,101,111,32,48,46,48,46,48]⟩:bA))/\Below w12.heap.size w12 w':=by have h9:=key_any relF w12 (hG.later yO.out) (fvR (N:=fun _=>True)) (Nat.zero_le _) rel_ok;rw[rel_key] at h9;exact h9
 have HS4:=zh nU;clear nU oF;go_wp2_with((first|(refine aN (x:=.tmp 13) rfl CQ gR rfl cR mZ.out rfl ?_)));go_at_call 13;refine(HS4.out).mono ?_;rintro e w13 ⟨rfl,hb⟩;have HBw13:=zh (aA yO.out hb);have jK:=zh (aC hb iN.out);clear iN;have iN:=zh jK.out;clear jK;have jE:=zh (aC hb jI.out);clear jI;have jI:=zh jE.out;clear jE;have kZ:=zh (aC hb mJ.out);clear mJ;have mJ:=zh kZ.out;clear kZ;have lE:=zh (aC hb nL.out);clear nL;have nL:=zh lE.out;clear lE;have mI:=zh (aC hb oY.out);clear oY;have oY:=zh mI.out;clear mI;have mP:=zh (aC hb mZ.out);clear mZ;have mZ:=zh mP.out;clear mP;have nG:=zh (aC hb lN.out);clear lN;have lN:=zh nG.out;clear nG;have kN:=zh (mK.out.later hb);clear mK;have mK:=zh kN.out;clear kN;have kV:=zh (nA.out.later hb);clear nA;have nA:=zh kV.out;clear kV;have lB:=zh (nM.out.later hb);clear nM;have nM:=zh lB.out;clear lB;have lI:=zh (oK.out.later hb);clear oK;have oK:=zh lI.out;clear lI;clear hb;have nU:Calls Tryz.prog 24 #[.slice (some ⟨lb,0,none⟩) 2 2,.string (⟨#[103,101,111]⟩:bA),.agg #[.int .i64 1,.int .i64 2,.int .i64 3]] w13 fun e w'=>e=.returned (.bool true)/\Below w13.heap.size w13 w':=by have h9:=yanked_any [relF,dH] gE ⟨1,2,3⟩ w13 (rowL lN.out) CX;rw[small_yank] at h9;exact h9
 have HS5:=zh nU;clear nU HS4;have x2:=cfA iN.out (k:=2) (v:=.int .i64 1) rfl;have x3:=cfA iN.out (k:=3) (v:=.int .i64 2) rfl;have x4:=cfA iN.out (k:=4) (v:=.int .i64 3) rfl;go_wp2_with fail;go_at_call 24;refine(HS5.out).mono ?_;rintro e w14 ⟨rfl,hb⟩;have HBw14:=zh (aA HBw13.out hb);have jK:=zh (aC hb iN.out);clear iN;have iN:=zh jK.out;clear jK;have jE:=zh (aC hb jI.out);clear jI;have jI:=zh jE.out;clear jE;have kZ:=zh (aC hb mJ.out);clear mJ;have mJ:=zh kZ.out;clear kZ;have lE:=zh (aC hb nL.out);clear nL;have nL:=zh lE.out;clear lE;have mI:=zh (aC hb oY.out);clear oY;have oY:=zh mI.out;clear mI;have mP:=zh (aC hb mZ.out);clear mZ;have mZ:=zh mP.out;clear mP;have nG:=zh (aC hb lN.out);clear lN;have lN:=zh nG.out;clear nG;have kN:=zh (mK.out.later hb);clear mK;have mK:=zh kN.out;clear kN;have kV:=zh (nA.out.later hb);clear nA;have nA:=zh kV.out;clear kV;have lB:=zh (nM.out.later hb);clear nM;have nM:=zh lB.out;clear lB;have lI:=zh (oK.out.later hb);clear oK;have oK:=zh lI.out;clear lI;clear hb;clear x2 x3 x4;have nU:Calls Tryz.prog 24 #[.slice (some ⟨lb,0,none⟩) 2 2,.string (⟨#[103,101,111]⟩:bA),.agg #[.int .i64 0,.int .i64 0,.int .i64 0]] w14 fun e w'=>e=.returned (.bool false)/\Below w14.heap.size w14 w':=by have h9:=yanked_any [relF,dH] gE dI w14 (rowL lN.out) CX;rw[small_not] at h9;exact h9
 have HS6:=zh nU;clear nU HS5;go_wp2_with fail;go_at_call 24;refine(HS6.out).mono ?_;rintro e w15 ⟨rfl,hb⟩;have HBw15:=zh (aA HBw14.out hb);have jK:=zh (aC hb iN.out);clear iN;have iN:=zh jK.out;clear jK;have jE:=zh (aC hb jI.out);clear jI;have jI:=zh jE.out;clear jE;have kZ:=zh (aC hb mJ.out);clear mJ;have mJ:=zh kZ.out;clear kZ;have lE:=zh (aC hb nL.out);clear nL;have nL:=zh lE.out;clear lE;have mI:=zh (aC hb oY.out);clear oY;have oY:=zh mI.out;clear mI;have mP:=zh (aC hb mZ.out);clear mZ;have mZ:=zh mP.out;clear mP;have nG:=zh (aC hb lN.out);clear lN;have lN:=zh nG.out;clear nG;have kN:=zh (mK.out.later hb);clear mK;have mK:=zh kN.out;clear kN;have kV:=zh (nA.out.later hb);clear nA;have nA:=zh kV.out;clear kV;have lB:=zh (nM.out.later hb);clear nM;have nM:=zh lB.out;clear lB;have lI:=zh (oK.out.later hb);clear oK;have oK:=zh lI.out;clear lI;clear hb;have nU:Calls Tryz.prog 19 #[.slice (some ⟨lb,0,none⟩) 2 2,.string (⟨#[103,101,111]⟩:bA)] w15 fun e w'=>(∃a c,e=.returned (.slice a 1 c))/\Below w15.heap.size w15 w':=(releases_any [relF,dH] gE w15 (rowL lN.out) CX (by rw[small_rel];decide)).mono fun e w' h=>⟨by have h9:=h.val (by rw[small_rel];decide);rw[small_rel] at h9;exact h9,h.below⟩;have HS7:=zh nU;clear nU HS6;go_wp2_with fail;go_at_call 19;refine(HS7.out).mono ?_;rintro e w16 ⟨⟨ra,rc,rfl⟩,hb⟩;have HBw16:=zh (aA HBw15.out hb);have jK:=zh (aC hb iN.out);clear iN;have iN:=zh jK.out;clear jK;have jE:=zh (aC hb jI.out);clear jI;have jI:=zh jE.out;clear jE;have kZ:=zh (aC hb mJ.out);clear mJ;have mJ:=zh kZ.out;clear kZ;have lE:=zh (aC hb nL.out);clear nL;have nL:=zh lE.out;clear lE;have mI:=zh (aC hb oY.out);clear oY;have oY:=zh mI.out;clear mI;have mP:=zh (aC hb mZ.out);clear mZ;have mZ:=zh mP.out;clear mP;have nG:=zh (aC hb lN.out);clear lN;have lN:=zh nG.out;clear nG;have kN:=zh (mK.out.later hb);clear mK;have mK:=zh kN.out;clear kN;have kV:=zh (nA.out.later hb);clear nA;have nA:=zh kV.out;clear kV;have lB:=zh (nM.out.later hb);clear nM;have nM:=zh lB.out;clear lB;have lI:=zh (oK.out.later hb);clear oK;have oK:=zh lI.out;clear lI;clear hb;go_wp2_with fail;go_ret;exact⟨rfl,HBw16.out⟩
theorem BF{p:Prop}(h:p:=by
 go_wp2_with fail;go_ret
 exact⟨⟨_,rfl,fun h9=>by cases h9⟩,rD.out⟩):p:=h
theorem BZ{p:Prop}(h:p:=by
 go_wp2_with fail;go_ret
 exact⟨⟨_,rfl,fun _=>trivial⟩,Below.refl _ _⟩):p:=h
theorem B3{p:Prop}(h:p:=by
 go_wp2_with fail;go_ret
 exact⟨⟨_,rfl,fun h9=>by cases h9⟩,oG.out⟩):p:=h
theorem B9{p:Prop}(h:p:=by
 go_wp2_with fail;go_ret
 exact⟨⟨_,rfl,fun _=>trivial⟩,jD.out⟩):p:=h
theorem wrap_in{x:Int}(h1: -9223372036854775808<=x)(h2:x<=9223372036854775807):IntKind.i64.wrap x=x:=by
 simp only[IntKind.wrap_i64];omega
def NoW(d:Nat):Prop:=∀(x:Xp)(N:Nat->Prop)(cx:List Value)(w:World)(most lv:Int),0<=most->most<=1000->0<=lv->lv<=1000->gU x<=d->wX N w x cx->
 Calls Tryz.prog 74 #[.agg cx.toArray,.int .i64 most,.int .i64 lv] w fun e w'=>(∃r:Int,e=.returned (.int .i64 r)/\1<=r/\r<=most+1)/\Below w.heap.size w w'
theorem noW_step(d:Nat)(hD:NoW d):NoW (d+1):=by
 rintro⟨op,n,s,m,ns,xs⟩ N cx w most lv rE vO hv0 hv1 hd hx;rw[wX_iff] at hx;obtain⟨v1,v2,rfl,nU,tM,hn,ha⟩:=hx;obtain⟨a1,c1,rfl,lb1,lb2,HN0⟩:=hn.at;obtain⟨a2,c2,rfl,la1,la2,jG⟩:=ha.at;have HA:=zh jG;have HD:=zh hD
 have HDp:Hid (∀x∈xs,gU x<=d):=zh (fun x hx=>by
  have h1:=depthXs_mem xs x hx;rw[gU] at hd
  omega)
 have jD:=zh (aB w (.cells #[.int .i64 op,.int .i64 n,.string s,.string m,.slice a1 ns.length c1,.slice a2 xs.length c2] 32));have HX:=zh (bY w (.cells #[.int .i64 op,.int .i64 n,.string s,.string m,.slice a1 ns.length c1,.slice a2 xs.length c2] 32));have hX:=HX.out;obtain⟨⟨x0,x1,x2,x3,x4,x5⟩,-⟩:=bx6 hX;have gw0:IntKind.i64.wrap (most+1)=most+1:=wrap_in CR CR;have gw3:IntKind.i64.wrap (lv-1)=lv-1:=wrap_in CR CR;clear hX jG HN0 ha hn hD hd;go_enter Tryz.func74,Tryz.ntmps74
 go_upto_region 1 with(fail)
 generalize w.alloc (.cells #[.int .i64 op,.int .i64 n,.string s,.string m,.slice a1 ns.length c1,.slice a2 xs.length c2] 32)=W0 at *;by_cases hlv:lv<1
 ·go_wp2_with fail;go_ret;exact⟨⟨_,rfl,CR,CR⟩,jD.out⟩
 by_cases hns:(10:Int)<(ns.length:Int)
 ·go_wp2_with fail;go_ret;exact⟨⟨_,rfl,CR,CR⟩,jD.out⟩
 have hns2:¬10<ns.length:=CR;go_wp2_with fail;go_loopw [7,8] (fun nv iv wr=>∃(q:Nat)(k:Int),q<=xs.length/\iv=.int .i64 (q:Int)/\nv=.int .i64 k/\1<=k/\k<=most+1/\Hid (Below W0.heap.size W0 wr)) (fun _ iv _=>xs.length-(intOf iv).toNat)
 case atStart=>exact⟨0,1,Nat.zero_le _,rfl,rfl,CR,CR,zh (Below.refl _ _)⟩
 case round=>
  obtain⟨q,k,hq,rfl,rfl,qH,sQ,HW⟩:=hrel;rename World=>wr
  have hbx:=aC HW.out HX.out;clear x0 x1 x2 x3 x4 x5;obtain⟨⟨x0,x1,x2,x3,x4,x5⟩,-⟩:=bx6 hbx;clear hbx;by_cases jM:q<xs.length
  ·by_cases hk:k<=most
   ·obtain⟨x,hx,-⟩:=getElem?_of_lt jM;have tN:(0:Int)<=(q:Int)/\(q:Int)<(xs.length:Int):=CR;have HXm:=zh hx;obtain⟨b1,o1,rfl,-,zX,oO,-,mY⟩:=HA.out q x hx;obtain⟨jN,n1,s1,m1,i1,j1,k1,u1,z1,t1,rfl⟩:=bI oO;have p10:wr.cell? ⟨b1,o1+q*6,none⟩=some (.int .i64 jN):=aD (aA jD.out HW.out) (mY 0 _ rfl);have p11:=aD (aA jD.out HW.out) (mY 1 _ rfl);have p12:=aD (aA jD.out HW.out) (mY 2 _ rfl);have p13:=aD (aA jD.out HW.out) (mY 3 _ rfl);have p14:=aD (aA jD.out HW.out) (mY 4 _ rfl);have p15:=aD (aA jD.out HW.out) (mY 5 _ rfl);have gw1:IntKind.i64.wrap (most-k)=most-k:=wrap_in CR CR;have yG:=zh (HD.out x N _ wr (most-k) (lv-1) CR CR CR CR (HDp.out x (List.mem_of_getElem? hx)) (gW _ _ _ _ _ _ (aM.later (aA jD.out HW.out)) oO));clear mY hx oO;go_wp2_with fail;refine yG.out.mono ?_;rintro e w8 ⟨⟨r,rfl,rT,xL⟩,rF⟩;have gw2:IntKind.i64.wrap (k+r)=k+r:=wrap_in CR CR;have pN:=zh (aA HW.out rF);clear rF yG p10 p11 p12 p13 p14 p15 x0 x1 x2 x3 x4 x5;go_wp2_with fail;go_roundw;(case rel=>exact⟨q+1,k+r,CR,C5,rfl,CR,CR,pN⟩);case measure=>simp[intOf]<;>omega
   go_wp2_with fail;go_ret;exact⟨⟨k,rfl,qH,sQ⟩,aA jD.out HW.out⟩
  go_wp2_with fail;go_ret;exact⟨⟨k,rfl,qH,sQ⟩,aA jD.out HW.out⟩
theorem noW_all:∀d,NoW d
 |0=>fun x N cx w most lv _ _ _ _ h=>by have:=depth_pos x;omega
 |d+1=>noW_step d (noW_all d)
structure SayB (P:Prop) (e:Ending):Prop where
 out:∃b:Bool,e=.returned (.bool b)/\(b=true->P)
theorem fewX_any(x:Xp){N:Nat->Prop}{cx:List Value}{w:World}(hx:wX N w x cx):
  Calls Tryz.prog 31 #[.agg cx.toArray] w fun e w'=>SayB True e/\Below w.heap.size w w':=by
 obtain⟨op,n,s,m,a1,n1,c1,a2,n2,c2,rfl⟩:=bI hx;have jD:=zh (aB w (.cells #[.int .i64 op,.int .i64 n,.string s,.string m,.slice a1 n1 c1,.slice a2 n2 c2] 32));have hX:=bY w (.cells #[.int .i64 op,.int .i64 n,.string s,.string m,.slice a1 n1 c1,.slice a2 n2 c2] 32);obtain⟨⟨x0,x1,x2,x3,x4,x5⟩,-⟩:=bx6 hX;have HC:=zh (noW_all (gU x) x N _ _ 60 14 CR CR CR CR (Nat.le_refl _) (gW _ _ _ _ _ _ (aM.later jD.out) hx));clear hX hx;go_enter Tryz.func31,Tryz.ntmps31;go_wp2_with fail;generalize w.alloc (.cells #[.int .i64 op,.int .i64 n,.string s,.string m,.slice a1 n1 c1,.slice a2 n2 c2] 32)=W0 at *;go_at_call 74;refine HC.out.mono ?_;rintro e w1 ⟨⟨r,rfl,rT,xL⟩,hb⟩;have jL:=zh (aA jD.out hb);clear hb HC x0 x1 x2 x3 x4 x5;go_wp2_with fail;go_ret;exact⟨⟨_,rfl,fun _=>trivial⟩,jL.out⟩
theorem short_any(l:List bA){N:Nat->Prop}{v:Value}{w:World}(hl:aK 1 cD N w v l):
  Calls Tryz.prog 30 #[v] w fun e w'=>SayB True e/\Below w.heap.size w w':=by
 obtain⟨al,cl,rfl,la1,la2,jG⟩:=hl.at;have HA:=zh jG;clear jG hl;go_enter Tryz.func30,Tryz.ntmps30;go_wp2_with fail;go_loopw [3] (fun iv wr=>∃q:Nat,q<=l.length/\q<=15/\iv=.int .i64 (q:Int)/\wr=w) (fun iv _=>l.length-(intOf iv).toNat)
 case atStart=>exact⟨0,Nat.zero_le _,CR,rfl,rfl⟩
 case round=>
  obtain⟨q,hq,hq15,rfl,rfl⟩:=hrel;by_cases jM:q<l.length
  ·by_cases h15:(q:Int)<15
   ·obtain⟨x,hx,-⟩:=getElem?_of_lt jM;have tN:(0:Int)<=(q:Int)/\(q:Int)<(l.length:Int):=CR;obtain⟨b1,o1,rfl,-,zX,hcs1,-,mY⟩:=HA.out q x hx;obtain⟨rfl,mO⟩:=hcs1;have p10:=mY 0 _ rfl;rw[Nat.mul_one,Nat.add_zero] at p10;by_cases hz:(40:Int)<(x.size:Int)
    ·clear mY hx mO;exact BZ
    clear mY hx mO;go_wp2_with fail;go_roundw;(case rel=>exact⟨q+1,CR,CR,C5,by first|rfl|trivial⟩);case measure=>simp[intOf]<;>omega
   exact BZ
  exact BZ
theorem fewNeed_any(n:Nd){N:Nat->Prop}{cs:List Value}{w:World}(hx:cI N w n cs):
  Calls Tryz.prog 29 #[.agg cs.toArray] w fun e w'=>SayB True e/\Below w.heap.size w w':=by
 obtain⟨vr,vf,rfl,-,-,hr,hf⟩:=hx;have HS0:=zh (fun W(hb:Below w.heap.size w W)=>short_any n.feats (hf.moves aT (aM.later hb) CX));obtain⟨ra,rc,rfl,-⟩:=id hr;obtain⟨fa,fc,rfl,-⟩:=id hf;have jD:=zh (aB w (.cells #[.string n.name,.slice ra n.ranges.length rc,.int .i64 n.kind,.string n.whn,.slice fa n.feats.length fc] 71));have HX:=zh (bY w (.cells #[.string n.name,.slice ra n.ranges.length rc,.int .i64 n.kind,.string n.whn,.slice fa n.feats.length fc] 71));have HS:=zh (HS0.out _ jD.out);clear hr hf HS0;go_enter Tryz.func29,Tryz.ntmps29
 go_upto_region 1 with(fail)
 generalize w.alloc (.cells #[.string n.name,.slice ra n.ranges.length rc,.int .i64 n.kind,.string n.whn,.slice fa n.feats.length fc] 71)=W0 at *;obtain⟨x0,x1,x2,x3,x4⟩:=cf5 HX.out;by_cases h1:(n.name.size:Int)<=40
 ·by_cases h2:(n.ranges.length:Int)<=8
  ·by_cases h3:(n.whn.size:Int)<=40
   ·go_wp2_with fail;go_at_call 30;refine HS.out.mono ?_;rintro e w1 ⟨⟨b,rfl,-⟩,hb⟩;have jL:=zh (aA jD.out hb);clear x0 x1 x2 x3 x4 hb;go_wp2_with fail;go_ret;exact⟨⟨_,rfl,fun _=>trivial⟩,jL.out⟩
   exact B9
  exact B9
 exact B9
theorem few24_any(f:Fc){N:Nat->Prop}{p:FcP}(w:World)(h:FcV N w f p):
  Calls Tryz.prog 8 #[.agg (fcC f p).toArray] w fun e w'=>SayB (f.rel.feats.length<=14) e/\Below w.heap.size w w':=by
 obtain⟨vn,vf,vp,vr,op,n,s,m,vs,va,vk⟩:=p;have qL:aK 5 cI N w vn f.rel.needs:=h.rel.needs;have qK:aK 2 dO N w vf f.rel.feats:=h.rel.feats;have yZ:aK 1 cD N w vp f.rel.plats:=h.rel.plats;have hq4:aK 6 aW N w vr f.adv.ranges:=h.adv.ranges;have vM:aK 1 cQ N w vk f.keys:=h.keys;have xM:wX N w f.adv.cond [.int .i64 op,.int .i64 n,.string s,.string m,vs,va]:=h.adv.cond;obtain⟨da,dc,rfl,-,-,xE⟩:=qL.at;obtain⟨fa,fc,rfl,-,-,HF0⟩:=qK.at;have rG:=zh (fun W(hb:Below w.heap.size w W)=>short_any f.rel.plats (yZ.moves aT (aM.later hb) CX));have HEx:=zh (fun W(hb:Below w.heap.size w W)=>fewX_any f.adv.cond (gW _ _ _ _ _ _ (aM.later hb) xM));obtain⟨pa,pc,rfl,-⟩:=id yZ;obtain⟨ga,gc,rfl,-⟩:=id hq4;obtain⟨ka,kc,rfl,-⟩:=id vM;obtain⟨zo,zn,zs,zm,ha,hn,hc,ia,in_,ic,ez⟩:=bI xM;cases ez;have HD:=zh xE;have HF:=zh HF0;clear xE HF0 qL qK yZ hq4 vM xM h;have AI:=zh (fun(x:Nd)cs W(hb:Below w.heap.size w W)(he:cI N w x cs)=>fewNeed_any x (fC _ _ _ _ _ _ (aM.later hb) he));have HSh:=zh (fun(l:List bA)v W(hb:Below w.heap.size w W)(he:aK 1 cD N w v l)=>short_any l (he.moves aT (aM.later hb) CX));obtain⟨A,HA⟩:∃c:Array Value,Hid (c=(fcC f ⟨.slice da f.rel.needs.length dc,.slice fa f.rel.feats.length fc,.slice pa f.rel.plats.length pc,.slice ga f.adv.ranges.length gc,op,n,s,m,.slice ha hn hc,.slice ia in_ ic,.slice ka f.keys.length kc⟩).toArray):=⟨_,zh rfl⟩;rw[<-HA.out];have pP:Hid (A[1]? =some (.string f.name)):=zh CW;have pX:Hid (A[24]? =some (.slice ka f.keys.length kc)):=zh CW;have AG:Hid (A[5]? =some (.string f.rel.name)):=zh CW;have lO:Hid (A[6]? =some (.int .i64 f.rel.ver.a)):=zh CW;have lG:Hid (A[7]? =some (.int .i64 f.rel.ver.b)):=zh CW;have lA:Hid (A[8]? =some (.int .i64 f.rel.ver.c)):=zh CW;have nH:Hid (A[9]? =some (.string f.rel.source)):=zh CW;have HQ10:Hid (A[10]? =some (.slice da f.rel.needs.length dc)):=zh CW;have HQ11:Hid (A[11]? =some (.slice fa f.rel.feats.length fc)):=zh CW;have HQ12:Hid (A[12]? =some (.slice pa f.rel.plats.length pc)):=zh CW;have xA:Hid (A[13]? =some (.string f.rel.lic)):=zh CW;have wZ:Hid (A[14]? =some (.int .i64 f.adv.id)):=zh CW;have uV:Hid (A[15]? =some (.string f.adv.name)):=zh CW;have HQ16:Hid (A[16]? =some (.slice ga f.adv.ranges.length gc)):=zh CW;have HQ17:Hid (A[17]? =some (.string f.adv.fn)):=zh CW;have HQ18:Hid (A[18]? =some (.int .i64 op)):=zh CW;have HQ19:Hid (A[19]? =some (.int .i64 n)):=zh CW;have HQ20:Hid (A[20]? =some (.string s)):=zh CW;have HQ21:Hid (A[21]? =some (.string m)):=zh CW;have HQ22:Hid (A[22]? =some (.slice ha hn hc)):=zh CW;have HQ23:Hid (A[23]? =some (.slice ia in_ ic)):=zh CW;have HX:=zh (bY w (.cells A 37));have jD:=zh (aB w (.cells A 37));have Hz0:Hid ((w.alloc (.cells A 37)).heap.size=w.heap.size+1):=zh C0;skip;go_enter Tryz.func8,Tryz.ntmps8
 go_upto_region 1 with(fail)
 generalize w.alloc (.cells A 37)=W0 at *;have x5:=cfA HX.out AG.out;have x6:=cfA HX.out lO.out;have x7:=cfA HX.out lG.out;have x8:=cfA HX.out lA.out;have x9:=cfA HX.out nH.out;have x10:=cfA HX.out HQ10.out;have x11:=cfA HX.out HQ11.out;have x12:=cfA HX.out HQ12.out;have x13:=cfA HX.out xA.out;have Hb1:=zh (bY W0 (.cells #[.string ⟨#[]⟩,.int .i64 0,.int .i64 0,.int .i64 0,.string ⟨#[]⟩,.slice none 0 0,.slice none 0 0,.slice none 0 0,.string ⟨#[]⟩] 28));have jL:=zh (aA jD.out (aB W0 (.cells #[.string f.rel.name,.int .i64 f.rel.ver.a,.int .i64 f.rel.ver.b,.int .i64 f.rel.ver.c,.string f.rel.source,.slice da f.rel.needs.length dc,.slice fa f.rel.feats.length fc,.slice pa f.rel.plats.length pc,.string f.rel.lic] 28)));have iN:=zh (aC (aB W0 (.cells #[.string f.rel.name,.int .i64 f.rel.ver.a,.int .i64 f.rel.ver.b,.int .i64 f.rel.ver.c,.string f.rel.source,.slice da f.rel.needs.length dc,.slice fa f.rel.feats.length fc,.slice pa f.rel.plats.length pc,.string f.rel.lic] 28)) HX.out);have HR:=zh (bY W0 (.cells #[.string f.rel.name,.int .i64 f.rel.ver.a,.int .i64 f.rel.ver.b,.int .i64 f.rel.ver.c,.string f.rel.source,.slice da f.rel.needs.length dc,.slice fa f.rel.feats.length fc,.slice pa f.rel.plats.length pc,.string f.rel.lic] 28))
 go_upto_region 2 with(fail)
 clear x5 x6 x7 x8 x9 x10 x11 x12 x13;clear Hb1;generalize W0.alloc (.cells #[.string f.rel.name,.int .i64 f.rel.ver.a,.int .i64 f.rel.ver.b,.int .i64 f.rel.ver.c,.string f.rel.source,.slice da f.rel.needs.length dc,.slice fa f.rel.feats.length fc,.slice pa f.rel.plats.length pc,.string f.rel.lic] 28)=W1 at *;obtain⟨rb,hrb⟩:∃n,n=W0.heap.size:=⟨_,rfl⟩;rw[<-hrb] at HR ⊢;clear hrb HX jD;go_wp2_with fail;go_loopw [4] (fun iv wr=>∃q:Nat,q<=f.rel.needs.length/\q<=6/\iv=.int .i64 (q:Int)/\Hid (Below W1.heap.size W1 wr)) (fun iv _=>f.rel.needs.length-(intOf iv).toNat)
 case atStart=>exact⟨0,Nat.zero_le _,CR,rfl,zh (Below.refl _ _)⟩
 case round=>
  obtain⟨q,hq,xM,rfl,HW⟩:=hrel;rename World=>wr
  obtain⟨y0,y1,y2,y3,y4,y5,y6,y7,y8⟩:=cf9 (aC HW.out HR.out);by_cases hgo:q<f.rel.needs.length/\(q:Int)<6
  ·obtain⟨jM,h6⟩:=hgo;obtain⟨x,hx,-⟩:=getElem?_of_lt jM;have tN:(0:Int)<=(q:Int)/\(q:Int)<(f.rel.needs.length:Int):=CR;have pM:=zh (aA jL.out HW.out);obtain⟨b1,o1,rfl,-,zX,oO,-,mY⟩:=HD.out q x hx;have pQ:=zh (AI.out x zX wr pM.out oO);obtain⟨vr,vf,rfl,-,-,rT,hf1⟩:=id oO;obtain⟨ra,rc,rfl,-⟩:=id rT;obtain⟨jV,jU,rfl,-⟩:=id hf1;have p1:=aD pM.out (mY 1 _ rfl);have p2:=aD pM.out (mY 2 _ rfl);have p3:=aD pM.out (mY 3 _ rfl);have p4:=aD pM.out (mY 4 _ rfl);have p0:wr.cell? ⟨b1,o1+q*5,none⟩=_:=aD pM.out (mY 0 _ rfl);clear mY hx oO rT hf1;go_wp2_with fail;go_at_call 29;refine pQ.out.mono ?_;rintro e w3 ⟨⟨bb,rfl,-⟩,kX⟩;have kH:=zh (aA HW.out kX);clear kX pQ p0 p1 p2 p3 p4 y0 y1 y2 y3 y4 y5 y6 y7 y8
   cases bb with
   |false=>
    go_wp2_with fail;go_ret;exact⟨⟨_,rfl,fun h9=>by cases h9⟩,aA jL.out kH.out⟩
   |true=>
    go_wp2_with fail;go_roundw;(case rel=>exact⟨q+1,CR,CR,C5,kH⟩);case measure=>simp[intOf]<;>omega
  rcases(show ¬q<f.rel.needs.length\/(q<f.rel.needs.length/\¬(q:Int)<6) by omega) with nB|⟨jM,nB⟩
  all_goals
   go_wp2_with fail;have jF:=zh (aA jL.out HW.out);have oL:=zh (aC HW.out HR.out);have jI:=zh (aC HW.out iN.out);clear y0 y1 y2 y3 y4 y5 y6 y7 y8 nB;skip;(go_loopw [5] (fun iv wv=>∃q2:Nat,q2<=f.rel.feats.length/\q2<=15/\iv=.int .i64 (q2:Int)/\Hid (Below wr.heap.size wr wv)) (fun iv _=>f.rel.feats.length-(intOf iv).toNat));case atStart=>exact⟨0,Nat.zero_le _,CR,rfl,zh (Below.refl _ _)⟩
   case round=>
    obtain⟨q2,qK,hq15,rfl,HV⟩:=hrel;(rename World=>wv);obtain⟨y0,y1,y2,y3,y4,y5,y6,y7,y8⟩:=cf9 (aC HV.out oL.out);by_cases hgo2:q2<f.rel.feats.length/\(q2:Int)<15
    ·obtain⟨sB,h15⟩:=hgo2;obtain⟨x,hx,-⟩:=getElem?_of_lt sB;have tN:(0:Int)<=(q2:Int)/\(q2:Int)<(f.rel.feats.length:Int):=CR;have pM:=zh (aA jF.out HV.out);obtain⟨b1,o1,rfl,-,zX,oO,-,mY⟩:=HF.out q2 x hx;obtain⟨vi,rfl,-,hi1⟩:=id oO;have qM:=zh (HSh.out x.implies vi wv pM.out hi1);obtain⟨kC,kB,rfl,-⟩:=id hi1;have p1:=aD pM.out (mY 1 _ rfl);have p0:wv.cell? ⟨b1,o1+q2*2,none⟩=_:=aD pM.out (mY 0 _ rfl);clear mY hx oO hi1;by_cases hz:(40:Int)<(x.name.size:Int)
     ·go_wp2_with fail;go_ret;exact⟨⟨_,rfl,fun h9=>by cases h9⟩,pM.out⟩
     go_wp2_with fail;go_at_call 30;refine qM.out.mono ?_;rintro e w3 ⟨⟨bb,rfl,-⟩,kX⟩;have kH:=zh (aA HV.out kX);clear kX qM p0 p1 y0 y1 y2 y3 y4 y5 y6 y7 y8
     cases bb with
     |false=>
      go_wp2_with fail;go_ret;exact⟨⟨_,rfl,fun h9=>by cases h9⟩,aA jF.out kH.out⟩
     |true=>
      go_wp2_with fail;go_roundw;(case rel=>exact⟨q2+1,CR,CR,C5,kH⟩);case measure=>simp[intOf]<;>omega
    rcases(show ¬q2<f.rel.feats.length\/(q2<f.rel.feats.length/\¬(q2:Int)<15) by omega) with nB|⟨sB,nB⟩
    all_goals
     have oZ:=zh (aA jF.out HV.out);have sI:=zh (aC HV.out jI.out);have sL:=zh (aC HV.out oL.out);have z1:=cfA sI.out pP.out;have z24:=cfA sI.out pX.out;have z14:=cfA sI.out wZ.out;have z15:=cfA sI.out uV.out;have z16:=cfA sI.out HQ16.out;have z17:=cfA sI.out HQ17.out;have z18:=cfA sI.out HQ18.out;have z19:=cfA sI.out HQ19.out;have z20:=cfA sI.out HQ20.out;have z21:=cfA sI.out HQ21.out;have z22:=cfA sI.out HQ22.out;have z23:=cfA sI.out HQ23.out;have AO:=zh (bY wv (.cells #[.int .i64 f.adv.id,.string f.adv.name,.slice ga f.adv.ranges.length gc,.string f.adv.fn,.int .i64 op,.int .i64 n,.string s,.string m,.slice ha hn hc,.slice ia in_ ic] 34));have oG:=zh (aA oZ.out (aB wv (.cells #[.int .i64 f.adv.id,.string f.adv.name,.slice ga f.adv.ranges.length gc,.string f.adv.fn,.int .i64 op,.int .i64 n,.string s,.string m,.slice ha hn hc,.slice ia in_ ic] 34)));have tD:=zh (aC (aB wv (.cells #[.int .i64 f.adv.id,.string f.adv.name,.slice ga f.adv.ranges.length gc,.string f.adv.fn,.int .i64 op,.int .i64 n,.string s,.string m,.slice ha hn hc,.slice ia in_ ic] 34)) sI.out);have sX:=zh (aC (aB wv (.cells #[.int .i64 f.adv.id,.string f.adv.name,.slice ga f.adv.ranges.length gc,.string f.adv.fn,.int .i64 op,.int .i64 n,.string s,.string m,.slice ha hn hc,.slice ia in_ ic] 34)) sL.out)
     go_upto_region 13 with(fail)
     generalize wv.alloc (.cells #[.int .i64 f.adv.id,.string f.adv.name,.slice ga f.adv.ranges.length gc,.string f.adv.fn,.int .i64 op,.int .i64 n,.string s,.string m,.slice ha hn hc,.slice ia in_ ic] 34)=w5 at *;obtain⟨ab,hab⟩:∃n,n=wv.heap.size:=⟨_,rfl⟩;rw[<-hab] at AO ⊢;clear hab y0 y1 y2 y3 y4 y5 y6 y7 y8 z1 z24 z14 z15 z16 z17 z18 z19 z20 z21 z22 z23;obtain⟨a0,a1,a2,a3,a4,a5,a6,a7,a8,a9⟩:=cf10 AO.out;have z1:=cfA tD.out pP.out;have z24:=cfA tD.out pX.out;obtain⟨y0,y1,y2,y3,y4,y5,y6,y7,y8⟩:=cf9 sX.out;by_cases k1:(40:Int)<(f.adv.name.size:Int)
     ·exact B3
     by_cases k2:(8:Int)<(f.adv.ranges.length:Int)
     ·exact B3
     by_cases k3:(40:Int)<(f.adv.fn.size:Int)
     ·exact B3
     go_wp2_with fail;clear a0 a1 a2 a3 a4 a5 a6 a7 a8 a9 z1 z24 y0 y1 y2 y3 y4 y5 y6 y7 y8;go_at_call 31;refine(HEx.out _ oG.out).mono ?_;rintro e w6 ⟨⟨b6,rfl,-⟩,hb⟩;have rD:=zh (aA oG.out hb);have HD6:=zh hb;obtain⟨a0,a1,a2,a3,a4,a5,a6,a7,a8,a9⟩:=cf10 (aC HD6.out AO.out);have z1:=cfA (aC HD6.out tD.out) pP.out;have z24:=cfA (aC HD6.out tD.out) pX.out;obtain⟨y0,y1,y2,y3,y4,y5,y6,y7,y8⟩:=cf9 (aC HD6.out sX.out);clear hb
     cases b6 with
     |false=>
      exact BF
     |true=>
      by_cases k5:(40:Int)<(f.name.size:Int)
      ·exact BF
      by_cases k6:(20:Int)<(f.keys.length:Int)
      ·exact BF
      by_cases m1:(f.rel.name.size:Int)<=40
      ·by_cases m2:(f.rel.source.size:Int)<=600
       ·by_cases m3:(f.rel.needs.length:Int)<=5
        ·try(exfalso;omega)
         all_goals
          by_cases m4:(f.rel.feats.length:Int)<=14
          ·try(exfalso;omega)
           all_goals
            go_wp2_with fail;clear a0 a1 a2 a3 a4 a5 a6 a7 a8 a9 z1 z24 y0 y1 y2 y3 y4 y5 y6 y7 y8;go_at_call 30;refine(rG.out _ rD.out).mono ?_;rintro e w7 ⟨⟨b7,rfl,-⟩,hb⟩;have qU:=zh (aA rD.out hb);have HD7:=zh (aA HD6.out hb);obtain⟨a0,a1,a2,a3,a4,a5,a6,a7,a8,a9⟩:=cf10 (aC HD7.out AO.out);have z1:=cfA (aC HD7.out tD.out) pP.out;have z24:=cfA (aC HD7.out tD.out) pX.out;obtain⟨y0,y1,y2,y3,y4,y5,y6,y7,y8⟩:=cf9 (aC HD7.out sX.out);clear hb
            cases b7 with
            |false=>
             go_wp2_with fail;go_ret;exact⟨⟨_,rfl,fun h9=>by cases h9⟩,qU.out⟩
            |true=>
             go_wp2_with fail;go_ret;exact⟨⟨_,rfl,fun h9=>CR⟩,qU.out⟩
          exact BF
        exact BF
       exact BF
      exact BF
end Go.Proofs.YtmpopphjaggeoaaGreatDoor
