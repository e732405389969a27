/- Texts of this seat, joined. -/
import Derived.Test.YtmpopphjaggeoaaGreatDoorKAM
set_option maxHeartbeats 64000000
set_option maxRecDepth 100000
set_option linter.unusedVariables false
set_option linter.unusedSimpArgs false
set_option linter.constructorNameAsVariable false
namespace Go.Proofs.YtmpopphjaggeoaaGreatDoor
open Go.RowKit Go.Shelf Go.Lib Go.Sort
theorem B6{p:Prop}(h:p:=by
 go_wp2_with fail;go_roundw;case rel=>exact⟨q+1,out,css,CL,CY,pK,oQ,vV⟩
 case measure=>simp[intOf]<;>omega):p:=h
theorem verInfo:(Tryz.prog.info? 23).map (fun i=>(i.zero,i.size,i.bytes))=some (some (.agg #[.int .i64 0,.int .i64 0,.int .i64 0]),3,24):=CK
theorem leV_lt:(fun x y:Ver=> !(ltOf fun x y:Ver=>bH x y) y x)=leV:=by
 funext x y;unfold leV ltOf;have h:=cmpV_swap x y;by_cases h1:bH y x<0
 ·rw[decide_eq_true h1,decide_eq_false CL];rfl
 rw[decide_eq_false h1,decide_eq_true CL];rfl
theorem verC_one(x:Ver):∀u∈verC x,u.oneCell'=true:=fun u hu=>by
 simp[verC] at hu;rcases hu with rfl|rfl|rfl<;>rfl
theorem sort_ver(l:List Ver)(B g cap:Nat)(w:World)(hH:RowH verC 3 w g 0 l)(hg:g<w.heap.size)(hB:B<=g)(hl:l.length<=140737488355328):
  Calls Tryz.prog 56 #[.slice (some ⟨g,0,none⟩) l.length cap,.func (.func 21) #[] #[]] w fun e w'=>e=.returned (.tuple #[])/\Below B w w'/\RowH verC 3 w' g 0 (l.mergeSort leV):=by
 have h:=Tryz.slices_SortFunc_total_f56 3 Tryz.isAgg23 Tryz.sizeOf23 verC (fun _=>rfl) verC_one (fun x y:Ver=>bH x y) (swo_ver (fun x:Ver=>x)) 21 #[] g 0 cap l.toArray w
  (enters_of Tryz.func21 CK rfl) (fun m os dk _ x y=>(gZ x y _).mono fun e w' ⟨h1,q,os',h2⟩=>⟨h1,q,os',h2⟩) (hH.holds (fun _=>rfl)) hg C5
  (fun x y h1 h2=>by
   simp only[ltOf,decide_eq_false_iff_not] at h1 h2;have h:=cmpV_swap x y
   exact(cmpV_zero x y).1 CL)
 rw[show l.toArray.size=l.length by simp,leV_lt] at h;refine h.mono ?_;rintro e w' ⟨rfl,n,os,rfl⟩;refine⟨rfl,(below_sortK hB).resolve_right CL,?_⟩;have h9:=RowH.of_holds (enc:=verC) (k:=3) (fun _=>rfl) (holdsK_sortWorldK_c verC 3 w g 0 l.toArray (l.mergeSort leV).toArray n os (hH.holds (fun _=>rfl)) hg CU);simpa using h9
theorem gro_rowH{B g cap n:Nat}{l:List Ver}{css:List (List Value)}{w:World}(h:Gro 3 23 encVer B l css (.slice (some ⟨g,0,none⟩) n cap) w):RowH verC 3 w g 0 l:=fun i x hx j u hu=>by
 obtain⟨h1,h2⟩:=h.own;rcases h2 with⟨e,-⟩|⟨g',cap',cur,e,hg,hgb,r1,r2,r3,r4⟩
 ·cases e
 cases e;have hi:=(Yb.1 hx).1;obtain⟨c,hc⟩:∃c,css[i]? =some c:=⟨_,List.getElem?_eq_getElem (by rw[h.len];exact hi)⟩;have ec:c=verC x:=h.enc i x c hx hc;have hj:j<3:=(Yb.1 hu).1;have jL:i*3+j<l.length*3:=CL;have h3:=congrArg (fun t:List Value=>t[i*3+j]?) r4;simp only[List.getElem?_take,if_pos jL,gS css h.ks i c j hc hj,ec,hu] at h3;have h4:cur[i*3+j]? =some u:=by simpa using h3
 rw[Nat.zero_add];exact⟨by simp[World.cell?,hgb,h4],by simp[World.frozen?,hgb]⟩
theorem relVers_take{l:List Fc}{s:bA}{q:Nat}{f:Fc}(hf:l[q]? =some f):dO (l.take (q+1)) s=dO (l.take q) s++(if f.kind=0/\f.rel.name=s then[f.rel.ver] else[]):=by
 unfold dO;rw[List.take_add_one,hf,List.filterMap_append];by_cases h:f.kind=0/\f.rel.name=s
 ·simp[h]
 simp[h]
theorem relVers_len(l:List Fc)(s:bA):(dO l s).length<=l.length:=List.length_filterMap_le _ _
structure RelQ (l:List Fc) (s:bA) (w:World) (e:Ending) (w':World):Prop where
 below:Below w.heap.size w w'
 val:(dO l s).length<2->∃a c,e=.returned (.slice a (dO l s).length c)
theorem compact_short(a:Option Addr)(n c:Nat)(hn:n<2)(w:World):Calls Tryz.prog 57 #[.slice a n c] w fun e w'=>e=.returned (.slice a n c)/\w'=w:=by
 have h1:(n:Int)<2:=CL;go_enter Tryz.func57,Tryz.ntmps57;go_wp2_with fail;go_ret;exact⟨rfl,rfl⟩
theorem releases_any(l:List Fc)(s:bA){N:Nat->Prop}{vl:Value}(w:World)(hl:aK 29 encFc N w vl l)(kS:l.length<=1000000)(h2:(dO l s).length<2):
  Calls Tryz.prog 19 #[vl,.string s] w fun e w'=>RelQ l s w e w':=by
 obtain⟨i0,oL,pW,lE,nN⟩:=info_parts verInfo;obtain⟨al,cl,rfl,la1,la2,jF⟩:=hl.at;have HA:=zh jF;have vS:Hid (∀q,(dO (l.take q) s).length<=1000000):=zh (fun q=>Nat.le_trans (relVers_len (l.take q) s) ER);clear jF hl;go_enter Tryz.func19,Tryz.ntmps19;go_wp2_with fail;go_loopw [5,10] (fun ov iv wr=>∃(q:Nat)(out:List Ver)(css:List (List Value)),q<=l.length/\iv=.int .i64 (q:Int)/\Hid (Below w.heap.size w wr)/\Hid (out=dO (l.take q) s)/\Hid (Gro 3 23 encVer w.heap.size out css ov wr)) (fun _ iv _=>l.length-(intOf iv).toNat)
 case atStart=>exact⟨0,[],[],Nat.zero_le _,rfl,zh (Below.refl _ _),zh rfl,zh (Gro.first _ _ _ _)⟩
 case round=>
  obtain⟨q,out,css,hq,rfl,HW,HO,HG⟩:=hrel;rename World=>wr
  by_cases jL:q<l.length
  ·obtain⟨f,hf,-⟩:=getElem?_of_lt jL;obtain⟨b,o,rfl,-,cs,⟨p,rfl,hv⟩,-,hj⟩:=HA.out q f hf;have tM:(0:Int)<=(q:Int)/\(q:Int)<(l.length:Int):=CL;obtain⟨A,pP⟩:∃c:Array Value,Hid (c=(fcC f p).toArray):=⟨_,zh rfl⟩;have jZ:Hid (A.size=29):=zh DM;have rP:Hid (A.all (fun x=>x.oneCell')=true):=zh (by rw[pP.out];exact gY hv);have uQ:Hid (wr.rangeAt b (o+q*29) (fcC f p)):=zh (fun j u hu=>aD HW.out (hj j u hu));have jY:=zh (bY wr (.cells aI 37));have kG:Hid (Below wr.heap.size wr ((wr.alloc (.cells aI 37)).setRow wr.heap.size A)):=zh (below_setRow (aB wr _) (Nat.le_refl _) _);have qC:Hid (((wr.alloc (.cells aI 37)).setRow wr.heap.size A).heap[wr.heap.size]? =some (.cells A 37)):=zh (setRow_heap _ _ _ _ _ _ jY.out);have nJ:Hid (A[0]? =some (.int .i64 f.kind)):=zh DM;have AE:Hid (A[5]? =some (.string f.rel.name)):=zh DM;have lN:Hid (A[6]? =some (.int .i64 f.rel.ver.a)):=zh DM;have lF:Hid (A[7]? =some (.int .i64 f.rel.ver.b)):=zh DM;have kZ:Hid (A[8]? =some (.int .i64 f.rel.ver.c)):=zh DM;have HTk:=zh (relVers_take (s:=s) hf);have vV:=zh (HG.out.later encVer_ok kG.out);have pK:=zh (aA HW.out kG.out);have hol:=vS.out q;rw[<-HO.out] at hol;clear hj hv hf
   go_upto_region 5 with(first|(refine loadFM (x:=.tmp 12) rfl CK b (o+q*29) rfl (fcC f p) A pP.out uQ.out rfl ?_)|(refine Go.Great.wpList_allocTo rfl (some 7) rfl (.pointer (some ⟨wr.heap.size,0,none⟩)) (.cells aI 37) ?ha ?_;(case ha=>exact eM rfl _ _ rfl))|(refine wpList_store_rowTo rfl 37 (.tmp 7) (.tmp 13) rfl rfl wr.heap.size A rfl rfl 37 aI ?hg DO EA rP.out ?_;(case hg=>exact jY.out)))
   (try simp only[zn]);clear jY uQ HG kG HW;generalize ((wr.alloc (.cells aI 37)).setRow wr.heap.size A)=W3 at *;have x0:=cfA qC.out nJ.out;have x5:=cfA qC.out AE.out;have x6:=cfA qC.out lN.out;have x7:=cfA qC.out lF.out;have x8:=cfA qC.out kZ.out;generalize hk9:f.kind=k at *;generalize hn9:f.rel.name=nm at *;generalize hv9:f.rel.ver=vf at *;clear hk9 hn9 hv9;by_cases h1:k=0
   ·subst h1;by_cases h3:nm=s
    ·subst h3;have oQ:Hid (out++[vf]=dO (l.take (q+1)) nm):=zh (by rw[HTk.out,if_pos ⟨rfl,rfl⟩,HO.out]);have yL:=zh (vV.out.later encVer_ok (aB W3 (.cells #[.int .i64 vf.a,.int .i64 vf.b,.int .i64 vf.c] 23)));have kT:=yL.out.big;go_wp2_with(at_builtin;refine wpList_append_lies _ rfl _ _ 55 rfl w.heap.size 23 i0 (.agg #[.int .i64 0,.int .i64 0,.int .i64 0]) 3 24 Tryz.underlying55 oL pW lE nN rfl CL _ out.length css.flatten DY yL.out.own ⟨W3.heap.size,0,none⟩ 1 1 [.int .i64 vf.a,.int .i64 vf.b,.int .i64 vf.c] DY rfl (World.news_of_block (cs:=#[.int .i64 vf.a,.int .i64 vf.b,.int .i64 vf.c]) (t:=23) (fr:=(0,0)) (bY W3 _)) DL CL DI CL kT (W3.heap.size+1) CU ?_);intro g cap w6 jX iO mL _;have HNw:=zh (yL.out.added encVer_ok (x:=vf) rfl rfl jX iO D8);have HW6:=zh (fY (aA pK.out (aB W3 (.cells #[.int .i64 vf.a,.int .i64 vf.b,.int .i64 vf.c] 23))) iO (fun b hb=>(yL.out.lt b hb).1));clear jX iO mL vV yL;go_wp2_with fail;go_roundw;(case rel=>exact⟨q+1,out++[vf],css++[verC vf],CL,CY,HW6,oQ,HNw⟩);case measure=>simp[intOf]<;>omega
    have g3:(nm.toList==s.toList)=false:=cO h3;have oQ:Hid (out=dO (l.take (q+1)) s):=zh (by rw[HTk.out,if_neg (fun h9=>h3 h9.2),List.append_nil];exact HO.out);exact B6
   have g1:(k==0)=false:=beq_eq_false_iff_ne.2 h1;have oQ:Hid (out=dO (l.take (q+1)) s):=zh (by rw[HTk.out,if_neg (fun h9=>h1 h9.1),List.append_nil];exact HO.out);exact B6
  have hO:out=dO l s:=by rw[HO.out,List.take_of_length_le CL]
  have hol:out.length<2:=by rw[hO];exact h2
  have HOl:Hid (out.length=(dO l s).length):=zh (by rw[hO]);clear hO h2;rcases HG.out.val with⟨rfl,e1⟩|⟨g,cap,rfl,rS,oV⟩
  ·subst e1;go_wp2_with fail;refine(Tryz.slices_SortFunc_none_f56 (α:=Ver) none 0 _ wr).mono ?_;rintro e w3 ⟨rfl,rfl⟩;go_wp2_with fail;go_at_call 57;refine(compact_short none 0 0 CL w3).mono ?_;rintro e w4 ⟨rfl,rfl⟩;go_wp2_with fail;go_ret;exact⟨HW.out,fun _=>⟨none,0,by rw[<-HOl.out];rfl⟩⟩
  have qX:=zh (sort_ver out w.heap.size g cap wr (gro_rowH HG.out) oV rS CL);go_wp2_with fail;refine qX.out.mono ?_;rintro e w3 ⟨rfl,kW,-⟩;have kG:=zh (HW.out.trans kW);clear kW qX;go_wp2_with fail;go_at_call 57;refine(compact_short _ out.length cap hol w3).mono ?_;rintro e w4 ⟨rfl,rfl⟩;go_wp2_with fail;go_ret;exact⟨kG.out,fun _=>⟨some ⟨g,0,none⟩,cap,by rw[<-HOl.out];rfl⟩⟩
end Go.Proofs.YtmpopphjaggeoaaGreatDoor
namespace Go.Proofs.YtmpopphjaggeoaaGreatDoor
open Go.RowKit Go.Shelf
def cY:Array Value:=(fcC dG (pZ (.slice none 0 0))).toArray
def cT(kb:Nat):Array Value:=(fcC toF (pZ (.slice (some ⟨kb,0,none⟩) 2 2))).toArray
def cR:Array Value:=(fcC relF (pZ (.slice none 0 0))).toArray
theorem cY_one:cY.all (fun x=>x.oneCell')=true:=by simp[cY,fcC,pZ,dG,Value.oneCell']
theorem cT_one(kb:Nat):(cT kb).all (fun x=>x.oneCell')=true:=by simp[cT,fcC,pZ,toF,Value.oneCell']
theorem cR_one:cR.all (fun x=>x.oneCell')=true:=by simp[cR,fcC,pZ,relF,Value.oneCell']
theorem builtY:Tryz.prog.built 37 [(0,.int .i64 1),(1,.string fZ),(2,.agg #[.int .i64 1,.int .i64 2,.int .i64 3]),(9,.int .i64 7)]=some cY:=CK
theorem builtT(kb:Nat):Tryz.prog.built 37 [(0,.int .i64 5),(1,.string fZ),(5,.slice (some ⟨kb,0,none⟩) 2 2),(6,.int .i64 1)]=some (cT kb):=CK
theorem builtR:Tryz.prog.built 37 [(0,.int .i64 0),(3,.agg #[.string fZ,.int .i64 0,.int .i64 0,.int .i64 0,.string ⟨#[]⟩,.slice none 0 0,.slice none 0 0,.slice none 0 0,.string mitB])]=some cR:=CK
theorem builtL:Tryz.prog.builtSlice 37 2 [(0,.agg cR),(1,.agg cY)]=some (cR++cY):=CK
theorem fvY{N:Nat->Prop}{w:World}:FcV N w dG (pZ (.slice none 0 0)):=⟨E5,hI,gU,dK⟩
theorem fvR{N:Nat->Prop}{w:World}:FcV N w relF (pZ (.slice none 0 0)):=⟨sz0,⟨E5,sz0,E5,dK,dK,dK⟩,gU,dK⟩
theorem fvT{kb:Nat}{w:World}(h:w.heap[kb]? =some (.cells #[.int .i64 1,.int .i64 2] 3)):FcV (fun _=>True) w toF (pZ (.slice (some ⟨kb,0,none⟩) 2 2)):=
 ⟨E5,hI,gU,⟨some ⟨kb,0,none⟩,2,rfl,CQ,CQ,fun _=>⟨kb,0,rfl,trivial,fun i x hx=>⟨[.int .i64 x],rfl,rfl,fun j u hu=>by
  cases j with
  |succ j=>simp at hu
  |zero=>
   cases i with
   |zero=>cases hx;cases hu;exact(aH h 0 rfl).1
   |succ i=>cases i with
    |zero=>cases hx;cases hu;exact(aH h 1 rfl).1
    |succ i=>simp[toF] at hx⟩⟩⟩⟩
theorem rowL{lb:Nat}{w:World}(h:w.heap[lb]? =some (.cells (cR++cY) 37)):aK 29 encFc (fun _=>True) w (.slice (some ⟨lb,0,none⟩) 2 2) [relF,dG]:=
 ⟨some ⟨lb,0,none⟩,2,rfl,CQ,CQ,fun _=>⟨lb,0,rfl,trivial,fun i x hx=>by
  cases i with
  |zero=>
   cases hx;refine⟨cR.toList,⟨_,rfl,fvR⟩,rfl,fun j u hu=>(aH h _ ?_).1⟩;simp only[Nat.zero_mul,Nat.zero_add];rw[Array.getElem?_append_left (by have:=(Yb.1 hu).1;simpa using this)];simpa using hu
  |succ i=>cases i with
   |zero=>
    cases hx;refine⟨cY.toList,⟨_,rfl,fvY⟩,rfl,fun j u hu=>(aH h _ ?_).1⟩;rw[Array.getElem?_append_right (by show cR.size<=_;have:cR.size=29:=rfl;omega),show 0+(0+1)*29+j-cR.size=j by have:cR.size=29:=rfl;omega];simpa using hu
   |succ i=>simp at hx⟩⟩
theorem small24_any(w:World)(hG:bB w)(hE:ErrV w):Calls Tryz.prog 7 #[] w fun e w'=>e=.returned (.bool true)/\Below w.heap.size w w':=by
 have uX:=zh (bY w (.cells aI 37));have iM:Hid (((w.alloc (.cells aI 37)).setRow w.heap.size cY).heap[w.heap.size]? =some (.cells cY 37)):=zh (setRow_heap _ _ _ _ _ _ uX.out);have jK:Hid (Below w.heap.size w ((w.alloc (.cells aI 37)).setRow w.heap.size cY)):=zh (below_setRow (aB w _) (Nat.le_refl _) _);go_enter Tryz.func7,Tryz.ntmps7
 go_upto_region 2 with(first|(refine wpList_buildTo rfl 37 _ rfl (some 17) rfl cY ?hf ?_;(case hf=>exact(congrArg (Tryz.prog.built 37) CK).trans builtY))|(refine Go.Great.wpList_allocTo rfl (some 1) rfl (.pointer (some ⟨w.heap.size,0,none⟩)) (.cells aI 37) ?ha ?_;(case ha=>exact eM rfl _ _ rfl))|(refine wpList_store_rowTo rfl 37 (.tmp 1) (.tmp 17) rfl rfl w.heap.size cY rfl rfl 37 aI ?hg CK DY cY_one ?_;(case hg=>exact uX.out)))
 try simp only[zn]
 clear uX;generalize (w.alloc (.cells aI 37)).setRow w.heap.size cY=W1 at *;obtain⟨kb,hkb⟩:∃n,n=W1.heap.size:=⟨_,rfl⟩;have hzk:(W1.alloc (.cells #[.int .i64 1,.int .i64 2] 3)).heap.size=kb+1:=by rw[hkb];simp
 have HNk:=zh (bY W1 (.cells #[.int .i64 1,.int .i64 2] 3));have nW:Hid (((W1.alloc (.cells #[.int .i64 1,.int .i64 2] 3)).alloc (.cells aI 37)).heap[kb+1]? =some (.cells aI 37)):=zh (by have h9:=bY (W1.alloc (.cells #[.int .i64 1,.int .i64 2] 3)) (.cells aI 37);rw[hzk] at h9;exact h9);have jH:Hid ((((W1.alloc (.cells #[.int .i64 1,.int .i64 2] 3)).alloc (.cells aI 37)).setRow (kb+1) (cT kb)).heap[kb+1]? =some (.cells (cT kb) 37)):=zh (setRow_heap _ _ _ _ _ _ nW.out);have jO:Below W1.heap.size W1 (((W1.alloc (.cells #[.int .i64 1,.int .i64 2] 3)).alloc (.cells aI 37)).setRow (kb+1) (cT kb)):=below_setRow (aA (aB W1 _) (aB _ _)) CL _;have HKb:Hid ((((W1.alloc (.cells #[.int .i64 1,.int .i64 2] 3)).alloc (.cells aI 37)).setRow (kb+1) (cT kb)).heap[kb]? =some (.cells #[.int .i64 1,.int .i64 2] 3)):=zh ((setRow_other _ _ _ _ CL).trans (aC (aB _ _) (by rw[hkb];exact HNk.out)));have HX1':=zh (aC jO iM.out);have jE:=zh (aA jK.out jO);clear jO iM jK HNk
 go_upto_region 3 with(first|(refine Go.Great.wpList_buildSliceTo rfl _ 3 2 _ rfl kb hkb.symm (some 18) rfl Tryz.underlying35 #[.int .i64 1,.int .i64 2] ?hf ?_;(case hf=>kernel_rfl))|(refine wpList_buildTo rfl 37 _ rfl (some 19) rfl (cT kb) ?hf ?_;(case hf=>exact(congrArg (Tryz.prog.built 37) CK).trans (builtT kb)))|(refine Go.Great.wpList_allocTo rfl (some 2) rfl (.pointer (some ⟨kb+1,0,none⟩)) (.cells aI 37) ?ha ?_;(case ha=>exact eM hzk _ _ rfl))|(refine wpList_store_rowTo rfl 37 (.tmp 2) (.tmp 19) rfl rfl (kb+1) (cT kb) rfl rfl 37 aI ?hg CK DY (cT_one kb) ?_;(case hg=>exact nW.out)))
 try simp only[zn]
 clear nW hzk;generalize (((W1.alloc (.cells #[.int .i64 1,.int .i64 2] 3)).alloc (.cells aI 37)).setRow (kb+1) (cT kb))=W2 at *;have iM:=zh HX1'.out;have mJ:=zh (fvT HKb.out);clear HX1' hkb HKb;have pH:Calls Tryz.prog 14 #[.agg cY] W2 fun e w'=>e=.returned (.tuple #[.string (⟨#[49,52,58,121,97,110,107,32,103,101,111,32,49,46,50,46,51,44,49,59,55,59,51,58,103,101,111,44,49,59,50,59,51,59]⟩:bA),.int .i64 0])/\Below W2.heap.size W2 w':=by have h9:=text_any dG W2 (hG.later jE.out) (fvY (N:=fun _=>True)) (Nat.zero_le _) (fun _=>CQ);rw[yank_text] at h9;exact h9
 have sU:=zh pH;clear pH;go_wp2_with((refine aN (x:=.tmp 1) rfl CK w.heap.size rfl cY iM.out rfl ?_));go_at_call 14;refine(sU.out).mono ?_;rintro e w3 ⟨rfl,hb⟩;have HBw3:=zh (aA jE.out hb);have jJ:=zh (aC hb iM.out);clear iM;have iM:=zh jJ.out;clear jJ;have jD:=zh (aC hb jH.out);clear jH;have jH:=zh jD.out;clear jD;have kM:=zh (mJ.out.later hb);clear mJ;have mJ:=zh kM.out;clear kM;clear hb;have pH:Calls Tryz.prog 14 #[.agg (cT kb)] w3 fun e w'=>e=.returned (.tuple #[.string (⟨#[56,58,107,101,121,115,32,103,101,111,44,53,59,48,59,51,58,103,101,111,44,50,91,49,59,50,59,93,49,59,48,59]⟩:bA),.int .i64 0])/\Below w3.heap.size w3 w':=by have h9:=text_any toF w3 (hG.later HBw3.out) mJ.out (Nat.zero_le _) (fun _=>CQ);rw[to_text] at h9;exact h9
 have pU:=zh pH;clear pH sU;go_wp2_with((refine aN (x:=.tmp 2) rfl CK (kb+1) rfl (cT kb) jH.out rfl ?_));go_at_call 14;refine(pU.out).mono ?_;rintro e w4 ⟨rfl,hb⟩;have AK:=zh (aA HBw3.out hb);have jJ:=zh (aC hb iM.out);clear iM;have iM:=zh jJ.out;clear jJ;have jD:=zh (aC hb jH.out);clear jH;have jH:=zh jD.out;clear jD;have kM:=zh (mJ.out.later hb);clear mJ;have mJ:=zh kM.out;clear kM;clear hb;have HRdA:=zh (read_12 litA w4 (hG.later AK.out) (hE.later AK.out) CQ sA1 sA2 sA3 (Or.inl rfl) sA4 sA5);go_wp2_with fail;go_at_call 15;refine(HRdA.out).mono ?_;rintro e w5 ⟨hb,gA,pA,NA,cA,rfl,hvA,uA⟩;have HBw5:=zh (aA AK.out hb);have jJ:=zh (aC hb iM.out);clear iM;have iM:=zh jJ.out;clear jJ;have jD:=zh (aC hb jH.out);clear jH;have jH:=zh jD.out;clear jD;have kM:=zh (mJ.out.later hb);clear mJ;have mJ:=zh kM.out;clear kM;change (if(bO dG).2=0/\(bO dG).1=litA then gA=dG/\cA=0 else gA=fc0/\cA=2) at uA;rw[yank_text,if_pos ⟨rfl,rfl⟩] at uA;obtain⟨rfl,rfl⟩:=uA;obtain⟨CA,qP⟩:∃c:Array Value,Hid (c=(fcC dG pA).toArray):=⟨_,zh rfl⟩;rw[<-qP.out];have AJ:Hid (CA.size=29):=zh (by rw[qP.out];rfl);have HCoA:Hid (CA.all (fun x=>x.oneCell')=true):=zh (by rw[qP.out];exact gY hvA);have mZ:=zh hvA;clear hb hvA HRdA;have nP:=zh (bY w5 (.cells aI 37));have hb:Below w5.heap.size w5 ((w5.alloc (.cells aI 37)).setRow w5.heap.size CA):=below_setRow (aB w5 _) (Nat.le_refl _) _;have mI:Hid (((w5.alloc (.cells aI 37)).setRow w5.heap.size CA).heap[w5.heap.size]? =some (.cells CA 37)):=zh (setRow_heap _ _ _ _ _ _ nP.out);have vA:=zh (aA HBw5.out hb);have jJ:=zh (aC hb iM.out);clear iM;have iM:=zh jJ.out;clear jJ;have jD:=zh (aC hb jH.out);clear jH;have jH:=zh jD.out;clear jD;have kM:=zh (mJ.out.later hb);clear mJ;have mJ:=zh kM.out;clear kM;have kU:=zh (mZ.out.later hb);clear mZ;have mZ:=zh kU.out;clear kU;clear hb;obtain⟨g_A,hg_A⟩:∃n,n=w5.heap.size:=⟨_,rfl⟩
 go_upto_region 6 with(first|(refine Go.Great.wpList_allocTo rfl (some 7) rfl (.pointer (some ⟨w5.heap.size,0,none⟩)) (.cells aI 37) ?ha ?_;(case ha=>exact eM rfl _ _ rfl))|(refine wpList_store_rowTo rfl 37 (.tmp 7) (.tmp 32) rfl rfl w5.heap.size CA rfl rfl 37 aI ?hg (by rw[AJ.out];kernel_rfl) (by rw[AJ.out];rfl) HCoA.out ?_;(case hg=>exact nP.out)))
 try simp only[zn]
 clear nP;generalize ((w5.alloc (.cells aI 37)).setRow w5.heap.size CA)=w5b at *;rw[<-hg_A] at mI ⊢;clear hg_A;have HRdB:=zh (read_k litB w5b (hG.later vA.out) (hE.later vA.out) CQ sB1 sB2 sB3 CQ sB4 sB5 sB6 sB7);go_wp2_with fail;go_at_call 15;refine(HRdB.out).mono ?_;rintro e w6 ⟨hb,gB,pB,NB,cB,rfl,hvB,uA⟩;have HBw6:=zh (aA vA.out hb);have jJ:=zh (aC hb iM.out);clear iM;have iM:=zh jJ.out;clear jJ;have jD:=zh (aC hb jH.out);clear jH;have jH:=zh jD.out;clear jD;have kY:=zh (aC hb mI.out);clear mI;have mI:=zh kY.out;clear kY;have kM:=zh (mJ.out.later hb);clear mJ;have mJ:=zh kM.out;clear kM;have kU:=zh (mZ.out.later hb);clear mZ;have mZ:=zh kU.out;clear kU;change (if(bO toF).2=0/\(bO toF).1=litB then gB=toF/\cB=0 else gB=fc0/\cB=2) at uA;rw[to_text,if_pos ⟨rfl,rfl⟩] at uA;obtain⟨rfl,rfl⟩:=uA;obtain⟨CB,HCB⟩:∃c:Array Value,Hid (c=(fcC toF pB).toArray):=⟨_,zh rfl⟩;rw[<-HCB.out];have AI:Hid (CB.size=29):=zh (by rw[HCB.out];rfl);have HCoB:Hid (CB.all (fun x=>x.oneCell')=true):=zh (by rw[HCB.out];exact gY hvB);have nL:=zh hvB;clear hb hvB HRdB;have nP:=zh (bY w6 (.cells aI 37));have hb:Below w6.heap.size w6 ((w6.alloc (.cells aI 37)).setRow w6.heap.size CB):=below_setRow (aB w6 _) (Nat.le_refl _) _;have nK:Hid (((w6.alloc (.cells aI 37)).setRow w6.heap.size CB).heap[w6.heap.size]? =some (.cells CB 37)):=zh (setRow_heap _ _ _ _ _ _ nP.out);have uZ:=zh (aA HBw6.out hb);have jJ:=zh (aC hb iM.out);clear iM;have iM:=zh jJ.out;clear jJ;have jD:=zh (aC hb jH.out);clear jH;have jH:=zh jD.out;clear jD;have kY:=zh (aC hb mI.out);clear mI;have mI:=zh kY.out;clear kY;have kM:=zh (mJ.out.later hb);clear mJ;have mJ:=zh kM.out;clear kM;have kU:=zh (mZ.out.later hb);clear mZ;have mZ:=zh kU.out;clear kU;have lA:=zh (nL.out.later hb);clear nL;have nL:=zh lA.out;clear lA;clear hb;obtain⟨g_B,hg_B⟩:∃n,n=w6.heap.size:=⟨_,rfl⟩
 go_upto_region 7 with(first|(refine Go.Great.wpList_allocTo rfl (some 9) rfl (.pointer (some ⟨w6.heap.size,0,none⟩)) (.cells aI 37) ?ha ?_;(case ha=>exact eM rfl _ _ rfl))|(refine wpList_store_rowTo rfl 37 (.tmp 9) (.tmp 36) rfl rfl w6.heap.size CB rfl rfl 37 aI ?hg (by rw[AI.out];kernel_rfl) (by rw[AI.out];rfl) HCoB.out ?_;(case hg=>exact nP.out)))
 try simp only[zn]
 clear nP;generalize ((w6.alloc (.cells aI 37)).setRow w6.heap.size CB)=w6b at *;rw[<-hg_B] at nK ⊢;clear hg_B;have HRdC:=zh (read_k litC w6b (hG.later uZ.out) (hE.later uZ.out) CQ sC1 sC2 sC3 CQ sC4 sC5 sC6 sC7);go_wp2_with fail;go_at_call 15;refine(HRdC.out).mono ?_;rintro e w7 ⟨hb,gC,pC,NC,cC,rfl,hvC,uA⟩;have HBw7:=zh (aA uZ.out hb);have jJ:=zh (aC hb iM.out);clear iM;have iM:=zh jJ.out;clear jJ;have jD:=zh (aC hb jH.out);clear jH;have jH:=zh jD.out;clear jD;have kY:=zh (aC hb mI.out);clear mI;have mI:=zh kY.out;clear kY;have lD:=zh (aC hb nK.out);clear nK;have nK:=zh lD.out;clear lD;have kM:=zh (mJ.out.later hb);clear mJ;have mJ:=zh kM.out;clear kM;have kU:=zh (mZ.out.later hb);clear mZ;have mZ:=zh kU.out;clear kU;have lA:=zh (nL.out.later hb);clear nL;have nL:=zh lA.out;clear lA;change (if(bO badF).2=0/\(bO badF).1=litC then gC=badF/\cC=0 else gC=fc0/\cC=2) at uA;rw[bad_text,if_neg CQ] at uA;obtain⟨rfl,rfl⟩:=uA;obtain⟨CC,HCC⟩:∃c:Array Value,Hid (c=(fcC fc0 pC).toArray):=⟨_,zh rfl⟩;rw[<-HCC.out];have HCzC:Hid (CC.size=29):=zh (by rw[HCC.out];rfl);have HCoC:Hid (CC.all (fun x=>x.oneCell')=true):=zh (by rw[HCC.out];exact gY hvC);have oH:=zh hvC;clear hb hvC HRdC;have nP:=zh (bY w7 (.cells aI 37));have hb:Below w7.heap.size w7 ((w7.alloc (.cells aI 37)).setRow w7.heap.size CC):=below_setRow (aB w7 _) (Nat.le_refl _) _;have oX:Hid (((w7.alloc (.cells aI 37)).setRow w7.heap.size CC).heap[w7.heap.size]? =some (.cells CC 37)):=zh (setRow_heap _ _ _ _ _ _ nP.out);have HBw7b:=zh (aA HBw7.out hb);have jJ:=zh (aC hb iM.out);clear iM;have iM:=zh jJ.out;clear jJ;have jD:=zh (aC hb jH.out);clear jH;have jH:=zh jD.out;clear jD;have kY:=zh (aC hb mI.out);clear mI;have mI:=zh kY.out;clear kY;have lD:=zh (aC hb nK.out);clear nK;have nK:=zh lD.out;clear lD;have kM:=zh (mJ.out.later hb);clear mJ;have mJ:=zh kM.out;clear kM;have kU:=zh (mZ.out.later hb);clear mZ;have mZ:=zh kU.out;clear kU;have lA:=zh (nL.out.later hb);clear nL;have nL:=zh lA.out;clear lA;have lH:=zh (oH.out.later hb);clear oH;have oH:=zh lH.out;clear lH;clear hb;obtain⟨g_C,hg_C⟩:∃n,n=w7.heap.size:=⟨_,rfl⟩
 go_upto_region 8 with(first|(refine Go.Great.wpList_allocTo rfl (some 11) rfl (.pointer (some ⟨w7.heap.size,0,none⟩)) (.cells aI 37) ?ha ?_;(case ha=>exact eM rfl _ _ rfl))|(refine wpList_store_rowTo rfl 37 (.tmp 11) (.tmp 40) rfl rfl w7.heap.size CC rfl rfl 37 aI ?hg (by rw[HCzC.out];kernel_rfl) (by rw[HCzC.out];rfl) HCoC.out ?_;(case hg=>exact nP.out)))
 try simp only[zn]
 clear nP;generalize ((w7.alloc (.cells aI 37)).setRow w7.heap.size CC)=qA at *;rw[<-hg_C] at oX ⊢;clear hg_C;have nP:=zh (bY qA (.cells aI 37));have hb:Below qA.heap.size qA ((qA.alloc (.cells aI 37)).setRow qA.heap.size cR):=below_setRow (aB qA _) (Nat.le_refl _) _;have mY:Hid (((qA.alloc (.cells aI 37)).setRow qA.heap.size cR).heap[qA.heap.size]? =some (.cells cR 37)):=zh (setRow_heap _ _ _ _ _ _ nP.out);have HBw8:=zh (aA HBw7b.out hb);have jJ:=zh (aC hb iM.out);clear iM;have iM:=zh jJ.out;clear jJ;have jD:=zh (aC hb jH.out);clear jH;have jH:=zh jD.out;clear jD;have kY:=zh (aC hb mI.out);clear mI;have mI:=zh kY.out;clear kY;have lD:=zh (aC hb nK.out);clear nK;have nK:=zh lD.out;clear lD;have mH:=zh (aC hb oX.out);clear oX;have oX:=zh mH.out;clear mH;have kM:=zh (mJ.out.later hb);clear mJ;have mJ:=zh kM.out;clear kM;have kU:=zh (mZ.out.later hb);clear mZ;have mZ:=zh kU.out;clear kU;have lA:=zh (nL.out.later hb);clear nL;have nL:=zh lA.out;clear lA;have lH:=zh (oH.out.later hb);clear oH;have oH:=zh lH.out;clear lH;clear hb
 go_upto_region 9 with(first|(refine wpList_buildTo rfl 37 _ rfl (some 43) rfl cR ?hf ?_;(case hf=>exact(congrArg (Tryz.prog.built 37) CK).trans builtR))|(refine Go.Great.wpList_allocTo rfl (some 13) rfl (.pointer (some ⟨qA.heap.size,0,none⟩)) (.cells aI 37) ?ha ?_;(case ha=>exact eM rfl _ _ rfl))|(refine wpList_store_rowTo rfl 37 (.tmp 13) (.tmp 43) rfl rfl qA.heap.size cR rfl rfl 37 aI ?hg CK DY cR_one ?_;(case hg=>exact nP.out)))
 try simp only[zn]
 clear nP;generalize ((qA.alloc (.cells aI 37)).setRow qA.heap.size cR)=w8 at *;obtain⟨gR,hgR⟩:∃n,n=qA.heap.size:=⟨_,rfl⟩;rw[<-hgR] at mY ⊢;clear hgR;have HNl:=zh (bY w8 (.cells (cR++cY) 37));have hb:Below w8.heap.size w8 (w8.alloc (.cells (cR++cY) 37)):=aB w8 _;have lM:Hid ((w8.alloc (.cells (cR++cY) 37)).heap[w8.heap.size]? =some (.cells (cR++cY) 37)):=zh HNl.out;have HBw9:=zh (aA HBw8.out hb);have jJ:=zh (aC hb iM.out);have jD:=zh (aC hb jH.out);have kY:=zh (aC hb mI.out);have lD:=zh (aC hb nK.out);have mH:=zh (aC hb oX.out);have mO:=zh (aC hb mY.out);have kM:=zh (mJ.out.later hb);have kU:=zh (mZ.out.later hb);have lA:=zh (nL.out.later hb);have lH:=zh (oH.out.later hb)
 go_upto_region 10 with(first|(refine aN (x:=.tmp 13) rfl CK gR rfl cR mY.out rfl ?_)|(refine aN (x:=.tmp 1) rfl CK w.heap.size rfl cY iM.out rfl ?_)|(refine Go.Great.wpList_buildSliceTo rfl _ 37 2 _ rfl w8.heap.size rfl (some 46) rfl Tryz.underlying53 (cR++cY) ?hf ?_;(case hf=>exact(congrArg (Tryz.prog.builtSlice 37 2) CK).trans builtL)))
 try simp only[zn]
 clear hb HNl;generalize w8.alloc (.cells (cR++cY) 37)=w9 at *;obtain⟨lb,hlb⟩:∃n,n=w8.heap.size:=⟨_,rfl⟩;rw[<-hlb] at lM ⊢;clear hlb;clear iM;have iM:=zh jJ.out;clear jJ;clear jH;have jH:=zh jD.out;clear jD;clear mI;have mI:=zh kY.out;clear kY;clear nK;have nK:=zh lD.out;clear lD;clear oX;have oX:=zh mH.out;clear mH;clear mY;have mY:=zh mO.out;clear mO;clear mJ;have mJ:=zh kM.out;clear kM;clear mZ;have mZ:=zh kU.out;clear kU;clear nL;have nL:=zh lA.out;clear lA;clear oH;have oH:=zh lH.out;clear lH;have nT:Calls Tryz.prog 28 #[.agg CA,.agg cY] w9 fun e w'=>e=.returned (.bool true)/\Below w9.heap.size w9 w':=by have h9:=dB dG dG (p:=pA) mZ.out (fvY (N:=fun _=>True) (w:=w9));rw[(sameFc_iff dG dG).2 rfl] at h9;rw[qP.out];exact h9
 have nB:=zh nT;clear nT;go_wp2_with((first|(refine aN (x:=.tmp 7) rfl CK g_A rfl CA mI.out AJ.out ?_)|(refine aN (x:=.tmp 1) rfl CK w.heap.size rfl cY iM.out rfl ?_)));go_at_call 28;refine(nB.out).mono ?_;rintro e qB ⟨rfl,hb⟩;have HBw10:=zh (aA HBw9.out hb);have jJ:=zh (aC hb iM.out);clear iM;have iM:=zh jJ.out;clear jJ;have jD:=zh (aC hb jH.out);clear jH;have jH:=zh jD.out;clear jD;have kY:=zh (aC hb mI.out);clear mI;have mI:=zh kY.out;clear kY;have lD:=zh (aC hb nK.out);clear nK;have nK:=zh lD.out;clear lD;have mH:=zh (aC hb oX.out);clear oX;have oX:=zh mH.out;clear mH;have mO:=zh (aC hb mY.out);clear mY;have mY:=zh mO.out;clear mO;have nF:=zh (aC hb lM.out);clear lM;have lM:=zh nF.out;clear nF;have kM:=zh (mJ.out.later hb);clear mJ;have mJ:=zh kM.out;clear kM;have kU:=zh (mZ.out.later hb);clear mZ;have mZ:=zh kU.out;clear kU;have lA:=zh (nL.out.later hb);clear nL;have nL:=zh lA.out;clear lA;have lH:=zh (oH.out.later hb);clear oH;have oH:=zh lH.out;clear lH;clear hb;have nT:Calls Tryz.prog 28 #[.agg CB,.agg (cT kb)] qB fun e w'=>e=.returned (.bool true)/\Below qB.heap.size qB w':=by have h9:=dB toF toF (p:=pB) nL.out mJ.out;rw[(sameFc_iff toF toF).2 rfl] at h9;rw[HCB.out];exact h9
 have mP:=zh nT;clear nT nB;go_wp2_with((first|(refine aN (x:=.tmp 9) rfl CK g_B rfl CB nK.out AI.out ?_)|(refine aN (x:=.tmp 2) rfl CK (kb+1) rfl (cT kb) jH.out rfl ?_)));go_at_call 28;refine(mP.out).mono ?_;rintro e w11 ⟨rfl,hb⟩;have yN:=zh (aA HBw10.out hb);have jJ:=zh (aC hb iM.out);clear iM;have iM:=zh jJ.out;clear jJ;have jD:=zh (aC hb jH.out);clear jH;have jH:=zh jD.out;clear jD;have kY:=zh (aC hb mI.out);clear mI;have mI:=zh kY.out;clear kY;have lD:=zh (aC hb nK.out);clear nK;have nK:=zh lD.out;clear lD;have mH:=zh (aC hb oX.out);clear oX;have oX:=zh mH.out;clear mH;have mO:=zh (aC hb mY.out);clear mY;have mY:=zh mO.out;clear mO;have nF:=zh (aC hb lM.out);clear lM;have lM:=zh nF.out;clear nF;have kM:=zh (mJ.out.later hb);clear mJ;have mJ:=zh kM.out;clear kM;have kU:=zh (mZ.out.later hb);clear mZ;have mZ:=zh kU.out;clear kU;have lA:=zh (nL.out.later hb);clear nL;have nL:=zh lA.out;clear lA;have lH:=zh (oH.out.later hb);clear oH;have oH:=zh lH.out;clear lH;clear hb;have nT:Calls Tryz.prog 9 #[.agg cR] w11 fun e w'=>e=.returned (.bool true)/\Below w11.heap.size w11 w':=by have h9:=bU relF w11 (hG.later yN.out) (fvR (N:=fun _=>True)) (Nat.zero_le _);rw[rel_ok] at h9;exact h9
 have oC:=zh nT;clear nT mP;go_wp2_with((first|(refine aN (x:=.tmp 13) rfl CK gR rfl cR mY.out rfl ?_)));go_at_call 9;refine(oC.out).mono ?_;rintro e w12 ⟨rfl,hb⟩;have yM:=zh (aA yN.out hb);have jJ:=zh (aC hb iM.out);clear iM;have iM:=zh jJ.out;clear jJ;have jD:=zh (aC hb jH.out);clear jH;have jH:=zh jD.out;clear jD;have kY:=zh (aC hb mI.out);clear mI;have mI:=zh kY.out;clear kY;have lD:=zh (aC hb nK.out);clear nK;have nK:=zh lD.out;clear lD;have mH:=zh (aC hb oX.out);clear oX;have oX:=zh mH.out;clear mH;have mO:=zh (aC hb mY.out);clear mY;have mY:=zh mO.out;clear mO;have nF:=zh (aC hb lM.out);clear lM;have lM:=zh nF.out;clear nF;have kM:=zh (mJ.out.later hb);clear mJ;have mJ:=zh kM.out;clear kM;have kU:=zh (mZ.out.later hb);clear mZ;have mZ:=zh kU.out;clear kU;have lA:=zh (nL.out.later hb);clear nL;have nL:=zh lA.out;clear lA;have lH:=zh (oH.out.later hb);clear oH;have oH:=zh lH.out;clear lH;clear hb;have nT:Calls Tryz.prog 13 #[.agg cR] w12 fun e w'=>e=.returned (.string (⟨#[114,101,108,101,97,115,101,32,103,101,111,32,48,46,48,46,48]⟩:bA))/\Below w12.heap.size w12 w':=by have h9:=key_any relF w12 (hG.later yM.out) (fvR (N:=fun _=>True)) (Nat.zero_le _) rel_ok;rw[rel_key] at h9;exact h9
 have HS4:=zh nT;clear nT oC;go_wp2_with((first|(refine aN (x:=.tmp 13) rfl CK gR rfl cR mY.out rfl ?_)));go_at_call 13;refine(HS4.out).mono ?_;rintro e w13 ⟨rfl,hb⟩;have HBw13:=zh (aA yM.out hb);have jJ:=zh (aC hb iM.out);clear iM;have iM:=zh jJ.out;clear jJ;have jD:=zh (aC hb jH.out);clear jH;have jH:=zh jD.out;clear jD;have kY:=zh (aC hb mI.out);clear mI;have mI:=zh kY.out;clear kY;have lD:=zh (aC hb nK.out);clear nK;have nK:=zh lD.out;clear lD;have mH:=zh (aC hb oX.out);clear oX;have oX:=zh mH.out;clear mH;have mO:=zh (aC hb mY.out);clear mY;have mY:=zh mO.out;clear mO;have nF:=zh (aC hb lM.out);clear lM;have lM:=zh nF.out;clear nF;have kM:=zh (mJ.out.later hb);clear mJ;have mJ:=zh kM.out;clear kM;have kU:=zh (mZ.out.later hb);clear mZ;have mZ:=zh kU.out;clear kU;have lA:=zh (nL.out.later hb);clear nL;have nL:=zh lA.out;clear lA;have lH:=zh (oH.out.later hb);clear oH;have oH:=zh lH.out;clear lH;clear hb;have nT:Calls Tryz.prog 24 #[.slice (some ⟨lb,0,none⟩) 2 2,.string (⟨#[103,101,111]⟩:bA),.agg #[.int .i64 1,.int .i64 2,.int .i64 3]] w13 fun e w'=>e=.returned (.bool true)/\Below w13.heap.size w13 w':=by have h9:=yanked_any [relF,dG] fZ ⟨1,2,3⟩ w13 (rowL lM.out) CQ;rw[small_yank] at h9;exact h9
 have HS5:=zh nT;clear nT HS4;have x2:=cfA iM.out (k:=2) (v:=.int .i64 1) rfl;have x3:=cfA iM.out (k:=3) (v:=.int .i64 2) rfl;have x4:=cfA iM.out (k:=4) (v:=.int .i64 3) rfl;go_wp2_with fail;go_at_call 24;refine(HS5.out).mono ?_;rintro e w14 ⟨rfl,hb⟩;have HBw14:=zh (aA HBw13.out hb);have jJ:=zh (aC hb iM.out);clear iM;have iM:=zh jJ.out;clear jJ;have jD:=zh (aC hb jH.out);clear jH;have jH:=zh jD.out;clear jD;have kY:=zh (aC hb mI.out);clear mI;have mI:=zh kY.out;clear kY;have lD:=zh (aC hb nK.out);clear nK;have nK:=zh lD.out;clear lD;have mH:=zh (aC hb oX.out);clear oX;have oX:=zh mH.out;clear mH;have mO:=zh (aC hb mY.out);clear mY;have mY:=zh mO.out;clear mO;have nF:=zh (aC hb lM.out);clear lM;have lM:=zh nF.out;clear nF;have kM:=zh (mJ.out.later hb);clear mJ;have mJ:=zh kM.out;clear kM;have kU:=zh (mZ.out.later hb);clear mZ;have mZ:=zh kU.out;clear kU;have lA:=zh (nL.out.later hb);clear nL;have nL:=zh lA.out;clear lA;have lH:=zh (oH.out.later hb);clear oH;have oH:=zh lH.out;clear lH;clear hb;clear x2 x3 x4;have nT:Calls Tryz.prog 24 #[.slice (some ⟨lb,0,none⟩) 2 2,.string (⟨#[103,101,111]⟩:bA),.agg #[.int .i64 0,.int .i64 0,.int .i64 0]] w14 fun e w'=>e=.returned (.bool false)/\Below w14.heap.size w14 w':=by have h9:=yanked_any [relF,dG] fZ dH w14 (rowL lM.out) CQ;rw[small_not] at h9;exact h9
 have HS6:=zh nT;clear nT HS5;go_wp2_with fail;go_at_call 24;refine(HS6.out).mono ?_;rintro e w15 ⟨rfl,hb⟩;have HBw15:=zh (aA HBw14.out hb);have jJ:=zh (aC hb iM.out);clear iM;have iM:=zh jJ.out;clear jJ;have jD:=zh (aC hb jH.out);clear jH;have jH:=zh jD.out;clear jD;have kY:=zh (aC hb mI.out);clear mI;have mI:=zh kY.out;clear kY;have lD:=zh (aC hb nK.out);clear nK;have nK:=zh lD.out;clear lD;have mH:=zh (aC hb oX.out);clear oX;have oX:=zh mH.out;clear mH;have mO:=zh (aC hb mY.out);clear mY;have mY:=zh mO.out;clear mO;have nF:=zh (aC hb lM.out);clear lM;have lM:=zh nF.out;clear nF;have kM:=zh (mJ.out.later hb);clear mJ;have mJ:=zh kM.out;clear kM;have kU:=zh (mZ.out.later hb);clear mZ;have mZ:=zh kU.out;clear kU;have lA:=zh (nL.out.later hb);clear nL;have nL:=zh lA.out;clear lA;have lH:=zh (oH.out.later hb);clear oH;have oH:=zh lH.out;clear lH;clear hb;have nT:Calls Tryz.prog 19 #[.slice (some ⟨lb,0,none⟩) 2 2,.string (⟨#[103,101,111]⟩:bA)] w15 fun e w'=>(∃a c,e=.returned (.slice a 1 c))/\Below w15.heap.size w15 w':=(releases_any [relF,dG] fZ w15 (rowL lM.out) CQ (by rw[small_rel];decide)).mono fun e w' h=>⟨by have h9:=h.val (by rw[small_rel];decide);rw[small_rel] at h9;exact h9,h.below⟩;have HS7:=zh nT;clear nT HS6;go_wp2_with fail;go_at_call 19;refine(HS7.out).mono ?_;rintro e w16 ⟨⟨ra,rc,rfl⟩,hb⟩;have HBw16:=zh (aA HBw15.out hb);have jJ:=zh (aC hb iM.out);clear iM;have iM:=zh jJ.out;clear jJ;have jD:=zh (aC hb jH.out);clear jH;have jH:=zh jD.out;clear jD;have kY:=zh (aC hb mI.out);clear mI;have mI:=zh kY.out;clear kY;have lD:=zh (aC hb nK.out);clear nK;have nK:=zh lD.out;clear lD;have mH:=zh (aC hb oX.out);clear oX;have oX:=zh mH.out;clear mH;have mO:=zh (aC hb mY.out);clear mY;have mY:=zh mO.out;clear mO;have nF:=zh (aC hb lM.out);clear lM;have lM:=zh nF.out;clear nF;have kM:=zh (mJ.out.later hb);clear mJ;have mJ:=zh kM.out;clear kM;have kU:=zh (mZ.out.later hb);clear mZ;have mZ:=zh kU.out;clear kU;have lA:=zh (nL.out.later hb);clear nL;have nL:=zh lA.out;clear lA;have lH:=zh (oH.out.later hb);clear oH;have oH:=zh lH.out;clear lH;clear hb;go_wp2_with fail;go_ret;exact⟨rfl,HBw16.out⟩
theorem BB{p:Prop}(h:p:=by
 go_wp2_with fail;go_ret
 exact⟨⟨_,rfl,fun h9=>by cases h9⟩,rB.out⟩):p:=h
theorem BU{p:Prop}(h:p:=by
 go_wp2_with fail;go_ret
 exact⟨⟨_,rfl,fun _=>trivial⟩,Below.refl _ _⟩):p:=h
theorem BX{p:Prop}(h:p:=by
 go_wp2_with fail;go_ret
 exact⟨⟨_,rfl,fun h9=>by cases h9⟩,oD.out⟩):p:=h
theorem B1{p:Prop}(h:p:=by
 go_wp2_with fail;go_ret
 exact⟨⟨_,rfl,fun _=>trivial⟩,jC.out⟩):p:=h
theorem wrap_in{x:Int}(h1: -9223372036854775808<=x)(h2:x<=9223372036854775807):IntKind.i64.wrap x=x:=by
 simp only[IntKind.wrap_i64];omega
def NoW(d:Nat):Prop:=∀(x:Xp)(N:Nat->Prop)(cx:List Value)(w:World)(most lv:Int),0<=most->most<=1000->0<=lv->lv<=1000->gT x<=d->wX N w x cx->
 Calls Tryz.prog 74 #[.agg cx.toArray,.int .i64 most,.int .i64 lv] w fun e w'=>(∃r:Int,e=.returned (.int .i64 r)/\1<=r/\r<=most+1)/\Below w.heap.size w w'
theorem noW_step(d:Nat)(hD:NoW d):NoW (d+1):=by
 rintro⟨op,n,s,m,ns,xs⟩ N cx w most lv rC vN hv0 hv1 hd hx;rw[wX_iff] at hx;obtain⟨v1,v2,rfl,nT,tL,hn,ha⟩:=hx;obtain⟨a1,c1,rfl,lb1,lb2,HN0⟩:=hn.at;obtain⟨a2,c2,rfl,la1,la2,jF⟩:=ha.at;have HA:=zh jF;have HD:=zh hD
 have HDp:Hid (∀x∈xs,gT x<=d):=zh (fun x hx=>by
  have h1:=depthXs_mem xs x hx;rw[gT] at hd
  omega)
 have jC:=zh (aB w (.cells #[.int .i64 op,.int .i64 n,.string s,.string m,.slice a1 ns.length c1,.slice a2 xs.length c2] 32));have HX:=zh (bY w (.cells #[.int .i64 op,.int .i64 n,.string s,.string m,.slice a1 ns.length c1,.slice a2 xs.length c2] 32));have hX:=HX.out;obtain⟨⟨x0,x1,x2,x3,x4,x5⟩,-⟩:=bx6 hX;have gw0:IntKind.i64.wrap (most+1)=most+1:=wrap_in CL CL;have gw3:IntKind.i64.wrap (lv-1)=lv-1:=wrap_in CL CL;clear hX jF HN0 ha hn hD hd;go_enter Tryz.func74,Tryz.ntmps74
 go_upto_region 1 with(fail)
 generalize w.alloc (.cells #[.int .i64 op,.int .i64 n,.string s,.string m,.slice a1 ns.length c1,.slice a2 xs.length c2] 32)=W0 at *;by_cases hlv:lv<1
 ·go_wp2_with fail;go_ret;exact⟨⟨_,rfl,CL,CL⟩,jC.out⟩
 by_cases hns:(10:Int)<(ns.length:Int)
 ·go_wp2_with fail;go_ret;exact⟨⟨_,rfl,CL,CL⟩,jC.out⟩
 have hns2:¬10<ns.length:=CL;go_wp2_with fail;go_loopw [7,8] (fun nv iv wr=>∃(q:Nat)(k:Int),q<=xs.length/\iv=.int .i64 (q:Int)/\nv=.int .i64 k/\1<=k/\k<=most+1/\Hid (Below W0.heap.size W0 wr)) (fun _ iv _=>xs.length-(intOf iv).toNat)
 case atStart=>exact⟨0,1,Nat.zero_le _,rfl,rfl,CL,CL,zh (Below.refl _ _)⟩
 case round=>
  obtain⟨q,k,hq,rfl,rfl,qE,sM,HW⟩:=hrel;rename World=>wr
  have hbx:=aC HW.out HX.out;clear x0 x1 x2 x3 x4 x5;obtain⟨⟨x0,x1,x2,x3,x4,x5⟩,-⟩:=bx6 hbx;clear hbx;by_cases jL:q<xs.length
  ·by_cases hk:k<=most
   ·obtain⟨x,hx,-⟩:=getElem?_of_lt jL;have tM:(0:Int)<=(q:Int)/\(q:Int)<(xs.length:Int):=CL;have HXm:=zh hx;obtain⟨b1,o1,rfl,-,zU,oM,-,mX⟩:=HA.out q x hx;obtain⟨jM,n1,s1,m1,i1,j1,k1,u1,z1,t1,rfl⟩:=bI oM;have p10:wr.cell? ⟨b1,o1+q*6,none⟩=some (.int .i64 jM):=aD (aA jC.out HW.out) (mX 0 _ rfl);have p11:=aD (aA jC.out HW.out) (mX 1 _ rfl);have p12:=aD (aA jC.out HW.out) (mX 2 _ rfl);have p13:=aD (aA jC.out HW.out) (mX 3 _ rfl);have p14:=aD (aA jC.out HW.out) (mX 4 _ rfl);have p15:=aD (aA jC.out HW.out) (mX 5 _ rfl);have gw1:IntKind.i64.wrap (most-k)=most-k:=wrap_in CL CL;have yD:=zh (HD.out x N _ wr (most-k) (lv-1) CL CL CL CL (HDp.out x (List.mem_of_getElem? hx)) (gV _ _ _ _ _ _ (aM.later (aA jC.out HW.out)) oM));clear mX hx oM;go_wp2_with fail;refine yD.out.mono ?_;rintro e w8 ⟨⟨r,rfl,rR,xJ⟩,rD⟩;have gw2:IntKind.i64.wrap (k+r)=k+r:=wrap_in CL CL;have pL:=zh (aA HW.out rD);clear rD yD p10 p11 p12 p13 p14 p15 x0 x1 x2 x3 x4 x5;go_wp2_with fail;go_roundw;(case rel=>exact⟨q+1,k+r,CL,CY,rfl,CL,CL,pL⟩);case measure=>simp[intOf]<;>omega
   go_wp2_with fail;go_ret;exact⟨⟨k,rfl,qE,sM⟩,aA jC.out HW.out⟩
  go_wp2_with fail;go_ret;exact⟨⟨k,rfl,qE,sM⟩,aA jC.out HW.out⟩
theorem noW_all:∀d,NoW d
 |0=>fun x N cx w most lv _ _ _ _ h=>by have:=depth_pos x;omega
 |d+1=>noW_step d (noW_all d)
structure SayB (P:Prop) (e:Ending):Prop where
 out:∃b:Bool,e=.returned (.bool b)/\(b=true->P)
theorem fewX_any(x:Xp){N:Nat->Prop}{cx:List Value}{w:World}(hx:wX N w x cx):
  Calls Tryz.prog 31 #[.agg cx.toArray] w fun e w'=>SayB True e/\Below w.heap.size w w':=by
 obtain⟨op,n,s,m,a1,n1,c1,a2,n2,c2,rfl⟩:=bI hx;have jC:=zh (aB w (.cells #[.int .i64 op,.int .i64 n,.string s,.string m,.slice a1 n1 c1,.slice a2 n2 c2] 32));have hX:=bY w (.cells #[.int .i64 op,.int .i64 n,.string s,.string m,.slice a1 n1 c1,.slice a2 n2 c2] 32);obtain⟨⟨x0,x1,x2,x3,x4,x5⟩,-⟩:=bx6 hX;have HC:=zh (noW_all (gT x) x N _ _ 60 14 CL CL CL CL (Nat.le_refl _) (gV _ _ _ _ _ _ (aM.later jC.out) hx));clear hX hx;go_enter Tryz.func31,Tryz.ntmps31;go_wp2_with fail;generalize w.alloc (.cells #[.int .i64 op,.int .i64 n,.string s,.string m,.slice a1 n1 c1,.slice a2 n2 c2] 32)=W0 at *;go_at_call 74;refine HC.out.mono ?_;rintro e w1 ⟨⟨r,rfl,rR,xJ⟩,hb⟩;have jK:=zh (aA jC.out hb);clear hb HC x0 x1 x2 x3 x4 x5;go_wp2_with fail;go_ret;exact⟨⟨_,rfl,fun _=>trivial⟩,jK.out⟩
theorem short_any(l:List bA){N:Nat->Prop}{v:Value}{w:World}(hl:aK 1 cH N w v l):
  Calls Tryz.prog 30 #[v] w fun e w'=>SayB True e/\Below w.heap.size w w':=by
 obtain⟨al,cl,rfl,la1,la2,jF⟩:=hl.at;have HA:=zh jF;clear jF hl;go_enter Tryz.func30,Tryz.ntmps30;go_wp2_with fail;go_loopw [3] (fun iv wr=>∃q:Nat,q<=l.length/\q<=15/\iv=.int .i64 (q:Int)/\wr=w) (fun iv _=>l.length-(intOf iv).toNat)
 case atStart=>exact⟨0,Nat.zero_le _,CL,rfl,rfl⟩
 case round=>
  obtain⟨q,hq,hq15,rfl,rfl⟩:=hrel;by_cases jL:q<l.length
  ·by_cases h15:(q:Int)<15
   ·obtain⟨x,hx,-⟩:=getElem?_of_lt jL;have tM:(0:Int)<=(q:Int)/\(q:Int)<(l.length:Int):=CL;obtain⟨b1,o1,rfl,-,zU,hcs1,-,mX⟩:=HA.out q x hx;obtain⟨rfl,mN⟩:=hcs1;have p10:=mX 0 _ rfl;rw[Nat.mul_one,Nat.add_zero] at p10;by_cases hz:(40:Int)<(x.size:Int)
    ·clear mX hx mN;exact BU
    clear mX hx mN;go_wp2_with fail;go_roundw;(case rel=>exact⟨q+1,CL,CL,CY,by first|rfl|trivial⟩);case measure=>simp[intOf]<;>omega
   exact BU
  exact BU
theorem fewNeed_any(n:Nd){N:Nat->Prop}{cs:List Value}{w:World}(hx:cI N w n cs):
  Calls Tryz.prog 29 #[.agg cs.toArray] w fun e w'=>SayB True e/\Below w.heap.size w w':=by
 obtain⟨vr,vf,rfl,-,-,hr,hf⟩:=hx;have HS0:=zh (fun W(hb:Below w.heap.size w W)=>short_any n.feats (hf.moves aT (aM.later hb) CQ));obtain⟨ra,rc,rfl,-⟩:=id hr;obtain⟨fa,fc,rfl,-⟩:=id hf;have jC:=zh (aB w (.cells #[.string n.name,.slice ra n.ranges.length rc,.int .i64 n.kind,.string n.whn,.slice fa n.feats.length fc] 71));have HX:=zh (bY w (.cells #[.string n.name,.slice ra n.ranges.length rc,.int .i64 n.kind,.string n.whn,.slice fa n.feats.length fc] 71));have HS:=zh (HS0.out _ jC.out);clear hr hf HS0;go_enter Tryz.func29,Tryz.ntmps29
 go_upto_region 1 with(fail)
 generalize w.alloc (.cells #[.string n.name,.slice ra n.ranges.length rc,.int .i64 n.kind,.string n.whn,.slice fa n.feats.length fc] 71)=W0 at *;obtain⟨x0,x1,x2,x3,x4⟩:=cf5 HX.out;by_cases h1:(n.name.size:Int)<=40
 ·by_cases h2:(n.ranges.length:Int)<=8
  ·by_cases h3:(n.whn.size:Int)<=40
   ·go_wp2_with fail;go_at_call 30;refine HS.out.mono ?_;rintro e w1 ⟨⟨b,rfl,-⟩,hb⟩;have jK:=zh (aA jC.out hb);clear x0 x1 x2 x3 x4 hb;go_wp2_with fail;go_ret;exact⟨⟨_,rfl,fun _=>trivial⟩,jK.out⟩
   exact B1
  exact B1
 exact B1
theorem few24_any(f:Fc){N:Nat->Prop}{p:FcP}(w:World)(h:FcV N w f p):
  Calls Tryz.prog 8 #[.agg (fcC f p).toArray] w fun e w'=>SayB (f.rel.feats.length<=14) e/\Below w.heap.size w w':=by
 obtain⟨vn,vf,vp,vr,op,n,s,m,vs,va,vk⟩:=p;have qI:aK 5 cI N w vn f.rel.needs:=h.rel.needs;have qH:aK 2 dN N w vf f.rel.feats:=h.rel.feats;have yX:aK 1 cH N w vp f.rel.plats:=h.rel.plats;have hq4:aK 6 aZ N w vr f.adv.ranges:=h.adv.ranges;have vL:aK 1 cQ N w vk f.keys:=h.keys;have xK:wX N w f.adv.cond [.int .i64 op,.int .i64 n,.string s,.string m,vs,va]:=h.adv.cond;obtain⟨da,dc,rfl,-,-,xC⟩:=qI.at;obtain⟨fa,fc,rfl,-,-,HF0⟩:=qH.at;have rE:=zh (fun W(hb:Below w.heap.size w W)=>short_any f.rel.plats (yX.moves aT (aM.later hb) CQ));have HEx:=zh (fun W(hb:Below w.heap.size w W)=>fewX_any f.adv.cond (gV _ _ _ _ _ _ (aM.later hb) xK));obtain⟨pa,pc,rfl,-⟩:=id yX;obtain⟨ga,gc,rfl,-⟩:=id hq4;obtain⟨ka,kc,rfl,-⟩:=id vL;obtain⟨zo,zn,zs,zm,ha,hn,hc,ia,in_,ic,ez⟩:=bI xK;cases ez;have HD:=zh xC;have HF:=zh HF0;clear xC HF0 qI qH yX hq4 vL xK h;have AG:=zh (fun(x:Nd)cs W(hb:Below w.heap.size w W)(he:cI N w x cs)=>fewNeed_any x (fC _ _ _ _ _ _ (aM.later hb) he));have HSh:=zh (fun(l:List bA)v W(hb:Below w.heap.size w W)(he:aK 1 cH N w v l)=>short_any l (he.moves aT (aM.later hb) CQ));obtain⟨A,HA⟩:∃c:Array Value,Hid (c=(fcC f ⟨.slice da f.rel.needs.length dc,.slice fa f.rel.feats.length fc,.slice pa f.rel.plats.length pc,.slice ga f.adv.ranges.length gc,op,n,s,m,.slice ha hn hc,.slice ia in_ ic,.slice ka f.keys.length kc⟩).toArray):=⟨_,zh rfl⟩;rw[<-HA.out];have pN:Hid (A[1]? =some (.string f.name)):=zh CP;have pV:Hid (A[24]? =some (.slice ka f.keys.length kc)):=zh CP;have AE:Hid (A[5]? =some (.string f.rel.name)):=zh CP;have lN:Hid (A[6]? =some (.int .i64 f.rel.ver.a)):=zh CP;have lF:Hid (A[7]? =some (.int .i64 f.rel.ver.b)):=zh CP;have kZ:Hid (A[8]? =some (.int .i64 f.rel.ver.c)):=zh CP;have nG:Hid (A[9]? =some (.string f.rel.source)):=zh CP;have HQ10:Hid (A[10]? =some (.slice da f.rel.needs.length dc)):=zh CP;have HQ11:Hid (A[11]? =some (.slice fa f.rel.feats.length fc)):=zh CP;have HQ12:Hid (A[12]? =some (.slice pa f.rel.plats.length pc)):=zh CP;have wY:Hid (A[13]? =some (.string f.rel.lic)):=zh CP;have wW:Hid (A[14]? =some (.int .i64 f.adv.id)):=zh CP;have uU:Hid (A[15]? =some (.string f.adv.name)):=zh CP;have HQ16:Hid (A[16]? =some (.slice ga f.adv.ranges.length gc)):=zh CP;have HQ17:Hid (A[17]? =some (.string f.adv.fn)):=zh CP;have HQ18:Hid (A[18]? =some (.int .i64 op)):=zh CP;have HQ19:Hid (A[19]? =some (.int .i64 n)):=zh CP;have HQ20:Hid (A[20]? =some (.string s)):=zh CP;have HQ21:Hid (A[21]? =some (.string m)):=zh CP;have HQ22:Hid (A[22]? =some (.slice ha hn hc)):=zh CP;have HQ23:Hid (A[23]? =some (.slice ia in_ ic)):=zh CP;have HX:=zh (bY w (.cells A 37));have jC:=zh (aB w (.cells A 37));have Hz0:Hid ((w.alloc (.cells A 37)).heap.size=w.heap.size+1):=zh CU;skip;go_enter Tryz.func8,Tryz.ntmps8
 go_upto_region 1 with(fail)
 generalize w.alloc (.cells A 37)=W0 at *;have x5:=cfA HX.out AE.out;have x6:=cfA HX.out lN.out;have x7:=cfA HX.out lF.out;have x8:=cfA HX.out kZ.out;have x9:=cfA HX.out nG.out;have x10:=cfA HX.out HQ10.out;have x11:=cfA HX.out HQ11.out;have x12:=cfA HX.out HQ12.out;have x13:=cfA HX.out wY.out;have Hb1:=zh (bY W0 (.cells #[.string ⟨#[]⟩,.int .i64 0,.int .i64 0,.int .i64 0,.string ⟨#[]⟩,.slice none 0 0,.slice none 0 0,.slice none 0 0,.string ⟨#[]⟩] 28));have jK:=zh (aA jC.out (aB W0 (.cells #[.string f.rel.name,.int .i64 f.rel.ver.a,.int .i64 f.rel.ver.b,.int .i64 f.rel.ver.c,.string f.rel.source,.slice da f.rel.needs.length dc,.slice fa f.rel.feats.length fc,.slice pa f.rel.plats.length pc,.string f.rel.lic] 28)));have iM:=zh (aC (aB W0 (.cells #[.string f.rel.name,.int .i64 f.rel.ver.a,.int .i64 f.rel.ver.b,.int .i64 f.rel.ver.c,.string f.rel.source,.slice da f.rel.needs.length dc,.slice fa f.rel.feats.length fc,.slice pa f.rel.plats.length pc,.string f.rel.lic] 28)) HX.out);have HR:=zh (bY W0 (.cells #[.string f.rel.name,.int .i64 f.rel.ver.a,.int .i64 f.rel.ver.b,.int .i64 f.rel.ver.c,.string f.rel.source,.slice da f.rel.needs.length dc,.slice fa f.rel.feats.length fc,.slice pa f.rel.plats.length pc,.string f.rel.lic] 28))
 go_upto_region 2 with(fail)
 clear x5 x6 x7 x8 x9 x10 x11 x12 x13;clear Hb1;generalize W0.alloc (.cells #[.string f.rel.name,.int .i64 f.rel.ver.a,.int .i64 f.rel.ver.b,.int .i64 f.rel.ver.c,.string f.rel.source,.slice da f.rel.needs.length dc,.slice fa f.rel.feats.length fc,.slice pa f.rel.plats.length pc,.string f.rel.lic] 28)=W1 at *;obtain⟨rb,hrb⟩:∃n,n=W0.heap.size:=⟨_,rfl⟩;rw[<-hrb] at HR ⊢;clear hrb HX jC;go_wp2_with fail;go_loopw [4] (fun iv wr=>∃q:Nat,q<=f.rel.needs.length/\q<=6/\iv=.int .i64 (q:Int)/\Hid (Below W1.heap.size W1 wr)) (fun iv _=>f.rel.needs.length-(intOf iv).toNat)
 case atStart=>exact⟨0,Nat.zero_le _,CL,rfl,zh (Below.refl _ _)⟩
 case round=>
  obtain⟨q,hq,xK,rfl,HW⟩:=hrel;rename World=>wr
  obtain⟨y0,y1,y2,y3,y4,y5,y6,y7,y8⟩:=cf9 (aC HW.out HR.out);by_cases hgo:q<f.rel.needs.length/\(q:Int)<6
  ·obtain⟨jL,h6⟩:=hgo;obtain⟨x,hx,-⟩:=getElem?_of_lt jL;have tM:(0:Int)<=(q:Int)/\(q:Int)<(f.rel.needs.length:Int):=CL;have pK:=zh (aA jK.out HW.out);obtain⟨b1,o1,rfl,-,zU,oM,-,mX⟩:=HD.out q x hx;have pO:=zh (AG.out x zU wr pK.out oM);obtain⟨vr,vf,rfl,-,-,rR,hf1⟩:=id oM;obtain⟨ra,rc,rfl,-⟩:=id rR;obtain⟨jU,jT,rfl,-⟩:=id hf1;have p1:=aD pK.out (mX 1 _ rfl);have p2:=aD pK.out (mX 2 _ rfl);have p3:=aD pK.out (mX 3 _ rfl);have p4:=aD pK.out (mX 4 _ rfl);have p0:wr.cell? ⟨b1,o1+q*5,none⟩=_:=aD pK.out (mX 0 _ rfl);clear mX hx oM rR hf1;go_wp2_with fail;go_at_call 29;refine pO.out.mono ?_;rintro e w3 ⟨⟨bb,rfl,-⟩,kW⟩;have kG:=zh (aA HW.out kW);clear kW pO p0 p1 p2 p3 p4 y0 y1 y2 y3 y4 y5 y6 y7 y8
   cases bb with
   |false=>
    go_wp2_with fail;go_ret;exact⟨⟨_,rfl,fun h9=>by cases h9⟩,aA jK.out kG.out⟩
   |true=>
    go_wp2_with fail;go_roundw;(case rel=>exact⟨q+1,CL,CL,CY,kG⟩);case measure=>simp[intOf]<;>omega
  rcases(show ¬q<f.rel.needs.length\/(q<f.rel.needs.length/\¬(q:Int)<6) by omega) with nA|⟨jL,nA⟩
  all_goals
   go_wp2_with fail;have jE:=zh (aA jK.out HW.out);have oI:=zh (aC HW.out HR.out);have jH:=zh (aC HW.out iM.out);clear y0 y1 y2 y3 y4 y5 y6 y7 y8 nA;skip;(go_loopw [5] (fun iv wv=>∃q2:Nat,q2<=f.rel.feats.length/\q2<=15/\iv=.int .i64 (q2:Int)/\Hid (Below wr.heap.size wr wv)) (fun iv _=>f.rel.feats.length-(intOf iv).toNat));case atStart=>exact⟨0,Nat.zero_le _,CL,rfl,zh (Below.refl _ _)⟩
   case round=>
    obtain⟨q2,qH,hq15,rfl,HV⟩:=hrel;(rename World=>wv);obtain⟨y0,y1,y2,y3,y4,y5,y6,y7,y8⟩:=cf9 (aC HV.out oI.out);by_cases hgo2:q2<f.rel.feats.length/\(q2:Int)<15
    ·obtain⟨sA,h15⟩:=hgo2;obtain⟨x,hx,-⟩:=getElem?_of_lt sA;have tM:(0:Int)<=(q2:Int)/\(q2:Int)<(f.rel.feats.length:Int):=CL;have pK:=zh (aA jE.out HV.out);obtain⟨b1,o1,rfl,-,zU,oM,-,mX⟩:=HF.out q2 x hx;obtain⟨vi,rfl,-,hi1⟩:=id oM;have qJ:=zh (HSh.out x.implies vi wv pK.out hi1);obtain⟨kB,kA,rfl,-⟩:=id hi1;have p1:=aD pK.out (mX 1 _ rfl);have p0:wv.cell? ⟨b1,o1+q2*2,none⟩=_:=aD pK.out (mX 0 _ rfl);clear mX hx oM hi1;by_cases hz:(40:Int)<(x.name.size:Int)
     ·go_wp2_with fail;go_ret;exact⟨⟨_,rfl,fun h9=>by cases h9⟩,pK.out⟩
     go_wp2_with fail;go_at_call 30;refine qJ.out.mono ?_;rintro e w3 ⟨⟨bb,rfl,-⟩,kW⟩;have kG:=zh (aA HV.out kW);clear kW qJ p0 p1 y0 y1 y2 y3 y4 y5 y6 y7 y8
     cases bb with
     |false=>
      go_wp2_with fail;go_ret;exact⟨⟨_,rfl,fun h9=>by cases h9⟩,aA jE.out kG.out⟩
     |true=>
      go_wp2_with fail;go_roundw;(case rel=>exact⟨q2+1,CL,CL,CY,kG⟩);case measure=>simp[intOf]<;>omega
    rcases(show ¬q2<f.rel.feats.length\/(q2<f.rel.feats.length/\¬(q2:Int)<15) by omega) with nA|⟨sA,nA⟩
    all_goals
     have oY:=zh (aA jE.out HV.out);have sG:=zh (aC HV.out jH.out);have sJ:=zh (aC HV.out oI.out);have z1:=cfA sG.out pN.out;have z24:=cfA sG.out pV.out;have z14:=cfA sG.out wW.out;have z15:=cfA sG.out uU.out;have z16:=cfA sG.out HQ16.out;have z17:=cfA sG.out HQ17.out;have z18:=cfA sG.out HQ18.out;have z19:=cfA sG.out HQ19.out;have z20:=cfA sG.out HQ20.out;have z21:=cfA sG.out HQ21.out;have z22:=cfA sG.out HQ22.out;have z23:=cfA sG.out HQ23.out;have AM:=zh (bY wv (.cells #[.int .i64 f.adv.id,.string f.adv.name,.slice ga f.adv.ranges.length gc,.string f.adv.fn,.int .i64 op,.int .i64 n,.string s,.string m,.slice ha hn hc,.slice ia in_ ic] 34));have oD:=zh (aA oY.out (aB wv (.cells #[.int .i64 f.adv.id,.string f.adv.name,.slice ga f.adv.ranges.length gc,.string f.adv.fn,.int .i64 op,.int .i64 n,.string s,.string m,.slice ha hn hc,.slice ia in_ ic] 34)));have tC:=zh (aC (aB wv (.cells #[.int .i64 f.adv.id,.string f.adv.name,.slice ga f.adv.ranges.length gc,.string f.adv.fn,.int .i64 op,.int .i64 n,.string s,.string m,.slice ha hn hc,.slice ia in_ ic] 34)) sG.out);have sV:=zh (aC (aB wv (.cells #[.int .i64 f.adv.id,.string f.adv.name,.slice ga f.adv.ranges.length gc,.string f.adv.fn,.int .i64 op,.int .i64 n,.string s,.string m,.slice ha hn hc,.slice ia in_ ic] 34)) sJ.out)
     go_upto_region 13 with(fail)
     generalize wv.alloc (.cells #[.int .i64 f.adv.id,.string f.adv.name,.slice ga f.adv.ranges.length gc,.string f.adv.fn,.int .i64 op,.int .i64 n,.string s,.string m,.slice ha hn hc,.slice ia in_ ic] 34)=w5 at *;obtain⟨ab,hab⟩:∃n,n=wv.heap.size:=⟨_,rfl⟩;rw[<-hab] at AM ⊢;clear hab y0 y1 y2 y3 y4 y5 y6 y7 y8 z1 z24 z14 z15 z16 z17 z18 z19 z20 z21 z22 z23;obtain⟨a0,a1,a2,a3,a4,a5,a6,a7,a8,a9⟩:=cf10 AM.out;have z1:=cfA tC.out pN.out;have z24:=cfA tC.out pV.out;obtain⟨y0,y1,y2,y3,y4,y5,y6,y7,y8⟩:=cf9 sV.out;by_cases k1:(40:Int)<(f.adv.name.size:Int)
     ·exact BX
     by_cases k2:(8:Int)<(f.adv.ranges.length:Int)
     ·exact BX
     by_cases k3:(40:Int)<(f.adv.fn.size:Int)
     ·exact BX
     go_wp2_with fail;clear a0 a1 a2 a3 a4 a5 a6 a7 a8 a9 z1 z24 y0 y1 y2 y3 y4 y5 y6 y7 y8;go_at_call 31;refine(HEx.out _ oD.out).mono ?_;rintro e w6 ⟨⟨b6,rfl,-⟩,hb⟩;have rB:=zh (aA oD.out hb);have HD6:=zh hb;obtain⟨a0,a1,a2,a3,a4,a5,a6,a7,a8,a9⟩:=cf10 (aC HD6.out AM.out);have z1:=cfA (aC HD6.out tC.out) pN.out;have z24:=cfA (aC HD6.out tC.out) pV.out;obtain⟨y0,y1,y2,y3,y4,y5,y6,y7,y8⟩:=cf9 (aC HD6.out sV.out);clear hb
     cases b6 with
     |false=>
      exact BB
     |true=>
      by_cases k5:(40:Int)<(f.name.size:Int)
      ·exact BB
      by_cases k6:(20:Int)<(f.keys.length:Int)
      ·exact BB
      by_cases m1:(f.rel.name.size:Int)<=40
      ·by_cases m2:(f.rel.source.size:Int)<=600
       ·by_cases m3:(f.rel.needs.length:Int)<=5
        ·try(exfalso;omega)
         all_goals
          by_cases m4:(f.rel.feats.length:Int)<=14
          ·try(exfalso;omega)
           all_goals
            go_wp2_with fail;clear a0 a1 a2 a3 a4 a5 a6 a7 a8 a9 z1 z24 y0 y1 y2 y3 y4 y5 y6 y7 y8;go_at_call 30;refine(rE.out _ rB.out).mono ?_;rintro e w7 ⟨⟨b7,rfl,-⟩,hb⟩;have qQ:=zh (aA rB.out hb);have HD7:=zh (aA HD6.out hb);obtain⟨a0,a1,a2,a3,a4,a5,a6,a7,a8,a9⟩:=cf10 (aC HD7.out AM.out);have z1:=cfA (aC HD7.out tC.out) pN.out;have z24:=cfA (aC HD7.out tC.out) pV.out;obtain⟨y0,y1,y2,y3,y4,y5,y6,y7,y8⟩:=cf9 (aC HD7.out sV.out);clear hb
            cases b7 with
            |false=>
             go_wp2_with fail;go_ret;exact⟨⟨_,rfl,fun h9=>by cases h9⟩,qQ.out⟩
            |true=>
             go_wp2_with fail;go_ret;exact⟨⟨_,rfl,fun h9=>CL⟩,qQ.out⟩
          exact BB
        exact BB
       exact BB
      exact BB
end Go.Proofs.YtmpopphjaggeoaaGreatDoor
