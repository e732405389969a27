/- Texts of this seat, joined. -/
import Derived.Test.YtacgopankhpnbaaGreatDoorLpAxPuSe
import Derived.Test.YtacgopankhpnbaaGreatDoorLpLawBxSe
import Derived.Test.YtacgopankhpnbaaGreatDoorKAO
set_option linter.unusedVariables false
set_option linter.unusedSimpArgs false
namespace Go.Proofs.YtacgopankhpnbaaGreatDoor
set_option maxHeartbeats 16000000
set_option maxRecDepth 100000
open Go.RowKit
theorem sB{p:Prop}(h:p:=by
 go_wp2_with fail;go_ret
 exact⟨rfl,HB.out.below⟩):p:=h
theorem tA{p:Prop}(h:p:=by
 obtain⟨u0,u1⟩:=(bx2 (aD HBz.out HUr.out)).1;obtain⟨v0,v1⟩:=(bx2 (aD HBz.out HUs.out)).1;go_wp2_with fail;refine(HNm.out _ HBz.out).mono ?_;rintro e wn ⟨rfl,hbn⟩;have HBn:=zh (aB HBz.out hbn);clear x0 x1 x2 x3 u0 u1 v0 v1;go_wp2_with fail;refine(HLa.out _ HBn.out).mono ?_;rintro e wl ⟨rfl,rfl⟩;go_wp2_with fail;refine(HLb.out _ HBn.out).mono ?_;rintro e wl ⟨rfl,rfl⟩;go_wp2_with fail;go_ret
 exact⟨rfl,aB HB.out.below HBn.out⟩):p:=h
structure LsW (w:World) (a b:Obj) (wr:World):Prop where
 r0:wr.heap[w.heap.size]? =some a
 r1:wr.heap[w.heap.size+1]? =some b
 below:Below w.heap.size w wr
theorem LsW.later{w:World}{a b:Obj}{wr w':World}(h:LsW w a b wr)(hb:Below wr.heap.size wr w'):LsW w a b w':=
 ⟨aD hb h.r0,aD hb h.r1,aB h.below hb⟩
theorem LsW.grown{w:World}{a b:Obj}{wr w':World}{q:Option Nat}(h:LsW w a b wr)(hg:wr.grownBy w' q)(hq:∀g,q=some g->w.heap.size+1<g):LsW w a b w':=by
 have hs:=h.below.size;have l0:=(Array.getElem?_eq_some_iff.1 h.r0).1;have l1:=(Array.getElem?_eq_some_iff.1 h.r1).1;refine⟨?_,?_,⟨hg.os.trans h.below.os,hg.tape.trans h.below.tape,hg.output.trans h.below.output,by have:=hg.size;omega,fun j hj=>?_⟩⟩
 ·rw[hg.block _ l0 (fun e=>by have:=hq _ e.symm;omega)];exact h.r0
 ·rw[hg.block _ l1 (fun e=>by have:=hq _ e.symm;omega)];exact h.r1
 ·rw[hg.block j vT (fun e=>by have:=hq _ e.symm;omega)];exact h.below.block j hj
theorem LsW.first(w:World)(a b:Obj):LsW w a b ((w.alloc a).alloc b):=by
 have e1:=aN (w.alloc a) b;simp only[World.size_alloc] at e1;exact⟨aD (aA _ _) (aN w a),e1,aB (aA _ _) (aA _ _)⟩
theorem sameFiles_quiet(l:List Fil)(va vb:Value)(w:World)(ha:eP w va l)(hb:eP w vb l):
  Calls Tryz.prog 19 #[va,vb] w fun e w'=>e=.returned (.bool true)/\∃n,w'=w.drewN n:=by
 obtain⟨a1,c1,rfl,hl,h1⟩:=jA ha;obtain⟨a2,c2,rfl,-,h2⟩:=jA hb;have H1:=zh h1;have H2:=zh h2;clear ha hb h1 h2;go_enter Tryz.func19,Tryz.ntmps19;go_wp2_with fail;go_loopw [5] (fun iv wr=>∃q:Nat,q<=l.length/\iv=.int .i64 (q:Int)/\Hid (∃n,wr=w.drewN n)) (fun iv _=>l.length-(intOf iv).toNat)
 case atStart=>exact⟨0,Nat.zero_le _,rfl,zh ⟨0,rfl⟩⟩
 case round=>
  obtain⟨q,hq,rfl,HB⟩:=hrel;rename World=>wr
  by_cases hlt:q<l.length
  ·obtain⟨f,hx,-⟩:=getElem?_of_lt hlt;obtain⟨b,o,rfl,p0,p1,hz⟩:=H1.out q f hx;obtain⟨b2,o2,rfl,p2,p3,-⟩:=H2.out q f hx;(have hdr:Below w.heap.size w wr:=by obtain⟨n,hn⟩:=HB.out;rw[hn];exact aJ (Below.refl _ _) n);have p0:=aC hdr p0;have p1:=aC hdr p1;have p2:=aC hdr p2;have p3:=aC hdr p3;have hne:=neq_file f.name f.text;clear hx hdr;go_wp2_with fail;(go_quiet(fail));go_wp2_with fail;go_roundw;(case rel=>exact⟨q+1,vT,wH,zh (by obtain⟨n,hn⟩:=HB.out;exact⟨_,by rw[hn,World.drewN_drewN]⟩)⟩);case measure=>simp[intOf];omega
  ·go_wp2_with fail;go_ret;exact⟨rfl,HB.out⟩
def DoIs(res:DoRes)(s:Stp)(files:List Fil)(u0 u1:Int)(va vs:Value)(p q ec:Int)(w:World):Prop:=
 (∃c,res=.error c/\ec=c/\va=.slice none 0 0/\vs=.slice none 0 0/\p=u0/\q=u1)\/(∃text saw,res=.ok (text,saw,p,q)/\ec=0/\eP w va (cG s files text)/\Strs w vs saw)
theorem DoIs.later{res:DoRes}{s:Stp}{files:List Fil}{u0 u1:Int}{va vs:Value}{p q ec:Int}{w w':World}(h:DoIs res s files u0 u1 va vs p q ec w)(hb:Below w.heap.size w w'):DoIs res s files u0 u1 va vs p q ec w':=by
 rcases h with h|⟨t,saw,h1,h2,h3,h4⟩
 ·exact .inl h
 ·exact .inr ⟨t,saw,h1,h2,h3.later hb,h4.later hb⟩
theorem DoIs.bad{c:Int}{res:DoRes}{s:Stp}{files:List Fil}{u0 u1:Int}{va vs:Value}{p q ec:Int}{w:World}(h:DoIs res s files u0 u1 va vs p q ec w)(hr:res=.error c):ec=c/\p=u0/\q=u1:=by
 rcases h with⟨c',h1,h2,h3,h4,h5,h6⟩|⟨t,saw,h1,h2,h3,h4⟩
 ·rw[hr] at h1;cases h1;exact⟨h2,h5,h6⟩
 ·rw[hr] at h1;cases h1
theorem DoIs.good{t:ByteArray}{saw:List ByteArray}{a b:Int}{res:DoRes}{s:Stp}{files:List Fil}{u0 u1:Int}{va vs:Value}{p q ec:Int}{w:World}(h:DoIs res s files u0 u1 va vs p q ec w)(hr:res=.ok (t,saw,a,b)):ec=0/\p=a/\q=b/\eP w va (cG s files t)/\Strs w vs saw:=by
 rcases h with⟨c',h1,-⟩|⟨t',saw',h1,h2,h3,h4⟩
 ·rw[hr] at h1;cases h1
 ·rw[hr] at h1;cases h1;exact⟨h2,rfl,rfl,h3,h4⟩
def DoSays(w:World)(s:Stp)(files:List Fil)(u0 u1:Int)(res:DoRes)(e:Ending)(w':World):Prop:=
 ∃xa xn xc ya yn yc p q ec,e=.returned (.tuple #[.slice xa xn xc,.slice ya yn yc,.agg #[.int .i64 p,.int .i64 q],.int .i64 ec])/\Hid (DoIs res s files u0 u1 (.slice xa xn xc) (.slice ya yn yc) p q ec w')/\Below w.heap.size w w'
theorem do_says(s:Stp)(files:List Fil)(ck od:List Int)(vf vl vc vo vn:Value)(u0 u1:Int)(w:World)(h:DoIn s files ck od vf vl vc vo vn u0 u1 w):
  Calls Tryz.prog 17 (kK s vf vl vc vo vn u0 u1) w (DoSays w s files u0 u1 (aX bJ s files ck od u0 u1)):=by
 refine(qO s files ck od vf vl vc vo vn u0 u1 w h).mono ?_;rintro e w' ⟨hb,hm⟩
 cases hr:aX bJ s files ck od u0 u1 with
 |error c=>
  rw[hr] at hm;exact⟨_,_,_,_,_,_,_,_,_,hm,zh (.inl ⟨c,rfl,rfl,rfl,rfl,rfl,rfl⟩),hb⟩
 |ok x=>
  obtain⟨t,saw,a,b⟩:=x;rw[hr] at hm;obtain⟨vfl,vsaw,he,h1,h2,-⟩:=hm;obtain⟨xa,xc,rfl⟩:=nY h1;obtain⟨ya,yc,rfl⟩:=cB h2;exact⟨_,_,_,_,_,_,_,_,_,he,zh (.inr ⟨t,saw,rfl,rfl,h1,h2⟩),hb⟩
theorem eP.front{w:World}{a:Option Addr}{n c:Nat}{l m:List Fil}(h:eP w (.slice a n c) (l++m)):eP w (.slice a l.length c) l:=by
 obtain⟨a',c',hv,h1,h2,h3⟩:=h;cases hv;rw[List.length_append] at h1;refine⟨_,_,rfl,vT,h2,fun hne=>?_⟩;obtain⟨b,o,ha,hc⟩:=h3 (by simp[hne]);exact⟨b,o,ha,fun i f hf=>hc i f (by rw[List.getElem?_append_left (List.getElem?_eq_some_iff.1 hf).1];exact hf)⟩
structure GrF (B:Nat) (l:List Fil) (v:Value) (wr:World):Prop where
 own:wr.ownsRow B 40 2 v l.length (cU l)
 big:B<=wr.heap.size
theorem GrF.later{B:Nat}{l:List Fil}{v:Value}{wr w':World}(h:GrF B l v wr)(hb:Below wr.heap.size wr w'):GrF B l v w':=
 ⟨h.own.kept (row:=none) ⟨hb.os,hb.tape,hb.output,hb.size,fun k hk _=>hb.block k hk⟩ (Classical.em _),Nat.le_trans h.big hb.size⟩
def mA(src:List ByteArray)(files:List Fil)(q:Nat):List Fil:=(files.reverse.take q).filter (fun f=>src.any (fun x=>decide (x=f.name)))
theorem lessTo_all(src:List ByteArray)(files:List Fil):mA src files files.length=iO src files:=by
 unfold mA iO;rw[List.take_of_length_le vZ]
theorem lessTo_succ{src:List ByteArray}{files:List Fil}{q:Nat}{f:Fil}(hq:q<files.length)(hf:files[files.length-1-q]? =some f):
  mA src files (q+1)=mA src files q++(if src.any (fun x=>decide (x=f.name)) then[f] else[]):=by
 unfold mA;have hr:files.reverse[q]? =some f:=by rw[List.getElem?_reverse hq];exact hf
 rw[List.take_add_one,hr,List.filter_append];congr 1;simp only[Option.toList,List.filter_cons,List.filter_nil]
theorem lessTo_len(src:List ByteArray)(files:List Fil)(q:Nat):(mA src files q).length<=files.length:=by
 unfold mA;have h1:=List.length_filter_le (fun f:Fil=>src.any (fun x=>decide (x=f.name))) (files.reverse.take q);have h2:=List.length_take_le q files.reverse;simp only[List.length_take,List.length_reverse] at h1 h2;omega
theorem any_none{src:List ByteArray}{x:ByteArray}(h:∀(k:Nat)(y:ByteArray),k<src.length->src[k]? =some y->y≠x):src.any (fun y=>decide (y=x))=false:=by
 rw[List.any_eq_false];intro y hy;obtain⟨k,hk⟩:=List.getElem?_of_mem hy;simpa using h k y (List.getElem?_eq_some_iff.1 hk).1 hk
theorem any_some{src:List ByteArray}{x:ByteArray}{k:Nat}(h:src[k]? =some x):src.any (fun y=>decide (y=x))=true:=
 List.any_eq_true.2 ⟨x,List.mem_of_getElem? h,vZ⟩
theorem lastText_do(s:Stp)(files:List Fil)(t:ByteArray):oP (cG s files t)=t:=by simp[oP,cG]
theorem stepSeesLaw_any(s:Stp)(files:List Fil)(ck od:List Int)(vf vl vc vo vn:Value)(w:World)(h1:DoIn s files ck od vf vl vc vo vn 0 0 w):
  Calls Tryz.prog 4 #[.agg #[.int .i64 s.kind,vf,.string s.out,.bool s.sorted],vl,.agg #[vc,vo,vn]] w fun e w'=>e=.returned (.bool true)/\Below w.heap.size w w':=by
 have HD1:=zh (fun W(hb:Below w.heap.size w W)=>do_says s files ck od vf vl vc vo vn 0 0 W (h1.later hb));have HD2:=zh (fun v W(hb:Below w.heap.size w W)(hv:eP W v (iO s.src files))=>do_says s (iO s.src files) ck od vf v vc vo vn 0 0 W ⟨h1.hglob.later hb,h1.hsrc.later hb,h1.hout,hv,h1.hclk.later hb,h1.hord.later hb,h1.hnxt,h1.hu0,h1.hu1,h1.hcwf,h1.howf⟩);have HSm:=zh (fun W(hb:Below w.heap.size w W)=>small_any W (h1.hglob.later hb));have HFw:=zh (fun W(hb:Below w.heap.size w W)=>few32_any s files vf vl W (h1.hsrc.later hb) (h1.hfil.later hb) h1.hout);have HFi:=zh (fun x W(hb:Below w.heap.size w W)=>mD files vl x W (h1.hfil.later hb));have HLaw:=zh (sees_law bJ s files ck od);have HFS:=zh h1.hfil;obtain⟨a1,c1,rfl,hl1,hsat⟩:=iV h1.hsrc;obtain⟨a2,c2,rfl,hl2,hfat⟩:=jA h1.hfil;obtain⟨ac1,cc1,rfl,-⟩:=h1.hclk;obtain⟨ao1,co1,rfl,-⟩:=h1.hord;obtain⟨an1,nn1,cn1,rfl⟩:=h1.hnxt;have HSat:=zh hsat;have HFat:=zh hfat;obtain⟨i0,hi,hz0,hz1,hz2⟩:=info_parts filInfo;clear h1 hsat hfat;obtain⟨kind,src,out,sorted⟩:=s;dsimp only[kK] at HD1 HD2 HFw HLaw HSat hl1 ⊢;have HB:=zh (LsW.first w (.cells #[.int .i64 kind,.slice a1 src.length c1,.string out,.bool sorted] 24) (.cells #[.slice ac1 ck.length cc1,.slice ao1 od.length co1,.slice an1 nn1 cn1] 28));have harr:=arr_eq;go_enter Tryz.func4,Tryz.ntmps4;go_wp2_with fail;refine(HSm.out _ HB.out.below).mono ?_;rintro e w1 ⟨rfl,hb⟩
 replace HB:=zh (HB.out.later hb)
 clear hb;obtain⟨x0,x1,x2,x3⟩:=bx4 HB.out.r0;obtain⟨⟨y0,y1,y2⟩,-⟩:=bx3 HB.out.r1;go_wp2_with fail;refine(HFw.out _ HB.out.below).mono ?_;rintro e w2 ⟨r,rfl,hr70,hb⟩
 replace HB:=zh (HB.out.later hb)
 clear hb;clear x0 x1 x2 x3 y0 y1 y2;obtain⟨x0,x1,x2,x3⟩:=bx4 HB.out.r0;obtain⟨⟨y0,y1,y2⟩,-⟩:=bx3 HB.out.r1
 cases r with
 |false=>
  exact sB
 |true=>
  have h70:=hr70 rfl;clear hr70;by_cases l1:70<ck.length
  ·have g1:(70:Int)<(ck.length:Int):=vT;exact sB
  have g1:¬(70:Int)<(ck.length:Int):=vT;by_cases l2:70<od.length
  ·have g2:(70:Int)<(od.length:Int):=vT;exact sB
  have g2:¬(70:Int)<(od.length:Int):=vT;clear l1 l2;go_wp2_with fail;refine(HD1.out _ HB.out.below).mono ?_;rintro e w3 ⟨xa,xn,xc,ya,yn,yc,p,q,ec,rfl,HDa,hb⟩
  replace HB:=zh (HB.out.later (aB hb (aA w3 (.cells #[.int .i64 p,.int .i64 q] 31))))
  have HU:=zh (heap_alloc_new w3 (.cells #[.int .i64 p,.int .i64 q] 31))
  replace HDa:=zh (HDa.out.later (aA w3 (.cells #[.int .i64 p,.int .i64 q] 31)))
  have hw3:=HB.out.below.size;have hw3b:w.heap.size+1<w3.heap.size+1:=by have:=(Array.getElem?_eq_some_iff.1 HB.out.r1).1;simpa using this
  clear hb g1 g2;clear x0 x1 x2 x3 y0 y1 y2;obtain⟨wu,hwu⟩:∃W,W=w3.alloc (.cells #[.int .i64 p,.int .i64 q] 31):=⟨_,rfl⟩;have hsu:wu.heap.size=w3.heap.size+1:=by rw[hwu];simp
  rw[<-hwu] at HB HU HDa hw3;have hw3c:w.heap.size+1<wu.heap.size:=vT;clear hsu hw3b;go_wp2_with fail;rw[<-hwu];clear hwu;go_loopw [12,13] (fun tv iv wr=>∃z:Nat,z<=files.length/\iv=.int .i64 (z:Int)/\Hid (GrF wu.heap.size (mA src files z) tv wr)/\Hid (LsW w (.cells #[.int .i64 kind,.slice a1 src.length c1,.string out,.bool sorted] 24) (.cells #[.slice ac1 ck.length cc1,.slice ao1 od.length co1,.slice an1 nn1 cn1] 28) wr)/\Hid (Below wu.heap.size wu wr)) (fun _ iv _=>files.length-(intOf iv).toNat)
  case atStart=>exact⟨0,Nat.zero_le _,rfl,zh ⟨World.ownsRow_nil _ _ _ _,Nat.le_refl _⟩,HB,zh (Below.refl _ _)⟩
  case round=>
   clear HB;obtain⟨z,hz,rfl,HGr,HB,HBr⟩:=hrel;(rename World=>wr);by_cases hlt:z<files.length
   ·have hj:files.length-1-z<files.length:=vT;obtain⟨f,hf,hfm⟩:=getElem?_of_lt hj;obtain⟨b,o,rfl,p0,p1,hzn,hzt⟩:=HFat.out _ f hf;have HLs:=zh (lessTo_succ (src:=src) hlt hf);have p0:=aC HB.out.below p0;have p1:=aC HB.out.below p1;have hi0:(0:Int)<=(files.length:Int)-1-(z:Int):=vT;have hi1:(files.length:Int)-1-(z:Int)<(files.length:Int):=vT;clear hf;have HBx:=zh (HB.out.later (aA wr (.cells #[.string f.name,.string f.text] 40)));have HGx:=zh (HGr.out.later (aA wr (.cells #[.string f.name,.string f.text] 40)));have HX:=zh (heap_alloc_new wr (.cells #[.string f.name,.string f.text] 40));have HBrx:=zh (aB HBr.out (aA wr (.cells #[.string f.name,.string f.text] 40)));go_wp2_with fail;clear p0 p1 hi0 hi1;generalize hwx:wr.alloc (.cells #[.string f.name,.string f.text] 40)=wx at HBx HGx HX HBrx ⊢;(have hsx:wr.heap.size<wx.heap.size:=by rw[<-hwx];simp);have HSw:=zh (show Below wr.heap.size wr wx by rw[<-hwx];exact aA _ _);clear hwx;(go_loopw [12,15] (fun tv2 kv wy=>∃k:Nat,k<=src.length/\u12=tv2/\kv=.int .i64 (k:Int)/\Hid (Below wx.heap.size wx wy)/\Hid (∀(j:Nat)(y:ByteArray),j<k->src[j]? =some y->y≠f.name)) (fun _ kv _=>src.length-(intOf kv).toNat));case atStart=>exact⟨0,Nat.zero_le _,rfl,rfl,zh (Below.refl _ _),zh (fun j y h=>absurd h (Nat.not_lt_zero _))⟩
    case round=>
     obtain⟨k,hk,rfl,rfl,HBy,HNo⟩:=hrel;(rename World=>wy);have HB2:=zh (HBx.out.later HBy.out);obtain⟨x0,x1,x2,x3⟩:=bx4 HB2.out.r0;obtain⟨u0,u1⟩:=(bx2 (aD HBy.out HX.out)).1;by_cases hlk:k<src.length
     ·obtain⟨x,hx,-⟩:=getElem?_of_lt hlk;obtain⟨b2,o2,rfl,q0,hzx⟩:=HSat.out k x hx;have q0:=aC HB2.out.below q0;have hk0:(0:Int)<=(k:Int):=vT;have hk1:(k:Int)<(src.length:Int):=vT;by_cases he:x=f.name
      ·have HYes:Hid (mA src files (z+1)=mA src files z++[f]):=zh (by rw[HLs.out,if_pos (any_some (he▸hx))]);subst he;have hlen:=lessTo_len src files z;have HBd:=zh (fun n=>aJ (Below.refl wy.heap.size wy) n);clear hx;go_wp2_with fail;(go_quiet(fail));generalize hnq:World.drewN wy _=wq;have HBq:Hid (Below wx.heap.size wx wq):=zh (by rw[<-hnq];exact aJ HBy.out _);clear hnq;have HGq:=zh (HGx.out.later HBq.out);obtain⟨v0,v1⟩:=(bx2 (aD HBq.out HX.out)).1;clear u0 u1 x0 x1 x2 x3 q0;have hgq:=HGq.out.big;go_wp2_with(at_builtin;refine wpList_append_own _ rfl _ _ 25 rfl wu.heap.size 40 i0 (.agg #[.string ByteArray.empty,.string ByteArray.empty]) 2 32 Tryz.underlying25 hi hz0 hz1 hz2 rfl vV _ _ _ rfl (HGq.out.own.alloc _) ⟨wq.heap.size,0,none⟩ 1 1 [.string f.name,.string f.text] rfl rfl (World.news_of_block (cs:=#[.string f.name,.string f.text]) (t:=40) (fr:=(0,0)) (heap_alloc_new wq _)) wN wK vT wQ ?_);intro v' w8 hown hgrow _;have hlo:=(HGq.out.own.alloc (.cells #[.string f.name,.string f.text] 40)).lt;have HB8:=zh (((HBx.out.later HBq.out).later (aA wq (.cells #[.string f.name,.string f.text] 40))).grown hgrow (fun g hg=>by have:=(hlo g hg).1;omega));have hgs:=hgrow.size
       have HG8:Hid (GrF wu.heap.size (mA src files (z+1)) v' w8):=zh (by
        rw[HYes.out]
        exact⟨by rw[<-filCells_snoc,List.length_append,List.length_singleton];exact hown,by simp at hgs;omega⟩)
       have HBe:Hid (Below wu.heap.size wu w8):=zh (by
        have h1:=aB (aB HBrx.out HBq.out) (aA wq (.cells #[.string f.name,.string f.text] 40))
        exact⟨hgrow.os.trans h1.os,hgrow.tape.trans h1.tape,hgrow.output.trans h1.output,A8,fun j hj=>by
         rw[hgrow.block j A8 (fun e=>by have:=(hlo _ e.symm).1;omega)]
         exact h1.block j hj⟩)
       clear hown hgrow hlo hgs;go_wp2_with fail;go_roundw;(case rel=>exact⟨z+1,vT,wH,HG8,HB8,HBe⟩);case measure=>simp[intOf];omega
      ·have he2:(x.toList==f.name.toList)=false:=AY
       have HNn:Hid (∀(j:Nat)(y:ByteArray),j<k+1->src[j]? =some y->y≠f.name):=zh (fun j y hj hy=>by
        rcases Nat.lt_or_ge j k with h|h
        ·exact HNo.out j y h hy
        ·have e:j=k:=vT;subst e
         rw[hx] at hy;cases hy;exact he)
       clear hx he;go_wp2_with fail;(go_quiet(fail));go_wp2_with fail;go_roundw;(case rel=>exact⟨k+1,vT,rfl,wH,zh (aJ HBy.out _),HNn⟩);case measure=>simp[intOf];omega
     ·have HNone:Hid (mA src files (z+1)=mA src files z):=zh (by rw[HLs.out,any_none (fun j y hj hy=>HNo.out j y vT hy)];simp);have HG8:Hid (GrF wu.heap.size (mA src files (z+1)) u12 wy):=zh (by rw[HNone.out];exact HGx.out.later HBy.out);have hk2:¬(k:Int)<(src.length:Int):=vT;go_wp2_with fail;go_roundw;(case rel=>exact⟨z+1,vT,wH,HG8,HB2,zh (aB HBrx.out HBy.out)⟩);case measure=>simp[intOf];omega
   ·obtain rfl:z=files.length:=vT;rw[lessTo_all] at HGr
    have HFl:=zh (nR HGr.out.own (fun f hf=>by
     have hm:f∈files:=(mem_less.1 hf).1
     exact fils_size HFS.out hm))
    replace HDa:=zh (HDa.out.later HBr.out)
    have HUr:=zh (aD HBr.out HU.out);obtain⟨x0,x1,x2,x3⟩:=bx4 HB.out.r0;obtain⟨⟨y0,y1,y2⟩,-⟩:=bx3 HB.out.r1;go_wp2_with fail;refine(HD2.out _ _ HB.out.below HFl.out).mono ?_;rintro e w5 ⟨xb,xm,xd,yb,ym,yd,p2,q2,fc,rfl,HDb,hb5⟩
    replace HDa:=zh (HDa.out.later (aB hb5 (aA w5 (.cells #[.int .i64 p2,.int .i64 q2] 31))))
    replace HDb:=zh (HDb.out.later (aA w5 (.cells #[.int .i64 p2,.int .i64 q2] 31)))
    replace HB:=zh (HB.out.later (aB hb5 (aA w5 (.cells #[.int .i64 p2,.int .i64 q2] 31))))
    replace HUr:=zh (aD (aB hb5 (aA w5 (.cells #[.int .i64 p2,.int .i64 q2] 31))) HUr.out)
    have HUs:=zh (heap_alloc_new w5 (.cells #[.int .i64 p2,.int .i64 q2] 31));clear hb5 HGr HFl HBr HU;clear x0 x1 x2 x3 y0 y1 y2;obtain⟨x0,x1,x2,x3⟩:=bx4 HB.out.r0;obtain⟨⟨y0,y1,y2⟩,-⟩:=bx3 HB.out.r1;rcases HLaw.out with⟨c,hc,e1,e2⟩|⟨t,saw,a,b,e1,e2,k1,k2,hel⟩
    ·obtain⟨rfl,rfl,rfl⟩:=HDa.out.bad e1;(have n1:(ec != 0)=true:=by rw[bne_iff_ne];exact hc);by_cases hfe:fc=ec
     ·subst hfe;clear hc;exact sB
     ·have hor:ec=1\/ec=5\/ec=6:=e2.resolve_left (fun h=>hfe (HDb.out.bad h).1);(have n2:(fc==ec)=false:=by rw[beq_eq_false_iff_ne];exact hfe);clear hfe hc e1 e2 HDa;rcases hor with rfl|rfl|rfl
      ·exact sB
      ·exact sB
      ·exact sB
    ·obtain⟨rfl,rfl,rfl,hA,hS⟩:=HDa.out.good e1;obtain⟨rfl,rfl,rfl,hA2,hS2⟩:=HDb.out.good e2;obtain⟨xa',xc',hv,hxl,hxat⟩:=jA hA;(have hdl:(cG (⟨kind,src,out,sorted⟩:Stp) files t).length=files.length+1:=by simp[cG]);rw[hdl] at hv hxl;(obtain⟨rfl,rfl,rfl⟩:xa=xa'/\xn=files.length+1/\xc=xc':=by injection hv with h1 h2 h3;exact⟨h1,h2,h3⟩);obtain⟨bl,ol,rfl,cl0,cl1,-⟩:=hxat files.length ⟨out,t⟩ (by simp[cG]);dsimp only at cl0 cl1;have HA:=zh hA;have HS:=zh hS;have HS2:=zh hS2;have HA2:=zh hA2;have HT:=zh hel;obtain⟨sa1,sc1,hv2⟩:=cB hS;obtain⟨sa2,sc2,hv3⟩:=cB hS2;cases hv2;cases hv3;clear hA hS hS2 hA2 HDa HDb;go_wp2_with fail;generalize w5.alloc (.cells #[.int .i64 p2,.int .i64 q2] 31)=W at HB HUr HUs HA HS HS2 HA2 cl0 cl1 x0 x1 x2 x3 y0 y1 y2 ⊢;have HSF:=zh (fun n=>sameFiles_quiet files (.slice (some ⟨bl,ol,none⟩) files.length xc) (.slice a2 files.length c2) (W.drewN n) ((HA.out.front).later (aJ (Below.refl _ _) n)) ((HFS.out.later HB.out.below).later (aJ (Below.refl _ _) n)));have hw1:IntKind.i64.wrap ((files.length:Int)+1)=(files.length:Int)+1:=xG;have hw2:IntKind.i64.wrap (((files.length+1:Nat):Int)-1)=(files.length:Int):=xG;have hi1:(files.length:Int)<((files.length+1:Nat):Int):=vT;have hw3:IntKind.i64.wrap (files.length:Int)=(files.length:Int):=xG
     have hxc:files.length+1<=xc:=by
      obtain⟨a',c',hv',h1',-⟩:=HA.out;(injection hv' with _ _ e3);rw[e3];rw[hdl] at h1';exact h1'
     have hxc2:(files.length:Int)<=(xc:Int):=vT;have hxc3:files.length<=xc:=vT;clear hdl hel hxat hxl e1 e2 HLaw;by_cases hk2:kind=2
     ·subst hk2;have hs0:=k1 rfl;subst hs0;clear k1 k2;simp only[List.length_nil] at hi1 ⊢;(go_quiet((go_at_call 19;refine Calls.quiet_of (HSF.out _))));generalize hWq:World.drewN W _=Wq;have HBq:Hid (Below W.heap.size W Wq):=zh (by rw[<-hWq];exact aJ (Below.refl _ _) _);clear hWq cl0 cl1 x0 x1 x2 x3 y0 y1 y2;go_wp2_with fail;(go_loopw [20] (fun iv wr=>∃z:Nat,z<=([]:List ByteArray).length/\iv=.int .i64 (z:Int)/\Hid (Below W.heap.size W wr)) (fun iv _=>([]:List ByteArray).length-(intOf iv).toNat));case atStart=>exact⟨0,Nat.zero_le _,rfl,HBq⟩
      case round=>
       obtain⟨z,hz,rfl,HBz⟩:=hrel;(rename World=>wz);have HBe:=zh (HB.out.later HBz.out);obtain⟨x0,x1,x2,x3⟩:=bx4 HBe.out.r0;by_cases hlz:z<([]:List ByteArray).length
       ·exact absurd hlz (Nat.not_lt_zero _)
       ·have hz2:¬(z:Int)<(([]:List ByteArray).length:Int):=vT;have HLa:=zh (fun W'(hb:Below W.heap.size W W')=>last_any _ _ W' (HA.out.later hb));have HLb:=zh (fun W'(hb:Below W.heap.size W W')=>last_any _ _ W' (HA2.out.later hb));rw[lastText_do] at HLa HLb;have HNm:=zh (fun W'(hb:Below W.heap.size W W')=>jU ([]:List ByteArray) _ _ W' (HS.out.later hb) (HS2.out.later hb));exact tA
     ·have hk3:(kind==2)=false:=AS;(have hk4:(kind != 2)=true:=by rw[bne_iff_ne];exact hk2);have hl0:=k2 hk2;(have hl4:((saw.length:Int)==(src.length:Int))=true:=by rw[hl0];simp);(have hl5:((saw.length:Int) != (src.length:Int))=false:=by rw[hl0];simp);clear k1 k2 hk2 hl0;(go_quiet((go_at_call 19;refine Calls.quiet_of (HSF.out _))));generalize hWq:World.drewN W _=Wq;have HBq:Hid (Below W.heap.size W Wq):=zh (by rw[<-hWq];exact aJ (Below.refl _ _) _);clear hWq cl0 cl1 x0 x1 x2 x3 y0 y1 y2;go_wp2_with fail;(go_loopw [20] (fun iv wr=>∃z:Nat,z<=saw.length/\iv=.int .i64 (z:Int)/\Hid (Below W.heap.size W wr)) (fun iv _=>saw.length-(intOf iv).toNat));case atStart=>exact⟨0,Nat.zero_le _,rfl,HBq⟩
      case round=>
       obtain⟨z,hz,rfl,HBz⟩:=hrel;(rename World=>wz);have HBe:=zh (HB.out.later HBz.out);obtain⟨x0,x1,x2,x3⟩:=bx4 HBe.out.r0;by_cases hlz:z<saw.length
       ·obtain⟨x,hx,-⟩:=getElem?_of_lt hlz;obtain⟨nm,hnm,hfd⟩:=HT.out z x hx;have hls:z<src.length:=(List.getElem?_eq_some_iff.1 hnm).1;obtain⟨b2,o2,rfl,q0,hzx⟩:=HSat.out z nm hnm;have q0:=aC HBe.out.below q0;obtain⟨sa3,sc3,hv4,-,hat4⟩:=iV HS.out;cases hv4;obtain⟨b4,o4,rfl,q4,-⟩:=hat4 z x hx;have q4:=aC HBz.out q4;have HFd:=zh (HFi.out nm wz HBe.out.below);have HFv:Hid (iD files nm=.tuple #[.string x,.bool true]):=zh (by unfold iD;rw[hfd]);rw[HFv.out] at HFd;have hz0:(0:Int)<=(z:Int):=vT;have hz1:(z:Int)<(saw.length:Int):=vT;have hz2:(z:Int)<(src.length:Int):=vT;clear hx hnm hfd hat4;go_wp2_with fail;refine HFd.out.mono ?_;rintro e wf ⟨rfl,hbf⟩;have HBf:=zh (aB HBz.out hbf);have q4:=aC hbf q4;clear x0 x1 x2 x3 q0;go_wp2_with fail;go_roundw;(case rel=>exact⟨z+1,vT,wH,HBf⟩);case measure=>simp[intOf];omega
       ·have hz2:¬(z:Int)<(saw.length:Int):=vT;have HLa:=zh (fun W'(hb:Below W.heap.size W W')=>last_any _ _ W' (HA.out.later hb));have HLb:=zh (fun W'(hb:Below W.heap.size W W')=>last_any _ _ W' (HA2.out.later hb));rw[lastText_do] at HLa HLb;have HNm:=zh (fun W'(hb:Below W.heap.size W W')=>jU saw _ _ W' (HS.out.later hb) (HS2.out.later hb));exact tA
end Go.Proofs.YtacgopankhpnbaaGreatDoor
