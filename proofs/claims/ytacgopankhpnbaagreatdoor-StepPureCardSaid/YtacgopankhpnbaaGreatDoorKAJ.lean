/- Texts of this seat, joined. -/
import Derived.Test.YtacgopankhpnbaaGreatDoorKAI
set_option linter.unusedVariables false
set_option linter.unusedSimpArgs false
namespace Go.Proofs.YtacgopankhpnbaaGreatDoor
set_option maxHeartbeats 4000000
set_option maxRecDepth 100000
open Go.RowKit
theorem vJ{p:Prop}(h:p:=by
 go_ret
 exact⟨aE xI,HBX.out⟩):p:=h
theorem aJ{B:Nat}{a b:World}(h:Below B a b)(n:Nat):Below B a (b.drewN n):=⟨h.os,h.tape,h.output,h.size,h.block⟩
theorem flds_bad{l:List Fld}{k:Nat}{x:Fld}{aO:List ByteArray}{r:Bool}(hx:l[k]? =some x)(h:(aO.any fun y=>decide (y=x.1))=true\/aT x.1=false\/cI 4 x.2=false)
  (hr:r=dI (l.drop k) aO):r=false:=by
 obtain⟨hk,rfl⟩:=List.getElem?_eq_some_iff.1 hx;rw[hr,List.drop_eq_getElem_cons hk];revert h;obtain⟨n,t⟩:=l[k];intro h;rw[dI];rcases h with h|h|h<;>simp[h]
theorem flds_good{l:List Fld}{k:Nat}{x:Fld}{aO:List ByteArray}{r:Bool}(hx:l[k]? =some x)(h1:(aO.any fun y=>decide (y=x.1))=false)(h2:aT x.1=true)(h3:cI 4 x.2=true)
  (hr:r=dI (l.drop k) aO):r=dI (l.drop (k+1)) (x.1::aO):=by
 obtain⟨hk,rfl⟩:=List.getElem?_eq_some_iff.1 hx;rw[hr,List.drop_eq_getElem_cons hk];revert h1 h2 h3;obtain⟨n,t⟩:=l[k];intro h1 h2 h3;rw[dI,h1,h2,h3];rfl
theorem flds_end{l:List Fld}{k:Nat}{aO:List ByteArray}{r:Bool}(hk:l.length<=k)(hr:r=dI (l.drop k) aO):r=true:=by
 rw[hr,List.drop_of_length_le hk,dI]
theorem nC(l:List Fld)(most:Nat)(N:Nat->Prop)(v:Value)(w:World)(hn:most<=1000)(hg:bV w)(he:aK 3 gP N w v l):
  Calls Tryz.prog 148 #[v,.int .i64 (most:Int)] w fun e w'=>e=.returned (.bool (eD l most))/\Below w.heap.size w w':=by
 have HG:=zh (fun W(hb:Below w.heap.size w W)=>hg.later hb);have hlb:l.length<=9223372036854775807:=by obtain⟨_,_,_,h1,h2,-⟩:=he;omega
 have hn1:(most:Int)<=1000:=vT;have HR:Hid (eD l most=(dI l []&&decide (l.length<=most))):=zh rfl;generalize eD l most=res at HR;have HD:Hid (decide ((l.length:Int)<=(most:Int))=decide (l.length<=most)):=zh (by rw[Bool.eq_iff_iff];simp);have hmm:=@run_makeMap Tryz.prog;have HRT:=zh (rightType_any);clear hg;rcases he.cases vV with⟨rfl,a,c,rfl⟩|⟨b,o,c,rfl,h0,h1,h2,hb,hN,hc⟩
 ·clear he;go_enter Tryz.func148,Tryz.ntmps148;go_wp2_with fail;go_loop [11] (fun i=>i=.int .i64 0) (fun _=>0)
  case atStart=>rfl
  case round=>
   subst hrel;go_wp2_with fail;go_ret;exact⟨aE (by rw[HR.out,<-HD.out];simp[dI]),aA _ _⟩
 ·have HC:=zh hc;clear hc he;go_enter Tryz.func148,Tryz.ntmps148;go_wp2_with fail;clear hmm;go_loopw [11] (fun iv wr=>∃(q:Nat)(aO:List ByteArray),q<=l.length/\iv=.int .i64 (q:Int)/\Hid (Below w.heap.size w wr)/\Hid (dI l []=dI (l.drop q) aO)/\Hid (bD eZ dO wr w.heap.size q (mW aO))) (fun iv _=>l.length-(intOf iv).toNat)
  case atStart=>exact⟨0,[],Nat.zero_le _,rfl,zh (aA _ _),zh rfl,zh ((bD.made w).ext (fun _=>rfl))⟩
  case round=>
   obtain⟨q,aO,hq,rfl,HB,HSp,HM⟩:=hrel;(rename World=>wr);have hbw:w.heap.size<wr.heap.size:=HM.out.lt;by_cases hlt:q<l.length
   ·obtain⟨x,hx,-⟩:=getElem?_of_lt hlt;obtain⟨cs,het,-,hj⟩:=HC.out q x hx;obtain⟨nm,t⟩:=x;obtain⟨ct,rfl,hsz,hty⟩:=het;have hty0:=hty
    cases t with
    |mk kd fs=>
     rw[iE] at hty0;obtain⟨vf,rfl,hr1⟩:=hty0;obtain⟨a1,cc1,rfl,-⟩:=hr1;have c0:wr.cell? ⟨b,o+q*3,none⟩=some (.string nm):=aC HB.out (hj 0 _ rfl);have c1:=aC HB.out (hj 1 _ rfl);have c2:=aC HB.out (hj 2 _ rfl);have s1:nm.size<=140737488355328:=Nat.le_trans (show nm.size<=8000 from hsz) vV;have HL:=zh (fun W(h:Below w.heap.size w W)=>RightType_any HRT.out (.mk kd fs) N kd _ W (HG.out W h) (fL _ _ _ _ _ _ (bX.later h) hty));have HS:=zh (fun W(h:Below w.heap.size w W)=>eJ nm W s1 (HG.out W h));have HK:=zh (mB aO nm);have HX:=zh hx;have HBX:=zh (aB HB.out (aA wr (.cells #[.string nm,.int .i64 kd,.slice a1 fs.length cc1] 184)));clear hj hty hx HC;generalize hq1:(aO.any fun y=>decide (y=nm))=r1 at HK;generalize hq2:aT nm=r2 at HS;generalize hq3:cI 4 (.mk kd fs)=r3 at HL;have Hq1:=zh hq1;have Hq2:=zh hq2;have Hq3:=zh hq3;clear hq1 hq2 hq3;generalize fs.length=ln at *
     cases r1 with
     |true=>
      have HF:Hid (res=false):=zh (by rw[HR.out,flds_bad HX.out (.inl Hq1.out) HSp.out];rfl);go_wp2_with(at_lookup;refine bT (HM.out.alloc _) s1 HK.out rfl rfl rfl rfl ?_);exact vJ
     |false=>
      cases r2 with
      |false=>
       have HF:Hid (res=false):=zh (by rw[HR.out,flds_bad HX.out (.inr (.inl Hq2.out)) HSp.out];rfl);go_wp2_with(first|(at_lookup;refine bT (HM.out.alloc _) s1 HK.out rfl rfl rfl rfl ?_)|(go_at_call 147;refine(HS.out _ HBX.out).mono ?_;rintro e w1 ⟨rfl,rfl⟩));exact vJ
      |true=>
       cases r3 with
       |false=>
        have HF:Hid (res=false):=zh (by rw[HR.out,flds_bad HX.out (.inr (.inr Hq3.out)) HSp.out];rfl);go_wp2_with(first|(at_lookup;refine bT (HM.out.alloc _) s1 HK.out rfl rfl rfl rfl ?_)|(go_at_call 147;refine(HS.out _ HBX.out).mono ?_;rintro e w1 ⟨rfl,rfl⟩)|(go_at_call 149;refine(HL.out _ HBX.out).mono ?_;rintro e w2 ⟨rfl,hb2⟩));go_ret;exact⟨aE xI,aB HBX.out hb2⟩
       |true=>
        have HS2:=zh (flds_good HX.out Hq1.out Hq2.out Hq3.out HSp.out);have hb9:=HBX.out.size;go_wp2_with(first|(at_lookup;refine bT (HM.out.alloc _) s1 HK.out rfl rfl rfl rfl ?_)|(go_at_call 147;refine(HS.out _ HBX.out).mono ?_;rintro e w1 ⟨rfl,rfl⟩)|(go_at_call 149;refine(HL.out _ HBX.out).mono ?_;rintro e w2 ⟨rfl,hb2⟩;have HM2:=zh ((HM.out.alloc (.cells #[.string nm,.int .i64 kd,.slice a1 ln cc1] 184)).later hb2);obtain⟨u0,u1,u2⟩:=(bx3 (aD hb2 (heap_alloc_new wr (.cells #[.string nm,.int .i64 kd,.slice a1 ln cc1] 184)))).1)|(at_mapUpdate;refine kP HM2.out vT s1 rfl rfl rfl rfl rfl ?_;intro w3 hm3 hg3));go_roundw;(case rel=>exact⟨q+1,nm::aO,vT,wH,zh ((aB HBX.out hb2).grown hg3 (by have:=(aB HBX.out hb2).size;omega) (fun i hi=>by cases hi;exact Nat.le_refl _)),HS2,zh (hm3.ext (fun z=>congrFun (nO aO nm) z))⟩);case measure=>simp[intOf];omega
   ·have hq':l.length<=q:=vT;have HT:Hid (res=decide (l.length<=most)):=zh (by rw[HR.out,flds_end hq' HSp.out];simp);exact uD
def oS(N:Nat->Prop)(w:World)(i:Ins)(cs:List Value):Prop:=∃vn,cs=[.int .i64 i.op,.int .i64 i.a,.string i.s,.string i.m,vn]/\i.s.size<=8000/\i.m.size<=8000/\aK 1 bM N w vn i.names/\ -1<=i.a/\i.a<=1099511627776
theorem hU:eU oS:=fun _ _ _ _ _ cs hm h=>by
 obtain⟨vn,h1,h2,h3,h4,h5⟩:=h;exact⟨vn,h1,h2,h3,h4.moves aV hm vV,h5⟩
def encCod(N:Nat->Prop)(w:World)(c:Cod)(cs:List Value):Prop:=∃vc,cs=[.string c.name,.int .i64 (c.params:Int),.int .i64 (c.locals:Int),vc]/\c.name.size<=8000/\aK 5 oS N w vc c.code
theorem nZ:eU encCod:=fun _ _ _ _ _ cs hm h=>by
 obtain⟨vc,h1,h2,h3⟩:=h;exact⟨vc,h1,h2,h3.moves hU hm vV⟩
abbrev gX(cb:Nat)(v:Value):Nat->Prop:=fun b=>b≠cb/\v.ownBlock≠some b
abbrev inC(cb:Nat)(v:Value):Nat->Prop:=fun b=>b=cb\/v.ownBlock=some b
structure Cp (B cb:Nat) (vars:List Fld) (vv:Value) (c:Cmp) (css:List (List Value)) (v:Value) (w:World):Prop where
 box:w.heap[cb]? =some (.cells #[vv,v,.int .i64 (c.locals:Int)] 182)
 gro:Gro 5 171 oS B c.code css v w
 row:aK 3 gP (gX cb v) w vv vars
 hcb:cb<B
 h11:11<=cb
 nv:vars.length<=1000
 glob:bV w
structure Ext (cb:Nat) (v:Value) (w:World) (v':Value) (w':World):Prop where
 off:Off (inC cb v) w w'
 own:∀b,v'.ownBlock=some b->v.ownBlock=some b\/w.heap.size<=b
section
variable {B cb:Nat} {vars:List Fld} {vv v v' v'':Value} {c:Cmp} {css:List (List Value)} {w w' w'':World}
theorem Ext.refl(cb:Nat)(v:Value)(w:World):Ext cb v w v w:=⟨Off.refl _ _,fun _ h=>.inl h⟩
theorem Ext.below(cb:Nat)(v:Value)(hb:Below w.heap.size w w'):Ext cb v w v w':=⟨Off.of_below hb,fun _ h=>.inl h⟩
theorem Ext.trans(h:Ext cb v w v' w')(k:Ext cb v' w' v'' w''):Ext cb v w v'' w'':=by
 refine⟨Off.fresh (B:=w.heap.size) ((h.off.or _).trans (k.off.mono fun b hb=>?_)) (Nat.le_refl _),fun b hb=>?_⟩
 ·rcases hb with hb|hb
  ·exact .inl (.inl hb)
  ·rcases h.own b hb with h1|h1
   ·exact .inl (.inr h1)
   ·exact .inr h1
 ·rcases k.own b hb with h1|h1
  ·exact h.own b h1
  ·exact .inr (Nat.le_trans h.off.size h1)
theorem Ext.moves(h:Ext cb v w v' w'):bX (gX cb v) w (gX cb v') w':=fun b hb hlt=>
 ⟨⟨hb.1,fun e=>(h.own b e).elim hb.2 (fun h1=>vT)⟩,fun _ _ hu=>h.off.cell (fun hs=>hs.elim hb.1 hb.2) hu⟩
theorem Cp.lt(h:Cp B cb vars vv c css v w):cb<w.heap.size:=(Array.getElem?_eq_some_iff.1 h.box).1
theorem Cp.own(h:Cp B cb vars vv c css v w):∀b,v.ownBlock=some b->B<=b/\b<w.heap.size:=h.gro.lt
theorem Cp.n11(h:Cp B cb vars vv c css v w):∀k,k<11->¬inC cb v k:=fun k hk hs=>by
 have h1:=h.h11;have h2:=h.hcb;rcases hs with hs|hs
 ·omega
 ·have:=(h.own k hs).1;omega
theorem Cp.later(h:Cp B cb vars vv c css v w)(hb:Below w.heap.size w w'):Cp B cb vars vv c css v w':=
 ⟨aD hb h.box,h.gro.later hU hb,h.row.moves bA (bX.later hb) vV,h.hcb,h.h11,h.nv,h.glob.later hb⟩
theorem Cp.size_le(h:Cp B cb vars vv c css v w):B<=w.heap.size:=h.gro.big
theorem Cp.put{c':Cmp}{css':List (List Value)}(h:Cp B cb vars vv c css v w)(hx:Ext cb v w v' w')(hbox:w'.heap[cb]? =some (.cells #[vv,v',.int .i64 (c'.locals:Int)] 182))
  (hgro:Gro 5 171 oS B c'.code css' v' w'):Cp B cb vars vv c' css' v' w':=
 ⟨hbox,hgro,h.row.moves bA hx.moves vV,h.hcb,h.h11,h.nv,h.glob.off hx.off h.n11⟩
end
theorem set_flat{k:Nat}{u:Value}{j:Nat}(hj:j<k):∀(css:List (List Value))(i:Nat)(c:List Value),(∀c,c∈css->c.length=k)->css[i]? =some c->(css.set i (c.set j u)).flatten=css.flatten.set (i*k+j) u
 |[],i,c,_,h=>yL
 |d::css,0,c,hk,h=>by
  simp at h;subst h;have hd:=hk d vZ;rw[List.set_cons_zero,List.flatten_cons,List.flatten_cons,Nat.zero_mul,Nat.zero_add,List.set_append,if_pos vT]
 |d::css,i+1,c,hk,h=>by
  have hd:=hk d vZ;rw[List.set_cons_succ,List.flatten_cons,List.flatten_cons,set_flat hj css i c (fun c hc=>hk c (by simp[hc])) xL,List.set_append,if_neg (by rw[hd,Nat.succ_mul];omega),hd];congr 2;rw[Nat.succ_mul];omega
theorem Gro.set1{α:Type}{k:Nat}{T:TypeId}{enc:(Nat->Prop)->World->α->List Value->Prop}{B:Nat}{l:List α}{css:List (List Value)}{w:World}{g cap n i j:Nat}{x y:α}{c:List Value}{u:Value}(he:eU enc)
  (h:Gro k T enc B l css (.slice (some ⟨g,0,none⟩) n cap) w) (hx:l[i]? =some x) (hc:css[i]? =some c) (hj:j<k)
  (hy:∀N W,enc N W x c->enc N W y (c.set j u)):Gro k T enc B (l.set i y) (css.set i (c.set j u)) (.slice (some ⟨g,0,none⟩) n cap) (w.setCell ⟨g,i*k+j,none⟩ u):=by
 have hm:bX (mK B (.slice (some ⟨g,0,none⟩) n cap)) w (mK B (.slice (some ⟨g,0,none⟩) n cap)) (w.setCell ⟨g,i*k+j,none⟩ u):=fun b hb hlt=>by
  refine⟨hb,fun o z hz=>?_⟩;have hne:b≠g:=fun e=>hb.2 (by rw[e];rfl);exact(Off.setCell (S:=fun b=>b=g) w rfl).cell hne hz
 obtain⟨h1,h2⟩:=h.own;have hi:=(List.getElem?_eq_some_iff.1 hc).1;refine⟨⟨?_,?_⟩,by simp[h.len],fun d hd=>?_,fun a z d hz hd=>?_,by simpa using h.big⟩
 ·rw[set_flat hj css i c h.ks hc,List.length_set,h1,List.length_set]
 ·rcases h2 with⟨h2,-⟩|⟨g',cap',cur,hv,hg,hgg,r1,r2,r3,r4⟩
  ·cases h2
  ·cases hv;refine .inr ⟨g,cap,cur.setIfInBounds (i*k+j) u,by rw[List.length_set],hg,aU hgg u,by rw[List.length_set];exact r1,r2,by simpa using r3,?_⟩;rw[set_flat hj css i c h.ks hc,<-r4,Array.toList_setIfInBounds,List.length_set,List.take_set]
 ·rcases List.mem_or_eq_of_mem_set hd with hd|rfl
  ·exact h.ks d hd
  ·rw[List.length_set];exact h.ks c (List.mem_of_getElem? hc)
 ·by_cases ha:a=i
  ·subst ha;(have hil:a<l.length:=by rw[<-h.len];exact hi);rw[List.getElem?_set_self hil] at hz;rw[List.getElem?_set_self hi] at hd;cases hz;cases hd;exact hy _ _ (he _ _ _ _ _ _ hm (h.enc a x c hx hc))
  ·rw[List.getElem?_set_ne (fun e=>ha e.symm)] at hz hd;exact he _ _ _ _ _ _ hm (h.enc a z d hz hd)
theorem bx5{w:World}{b:Nat}{x0 x1 x2 x3 x4:Value}{t:TypeId}(h:w.heap[b]? =some (.cells #[x0,x1,x2,x3,x4] t)):
  (w.cell? ⟨b,0,none⟩=some x0/\w.cell? ⟨b,1,none⟩=some x1/\w.cell? ⟨b,2,none⟩=some x2/\w.cell? ⟨b,3,none⟩=some x3/\w.cell? ⟨b,4,none⟩=some x4)/\(w.frozen? ⟨b,0,none⟩=false/\w.frozen? ⟨b,1,none⟩=false/\w.frozen? ⟨b,2,none⟩=false/\w.frozen? ⟨b,3,none⟩=false/\w.frozen? ⟨b,4,none⟩=false):=
 ⟨⟨(bx h 0 rfl).1,(bx h 1 rfl).1,(bx h 2 rfl).1,(bx h 3 rfl).1,(bx h 4 rfl).1⟩,(bx h 0 (u:=x0) rfl).2,(bx h 1 (u:=x1) rfl).2,(bx h 2 (u:=x2) rfl).2,(bx h 3 (u:=x3) rfl).2,(bx h 4 (u:=x4) rfl).2⟩
def setI5(w:World)(b:Nat)(x0 x1 x2 x3 x4:Value):World:=((((w.setCell ⟨b,0,none⟩ x0).setCell ⟨b,1,none⟩ x1).setCell ⟨b,2,none⟩ x2).setCell ⟨b,3,none⟩ x3).setCell ⟨b,4,none⟩ x4
theorem setI5_off(w:World)(b:Nat)(x0 x1 x2 x3 x4:Value):Off (fun k=>k=b) w (setI5 w b x0 x1 x2 x3 x4):=by
 unfold setI5;exact(Off.refl _ _).one.one.one.one.one
theorem setI5_heap{w:World}{b:Nat}{y0 y1 y2 y3 y4:Value}{t:TypeId}(h:w.heap[b]? =some (.cells #[y0,y1,y2,y3,y4] t))(x0 x1 x2 x3 x4:Value):(setI5 w b x0 x1 x2 x3 x4).heap[b]? =some (.cells #[x0,x1,x2,x3,x4] t):=by
 unfold setI5;rw[aU (aU (aU (aU (aU h _) _) _) _) _];rfl
theorem insInfo:(Tryz.prog.info? 171).map (fun i=>(i.zero,i.size,i.bytes))=some (some (.agg #[.int .i64 0,.int .i64 0,.string ByteArray.empty,.string ByteArray.empty,.slice none 0 0]),5,72):=vU
theorem codInfo:(Tryz.prog.info? 168).map (fun i=>(i.zero,i.size,i.bytes))=some (some (.agg #[.string ByteArray.empty,.int .i64 0,.int .i64 0,.slice none 0 0]),4,56):=vU
end Go.Proofs.YtacgopankhpnbaaGreatDoor
namespace Go.Proofs.YtacgopankhpnbaaGreatDoor
set_option maxHeartbeats 4000000
set_option maxRecDepth 100000
open Go.RowKit
theorem bs_data(l:List UInt8):(bs l).data.toList=l:=by simp[bs]
theorem app_data(a b:ByteArray):(a++b).data.toList=a.data.toList++b.data.toList:=by simp[ByteArray.data_append]
theorem mk_data(a:Array UInt8):(⟨a⟩:ByteArray).data.toList=a.toList:=rfl
theorem ascOk_at{l:List ByteArray}{q:Nat}{x:ByteArray}(hx:l[q]? =some x)(before:Option ByteArray):oV before (l.drop q)=(aT x&&(match before with|none=>true|some b=>Op.bytesLess b.toList x.toList)&&oV (some x) (l.drop (q+1))):=by
 exact uK
theorem run_geq_str(t:TypeId)(a b:ByteArray)(w:World):(binOp .geq t (.string a) (.string b)).run Tryz.prog w=.ok (.bool (!Op.bytesLess a.toList b.toList)) w:=by
 simp[binOp,Op.stringOp]
theorem ascending_any(names:List ByteArray)(N:Nat->Prop)(vn:Value)(w:World)(hg:bV w)(hr:aK 1 bM N w vn names):
  Calls Tryz.prog 223 #[vn] w fun e w'=>e=.returned (.bool (oV none names&&decide (names.length<=8)))/\Below w.heap.size w w':=by
 have HG:=zh (fun W(hb:Below w.heap.size w W)=>hg.later hb);generalize hres:(oV none names&&decide (names.length<=8))=res;have HR:Hid (res=(oV none names&&decide (names.length<=8))):=zh hres.symm;clear hres;have HD:Hid (decide ((names.length:Int)<=8)=decide (names.length<=8)):=zh xE;clear hg;have hlb:names.length<=9223372036854775807:=A1;rcases hr.cases vV with⟨rfl,a,c,rfl⟩|⟨b,o,c,rfl,h0,h1,h2,hb,hN,hc⟩
 ·clear hr;go_enter Tryz.func223,Tryz.ntmps223;go_wp2_with fail;go_loop [7] (fun i=>i=.int .i64 0) (fun _=>0)
  case atStart=>rfl
  case round=>
   subst hrel;go_wp2_with fail;go_ret;exact⟨aE xO,Below.refl _ _⟩
 ·have HC:=zh hc;clear hc hr;go_enter Tryz.func223,Tryz.ntmps223;go_wp2_with fail;go_loopw [7] (fun iv wr=>∃q:Nat,q<=names.length/\iv=.int .i64 (q:Int)/\Hid (Below w.heap.size w wr)/\Hid (res=(oV (mL names q) (names.drop q)&&decide (names.length<=8)))) (fun iv _=>names.length-(intOf iv).toNat)
  case atStart=>exact⟨0,Nat.zero_le _,rfl,zh (Below.refl _ _),HR⟩
  case round=>
   obtain⟨q,hq,rfl,HB,HSp⟩:=hrel;(rename World=>wr);by_cases hlt:q<names.length
   ·obtain⟨x,hx,hmem⟩:=getElem?_of_lt hlt;obtain⟨cs,⟨rfl,hzx⟩,-,hj⟩:=HC.out q x hx;have p0:wr.cell? ⟨b,o+q,none⟩=some (.string x):=aC HB.out zH;have HS1:=zh (HSp.out.trans (congrArg (fun z=>z&&decide (names.length<=8)) (ascOk_at hx (mL names q))));(have hpv:mL names (q+1)=some x:=by unfold mL;rw[if_neg vT,Nat.add_sub_cancel,hx]);rw[<-hpv] at HS1;clear hj hpv hmem
    cases hsn:aT x with
    |false=>
     have HF:Hid (res=false):=zh (by rw[HS1.out,hsn];rfl);exact sV
    |true=>
     by_cases hq0:q=0
     ·subst hq0;(have p00:wr.cell? ⟨b,o,none⟩=some (.string x):=by simpa using p0);have HS2:Hid (res=(oV (mL names (0+1)) (names.drop (0+1))&&decide (names.length<=8))):=zh (by rw[HS1.out,hsn];simp[mL]);clear HS1 HSp;go_wp2_with(go_at_call 147;refine(eJ x wr hzx (HG.out _ HB.out)).mono ?_;rintro e w5 ⟨rfl,rfl⟩;rw[hsn]);go_roundw;(case rel=>exact⟨0+1,vT,wH,HB,HS2⟩);case measure=>simp[intOf];omega
     ·have hq1:0<q:=vT;obtain⟨y,hy,-⟩:=getElem?_of_lt (l:=names) (k:=q-1) vT;obtain⟨cs',⟨rfl,-⟩,-,hj'⟩:=HC.out (q-1) y hy;have hp0:wr.cell? ⟨b,o+(q-1),none⟩=some (.string y):=aC HB.out AR;(have hpv:mL names q=some y:=by unfold mL;rw[if_neg hq0,hy]);rw[hpv] at HS1;clear hj' hpv;have hi0:(0:Int)<(q:Int):=vT;have hi1:(0:Int)<=(q:Int)-1:=vT;have hi2:(q:Int)-1<(names.length:Int):=vT;have hi3:((q:Int)-1).toNat=q-1:=vT;have hi4:¬(q:Int)<1:=vT
      cases hgt:Op.bytesLess y.toList x.toList with
      |false=>
       (have hleq:∀W,(binOp .geq 9 (.string y) (.string x)).run Tryz.prog W=.ok (.bool true) W:=fun W=>by rw[run_geq_str,hgt];rfl);have HF:Hid (res=false):=zh yE;exact sV
      |true=>
       (have hleq:∀W,(binOp .geq 9 (.string y) (.string x)).run Tryz.prog W=.ok (.bool false) W:=fun W=>by rw[run_geq_str,hgt];rfl);have HS2:Hid (res=(oV (mL names (q+1)) (names.drop (q+1))&&decide (names.length<=8))):=zh yE;clear HS1 HSp;go_wp2_with(go_at_call 147;refine(eJ x wr hzx (HG.out _ HB.out)).mono ?_;rintro e w5 ⟨rfl,rfl⟩;rw[hsn]);go_roundw;(case rel=>exact⟨q+1,vT,wH,HB,HS2⟩);case measure=>simp[intOf];omega
   ·have hq':q=names.length:=vT;have HT:Hid (res=decide (names.length<=8)):=zh yK;exact uD
def aW(c:Cod)(i:Ins)(vc vn:Value)(w:World):Prop:=
 Calls Tryz.prog 193 #[.agg #[.string c.name,.int .i64 (c.params:Int),.int .i64 (c.locals:Int),vc],.agg #[.int .i64 i.op,.int .i64 i.a,.string i.s,.string i.m,vn]] w fun e w'=>e=.returned (.bool (bN c i))/\Below w.heap.size w w'
set_option maxHeartbeats 2000000
theorem sI{p:Prop}(h:p:=by
 clear hg hn;go_enter Tryz.func112,Tryz.ntmps112;go_wp2_with fail;go_ret
 exact⟨eQ HF.out,hb⟩):p:=h
theorem tK{p:Prop}(h:p:=by
 go_ret
 exact⟨eQ HF.out,aB hb hb3⟩):p:=h
def bL(i:Ins)(vn:Value)(w:World):Prop:=
 Calls Tryz.prog 112 #[.agg #[.int .i64 i.op,.int .i64 i.a,.string i.s,.string i.m,vn]] w fun e w'=>e=.returned (.string (bs (cV i)))/\Below w.heap.size w w'
theorem eX(l:List UInt8):(bs l).size=l.length:=by show l.toArray.size=_;simp
theorem line_0(a:Int)(s m:ByteArray)(names:List ByteArray)(an:Option Addr)(cn:Nat)(N:Nat->Prop)(w:World)(hg:bV w)(ha0: -1<=a)(ha1:a<=1099511627776)(hs:s.size<=8000)(hm:m.size<=8000)(hn:aK 1 bM N w (.slice an names.length cn) names)(hl:names.length<=1000):
  bL ⟨0,a,s,m,names⟩ (.slice an names.length cn) w:=by
 unfold bL;dsimp only;have hb:=aA w (.cells #[.int .i64 0,.int .i64 a,.string s,.string m,.slice an names.length cn] 171);have hw:(w.alloc (.cells #[.int .i64 0,.int .i64 a,.string s,.string m,.slice an names.length cn] 171)).cell? ⟨0,0,none⟩=some (.string (bs [105,110,116])):=aC hb (hg.words 0 _ rfl);have hwl:=eX [105,110,116];have HI:=zh (Tryz.strconv_Itoa a vT vT (w.alloc (.cells #[.int .i64 0,.int .i64 a,.string s,.string m,.slice an names.length cn] 171)) (hg.later hb).pow10);have hil:=Lib.itoa_length_le a vT vT;have HF:Hid (((bs [105,110,116]++(⟨#[32]⟩++⟨(Lib.itoa a).toArray⟩))++⟨#[10]⟩:ByteArray)=bs (cV ⟨0,a,s,m,names⟩)):=zh (cR wV);generalize bs [105,110,116]=W at *;generalize Lib.itoa a=it at *;clear hg hn;go_enter Tryz.func112,Tryz.ntmps112;go_wp2_with(go_at_call 106;refine HI.out.mono ?_;rintro e w1 ⟨rfl,k,os,rfl⟩;have hb3:=Lib.below_grow _ (w.alloc (.cells #[.int .i64 0,.int .i64 a,.string s,.string m,.slice an names.length cn] 171)) (Nat.le_refl _) k os;generalize Sort.grow (World.drewN (w.alloc (.cells #[.int .i64 0,.int .i64 a,.string s,.string m,.slice an names.length cn] 171)) k) os=w1 at hb3 ⊢);exact tK
theorem line_1(a:Int)(s m:ByteArray)(names:List ByteArray)(an:Option Addr)(cn:Nat)(N:Nat->Prop)(w:World)(hg:bV w)(ha0: -1<=a)(ha1:a<=1099511627776)(hs:s.size<=8000)(hm:m.size<=8000)(hn:aK 1 bM N w (.slice an names.length cn) names)(hl:names.length<=1000):
  bL ⟨1,a,s,m,names⟩ (.slice an names.length cn) w:=by
 unfold bL;dsimp only;have hb:=aA w (.cells #[.int .i64 1,.int .i64 a,.string s,.string m,.slice an names.length cn] 171);have hw:(w.alloc (.cells #[.int .i64 1,.int .i64 a,.string s,.string m,.slice an names.length cn] 171)).cell? ⟨0,1,none⟩=some (.string (bs [98,111,111,108])):=aC hb (hg.words 1 _ rfl);have hwl:=eX [98,111,111,108];have HI:=zh (Tryz.strconv_Itoa a vT vT (w.alloc (.cells #[.int .i64 1,.int .i64 a,.string s,.string m,.slice an names.length cn] 171)) (hg.later hb).pow10);have hil:=Lib.itoa_length_le a vT vT;have HF:Hid (((bs [98,111,111,108]++(⟨#[32]⟩++⟨(Lib.itoa a).toArray⟩))++⟨#[10]⟩:ByteArray)=bs (cV ⟨1,a,s,m,names⟩)):=zh (cR wV);generalize bs [98,111,111,108]=W at *;generalize Lib.itoa a=it at *;clear hg hn;go_enter Tryz.func112,Tryz.ntmps112;go_wp2_with(go_at_call 106;refine HI.out.mono ?_;rintro e w1 ⟨rfl,k,os,rfl⟩;have hb3:=Lib.below_grow _ (w.alloc (.cells #[.int .i64 1,.int .i64 a,.string s,.string m,.slice an names.length cn] 171)) (Nat.le_refl _) k os;generalize Sort.grow (World.drewN (w.alloc (.cells #[.int .i64 1,.int .i64 a,.string s,.string m,.slice an names.length cn] 171)) k) os=w1 at hb3 ⊢);exact tK
theorem line_2(a:Int)(s m:ByteArray)(names:List ByteArray)(an:Option Addr)(cn:Nat)(N:Nat->Prop)(w:World)(hg:bV w)(ha0: -1<=a)(ha1:a<=1099511627776)(hs:s.size<=8000)(hm:m.size<=8000)(hn:aK 1 bM N w (.slice an names.length cn) names)(hl:names.length<=1000):
  bL ⟨2,a,s,m,names⟩ (.slice an names.length cn) w:=by
 unfold bL;dsimp only;have hb:=aA w (.cells #[.int .i64 2,.int .i64 a,.string s,.string m,.slice an names.length cn] 171);have hw:(w.alloc (.cells #[.int .i64 2,.int .i64 a,.string s,.string m,.slice an names.length cn] 171)).cell? ⟨0,2,none⟩=some (.string (bs [108,111,97,100])):=aC hb (hg.words 2 _ rfl);have hwl:=eX [108,111,97,100];have HI:=zh (Tryz.strconv_Itoa a vT vT (w.alloc (.cells #[.int .i64 2,.int .i64 a,.string s,.string m,.slice an names.length cn] 171)) (hg.later hb).pow10);have hil:=Lib.itoa_length_le a vT vT;have HF:Hid (((bs [108,111,97,100]++(⟨#[32]⟩++⟨(Lib.itoa a).toArray⟩))++⟨#[10]⟩:ByteArray)=bs (cV ⟨2,a,s,m,names⟩)):=zh (cR wV);generalize bs [108,111,97,100]=W at *;generalize Lib.itoa a=it at *;clear hg hn;go_enter Tryz.func112,Tryz.ntmps112;go_wp2_with(go_at_call 106;refine HI.out.mono ?_;rintro e w1 ⟨rfl,k,os,rfl⟩;have hb3:=Lib.below_grow _ (w.alloc (.cells #[.int .i64 2,.int .i64 a,.string s,.string m,.slice an names.length cn] 171)) (Nat.le_refl _) k os;generalize Sort.grow (World.drewN (w.alloc (.cells #[.int .i64 2,.int .i64 a,.string s,.string m,.slice an names.length cn] 171)) k) os=w1 at hb3 ⊢);exact tK
theorem line_3(a:Int)(s m:ByteArray)(names:List ByteArray)(an:Option Addr)(cn:Nat)(N:Nat->Prop)(w:World)(hg:bV w)(ha0: -1<=a)(ha1:a<=1099511627776)(hs:s.size<=8000)(hm:m.size<=8000)(hn:aK 1 bM N w (.slice an names.length cn) names)(hl:names.length<=1000):
  bL ⟨3,a,s,m,names⟩ (.slice an names.length cn) w:=by
 unfold bL;dsimp only;have hb:=aA w (.cells #[.int .i64 3,.int .i64 a,.string s,.string m,.slice an names.length cn] 171);have hw:(w.alloc (.cells #[.int .i64 3,.int .i64 a,.string s,.string m,.slice an names.length cn] 171)).cell? ⟨0,3,none⟩=some (.string (bs [115,116,111,114,101])):=aC hb (hg.words 3 _ rfl);have hwl:=eX [115,116,111,114,101];have HI:=zh (Tryz.strconv_Itoa a vT vT (w.alloc (.cells #[.int .i64 3,.int .i64 a,.string s,.string m,.slice an names.length cn] 171)) (hg.later hb).pow10);have hil:=Lib.itoa_length_le a vT vT;have HF:Hid (((bs [115,116,111,114,101]++(⟨#[32]⟩++⟨(Lib.itoa a).toArray⟩))++⟨#[10]⟩:ByteArray)=bs (cV ⟨3,a,s,m,names⟩)):=zh (cR wV);generalize bs [115,116,111,114,101]=W at *;generalize Lib.itoa a=it at *;clear hg hn;go_enter Tryz.func112,Tryz.ntmps112;go_wp2_with(go_at_call 106;refine HI.out.mono ?_;rintro e w1 ⟨rfl,k,os,rfl⟩;have hb3:=Lib.below_grow _ (w.alloc (.cells #[.int .i64 3,.int .i64 a,.string s,.string m,.slice an names.length cn] 171)) (Nat.le_refl _) k os;generalize Sort.grow (World.drewN (w.alloc (.cells #[.int .i64 3,.int .i64 a,.string s,.string m,.slice an names.length cn] 171)) k) os=w1 at hb3 ⊢);exact tK
theorem line_4(a:Int)(s m:ByteArray)(names:List ByteArray)(an:Option Addr)(cn:Nat)(N:Nat->Prop)(w:World)(hg:bV w)(ha0: -1<=a)(ha1:a<=1099511627776)(hs:s.size<=8000)(hm:m.size<=8000)(hn:aK 1 bM N w (.slice an names.length cn) names)(hl:names.length<=1000):
  bL ⟨4,a,s,m,names⟩ (.slice an names.length cn) w:=by
 unfold bL;dsimp only;have hb:=aA w (.cells #[.int .i64 4,.int .i64 a,.string s,.string m,.slice an names.length cn] 171);have hw:(w.alloc (.cells #[.int .i64 4,.int .i64 a,.string s,.string m,.slice an names.length cn] 171)).cell? ⟨0,4,none⟩=some (.string (bs [97,100,100])):=aC hb (hg.words 4 _ rfl);have hwl:=eX [97,100,100];have HF:Hid ((bs [97,100,100]++⟨#[10]⟩:ByteArray)=bs (cV ⟨4,a,s,m,names⟩)):=zh (cR wX);generalize bs [97,100,100]=W at *;exact sI
theorem line_5(a:Int)(s m:ByteArray)(names:List ByteArray)(an:Option Addr)(cn:Nat)(N:Nat->Prop)(w:World)(hg:bV w)(ha0: -1<=a)(ha1:a<=1099511627776)(hs:s.size<=8000)(hm:m.size<=8000)(hn:aK 1 bM N w (.slice an names.length cn) names)(hl:names.length<=1000):
  bL ⟨5,a,s,m,names⟩ (.slice an names.length cn) w:=by
 unfold bL;dsimp only;have hb:=aA w (.cells #[.int .i64 5,.int .i64 a,.string s,.string m,.slice an names.length cn] 171);have hw:(w.alloc (.cells #[.int .i64 5,.int .i64 a,.string s,.string m,.slice an names.length cn] 171)).cell? ⟨0,5,none⟩=some (.string (bs [115,117,98])):=aC hb (hg.words 5 _ rfl);have hwl:=eX [115,117,98];have HF:Hid ((bs [115,117,98]++⟨#[10]⟩:ByteArray)=bs (cV ⟨5,a,s,m,names⟩)):=zh (cR wX);generalize bs [115,117,98]=W at *;exact sI
theorem line_6(a:Int)(s m:ByteArray)(names:List ByteArray)(an:Option Addr)(cn:Nat)(N:Nat->Prop)(w:World)(hg:bV w)(ha0: -1<=a)(ha1:a<=1099511627776)(hs:s.size<=8000)(hm:m.size<=8000)(hn:aK 1 bM N w (.slice an names.length cn) names)(hl:names.length<=1000):
  bL ⟨6,a,s,m,names⟩ (.slice an names.length cn) w:=by
 unfold bL;dsimp only;have hb:=aA w (.cells #[.int .i64 6,.int .i64 a,.string s,.string m,.slice an names.length cn] 171);have hw:(w.alloc (.cells #[.int .i64 6,.int .i64 a,.string s,.string m,.slice an names.length cn] 171)).cell? ⟨0,6,none⟩=some (.string (bs [109,117,108])):=aC hb (hg.words 6 _ rfl);have hwl:=eX [109,117,108];have HF:Hid ((bs [109,117,108]++⟨#[10]⟩:ByteArray)=bs (cV ⟨6,a,s,m,names⟩)):=zh (cR wX);generalize bs [109,117,108]=W at *;exact sI
theorem line_7(a:Int)(s m:ByteArray)(names:List ByteArray)(an:Option Addr)(cn:Nat)(N:Nat->Prop)(w:World)(hg:bV w)(ha0: -1<=a)(ha1:a<=1099511627776)(hs:s.size<=8000)(hm:m.size<=8000)(hn:aK 1 bM N w (.slice an names.length cn) names)(hl:names.length<=1000):
  bL ⟨7,a,s,m,names⟩ (.slice an names.length cn) w:=by
 unfold bL;dsimp only;have hb:=aA w (.cells #[.int .i64 7,.int .i64 a,.string s,.string m,.slice an names.length cn] 171);have hw:(w.alloc (.cells #[.int .i64 7,.int .i64 a,.string s,.string m,.slice an names.length cn] 171)).cell? ⟨0,7,none⟩=some (.string (bs [108,101,115,115])):=aC hb (hg.words 7 _ rfl);have hwl:=eX [108,101,115,115];have HF:Hid ((bs [108,101,115,115]++⟨#[10]⟩:ByteArray)=bs (cV ⟨7,a,s,m,names⟩)):=zh (cR wX);generalize bs [108,101,115,115]=W at *;exact sI
theorem line_8(a:Int)(s m:ByteArray)(names:List ByteArray)(an:Option Addr)(cn:Nat)(N:Nat->Prop)(w:World)(hg:bV w)(ha0: -1<=a)(ha1:a<=1099511627776)(hs:s.size<=8000)(hm:m.size<=8000)(hn:aK 1 bM N w (.slice an names.length cn) names)(hl:names.length<=1000):
  bL ⟨8,a,s,m,names⟩ (.slice an names.length cn) w:=by
 unfold bL;dsimp only;have hb:=aA w (.cells #[.int .i64 8,.int .i64 a,.string s,.string m,.slice an names.length cn] 171);have hw:(w.alloc (.cells #[.int .i64 8,.int .i64 a,.string s,.string m,.slice an names.length cn] 171)).cell? ⟨0,8,none⟩=some (.string (bs [101,113])):=aC hb (hg.words 8 _ rfl);have hwl:=eX [101,113];have HF:Hid ((bs [101,113]++⟨#[10]⟩:ByteArray)=bs (cV ⟨8,a,s,m,names⟩)):=zh (cR wX);generalize bs [101,113]=W at *;exact sI
theorem line_9(a:Int)(s m:ByteArray)(names:List ByteArray)(an:Option Addr)(cn:Nat)(N:Nat->Prop)(w:World)(hg:bV w)(ha0: -1<=a)(ha1:a<=1099511627776)(hs:s.size<=8000)(hm:m.size<=8000)(hn:aK 1 bM N w (.slice an names.length cn) names)(hl:names.length<=1000):
  bL ⟨9,a,s,m,names⟩ (.slice an names.length cn) w:=by
 unfold bL;dsimp only;have hb:=aA w (.cells #[.int .i64 9,.int .i64 a,.string s,.string m,.slice an names.length cn] 171);have hw:(w.alloc (.cells #[.int .i64 9,.int .i64 a,.string s,.string m,.slice an names.length cn] 171)).cell? ⟨0,9,none⟩=some (.string (bs [110,111,116])):=aC hb (hg.words 9 _ rfl);have hwl:=eX [110,111,116];have HF:Hid ((bs [110,111,116]++⟨#[10]⟩:ByteArray)=bs (cV ⟨9,a,s,m,names⟩)):=zh (cR wX);generalize bs [110,111,116]=W at *;exact sI
theorem line_10(a:Int)(s m:ByteArray)(names:List ByteArray)(an:Option Addr)(cn:Nat)(N:Nat->Prop)(w:World)(hg:bV w)(ha0: -1<=a)(ha1:a<=1099511627776)(hs:s.size<=8000)(hm:m.size<=8000)(hn:aK 1 bM N w (.slice an names.length cn) names)(hl:names.length<=1000):
  bL ⟨10,a,s,m,names⟩ (.slice an names.length cn) w:=by
 unfold bL;dsimp only;have hb:=aA w (.cells #[.int .i64 10,.int .i64 a,.string s,.string m,.slice an names.length cn] 171);have hw:(w.alloc (.cells #[.int .i64 10,.int .i64 a,.string s,.string m,.slice an names.length cn] 171)).cell? ⟨0,10,none⟩=some (.string (bs [106,117,109,112])):=aC hb (hg.words 10 _ rfl);have hwl:=eX [106,117,109,112];have HI:=zh (Tryz.strconv_Itoa a vT vT (w.alloc (.cells #[.int .i64 10,.int .i64 a,.string s,.string m,.slice an names.length cn] 171)) (hg.later hb).pow10);have hil:=Lib.itoa_length_le a vT vT;have HF:Hid (((bs [106,117,109,112]++(⟨#[32]⟩++⟨(Lib.itoa a).toArray⟩))++⟨#[10]⟩:ByteArray)=bs (cV ⟨10,a,s,m,names⟩)):=zh (cR wV);generalize bs [106,117,109,112]=W at *;generalize Lib.itoa a=it at *;clear hg hn;go_enter Tryz.func112,Tryz.ntmps112;go_wp2_with(go_at_call 106;refine HI.out.mono ?_;rintro e w1 ⟨rfl,k,os,rfl⟩;have hb3:=Lib.below_grow _ (w.alloc (.cells #[.int .i64 10,.int .i64 a,.string s,.string m,.slice an names.length cn] 171)) (Nat.le_refl _) k os;generalize Sort.grow (World.drewN (w.alloc (.cells #[.int .i64 10,.int .i64 a,.string s,.string m,.slice an names.length cn] 171)) k) os=w1 at hb3 ⊢);exact tK
theorem line_11(a:Int)(s m:ByteArray)(names:List ByteArray)(an:Option Addr)(cn:Nat)(N:Nat->Prop)(w:World)(hg:bV w)(ha0: -1<=a)(ha1:a<=1099511627776)(hs:s.size<=8000)(hm:m.size<=8000)(hn:aK 1 bM N w (.slice an names.length cn) names)(hl:names.length<=1000):
  bL ⟨11,a,s,m,names⟩ (.slice an names.length cn) w:=by
 unfold bL;dsimp only;have hb:=aA w (.cells #[.int .i64 11,.int .i64 a,.string s,.string m,.slice an names.length cn] 171);have hw:(w.alloc (.cells #[.int .i64 11,.int .i64 a,.string s,.string m,.slice an names.length cn] 171)).cell? ⟨0,11,none⟩=some (.string (bs [102,97,108,115,101])):=aC hb (hg.words 11 _ rfl);have hwl:=eX [102,97,108,115,101];have HI:=zh (Tryz.strconv_Itoa a vT vT (w.alloc (.cells #[.int .i64 11,.int .i64 a,.string s,.string m,.slice an names.length cn] 171)) (hg.later hb).pow10);have hil:=Lib.itoa_length_le a vT vT;have HF:Hid (((bs [102,97,108,115,101]++(⟨#[32]⟩++⟨(Lib.itoa a).toArray⟩))++⟨#[10]⟩:ByteArray)=bs (cV ⟨11,a,s,m,names⟩)):=zh (cR wV);generalize bs [102,97,108,115,101]=W at *;generalize Lib.itoa a=it at *;clear hg hn;go_enter Tryz.func112,Tryz.ntmps112;go_wp2_with(go_at_call 106;refine HI.out.mono ?_;rintro e w1 ⟨rfl,k,os,rfl⟩;have hb3:=Lib.below_grow _ (w.alloc (.cells #[.int .i64 11,.int .i64 a,.string s,.string m,.slice an names.length cn] 171)) (Nat.le_refl _) k os;generalize Sort.grow (World.drewN (w.alloc (.cells #[.int .i64 11,.int .i64 a,.string s,.string m,.slice an names.length cn] 171)) k) os=w1 at hb3 ⊢);exact tK
theorem line_12(a:Int)(s m:ByteArray)(names:List ByteArray)(an:Option Addr)(cn:Nat)(N:Nat->Prop)(w:World)(hg:bV w)(ha0: -1<=a)(ha1:a<=1099511627776)(hs:s.size<=8000)(hm:m.size<=8000)(hn:aK 1 bM N w (.slice an names.length cn) names)(hl:names.length<=1000):
  bL ⟨12,a,s,m,names⟩ (.slice an names.length cn) w:=by
 unfold bL;dsimp only;have hb:=aA w (.cells #[.int .i64 12,.int .i64 a,.string s,.string m,.slice an names.length cn] 171);have hw:(w.alloc (.cells #[.int .i64 12,.int .i64 a,.string s,.string m,.slice an names.length cn] 171)).cell? ⟨0,12,none⟩=some (.string (bs [114,101,99])):=aC hb (hg.words 12 _ rfl);have hwl:=eX [114,101,99];have HG:=zh (fun(q:Nat)(x:ByteArray)(hx:names[q]? =some x)=>(show(bs ([114,101,99]++(names.take (q+1)).flatMap (fun x=>[32]++x.data.toList)):ByteArray)=bs ([114,101,99]++(names.take q).flatMap (fun x=>[32]++x.data.toList))++(⟨#[32]⟩++x) from cR (by rw[List.take_add_one,hx];simp[app_data,mk_data,bs_data])));have HF:Hid ((bs ([114,101,99]++names.flatMap (fun x=>[32]++x.data.toList))++⟨#[10]⟩:ByteArray)=bs (cV ⟨12,a,s,m,names⟩)):=zh (cR wX)
 have HS:Hid (∀q,(bs ([114,101,99]++(names.take q).flatMap (fun x=>[32]++x.data.toList))).size<=3+q*140737488355329):=zh (fun q=>by
  rw[eX,List.length_append]
  have:∀(l:List ByteArray),(∀x∈l,x.size<=140737488355328)->(l.flatMap (fun x=>[32]++x.data.toList)).length<=l.length*140737488355329:=by
   intro l hl
   induction l with
   |nil=>simp
   |cons x l ih=>
    have h1:=ih (fun y hy=>hl y (by simp[hy]));have h2:=hl x vZ;rw[List.flatMap_cons,List.length_append,List.length_cons,Nat.succ_mul];(have h3:([32]++x.data.toList).length=x.size+1:=by simp[Nat.add_comm]);omega
  have h4:=this (names.take q) (fun x hx=>mP hn.strs (List.mem_of_mem_take hx));have h5:(names.take q).length*140737488355329<=q*140737488355329:=Nat.mul_le_mul_right _ (by rw[List.length_take];omega);simp only[List.length_cons,List.length_nil]
  omega)
 obtain⟨a9,c9,e9,hl1,hl2,hca⟩:=hn.at;cases e9;have HC:=zh hca;have hx5:=(bx5 (heap_alloc_new w (.cells #[.int .i64 12,.int .i64 a,.string s,.string m,.slice an names.length cn] 171))).1;clear hg hn hca;go_enter Tryz.func112,Tryz.ntmps112;go_wp2_with fail;go_loop [3,50] (fun sv iv=>∃q:Nat,q<=names.length/\iv=.int .i64 (q:Int)/\sv=.string (bs ([114,101,99]++(names.take q).flatMap (fun x=>[32]++x.data.toList)))) (fun _ iv=>names.length-(intOf iv).toNat)
 case atStart=>exact⟨0,Nat.zero_le _,rfl,rfl⟩
 case round=>
  obtain⟨q,hq,rfl,rfl⟩:=hrel;by_cases hlt:q<names.length
  ·obtain⟨x,hx,-⟩:=getElem?_of_lt hlt;obtain⟨b,o,rfl,-,cs,⟨rfl,hzx⟩,-,hj⟩:=HC.out q x hx;have p0:w.cell? ⟨b,o+q,none⟩=some (.string x):=zH;have hp:=aC hb p0;have hG:=HG.out q x hx;have hSz:=HS.out q;have HGq:=zh hG;have hmul:q*140737488355329<=1000*140737488355329:=Nat.mul_le_mul_right _ vT;clear hj hx hG;generalize bs ([114,101,99]++(names.take q).flatMap (fun x=>[32]++x.data.toList))=acc at *;go_wp2_with fail
   go_round
   (case rel=>exact⟨q+1,vT,wH,by rw[HGq.out]⟩);case measure=>simp[intOf];omega
  ·have hq':names.take q=names:=List.take_of_length_le vT;have hSz:=HS.out q;have hmul:q*140737488355329<=1000*140737488355329:=Nat.mul_le_mul_right _ vT;rw[hq'] at hSz ⊢;generalize bs ([114,101,99]++names.flatMap (fun x=>[32]++x.data.toList))=acc at *;go_wp2_with fail;go_ret;exact⟨eQ HF.out,hb⟩
theorem line_13(a:Int)(s m:ByteArray)(names:List ByteArray)(an:Option Addr)(cn:Nat)(N:Nat->Prop)(w:World)(hg:bV w)(ha0: -1<=a)(ha1:a<=1099511627776)(hs:s.size<=8000)(hm:m.size<=8000)(hn:aK 1 bM N w (.slice an names.length cn) names)(hl:names.length<=1000):
  bL ⟨13,a,s,m,names⟩ (.slice an names.length cn) w:=by
 unfold bL;dsimp only;have hb:=aA w (.cells #[.int .i64 13,.int .i64 a,.string s,.string m,.slice an names.length cn] 171);have hw:(w.alloc (.cells #[.int .i64 13,.int .i64 a,.string s,.string m,.slice an names.length cn] 171)).cell? ⟨0,13,none⟩=some (.string (bs [102,105,101,108,100])):=aC hb (hg.words 13 _ rfl);have hwl:=eX [102,105,101,108,100];have HF:Hid (((bs [102,105,101,108,100]++(⟨#[32]⟩++s))++⟨#[10]⟩:ByteArray)=bs (cV ⟨13,a,s,m,names⟩)):=zh (cR wX);generalize bs [102,105,101,108,100]=W at *;exact sI
theorem line_14(a:Int)(s m:ByteArray)(names:List ByteArray)(an:Option Addr)(cn:Nat)(N:Nat->Prop)(w:World)(hg:bV w)(ha0: -1<=a)(ha1:a<=1099511627776)(hs:s.size<=8000)(hm:m.size<=8000)(hn:aK 1 bM N w (.slice an names.length cn) names)(hl:names.length<=1000):
  bL ⟨14,a,s,m,names⟩ (.slice an names.length cn) w:=by
 unfold bL;dsimp only;have hb:=aA w (.cells #[.int .i64 14,.int .i64 a,.string s,.string m,.slice an names.length cn] 171);have hw:(w.alloc (.cells #[.int .i64 14,.int .i64 a,.string s,.string m,.slice an names.length cn] 171)).cell? ⟨0,14,none⟩=some (.string (bs [99,97,108,108])):=aC hb (hg.words 14 _ rfl);have hwl:=eX [99,97,108,108];have HI:=zh (fun W(h:Below (w.alloc (.cells #[.int .i64 14,.int .i64 a,.string s,.string m,.slice an names.length cn] 171)).heap.size (w.alloc (.cells #[.int .i64 14,.int .i64 a,.string s,.string m,.slice an names.length cn] 171)) W)=>Tryz.strconv_Itoa a vT vT W (hg.later (aB hb h)).pow10);have hil:=Lib.itoa_length_le a vT vT;have HBX:=zh (heap_alloc_new w (.cells #[.int .i64 14,.int .i64 a,.string s,.string m,.slice an names.length cn] 171));have hx5:=(bx5 HBX.out).1;clear hg hn;by_cases hm0:m=noB
 ·subst hm0;have HF:Hid ((bs [99,97,108,108]++(((((⟨#[32]⟩++⟨#[46]⟩)++⟨#[32]⟩)++s)++⟨#[32]⟩)++⟨(Lib.itoa a).toArray⟩))++⟨#[10]⟩=bs (cV ⟨14,a,s,noB,names⟩)):=zh (cR wV);generalize bs [99,97,108,108]=W at *;generalize Lib.itoa a=it at *;go_enter Tryz.func112,Tryz.ntmps112;go_wp2_with fail;refine wp_region_held_drew (S:=fun W=>Below (w.alloc (.cells #[.int .i64 14,.int .i64 a,.string s,.string noB,.slice an names.length cn] 171)).heap.size (w.alloc (.cells #[.int .i64 14,.int .i64 a,.string s,.string noB,.slice an names.length cn] 171)) W) vU (aF _) fun hS=>?_;refine zt 0 (.string W) rfl (fun W hW=>wT) hS ?_;try simp only[zn]
  refine zt 1 (.string ⟨#[46]⟩) rfl (fun W hW=>wT) hS ?_;try simp only[zn]
  refine zt 2 (.string (⟨#[32]⟩++⟨#[46]⟩)) rfl (fun W hW=>wT) hS ?_;try simp only[zn]
  refine zt 3 (.string ((⟨#[32]⟩++⟨#[46]⟩)++⟨#[32]⟩)) rfl (fun W hW=>wT) hS ?_;try simp only[zn]
  refine zt 4 (.pointer (some ⟨w.heap.size,2,none⟩)) rfl (fun W hW=>wT) hS ?_;try simp only[zn]
  refine zt 5 (.string s) rfl (fun W hW=>xN) hS ?_;try simp only[zn]
  refine zt 6 (.string (((⟨#[32]⟩++⟨#[46]⟩)++⟨#[32]⟩)++s)) rfl (fun W hW=>wT) hS ?_;try simp only[zn]
  refine zt 7 (.string ((((⟨#[32]⟩++⟨#[46]⟩)++⟨#[32]⟩)++s)++⟨#[32]⟩)) rfl (fun W hW=>wT) hS ?_;try simp only[zn]
  refine zt 8 (.pointer (some ⟨w.heap.size,1,none⟩)) rfl (fun W hW=>wT) hS ?_;try simp only[zn]
  refine zt 9 (.int .i64 a) rfl (fun W hW=>xN) hS ?_;try simp only[zn]
  refine zr 10 rfl (fun K hK=>?_);try simp only[z1,z2,z3]
  go_simp;refine(HI.out (w.alloc (.cells #[.int .i64 14,.int .i64 a,.string s,.string noB,.slice an names.length cn] 171)).drew (aF _)).mono ?_;rintro e w1 ⟨rfl,k,os,rfl⟩;have hb3:=aB (aF (w.alloc (.cells #[.int .i64 14,.int .i64 a,.string s,.string noB,.slice an names.length cn] 171))) (Lib.below_grow _ (w.alloc (.cells #[.int .i64 14,.int .i64 a,.string s,.string noB,.slice an names.length cn] 171)).drew (Nat.le_refl _) k os);generalize Sort.grow (World.drewN (w.alloc (.cells #[.int .i64 14,.int .i64 a,.string s,.string noB,.slice an names.length cn] 171)).drew k) os=w1 at hb3 ⊢;refine hK.out _ _ hb3 (fun hS=>?_);clear hK K;try simp only[zn]
  refine zt 11 (.string (((((⟨#[32]⟩++⟨#[46]⟩)++⟨#[32]⟩)++s)++⟨#[32]⟩)++⟨it.toArray⟩)) rfl (fun W hW=>wT) hS ?_;try simp only[zn]
  refine zt 12 (.string (W++(((((⟨#[32]⟩++⟨#[46]⟩)++⟨#[32]⟩)++s)++⟨#[32]⟩)++⟨it.toArray⟩))) rfl (fun W hW=>wT) hS ?_;try simp only[zn]
  refine zt 13 (.string (W++(((((⟨#[32]⟩++⟨#[46]⟩)++⟨#[32]⟩)++s)++⟨#[32]⟩)++⟨it.toArray⟩))) rfl (fun W hW=>wT) hS ?_;try simp only[zn]
  refine wpAnyH_done vU ?_ _;clear hS;go_wp2_with fail;exact tK
 ·have hm1:(m.toList==[])=false:=wA;have HF:Hid ((bs [99,97,108,108]++(((((⟨#[32]⟩++m)++⟨#[32]⟩)++s)++⟨#[32]⟩)++⟨(Lib.itoa a).toArray⟩))++⟨#[10]⟩=bs (cV ⟨14,a,s,m,names⟩)):=zh (cR (by simp[app_data,mk_data,bs_data,cV,eV,mC,hm0]));generalize bs [99,97,108,108]=W at *;generalize Lib.itoa a=it at *;clear hm0;go_enter Tryz.func112,Tryz.ntmps112;go_wp2_with fail;refine wp_region_held_drew (S:=fun W=>Below (w.alloc (.cells #[.int .i64 14,.int .i64 a,.string s,.string m,.slice an names.length cn] 171)).heap.size (w.alloc (.cells #[.int .i64 14,.int .i64 a,.string s,.string m,.slice an names.length cn] 171)) W) vU (aF _) fun hS=>?_;refine zt 0 (.string W) rfl (fun W hW=>wT) hS ?_;try simp only[zn]
  refine zt 1 (.string m) rfl (fun W hW=>wT) hS ?_;try simp only[zn]
  refine zt 2 (.string (⟨#[32]⟩++m)) rfl (fun W hW=>wT) hS ?_;try simp only[zn]
  refine zt 3 (.string ((⟨#[32]⟩++m)++⟨#[32]⟩)) rfl (fun W hW=>wT) hS ?_;try simp only[zn]
  refine zt 4 (.pointer (some ⟨w.heap.size,2,none⟩)) rfl (fun W hW=>wT) hS ?_;try simp only[zn]
  refine zt 5 (.string s) rfl (fun W hW=>xN) hS ?_;try simp only[zn]
  refine zt 6 (.string (((⟨#[32]⟩++m)++⟨#[32]⟩)++s)) rfl (fun W hW=>wT) hS ?_;try simp only[zn]
  refine zt 7 (.string ((((⟨#[32]⟩++m)++⟨#[32]⟩)++s)++⟨#[32]⟩)) rfl (fun W hW=>wT) hS ?_;try simp only[zn]
  refine zt 8 (.pointer (some ⟨w.heap.size,1,none⟩)) rfl (fun W hW=>wT) hS ?_;try simp only[zn]
  refine zt 9 (.int .i64 a) rfl (fun W hW=>xN) hS ?_;try simp only[zn]
  refine zr 10 rfl (fun K hK=>?_);try simp only[z1,z2,z3]
  go_simp;refine(HI.out (w.alloc (.cells #[.int .i64 14,.int .i64 a,.string s,.string m,.slice an names.length cn] 171)).drew (aF _)).mono ?_;rintro e w1 ⟨rfl,k,os,rfl⟩;have hb3:=aB (aF (w.alloc (.cells #[.int .i64 14,.int .i64 a,.string s,.string m,.slice an names.length cn] 171))) (Lib.below_grow _ (w.alloc (.cells #[.int .i64 14,.int .i64 a,.string s,.string m,.slice an names.length cn] 171)).drew (Nat.le_refl _) k os);generalize Sort.grow (World.drewN (w.alloc (.cells #[.int .i64 14,.int .i64 a,.string s,.string m,.slice an names.length cn] 171)).drew k) os=w1 at hb3 ⊢;refine hK.out _ _ hb3 (fun hS=>?_);clear hK K;try simp only[zn]
  refine zt 11 (.string (((((⟨#[32]⟩++m)++⟨#[32]⟩)++s)++⟨#[32]⟩)++⟨it.toArray⟩)) rfl (fun W hW=>wT) hS ?_;try simp only[zn]
  refine zt 12 (.string (W++(((((⟨#[32]⟩++m)++⟨#[32]⟩)++s)++⟨#[32]⟩)++⟨it.toArray⟩))) rfl (fun W hW=>wT) hS ?_;try simp only[zn]
  refine zt 13 (.string (W++(((((⟨#[32]⟩++m)++⟨#[32]⟩)++s)++⟨#[32]⟩)++⟨it.toArray⟩))) rfl (fun W hW=>wT) hS ?_;try simp only[zn]
  refine wpAnyH_done vU ?_ _;clear hS;go_wp2_with fail;exact tK
theorem line_15(a:Int)(s m:ByteArray)(names:List ByteArray)(an:Option Addr)(cn:Nat)(N:Nat->Prop)(w:World)(hg:bV w)(ha0: -1<=a)(ha1:a<=1099511627776)(hs:s.size<=8000)(hm:m.size<=8000)(hn:aK 1 bM N w (.slice an names.length cn) names)(hl:names.length<=1000):
  bL ⟨15,a,s,m,names⟩ (.slice an names.length cn) w:=by
 unfold bL;dsimp only;have hb:=aA w (.cells #[.int .i64 15,.int .i64 a,.string s,.string m,.slice an names.length cn] 171);have hw:(w.alloc (.cells #[.int .i64 15,.int .i64 a,.string s,.string m,.slice an names.length cn] 171)).cell? ⟨0,15,none⟩=some (.string (bs [97,99,116])):=aC hb (hg.words 15 _ rfl);have hwl:=eX [97,99,116];have HI:=zh (Tryz.strconv_Itoa a vT vT (w.alloc (.cells #[.int .i64 15,.int .i64 a,.string s,.string m,.slice an names.length cn] 171)) (hg.later hb).pow10);have hil:=Lib.itoa_length_le a vT vT;have HF:Hid (((bs [97,99,116]++(⟨#[32]⟩++⟨(Lib.itoa a).toArray⟩))++⟨#[10]⟩:ByteArray)=bs (cV ⟨15,a,s,m,names⟩)):=zh (cR wV);generalize bs [97,99,116]=W at *;generalize Lib.itoa a=it at *;clear hg hn;go_enter Tryz.func112,Tryz.ntmps112;go_wp2_with(go_at_call 106;refine HI.out.mono ?_;rintro e w1 ⟨rfl,k,os,rfl⟩;have hb3:=Lib.below_grow _ (w.alloc (.cells #[.int .i64 15,.int .i64 a,.string s,.string m,.slice an names.length cn] 171)) (Nat.le_refl _) k os;generalize Sort.grow (World.drewN (w.alloc (.cells #[.int .i64 15,.int .i64 a,.string s,.string m,.slice an names.length cn] 171)) k) os=w1 at hb3 ⊢);exact tK
theorem line_16(a:Int)(s m:ByteArray)(names:List ByteArray)(an:Option Addr)(cn:Nat)(N:Nat->Prop)(w:World)(hg:bV w)(ha0: -1<=a)(ha1:a<=1099511627776)(hs:s.size<=8000)(hm:m.size<=8000)(hn:aK 1 bM N w (.slice an names.length cn) names)(hl:names.length<=1000):
  bL ⟨16,a,s,m,names⟩ (.slice an names.length cn) w:=by
 unfold bL;dsimp only;have hb:=aA w (.cells #[.int .i64 16,.int .i64 a,.string s,.string m,.slice an names.length cn] 171);have hw:(w.alloc (.cells #[.int .i64 16,.int .i64 a,.string s,.string m,.slice an names.length cn] 171)).cell? ⟨0,16,none⟩=some (.string (bs [103,101,116])):=aC hb (hg.words 16 _ rfl);have hwl:=eX [103,101,116];have HI:=zh (Tryz.strconv_Itoa a vT vT (w.alloc (.cells #[.int .i64 16,.int .i64 a,.string s,.string m,.slice an names.length cn] 171)) (hg.later hb).pow10);have hil:=Lib.itoa_length_le a vT vT;have HF:Hid (((bs [103,101,116]++(⟨#[32]⟩++⟨(Lib.itoa a).toArray⟩))++⟨#[10]⟩:ByteArray)=bs (cV ⟨16,a,s,m,names⟩)):=zh (cR wV);generalize bs [103,101,116]=W at *;generalize Lib.itoa a=it at *;clear hg hn;go_enter Tryz.func112,Tryz.ntmps112;go_wp2_with(go_at_call 106;refine HI.out.mono ?_;rintro e w1 ⟨rfl,k,os,rfl⟩;have hb3:=Lib.below_grow _ (w.alloc (.cells #[.int .i64 16,.int .i64 a,.string s,.string m,.slice an names.length cn] 171)) (Nat.le_refl _) k os;generalize Sort.grow (World.drewN (w.alloc (.cells #[.int .i64 16,.int .i64 a,.string s,.string m,.slice an names.length cn] 171)) k) os=w1 at hb3 ⊢);exact tK
theorem line_17(a:Int)(s m:ByteArray)(names:List ByteArray)(an:Option Addr)(cn:Nat)(N:Nat->Prop)(w:World)(hg:bV w)(ha0: -1<=a)(ha1:a<=1099511627776)(hs:s.size<=8000)(hm:m.size<=8000)(hn:aK 1 bM N w (.slice an names.length cn) names)(hl:names.length<=1000):
  bL ⟨17,a,s,m,names⟩ (.slice an names.length cn) w:=by
 unfold bL;dsimp only;have hb:=aA w (.cells #[.int .i64 17,.int .i64 a,.string s,.string m,.slice an names.length cn] 171);have hw:(w.alloc (.cells #[.int .i64 17,.int .i64 a,.string s,.string m,.slice an names.length cn] 171)).cell? ⟨0,17,none⟩=some (.string (bs [115,101,116])):=aC hb (hg.words 17 _ rfl);have hwl:=eX [115,101,116];have HI:=zh (Tryz.strconv_Itoa a vT vT (w.alloc (.cells #[.int .i64 17,.int .i64 a,.string s,.string m,.slice an names.length cn] 171)) (hg.later hb).pow10);have hil:=Lib.itoa_length_le a vT vT;have HF:Hid (((bs [115,101,116]++(⟨#[32]⟩++⟨(Lib.itoa a).toArray⟩))++⟨#[10]⟩:ByteArray)=bs (cV ⟨17,a,s,m,names⟩)):=zh (cR wV);generalize bs [115,101,116]=W at *;generalize Lib.itoa a=it at *;clear hg hn;go_enter Tryz.func112,Tryz.ntmps112;go_wp2_with(go_at_call 106;refine HI.out.mono ?_;rintro e w1 ⟨rfl,k,os,rfl⟩;have hb3:=Lib.below_grow _ (w.alloc (.cells #[.int .i64 17,.int .i64 a,.string s,.string m,.slice an names.length cn] 171)) (Nat.le_refl _) k os;generalize Sort.grow (World.drewN (w.alloc (.cells #[.int .i64 17,.int .i64 a,.string s,.string m,.slice an names.length cn] 171)) k) os=w1 at hb3 ⊢);exact tK
theorem line_18(a:Int)(s m:ByteArray)(names:List ByteArray)(an:Option Addr)(cn:Nat)(N:Nat->Prop)(w:World)(hg:bV w)(ha0: -1<=a)(ha1:a<=1099511627776)(hs:s.size<=8000)(hm:m.size<=8000)(hn:aK 1 bM N w (.slice an names.length cn) names)(hl:names.length<=1000):
  bL ⟨18,a,s,m,names⟩ (.slice an names.length cn) w:=by
 unfold bL;dsimp only;have hb:=aA w (.cells #[.int .i64 18,.int .i64 a,.string s,.string m,.slice an names.length cn] 171);have hw:(w.alloc (.cells #[.int .i64 18,.int .i64 a,.string s,.string m,.slice an names.length cn] 171)).cell? ⟨0,18,none⟩=some (.string (bs [114,101,116,117,114,110])):=aC hb (hg.words 18 _ rfl);have hwl:=eX [114,101,116,117,114,110];have HF:Hid ((bs [114,101,116,117,114,110]++⟨#[10]⟩:ByteArray)=bs (cV ⟨18,a,s,m,names⟩)):=zh (cR wX);generalize bs [114,101,116,117,114,110]=W at *;exact sI
theorem line_19(a:Int)(s m:ByteArray)(names:List ByteArray)(an:Option Addr)(cn:Nat)(N:Nat->Prop)(w:World)(hg:bV w)(ha0: -1<=a)(ha1:a<=1099511627776)(hs:s.size<=8000)(hm:m.size<=8000)(hn:aK 1 bM N w (.slice an names.length cn) names)(hl:names.length<=1000):
  bL ⟨19,a,s,m,names⟩ (.slice an names.length cn) w:=by
 unfold bL;dsimp only;have hb:=aA w (.cells #[.int .i64 19,.int .i64 a,.string s,.string m,.slice an names.length cn] 171);have hw:(w.alloc (.cells #[.int .i64 19,.int .i64 a,.string s,.string m,.slice an names.length cn] 171)).cell? ⟨0,19,none⟩=some (.string (bs [112,111,112])):=aC hb (hg.words 19 _ rfl);have hwl:=eX [112,111,112];have HF:Hid ((bs [112,111,112]++⟨#[10]⟩:ByteArray)=bs (cV ⟨19,a,s,m,names⟩)):=zh (cR wX);generalize bs [112,111,112]=W at *;exact sI
set_option maxHeartbeats 4000000
theorem rK{p:Prop}(h:p:=by
 go_enter Tryz.func193,Tryz.ntmps193;go_wp2_with fail;go_quiet(fail)
 go_wp2_with(go_at_call 147;refine(HS.out _ (aJ (aB (aA _ _) (aA _ _)) _)).mono ?_;rintro e w2 ⟨rfl,rfl⟩);go_ret
 exact⟨aE wI,aJ (aB (aA _ _) (aA _ _)) _⟩):p:=h
theorem formed_0(c:Cod)(a:Int)(s m:ByteArray)(names:List ByteArray)(ac:Option Addr)(cc:Nat)(an:Option Addr)(cn:Nat)(N:Nat->Prop)(w:World)(hg:bV w)(hs:s.size<=8000)(hm:m.size<=8000)(hn:aK 1 bM N w (.slice an names.length cn) names):
  aW c ⟨0,a,s,m,names⟩ (.slice ac c.code.length cc) (.slice an names.length cn) w:=by
 unfold aW;dsimp only;have HR:Hid (bN c ⟨0,a,s,m,names⟩=(decide (s=noB)&&decide (m=noB)&&decide (names.length=0))):=zh rfl;have HBB:=aB (aA w (.cells #[.string c.name,.int .i64 (c.params:Int),.int .i64 (c.locals:Int),.slice ac c.code.length cc] 168)) (aA _ (.cells #[.int .i64 0,.int .i64 a,.string s,.string m,.slice an names.length cn] 171));clear hg hn;by_cases hs0:s=noB
 focus
  subst hs0;simp only[decide_true,Bool.true_and,Bool.and_true] at HR;by_cases hm0:m=noB
  focus
   subst hm0;simp only[decide_true,Bool.true_and,Bool.and_true] at HR;by_cases hl0:names.length=0
   focus
    rw[decide_eq_true hl0] at HR;rw[hl0]
   rotate_right
   focus
    have hl1:((names.length:Int)==0)=false:=wC;rw[decide_eq_false hl0] at HR
  rotate_right
  focus
   have hm1:(m.toList==[])=false:=wA;rw[decide_eq_false hm0] at HR
 rotate_right
 focus
  have hs1:(s.toList==[])=false:=wD;rw[decide_eq_false hs0] at HR
 all_goals
  go_enter Tryz.func193,Tryz.ntmps193;go_wp2_with fail;go_quiet(fail)
  go_wp2_with fail;go_ret;exact⟨aE wI,aJ (aB (aA _ _) (aA _ _)) _⟩
theorem formed_1(c:Cod)(a:Int)(s m:ByteArray)(names:List ByteArray)(ac:Option Addr)(cc:Nat)(an:Option Addr)(cn:Nat)(N:Nat->Prop)(w:World)(hg:bV w)(hs:s.size<=8000)(hm:m.size<=8000)(hn:aK 1 bM N w (.slice an names.length cn) names):
  aW c ⟨1,a,s,m,names⟩ (.slice ac c.code.length cc) (.slice an names.length cn) w:=by
 unfold aW;dsimp only;have HR:Hid (bN c ⟨1,a,s,m,names⟩=((decide (a=0)||decide (a=1))&&decide (s=noB)&&decide (m=noB)&&decide (names.length=0))):=zh rfl;have HBB:=aB (aA w (.cells #[.string c.name,.int .i64 (c.params:Int),.int .i64 (c.locals:Int),.slice ac c.code.length cc] 168)) (aA _ (.cells #[.int .i64 1,.int .i64 a,.string s,.string m,.slice an names.length cn] 171));clear hg hn;by_cases h0:a=0
 focus
  subst h0;simp only[decide_true,Bool.true_or,Bool.or_true,Bool.true_and] at HR;by_cases hs0:s=noB
  focus
   subst hs0;simp only[decide_true,Bool.true_and,Bool.and_true] at HR;by_cases hm0:m=noB
   focus
    subst hm0;simp only[decide_true,Bool.true_and,Bool.and_true] at HR;by_cases hl0:names.length=0
    focus
     rw[decide_eq_true hl0] at HR;rw[hl0]
    rotate_right
    focus
     have hl1:((names.length:Int)==0)=false:=wC;rw[decide_eq_false hl0] at HR
   rotate_right
   focus
    have hm1:(m.toList==[])=false:=wA;rw[decide_eq_false hm0] at HR
  rotate_right
  focus
   have hs1:(s.toList==[])=false:=wD;rw[decide_eq_false hs0] at HR
 rotate_right
 focus
  have g0:(a==0)=false:=by rw[beq_eq_false_iff_ne];exact h0
  rw[decide_eq_false h0] at HR;by_cases h1:a=1
  focus
   subst h1;simp only[decide_true,Bool.true_or,Bool.or_true,Bool.true_and] at HR;by_cases hs0:s=noB
   focus
    subst hs0;simp only[decide_true,Bool.true_and,Bool.and_true] at HR;by_cases hm0:m=noB
    focus
     subst hm0;simp only[decide_true,Bool.true_and,Bool.and_true] at HR;by_cases hl0:names.length=0
     focus
      rw[decide_eq_true hl0] at HR;rw[hl0]
     rotate_right
     focus
      have hl1:((names.length:Int)==0)=false:=wC;rw[decide_eq_false hl0] at HR
    rotate_right
    focus
     have hm1:(m.toList==[])=false:=wA;rw[decide_eq_false hm0] at HR
   rotate_right
   focus
    have hs1:(s.toList==[])=false:=wD;rw[decide_eq_false hs0] at HR
  rotate_right
  focus
   have g1:(a==1)=false:=zG;rw[decide_eq_false h1] at HR;simp only[Bool.false_or,Bool.or_false,Bool.false_and] at HR
 all_goals
  go_enter Tryz.func193,Tryz.ntmps193;go_wp2_with fail;go_quiet(fail)
  go_wp2_with fail;go_ret;exact⟨aE wI,aJ (aB (aA _ _) (aA _ _)) _⟩
theorem formed_2(c:Cod)(a:Int)(s m:ByteArray)(names:List ByteArray)(ac:Option Addr)(cc:Nat)(an:Option Addr)(cn:Nat)(N:Nat->Prop)(w:World)(hg:bV w)(hs:s.size<=8000)(hm:m.size<=8000)(hn:aK 1 bM N w (.slice an names.length cn) names):
  aW c ⟨2,a,s,m,names⟩ (.slice ac c.code.length cc) (.slice an names.length cn) w:=by
 unfold aW;dsimp only;have HR:Hid (bN c ⟨2,a,s,m,names⟩=((decide (0<=a)&&decide (a<(c.locals:Int)))&&decide (s=noB)&&decide (m=noB)&&decide (names.length=0))):=zh rfl;have HBB:=aB (aA w (.cells #[.string c.name,.int .i64 (c.params:Int),.int .i64 (c.locals:Int),.slice ac c.code.length cc] 168)) (aA _ (.cells #[.int .i64 2,.int .i64 a,.string s,.string m,.slice an names.length cn] 171));clear hg hn;by_cases h0:0<=a
 focus
  rw[decide_eq_true h0] at HR;by_cases h1:a<(c.locals:Int)
  focus
   rw[decide_eq_true h1] at HR;simp only[Bool.true_and] at HR;by_cases hs0:s=noB
   focus
    subst hs0;simp only[decide_true,Bool.true_and,Bool.and_true] at HR;by_cases hm0:m=noB
    focus
     subst hm0;simp only[decide_true,Bool.true_and,Bool.and_true] at HR;by_cases hl0:names.length=0
     focus
      rw[decide_eq_true hl0] at HR;rw[hl0]
     rotate_right
     focus
      have hl1:((names.length:Int)==0)=false:=wC;rw[decide_eq_false hl0] at HR
    rotate_right
    focus
     have hm1:(m.toList==[])=false:=wA;rw[decide_eq_false hm0] at HR
   rotate_right
   focus
    have hs1:(s.toList==[])=false:=wD;rw[decide_eq_false hs0] at HR
  rotate_right
  focus
   rw[decide_eq_false h1] at HR
 rotate_right
 focus
  rw[decide_eq_false h0] at HR
 all_goals
  go_enter Tryz.func193,Tryz.ntmps193;go_wp2_with fail;go_quiet(fail)
  go_wp2_with fail;go_ret;exact⟨aE wI,aJ (aB (aA _ _) (aA _ _)) _⟩
theorem formed_3(c:Cod)(a:Int)(s m:ByteArray)(names:List ByteArray)(ac:Option Addr)(cc:Nat)(an:Option Addr)(cn:Nat)(N:Nat->Prop)(w:World)(hg:bV w)(hs:s.size<=8000)(hm:m.size<=8000)(hn:aK 1 bM N w (.slice an names.length cn) names):
  aW c ⟨3,a,s,m,names⟩ (.slice ac c.code.length cc) (.slice an names.length cn) w:=by
 unfold aW;dsimp only;have HR:Hid (bN c ⟨3,a,s,m,names⟩=((decide (0<=a)&&decide (a<(c.locals:Int)))&&decide (s=noB)&&decide (m=noB)&&decide (names.length=0))):=zh rfl;have HBB:=aB (aA w (.cells #[.string c.name,.int .i64 (c.params:Int),.int .i64 (c.locals:Int),.slice ac c.code.length cc] 168)) (aA _ (.cells #[.int .i64 3,.int .i64 a,.string s,.string m,.slice an names.length cn] 171));clear hg hn;by_cases h0:0<=a
 focus
  rw[decide_eq_true h0] at HR;by_cases h1:a<(c.locals:Int)
  focus
   rw[decide_eq_true h1] at HR;simp only[Bool.true_and] at HR;by_cases hs0:s=noB
   focus
    subst hs0;simp only[decide_true,Bool.true_and,Bool.and_true] at HR;by_cases hm0:m=noB
    focus
     subst hm0;simp only[decide_true,Bool.true_and,Bool.and_true] at HR;by_cases hl0:names.length=0
     focus
      rw[decide_eq_true hl0] at HR;rw[hl0]
     rotate_right
     focus
      have hl1:((names.length:Int)==0)=false:=wC;rw[decide_eq_false hl0] at HR
    rotate_right
    focus
     have hm1:(m.toList==[])=false:=wA;rw[decide_eq_false hm0] at HR
   rotate_right
   focus
    have hs1:(s.toList==[])=false:=wD;rw[decide_eq_false hs0] at HR
  rotate_right
  focus
   rw[decide_eq_false h1] at HR
 rotate_right
 focus
  rw[decide_eq_false h0] at HR
 all_goals
  go_enter Tryz.func193,Tryz.ntmps193;go_wp2_with fail;go_quiet(fail)
  go_wp2_with fail;go_ret;exact⟨aE wI,aJ (aB (aA _ _) (aA _ _)) _⟩
theorem formed_13(c:Cod)(a:Int)(s m:ByteArray)(names:List ByteArray)(ac:Option Addr)(cc:Nat)(an:Option Addr)(cn:Nat)(N:Nat->Prop)(w:World)(hg:bV w)(hs:s.size<=8000)(hm:m.size<=8000)(hn:aK 1 bM N w (.slice an names.length cn) names):
  aW c ⟨13,a,s,m,names⟩ (.slice ac c.code.length cc) (.slice an names.length cn) w:=by
 unfold aW;dsimp only;have HR:Hid (bN c ⟨13,a,s,m,names⟩=(aT s&&decide (a=0)&&decide (m=noB)&&decide (names.length=0))):=zh rfl;have HBB:=aB (aA w (.cells #[.string c.name,.int .i64 (c.params:Int),.int .i64 (c.locals:Int),.slice ac c.code.length cc] 168)) (aA _ (.cells #[.int .i64 13,.int .i64 a,.string s,.string m,.slice an names.length cn] 171));have HS:=zh (fun W(hb:Below w.heap.size w W)=>eJ s W vT (hg.later hb));clear hg hn
 cases hsn:aT s with
 |false=>
  rw[hsn] at HS HR;clear hsn;exact rK
 |true=>
  rw[hsn] at HS HR;clear hsn;simp only[Bool.true_and] at HR;by_cases ha:a=0
  ·subst ha;simp only[decide_true,Bool.true_and,Bool.and_true] at HR;by_cases hm0:m=noB
   ·subst hm0;simp only[decide_true,Bool.true_and,Bool.and_true] at HR;by_cases hl0:names.length=0
    ·rw[decide_eq_true hl0] at HR;rw[hl0];exact rK
    ·have hl1:((names.length:Int)==0)=false:=wC;rw[decide_eq_false hl0] at HR;exact rK
   ·have hm1:(m.toList==[])=false:=wA;rw[decide_eq_false hm0] at HR;exact rK
  ·have ha1:(a==0)=false:=wY;rw[decide_eq_false ha] at HR;exact rK
theorem formed_10(c:Cod)(a:Int)(s m:ByteArray)(names:List ByteArray)(ac:Option Addr)(cc:Nat)(an:Option Addr)(cn:Nat)(N:Nat->Prop)(w:World)(hg:bV w)(hs:s.size<=8000)(hm:m.size<=8000)(hn:aK 1 bM N w (.slice an names.length cn) names):
  aW c ⟨10,a,s,m,names⟩ (.slice ac c.code.length cc) (.slice an names.length cn) w:=by
 unfold aW;dsimp only;have HR:Hid (bN c ⟨10,a,s,m,names⟩=((decide (0<=a)&&decide (a<(c.code.length:Int)))&&decide (s=noB)&&decide (m=noB)&&decide (names.length=0))):=zh rfl;have HBB:=aB (aA w (.cells #[.string c.name,.int .i64 (c.params:Int),.int .i64 (c.locals:Int),.slice ac c.code.length cc] 168)) (aA _ (.cells #[.int .i64 10,.int .i64 a,.string s,.string m,.slice an names.length cn] 171));clear hg hn;by_cases h0:0<=a
 focus
  rw[decide_eq_true h0] at HR;by_cases h1:a<(c.code.length:Int)
  focus
   rw[decide_eq_true h1] at HR;simp only[Bool.true_and] at HR;by_cases hs0:s=noB
   focus
    subst hs0;simp only[decide_true,Bool.true_and,Bool.and_true] at HR;by_cases hm0:m=noB
    focus
     subst hm0;simp only[decide_true,Bool.true_and,Bool.and_true] at HR;by_cases hl0:names.length=0
     focus
      rw[decide_eq_true hl0] at HR;rw[hl0]
     rotate_right
     focus
      have hl1:((names.length:Int)==0)=false:=wC;rw[decide_eq_false hl0] at HR
    rotate_right
    focus
     have hm1:(m.toList==[])=false:=wA;rw[decide_eq_false hm0] at HR
   rotate_right
   focus
    have hs1:(s.toList==[])=false:=wD;rw[decide_eq_false hs0] at HR
  rotate_right
  focus
   rw[decide_eq_false h1] at HR
 rotate_right
 focus
  rw[decide_eq_false h0] at HR
 all_goals
  go_enter Tryz.func193,Tryz.ntmps193;go_wp2_with fail;go_quiet(fail)
  go_wp2_with fail;go_ret;exact⟨aE wI,aJ (aB (aA _ _) (aA _ _)) _⟩
theorem formed_11(c:Cod)(a:Int)(s m:ByteArray)(names:List ByteArray)(ac:Option Addr)(cc:Nat)(an:Option Addr)(cn:Nat)(N:Nat->Prop)(w:World)(hg:bV w)(hs:s.size<=8000)(hm:m.size<=8000)(hn:aK 1 bM N w (.slice an names.length cn) names):
  aW c ⟨11,a,s,m,names⟩ (.slice ac c.code.length cc) (.slice an names.length cn) w:=by
 unfold aW;dsimp only;have HR:Hid (bN c ⟨11,a,s,m,names⟩=((decide (0<=a)&&decide (a<(c.code.length:Int)))&&decide (s=noB)&&decide (m=noB)&&decide (names.length=0))):=zh rfl;have HBB:=aB (aA w (.cells #[.string c.name,.int .i64 (c.params:Int),.int .i64 (c.locals:Int),.slice ac c.code.length cc] 168)) (aA _ (.cells #[.int .i64 11,.int .i64 a,.string s,.string m,.slice an names.length cn] 171));clear hg hn;by_cases h0:0<=a
 focus
  rw[decide_eq_true h0] at HR;by_cases h1:a<(c.code.length:Int)
  focus
   rw[decide_eq_true h1] at HR;simp only[Bool.true_and] at HR;by_cases hs0:s=noB
   focus
    subst hs0;simp only[decide_true,Bool.true_and,Bool.and_true] at HR;by_cases hm0:m=noB
    focus
     subst hm0;simp only[decide_true,Bool.true_and,Bool.and_true] at HR;by_cases hl0:names.length=0
     focus
      rw[decide_eq_true hl0] at HR;rw[hl0]
     rotate_right
     focus
      have hl1:((names.length:Int)==0)=false:=wC;rw[decide_eq_false hl0] at HR
    rotate_right
    focus
     have hm1:(m.toList==[])=false:=wA;rw[decide_eq_false hm0] at HR
   rotate_right
   focus
    have hs1:(s.toList==[])=false:=wD;rw[decide_eq_false hs0] at HR
  rotate_right
  focus
   rw[decide_eq_false h1] at HR
 rotate_right
 focus
  rw[decide_eq_false h0] at HR
 all_goals
  go_enter Tryz.func193,Tryz.ntmps193;go_wp2_with fail;go_quiet(fail)
  go_wp2_with fail;go_ret;exact⟨aE wI,aJ (aB (aA _ _) (aA _ _)) _⟩
theorem formed_16(c:Cod)(a:Int)(s m:ByteArray)(names:List ByteArray)(ac:Option Addr)(cc:Nat)(an:Option Addr)(cn:Nat)(N:Nat->Prop)(w:World)(hg:bV w)(hs:s.size<=8000)(hm:m.size<=8000)(hn:aK 1 bM N w (.slice an names.length cn) names):
  aW c ⟨16,a,s,m,names⟩ (.slice ac c.code.length cc) (.slice an names.length cn) w:=by
 unfold aW;dsimp only;have HR:Hid (bN c ⟨16,a,s,m,names⟩=((decide (0<=a)&&decide (a<8))&&decide (s=noB)&&decide (m=noB)&&decide (names.length=0))):=zh rfl;have HBB:=aB (aA w (.cells #[.string c.name,.int .i64 (c.params:Int),.int .i64 (c.locals:Int),.slice ac c.code.length cc] 168)) (aA _ (.cells #[.int .i64 16,.int .i64 a,.string s,.string m,.slice an names.length cn] 171));clear hg hn;by_cases h0:0<=a
 focus
  rw[decide_eq_true h0] at HR;by_cases h1:a<8
  focus
   rw[decide_eq_true h1] at HR;simp only[Bool.true_and] at HR;by_cases hs0:s=noB
   focus
    subst hs0;simp only[decide_true,Bool.true_and,Bool.and_true] at HR;by_cases hm0:m=noB
    focus
     subst hm0;simp only[decide_true,Bool.true_and,Bool.and_true] at HR;by_cases hl0:names.length=0
     focus
      rw[decide_eq_true hl0] at HR;rw[hl0]
     rotate_right
     focus
      have hl1:((names.length:Int)==0)=false:=wC;rw[decide_eq_false hl0] at HR
    rotate_right
    focus
     have hm1:(m.toList==[])=false:=wA;rw[decide_eq_false hm0] at HR
   rotate_right
   focus
    have hs1:(s.toList==[])=false:=wD;rw[decide_eq_false hs0] at HR
  rotate_right
  focus
   rw[decide_eq_false h1] at HR
 rotate_right
 focus
  rw[decide_eq_false h0] at HR
 all_goals
  go_enter Tryz.func193,Tryz.ntmps193;go_wp2_with fail;go_quiet(fail)
  go_wp2_with fail;go_ret;exact⟨aE wI,aJ (aB (aA _ _) (aA _ _)) _⟩
theorem formed_17(c:Cod)(a:Int)(s m:ByteArray)(names:List ByteArray)(ac:Option Addr)(cc:Nat)(an:Option Addr)(cn:Nat)(N:Nat->Prop)(w:World)(hg:bV w)(hs:s.size<=8000)(hm:m.size<=8000)(hn:aK 1 bM N w (.slice an names.length cn) names):
  aW c ⟨17,a,s,m,names⟩ (.slice ac c.code.length cc) (.slice an names.length cn) w:=by
 unfold aW;dsimp only;have HR:Hid (bN c ⟨17,a,s,m,names⟩=((decide (0<=a)&&decide (a<8))&&decide (s=noB)&&decide (m=noB)&&decide (names.length=0))):=zh rfl;have HBB:=aB (aA w (.cells #[.string c.name,.int .i64 (c.params:Int),.int .i64 (c.locals:Int),.slice ac c.code.length cc] 168)) (aA _ (.cells #[.int .i64 17,.int .i64 a,.string s,.string m,.slice an names.length cn] 171));clear hg hn;by_cases h0:0<=a
 focus
  rw[decide_eq_true h0] at HR;by_cases h1:a<8
  focus
   rw[decide_eq_true h1] at HR;simp only[Bool.true_and] at HR;by_cases hs0:s=noB
   focus
    subst hs0;simp only[decide_true,Bool.true_and,Bool.and_true] at HR;by_cases hm0:m=noB
    focus
     subst hm0;simp only[decide_true,Bool.true_and,Bool.and_true] at HR;by_cases hl0:names.length=0
     focus
      rw[decide_eq_true hl0] at HR;rw[hl0]
     rotate_right
     focus
      have hl1:((names.length:Int)==0)=false:=wC;rw[decide_eq_false hl0] at HR
    rotate_right
    focus
     have hm1:(m.toList==[])=false:=wA;rw[decide_eq_false hm0] at HR
   rotate_right
   focus
    have hs1:(s.toList==[])=false:=wD;rw[decide_eq_false hs0] at HR
  rotate_right
  focus
   rw[decide_eq_false h1] at HR
 rotate_right
 focus
  rw[decide_eq_false h0] at HR
 all_goals
  go_enter Tryz.func193,Tryz.ntmps193;go_wp2_with fail;go_quiet(fail)
  go_wp2_with fail;go_ret;exact⟨aE wI,aJ (aB (aA _ _) (aA _ _)) _⟩
theorem formed_4(c:Cod)(a:Int)(s m:ByteArray)(names:List ByteArray)(ac:Option Addr)(cc:Nat)(an:Option Addr)(cn:Nat)(N:Nat->Prop)(w:World)(hg:bV w)(hs:s.size<=8000)(hm:m.size<=8000)(hn:aK 1 bM N w (.slice an names.length cn) names):
  aW c ⟨4,a,s,m,names⟩ (.slice ac c.code.length cc) (.slice an names.length cn) w:=by
 unfold aW;dsimp only;have HR:Hid (bN c ⟨4,a,s,m,names⟩=(decide (a=0)&&decide (s=noB)&&decide (m=noB)&&decide (names.length=0))):=zh rfl;have HBB:=aB (aA w (.cells #[.string c.name,.int .i64 (c.params:Int),.int .i64 (c.locals:Int),.slice ac c.code.length cc] 168)) (aA _ (.cells #[.int .i64 4,.int .i64 a,.string s,.string m,.slice an names.length cn] 171));clear hg hn;by_cases ha:a=0
 focus
  subst ha;simp only[decide_true,Bool.true_and,Bool.and_true] at HR;by_cases hs0:s=noB
  focus
   subst hs0;simp only[decide_true,Bool.true_and,Bool.and_true] at HR;by_cases hm0:m=noB
   focus
    subst hm0;simp only[decide_true,Bool.true_and,Bool.and_true] at HR;by_cases hl0:names.length=0
    focus
     rw[decide_eq_true hl0] at HR;rw[hl0]
    rotate_right
    focus
     have hl1:((names.length:Int)==0)=false:=wC;rw[decide_eq_false hl0] at HR
   rotate_right
   focus
    have hm1:(m.toList==[])=false:=wA;rw[decide_eq_false hm0] at HR
  rotate_right
  focus
   have hs1:(s.toList==[])=false:=wD;rw[decide_eq_false hs0] at HR
 rotate_right
 focus
  have ha1:(a==0)=false:=wY;rw[decide_eq_false ha] at HR
 all_goals
  go_enter Tryz.func193,Tryz.ntmps193;go_wp2_with fail;go_quiet(fail)
  go_wp2_with fail;go_ret;exact⟨aE wI,aJ (aB (aA _ _) (aA _ _)) _⟩
end Go.Proofs.YtacgopankhpnbaaGreatDoor
