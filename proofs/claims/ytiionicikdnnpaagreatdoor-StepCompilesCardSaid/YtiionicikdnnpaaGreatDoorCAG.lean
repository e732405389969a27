/- Texts of this seat, joined. -/
import Derived.Test.YtiionicikdnnpaaGreatDoorCAF
set_option maxHeartbeats 8000000
set_option maxRecDepth 100000
set_option linter.unusedVariables false
set_option linter.unusedSimpArgs false
namespace Go.Proofs.YtiionicikdnnpaaGreatDoor
theorem W9{p:Prop}(h:p:=by
 unfold iR;simp only[Cmp.fix_len];have h1:=hy (c.put (ins 11 0));rw[Cmp.put_len] at h1;have h2:=hn (((yes (c.put (ins 11 0))).put (ins 10 0)).fix c.code.length);rw[Cmp.fix_len,Cmp.put_len] at h2
 omega):p:=h
def fA:Nat->Nat
 |0=>0
 |d+1=>8*fA d+1
theorem kT{d:Nat}{op n:Int}{s m:bA}{names:List bA}{args:List Xp}(h:aJ (d+1) (.mk op n s m names args)=true):
  (0<=op/\op<19)/\args.length<=8/\(op=8\/op=9\/op=12->args.length=2)/\(op=11->args.length=3)/\(∀x∈args,aJ d x=true)/\eY (.mk op n s m names args)=true:=by
 rw[aJ] at h;simp only[Bool.and_eq_true,decide_eq_true_eq,Bool.or_eq_true,List.all_eq_true] at h;obtain⟨⟨⟨⟨⟨⟨⟨⟨h0,h1⟩,h2⟩,-⟩,-⟩,-⟩,-⟩,h3⟩,h4⟩:=h;have e:=cleanX_eq op n s m names args h0 h1;rw[e] at h2;refine⟨⟨h0,h1⟩,?_,?_,?_,h4,h3⟩
 ·have hc:op=0\/op=1\/op=2\/op=3\/op=4\/op=5\/op=6\/op=7\/op=8\/op=9\/op=10\/op=11\/op=12\/op=13\/op=14\/op=15\/op=16\/op=17\/op=18:=YM;rcases hc with rfl|rfl|rfl|rfl|rfl|rfl|rfl|rfl|rfl|rfl|rfl|rfl|rfl|rfl|rfl|rfl|rfl|rfl|rfl<;>simp[pH] at h2<;>simp[eY] at h3<;>omega
 ·rintro(rfl|rfl|rfl)<;>simp[pH] at h2<;>omega
 rintro rfl;simp[pH] at h2;omega
theorem Cmp.put_len(c:Cmp)(i:Ins):(c.put i).code.length=c.code.length+1:=by simp[Cmp.put]
theorem Cmp.fix_len(c:Cmp)(k:Nat):(c.fix k).code.length=c.code.length:=by simp[Cmp.fix]
theorem choice_len{yes no:Cmp->Cmp}{a b:Nat}(hy:∀c,(yes c).code.length<=c.code.length+a)(hn:∀c,(no c).code.length<=c.code.length+b)(c:Cmp):(iR yes no c).code.length<=c.code.length+(a+b+2):=by
 exact W9
theorem fold_len{f:Cmp->Xp->Cmp}{a:Nat}:∀(args:List Xp)(c:Cmp),(∀x∈args,∀c,(f c x).code.length<=c.code.length+a)->(args.foldl f c).code.length<=c.code.length+args.length*a
 |[],c,_=>YR
 |x::args,c,h=>by
  have h1:=h x YR c;have h2:=fold_len args (f c x) (fun y hy=>h y (by simp[hy]));rw[List.foldl_cons,List.length_cons,Nat.succ_mul];omega
theorem lenB_pos:∀{d:Nat}{x:Xp},aJ d x=true->1<=fA d
 |0,x,h=>by simp[aJ] at h
 |d+1,_,_=>by simp[fA]
theorem gT(vars:List bA)(d:Nat)(names:List bA)(op n:Int)(s m:bA)(ns:List bA)(args:List Xp)(c:Cmp):bJ vars (d+1) names (.mk op n s m ns args) c=
  (if op=0 then c.put (ins 0 n)
  else if op=1 then c.put (ins 1 n)
  else if op=2 then c.put (ins 2 (eU names s))
  else if op=17 then c.put (ins 16 (kJ vars s))
  else if op=8 then match args with
   |[x,y]=>iR (bJ vars d names y) (fun c=>c.put (ins 1 0)) (bJ vars d names x c)
   |_=>c
  else if op=9 then match args with
   |[x,y]=>iR (fun c=>c.put (ins 1 1)) (bJ vars d names y) (bJ vars d names x c)
   |_=>c
  else if op=11 then match args with
   |[x,y,z]=>iR (bJ vars d names y) (bJ vars d names z) (bJ vars d names x c)
   |_=>c
  else if op=12 then match args with
   |[x,y]=>
    let c1:=(bJ vars d names x c).put (ins 3 names.length)
    bJ vars d (names++[s]) y ⟨c1.code,max c1.locals (names.length+1)⟩
   |_=>c
  else(args.foldl (fun c x=>bJ vars d names x c) c).put (gY vars (.mk op n s m ns args))):=rfl
theorem jH(vars:List bA):∀(d:Nat)(names:List bA)(x:Xp)(c:Cmp),aJ d x=true->(bJ vars d names x c).code.length<=c.code.length+fA d
 |0,_,_,c,_=>by simp[bJ,fA]
 |d+1,names,.mk op n s m ns args,c,h=>by
  obtain⟨⟨h0,h1⟩,h8,h2,h3,ha,-⟩:=kT h;have ih:=fun names x(hx:x∈args)c=>jH vars d names x c (ha x hx);rw[gT,fA];split
  ·rw[Cmp.put_len];omega
  split
  ·rw[Cmp.put_len];omega
  split
  ·rw[Cmp.put_len];omega
  split
  ·rw[Cmp.put_len];omega
  split
  ·rename_i e8;have hl:=h2 (.inl e8)
   match args,hl,ih,ha with
   |[x,y],_,ih,ha=>
    have hp:=lenB_pos (ha x YR);have h1:=ih names x YR c;have h2:=choice_len (a:=fA d) (b:=1) (fun c=>ih names y YR c) (fun c=>Nat.le_of_eq (Cmp.put_len c (ins 1 0))) (bJ vars d names x c);(try dsimp only);omega
  split
  ·rename_i e8;have hl:=h2 (.inr (.inl e8))
   match args,hl,ih,ha with
   |[x,y],_,ih,ha=>
    have hp:=lenB_pos (ha x YR);have h1:=ih names x YR c;have h2:=choice_len (a:=1) (b:=fA d) (fun c=>Nat.le_of_eq (Cmp.put_len c (ins 1 1))) (fun c=>ih names y YR c) (bJ vars d names x c);(try dsimp only);omega
  split
  ·rename_i e8;have hl:=h3 e8
   match args,hl,ih,ha with
   |[x,y,z],_,ih,ha=>
    have hp:=lenB_pos (ha x YR);have h1:=ih names x YR c;have h2:=choice_len (a:=fA d) (b:=fA d) (fun c=>ih names y YR c) (fun c=>ih names z YR c) (bJ vars d names x c);(try dsimp only);omega
  split
  ·rename_i e8;have hl:=h2 (.inr (.inr e8))
   match args,hl,ih,ha with
   |[x,y],_,ih,ha=>
    have hp:=lenB_pos (ha x YR);have h1:=ih names x YR c;have h2:=ih (names++[s]) y YR ⟨((bJ vars d names x c).put (ins 3 names.length)).code,max ((bJ vars d names x c).put (ins 3 names.length)).locals (names.length+1)⟩;dsimp only at h2 ⊢;rw[Cmp.put_len] at h2;omega
  rw[Cmp.put_len];have h1:=fold_len (f:=fun c x=>bJ vars d names x c) (a:=fA d) args c (fun x hx c=>ih names x hx c);have h2:args.length*fA d<=8*fA d:=Nat.mul_le_mul_right _ h8;omega
theorem choice_ge{yes no:Cmp->Cmp}(hy:∀c,c.code.length<=(yes c).code.length)(hn:∀c,c.code.length<=(no c).code.length)(c:Cmp):c.code.length<=(iR yes no c).code.length:=by
 exact W9
theorem fold_ge{f:Cmp->Xp->Cmp}(h:∀c x,c.code.length<=(f c x).code.length):∀(args:List Xp)(c:Cmp),c.code.length<=(args.foldl f c).code.length
 |[],c=>Nat.le_refl _
 |x::args,c=>Nat.le_trans (h c x) (fold_ge h args (f c x))
theorem put_ge(c:Cmp)(i:Ins):c.code.length<=(c.put i).code.length:=by rw[Cmp.put_len];omega
theorem compX_ge(vars:List bA):∀(d:Nat)(names:List bA)(x:Xp)(c:Cmp),c.code.length<=(bJ vars d names x c).code.length
 |0,_,_,_=>by simp[bJ]
 |d+1,names,.mk op n s m ns args,c=>by
  have ih:=fun names x c=>compX_ge vars d names x c;rw[gT];split
  ·exact put_ge _ _
  split
  ·exact put_ge _ _
  split
  ·exact put_ge _ _
  split
  ·exact put_ge _ _
  split
  ·split
   ·exact Nat.le_trans (ih _ _ _) (choice_ge (fun c=>ih _ _ c) (fun c=>put_ge c _) _)
   exact Nat.le_refl _
  split
  ·split
   ·exact Nat.le_trans (ih _ _ _) (choice_ge (fun c=>put_ge c _) (fun c=>ih _ _ c) _)
   exact Nat.le_refl _
  split
  ·split
   ·exact Nat.le_trans (ih _ _ _) (choice_ge (fun c=>ih _ _ c) (fun c=>ih _ _ c) _)
   exact Nat.le_refl _
  split
  ·split
   ·rename_i x y;(try dsimp only);have h1:=ih names x c;have h2:=put_ge (bJ vars d names x c) (ins 3 names.length);have h3:=ih (names++[s]) y ⟨((bJ vars d names x c).put (ins 3 names.length)).code,max ((bJ vars d names x c).put (ins 3 names.length)).locals (names.length+1)⟩;dsimp only at h3;omega
   exact Nat.le_refl _
  exact Nat.le_trans (fold_ge (fun c x=>ih names x c) args c) (put_ge _ _)
theorem lenB_12:fA 12=9817068105:=YO
end Go.Proofs.YtiionicikdnnpaaGreatDoor
namespace Go.Proofs.YtiionicikdnnpaaGreatDoor
open Go.RowKit
def mM(B cb:Nat)(vars:List Fld)(vv v:Value)(w:World)(c':Cmp)(e:Ending)(w':World):Prop:=∃css' v',e=.returned (.tuple #[])/\Cp B cb vars vv c' css' v' w'/\Ext cb v w v' w'
def ExpAt(d:Nat):Prop:=∀(x:Xp)(B cb:Nat)(vars:List Fld)(vv v:Value)(c:Cmp)(css:List (List Value))(names:List bA)(vns:Value)(op n:Int)(s m:bA)(vn va:Value)(w:World),
 aJ d x=true->Cp B cb vars vv c css v w->c.code.length+fA d<=100000000000->names.length+d<=1000->aO 1 dD (cE cb v) w vns names->bN (cE cb v) w x [.int .i64 op,.int .i64 n,.string s,.string m,vn,va]->
 Calls Tryz.prog 214 #[.pointer (some ⟨cb,0,none⟩),kP op n s m vn va,vns] w (mM B cb vars vv v w (bJ (vars.map (·.1)) d names x c))
theorem modify_set{α:Type}(f:α->α):∀(l:List α)(i:Nat)(x:α),l[i]? =some x->l.modify i f=l.set i (f x)
 |[],i,x,h=>Z0
 |y::l,0,x,h=>by simp at h;subst h;simp
 |y::l,i+1,x,h=>by
  simp only[List.modify_succ_cons,List.set_cons_succ];rw[modify_set f l i x ZS]
theorem Gro.cellAt{α:Type}{k:Nat}{T:TypeId}{enc:(Nat->Prop)->World->α->List Value->Prop}{B:Nat}{l:List α}{css:List (List Value)}{w:World}{g cap n i j:Nat}(h:Gro k T enc B l css (.slice (some ⟨g,0,none⟩) n cap) w)(hi:i<l.length)(hj:j<k):
  ∃u,w.cell? ⟨g,i*k+j,none⟩=some u/\w.frozen? ⟨g,i*k+j,none⟩=false:=by
 rcases h.own.2 with⟨h2,-⟩|⟨g',cap',cur,hv,hg,D9,r1,r2,r3,r4⟩
 ·cases h2
 cases hv
 have rU:i*k+j<cur.size:=by
  have h1:(i+1)*k<=cap*k:=Nat.mul_le_mul_right _ YM;rw[Nat.succ_mul] at h1;omega
 have hb:=bx D9 (i*k+j) (u:=cur[i*k+j]) (Array.getElem?_eq_getElem rU);exact⟨_,hb.1,hb.2⟩
theorem Cp.fixed{B cb:Nat}{vars:List Fld}{vv:Value}{c:Cmp}{css:List (List Value)}{w:World}{g cap n k:Nat}(h:Cp B cb vars vv c css (.slice (some ⟨g,0,none⟩) n cap) w)(hk:k<c.code.length)(hlen:c.code.length<=100000000000):
  ∃css',Cp B cb vars vv (c.fix k) css' (.slice (some ⟨g,0,none⟩) n cap) (w.setCell ⟨g,k*5+1,none⟩ (.int .i64 (c.code.length:Int)))/\Ext cb (.slice (some ⟨g,0,none⟩) n cap) w (.slice (some ⟨g,0,none⟩) n cap) (w.setCell ⟨g,k*5+1,none⟩ (.int .i64 (c.code.length:Int))):=by
 have hx:=List.getElem?_eq_getElem hk;have hkc:k<css.length:=by rw[h.gro.len];exact hk
 have hgB:B<=g:=(h.own g rfl).1;have hcb:=h.hcb;have he:Ext cb (.slice (some ⟨g,0,none⟩) n cap) w (.slice (some ⟨g,0,none⟩) n cap) (w.setCell ⟨g,k*5+1,none⟩ (.int .i64 (c.code.length:Int))):=⟨Off.setCell (S:=inC cb _) w (.inr rfl),fun b hb=>.inl hb⟩
 have OF:=h.gro.set1 (j:=1) (y:={c.code[k] with a:=(c.code.length:Int)}) (u:=.int .i64 (c.code.length:Int)) iM hx (List.getElem?_eq_getElem hkc) YO (fun N W hh=>by
  obtain⟨vn,h1,h2,h3,h4,-⟩:=hh
  exact⟨vn,by rw[h1];rfl,h2,h3,h4,by show(-1:Int)<=(c.code.length:Int);omega,by show(c.code.length:Int)<=1099511627776;omega⟩)
 have e:c.code.set k {c.code[k] with a:=(c.code.length:Int)}=(c.fix k).code:=by
  show _=c.code.modify k _;rw[modify_set _ _ _ _ hx]
 rw[e] at OF;exact⟨_,h.put (c':=c.fix k) he ((Off.setCell (S:=fun b=>b=g) w rfl).heap YM h.box) OF,he⟩
abbrev truthX(n:Int):Xp:=.mk 1 n noB noB [] []
theorem encX_truth(N:Nat->Prop)(w:World)(n:Int):bN N w (truthX n) [.int .i64 1,.int .i64 n,.string noB,.string noB,.slice none 0 0,.slice none 0 0]:=by
 rw[aU];exact⟨_,_,rfl,YO,YO,aO.nil _ _ _ _,aO.nil _ _ _ _⟩
theorem right_truth{d:Nat}{n:Int}(h:n=0\/n=1):aJ (d+1) (truthX n)=true:=by
 rcases h with rfl|rfl<;>simp[aJ,fQ,eY]
theorem Cp.form1{B cb:Nat}{vars:List Fld}{vv v:Value}{c:Cmp}{css:List (List Value)}{w:World}(h:Cp B cb vars vv c css v w)(hp:0<c.code.length):∃g cp,v=.slice (some ⟨g,0,none⟩) c.code.length cp:=by
 rcases h.gro.val with⟨rfl,h0⟩|⟨g,cap,rfl,-⟩
 ·rw[h0] at hp;simp at hp
 exact⟨_,_,rfl⟩
theorem Cp.new{B cb b:Nat}{vars:List Fld}{vv v:Value}{c:Cmp}{css:List (List Value)}{w:World}(h:Cp B cb vars vv c css v w)(hb:w.heap.size<=b):cE cb v b:=⟨by have:=h.lt;omega,fun e=>by have:=(h.own b e).2;omega⟩
theorem kS(N:Nat->Prop)(w:World)(op a:Int)(h0: -1<=a)(h1:a<=1099511627776):pG N w (ins op a) [.int .i64 op,.int .i64 a,.string noB,.string noB,.slice none 0 0]:=gL eX eX h0 h1
theorem choice_any{d:Nat}(HX:ExpAt d)(y z:Xp){B cb:Nat}{vars:List Fld}{vv v:Value}{c:Cmp}{css:List (List Value)}{names:List bA}{vns:Value}{opy ny:Int}{sy my:bA}{vny vay:Value}{opz nz:Int}{sz mz:bA}{vnz vaz:Value}{w:World}
  (ry:aJ d y=true) (rz:aJ d z=true) (h:Cp B cb vars vv c css v w) (hlen:c.code.length+(fA d+fA d+2)<=100000000000) (yD:names.length+d<=1000) (vZ:aO 1 dD (cE cb v) w vns names)
  (hy:bN (cE cb v) w y [.int .i64 opy,.int .i64 ny,.string sy,.string my,vny,vay]) (hz:bN (cE cb v) w z [.int .i64 opz,.int .i64 nz,.string sz,.string mz,vnz,vaz]):
  Calls Tryz.prog 241 #[.pointer (some ⟨cb,0,none⟩),kP opy ny sy my vny vay,kP opz nz sz mz vnz vaz,vns] w
   (mM B cb vars vv v w (iR (bJ (vars.map (·.1)) d names y) (bJ (vars.map (·.1)) d names z) c)):=by
 have xB:=zh HX;obtain⟨⟨T8,SG,T6,rfl⟩,T7,SF,T5,rfl⟩:=hZ hy;obtain⟨⟨az1,nz1,cz1,rfl⟩,az2,nz2,cz2,rfl⟩:=hZ hz;have rR:=aC (aA w (aN opy ny sy my T8 SG T6 T7 SF T5)) (aA (w.alloc (aN opy ny sy my T8 SG T6 T7 SF T5)) (aN opz nz sz mz az1 nz1 cz1 az2 nz2 cz2));have H6:=Ext.below cb v rR;have sN:=zh H6;have zL:=zh (h.later rR);have HNS:=zh (dE aV YO vZ H6);have HYE:=zh (eR hy H6);have HZE:=zh (eR hz H6);have HYB:Hid (((w.alloc (aN opy ny sy my T8 SG T6 T7 SF T5)).alloc (aN opz nz sz mz az1 nz1 cz1 az2 nz2 cz2)).heap[w.heap.size]? =some (aN opy ny sy my T8 SG T6 T7 SF T5)/\cE cb v w.heap.size):=zh ⟨aH (aA _ _) (bY w (aN opy ny sy my T8 SG T6 T7 SF T5)),h.new (Nat.le_refl _)⟩;have HZB:Hid (((w.alloc (aN opy ny sy my T8 SG T6 T7 SF T5)).alloc (aN opz nz sz mz az1 nz1 cz1 az2 nz2 cz2)).heap[w.heap.size+1]? =some (aN opz nz sz mz az1 nz1 cz1 az2 nz2 cz2)/\cE cb v (w.heap.size+1)):=zh ⟨by simpa using bY (w.alloc (aN opy ny sy my T8 SG T6 T7 SF T5)) (aN opz nz sz mz az1 nz1 cz1 az2 nz2 cz2),h.new YM⟩;obtain⟨ans,cns,rfl,-⟩:=vZ.at;generalize hCy:bJ (vars.map (·.1)) d names y=CY;generalize hCz:bJ (vars.map (·.1)) d names z=CZ;have HLY:Hid (∀c,(CY c).code.length<=c.code.length+fA d):=zh (fun c=>by rw[<-hCy];exact jH _ d names y c ry);have HLZ:Hid (∀c,(CZ c).code.length<=c.code.length+fA d):=zh (fun c=>by rw[<-hCz];exact jH _ d names z c rz);have HCY:=zh hCy;have HCZ:=zh hCz;have HRY:=zh ry;have HRZ:=zh rz;have UU:=zh (nZ (ins 11 0) (.slice none 0 0) zL.out YM (kS _ _ 11 0 YO YO));clear hCy hCz ry rz hy hz vZ h rR H6 HX;go_enter Tryz.func241,Tryz.ntmps241;go_wp2_with(go_at_call 215;refine UU.out.mono ?_;rintro e w3 ⟨css3,v3,rfl,OZ,rW⟩;have HYB3:=zh (rW.blk HYB.out.2 HYB.out.1);obtain⟨⟨y0,y1,y2,y3,y4,y5⟩,-⟩:=bx6 HYB3.out.1);have xJ:=zh OZ;have uT:=zh rW;have UB:=zh (rW.blk HZB.out.2 HZB.out.1);have I6:(c.put (ins 11 0)).code.length=c.code.length+1:=Cmp.put_len _ _;have HQ3:=zh (xB.out y B cb vars vv v3 (c.put (ins 11 0)) css3 names _ opy ny sy my _ _ w3 HRY.out xJ.out YM yD (dE aV YO HNS.out uT.out) (eR HYE.out uT.out));clear OZ rW UU HYB;rw[HCY.out] at HQ3;go_wp2_with(go_at_call 214;refine HQ3.out.mono ?_;rintro e w4 ⟨css4,v4,rfl,TK,sI⟩);have CB:=zh TK;have uH:=zh (uT.out.trans sI);have UA:=zh (sI.blk UB.out.2 UB.out.1);have SW:=HLY.out (c.put (ins 11 0));have JN:=zh (nZ (ins 10 0) (.slice none 0 0) CB.out YM (kS _ _ 10 0 YO YO));clear TK sI HQ3 y0 y1 y2 y3 y4 y5 HYB3 UB;go_wp2_with(go_at_call 215;refine JN.out.mono ?_;rintro e w5 ⟨css5,v5,rfl,C1,sQ⟩);have hl5:((CY (c.put (ins 11 0))).put (ins 10 0)).code.length=(CY (c.put (ins 11 0))).code.length+1:=Cmp.put_len _ _;obtain⟨g5,cp5,rfl⟩:=C1.form1 YM;have DR:=zh (uH.out.trans sQ);have T9:=zh (sQ.blk UA.out.2 UA.out.1)
 have OU:c.code.length<(CY (c.put (ins 11 0))).code.length:=by
  rw[<-HCY.out];have:=compX_ge (vars.map (·.1)) d names y (c.put (ins 11 0));omega
 obtain⟨css6,hc6,uX⟩:=C1.fixed (k:=c.code.length) YM YM;obtain⟨u5,hu5,hf5⟩:=C1.gro.cellAt (i:=c.code.length) (j:=1) YM YO;obtain⟨⟨b0,b1,b2⟩,f0,f1,f2⟩:=bx3 C1.box;have hne5:g5≠cb:=fun e=>by have h1:=(C1.own g5 rfl).1;have h2:=C1.hcb;omega
 have KC:=zh hc6;have GH:=zh (DR.out.trans uX);have PI:=zh (uX.blk T9.out.2 T9.out.1);generalize hn5:((CY (c.put (ins 11 0))).put (ins 10 0)).code.length=n5 at *;have HN5:=zh hn5;have Q7:(c.code.length:Int)<(n5:Int):=YM;clear C1 sQ hc6 uX JN UA T9 hn5;generalize hkc:c.code.length=kc at *;have HKC:=zh hkc;clear hkc;have HLn:Hid (n5+fA d<=100000000000):=zh YM;have wA:=zh hl5;have HGE:=zh OU;have hkn2:¬(n5:Int)<=(kc:Int):=YM;clear hl5 SW I6 OU hlen;go_wp2_with fail;refine wp_region_held_drew (S:=fun W=>W.cell? ⟨cb,1,none⟩=some (.slice (some ⟨g5,0,none⟩) n5 cp5)) YN b1 fun hS=>?_;refine zq 0 (.pointer (some ⟨cb,0,none⟩)) rfl ?_;refine zq 1 (.pointer (some ⟨cb,0,none⟩)) rfl ?_;refine zq 2 (.pointer (some ⟨cb,1,none⟩)) rfl ?_;refine zt 3 (.slice (some ⟨g5,0,none⟩) n5 cp5) rfl (fun W hW=>aBy) ?_;refine zq 4 (.int .i64 (kc:Int)) rfl ?_;refine zq 5 (.pointer (some ⟨cb,0,none⟩)) rfl ?_;refine zq 6 (.pointer (some ⟨cb,0,none⟩)) rfl ?_;refine zq 7 (.pointer (some ⟨cb,1,none⟩)) rfl ?_;refine zt 8 (.slice (some ⟨g5,0,none⟩) n5 cp5) rfl (fun W hW=>aBy) ?_;refine zq 9 (.int .i64 (n5:Int)) rfl ?_;refine zq 10 (.pointer (some ⟨g5,kc*5,none⟩)) rfl ?_;refine zq 11 (.pointer (some ⟨g5,kc*5+1,none⟩)) rfl ?_;try simp only[zn]
 have hu:w5.drew.cell? ⟨g5,kc*5+1,none⟩=some _:=hu5;have hf:w5.drew.frozen? ⟨g5,kc*5+1,none⟩=false:=hf5;refine zr 12 rfl (fun K hK=>?_);try simp only[z1,z2,z3]
 go_simp;refine hK.out _ _ (cell_set (fun e=>hne5 e.symm) b1) (fun hS=>?_);clear hK K;try simp only[zn]
 refine wpAnyH_done YN ?_ _;clear hS hu hf;clear b0 b1 b2 f0 f1 f2 hu5 hf5;generalize w5.setCell ⟨g5,kc*5+1,none⟩ (.int .i64 (n5:Int))=w6 at *;have hc6d:=KC.out.later (aE w6);have hx6d:=GH.out.trans (Ext.below cb _ (aE w6));have QN:w6.drew.heap[w.heap.size+1]? =some (aN opz nz sz mz az1 nz1 cz1 az2 nz2 cz2)/\cE cb (.slice (some ⟨g5,0,none⟩) n5 cp5) (w.heap.size+1):=PI.out;clear KC GH PI;have KC:=zh hc6d;have GH:=zh hx6d;have PI:=zh QN;clear hc6d hx6d QN;generalize w6.drew=w6 at *;have E1:=zh (xB.out z B cb vars vv _ (((CY (c.put (ins 11 0))).put (ins 10 0)).fix kc) css6 names _ opz nz sz mz _ _ w6 HRZ.out (by have h:=KC.out;exact h) (by have:=HN5.out;have h2:=HLn.out;rw[Cmp.fix_len];omega) yD (dE aV YO HNS.out GH.out) (eR HZE.out GH.out));rw[HCZ.out] at E1;obtain⟨⟨z0,z1,z2,z3,z4,z5⟩,-⟩:=bx6 PI.out.1;go_wp2_with(go_at_call 214;refine E1.out.mono ?_;rintro e w7 ⟨css7,v7,rfl,TJ,tJ⟩);have hl5:=wA.out;have hlen:=HLn.out;have OU:=HGE.out;have NI:=HLZ.out (((CY (c.put (ins 11 0))).put (ins 10 0)).fix kc);have RD:(((CY (c.put (ins 11 0))).put (ins 10 0)).fix kc).code.length=n5:=by rw[Cmp.fix_len];exact HN5.out
 have hge7:n5<=(CZ (((CY (c.put (ins 11 0))).put (ins 10 0)).fix kc)).code.length:=by
  rw[<-HCZ.out];have:=compX_ge (vars.map (·.1)) d names z (((CY (c.put (ins 11 0))).put (ins 10 0)).fix kc);omega
 obtain⟨g7,cp7,rfl⟩:=TJ.form1 YM;have ID:=zh (GH.out.trans tJ);obtain⟨css8,JD,uD⟩:=TJ.fixed (k:=(CY (c.put (ins 11 0))).code.length) YM YM;obtain⟨u7,hu7,H9⟩:=TJ.gro.cellAt (i:=(CY (c.put (ins 11 0))).code.length) (j:=1) YM YO;obtain⟨⟨b0,b1,b2⟩,f0,f1,f2⟩:=bx3 TJ.box;have hne7:g7≠cb:=fun e=>by have h1:=(TJ.own g7 rfl).1;have h2:=TJ.hcb;omega
 have KB:=zh JD;have FG:=zh (ID.out.trans uD);have QB:Hid (iR CY CZ c=(CZ (((CY (c.put (ins 11 0))).put (ins 10 0)).fix kc)).fix (CY (c.put (ins 11 0))).code.length):=zh (by unfold iR;dsimp only;rw[HKC.out]);rw[QB.out];generalize hn7:(CZ (((CY (c.put (ins 11 0))).put (ins 10 0)).fix kc)).code.length=n7 at *;have HN7:=zh hn7;generalize hk7:(CY (c.put (ins 11 0))).code.length=k7 at *;have HK7:=zh hk7;have hkn7:(k7:Int)<(n7:Int):=YM;have hkn8:¬(n7:Int)<=(k7:Int):=YM;clear hl5 hlen OU NI RD hge7;clear TJ tJ JD uD hn7 hk7 z0 z1 z2 z3 z4 z5 E1;go_wp2_with fail;refine wp_region_held_drew (S:=fun W=>W.cell? ⟨cb,1,none⟩=some (.slice (some ⟨g7,0,none⟩) n7 cp7)) YN b1 fun hS=>?_;refine zq 0 (.pointer (some ⟨cb,0,none⟩)) rfl ?_;refine zq 1 (.pointer (some ⟨cb,0,none⟩)) rfl ?_;refine zq 2 (.pointer (some ⟨cb,1,none⟩)) rfl ?_;refine zt 3 (.slice (some ⟨g7,0,none⟩) n7 cp7) rfl (fun W hW=>aBy) ?_;refine zq 4 (.int .i64 (k7:Int)) rfl ?_;refine zq 5 (.pointer (some ⟨cb,0,none⟩)) rfl ?_;refine zq 6 (.pointer (some ⟨cb,0,none⟩)) rfl ?_;refine zq 7 (.pointer (some ⟨cb,1,none⟩)) rfl ?_;refine zt 8 (.slice (some ⟨g7,0,none⟩) n7 cp7) rfl (fun W hW=>aBy) ?_;refine zq 9 (.int .i64 (n7:Int)) rfl ?_;refine zq 10 (.pointer (some ⟨g7,k7*5,none⟩)) rfl ?_;refine zq 11 (.pointer (some ⟨g7,k7*5+1,none⟩)) rfl ?_;try simp only[zn]
 have hu:w7.drew.cell? ⟨g7,k7*5+1,none⟩=some _:=hu7;have hf:w7.drew.frozen? ⟨g7,k7*5+1,none⟩=false:=H9;refine zr 12 rfl (fun K hK=>?_);try simp only[z1,z2,z3]
 go_simp;refine hK.out _ _ (cell_set (fun e=>hne7 e.symm) b1) (fun hS=>?_);clear hK K;try simp only[zn]
 refine wpAnyH_done YN ?_ _;clear hS hu hf;go_wp2_with fail;refine bodyPost_ret (v:=.tuple #[]) (by simp[results,Tryz.results241,go_sem]) rfl ?_;exact⟨css8,_,rfl,KB.out.later (aE _),(sN.out.trans FG.out).trans (Ext.below cb _ (aE _))⟩
theorem W4{p:Prop}(h:p:=by
 clear h hr vZ hn rT tL sU;go_enter Tryz.func214,Tryz.ntmps214;go_wp2_with(go_at_call 215;refine HP.out.mono ?_;rintro e w2 ⟨css2,v2,rfl,tE,rV⟩);go_end0
 exact⟨css2,v2,rfl,by rw[hE];exact tE,sN.out.trans rV⟩):p:=h
theorem foldl_at{α β:Type}{f:β->α->β}{l:List α}{q:Nat}{x:α}(hx:l[q]? =some x)(c:β):(l.take (q+1)).foldl f c=f ((l.take q).foldl f c) x:=by
 rw[List.take_add_one,hx,List.foldl_append];rfl
theorem all_any'{d:Nat}(HX:ExpAt d)(l:List Xp){B cb:Nat}{vars:List Fld}{vv v:Value}{c:Cmp}{css:List (List Value)}{names:List bA}{vns va:Value}{w:World}(hr:∀x∈l,aJ d x=true)(h:Cp B cb vars vv c css v w)
  (hlen:c.code.length+l.length*fA d<=100000000000) (yD:names.length+d<=1000) (vZ:aO 1 dD (cE cb v) w vns names) (hl:aO 6 bN (cE cb v) w va l):
  Calls Tryz.prog 243 #[.pointer (some ⟨cb,0,none⟩),va,vns] w (mM B cb vars vv v w (l.foldl (fun c x=>bJ (vars.map (·.1)) d names x c) c)):=by
 have xB:=zh HX;have HR:=zh hr;have HNS:=zh vZ;obtain⟨ans,cns,rfl,-⟩:=vZ.at;obtain⟨a,cl,rfl,A2,zC,AC⟩:=hl.at;have HA:=zh AC;have VE:=zh h;have hcbw:=h.lt;clear AC hl vZ h HX hr;generalize hF:(fun(c:Cmp)(x:Xp)=>bJ (vars.map (·.1)) d names x c)=F;have HF:=zh hF;have HLF:Hid (∀x∈l,∀c,(F c x).code.length<=c.code.length+fA d):=zh (fun x hx c=>by rw[<-hF];exact jH _ d names x c (HR.out x hx));clear hF;go_enter Tryz.func243,Tryz.ntmps243;go_wp2_with fail;go_loopw [10] (fun iv wr=>∃(q:Nat)(css':List (List Value))(v':Value),q<=l.length/\iv=.int .i64 (q:Int)/\Hid (Cp B cb vars vv ((l.take q).foldl F c) css' v' wr)/\Hid (Ext cb v w v' wr)) (fun iv _=>l.length-(intOf iv).toNat)
 case atStart=>exact⟨0,css,v,Nat.zero_le _,rfl,VE,zh (Ext.refl _ _ _)⟩
 case round=>
  obtain⟨q,css1,v1,hq,rfl,HC,HE⟩:=hrel;rename World=>wr
  by_cases rU:q<l.length
  ·obtain⟨x,hx,tD⟩:=getElem?_of_lt rU;obtain⟨b,o,rfl,wR,cs,uG,-,hj⟩:=HA.out q x hx
   have HFL:Hid (((l.take q).foldl F c).code.length<=c.code.length+q*fA d):=zh (by
    have:=fold_len (f:=F) (a:=fA d) (l.take q) c (fun x hx c=>HLF.out x (List.mem_of_mem_take hx) c)
    rwa [List.length_take,Nat.min_eq_left YM] at this)
   have OP:q*fA d+fA d<=l.length*fA d:=by
    have:(q+1)*fA d<=l.length*fA d:=Nat.mul_le_mul_right _ rU
    rwa [Nat.succ_mul] at this
   have RC:=foldl_at (f:=F) hx c
   cases x with
   |mk op n s m ns args=>
    have xT:=uG;rw[aU] at xT;obtain⟨vn2,va2,rfl,-,-,xQ,wB⟩:=xT;obtain⟨a3,c3,rfl,-⟩:=xQ.at;obtain⟨a4,c4,rfl,-⟩:=wB.at;have CF:¬inC cb v b:=fun e=>e.elim wR.1 wR.2;have p0:wr.cell? ⟨b,o+q*6,none⟩=some (.int .i64 op):=HE.out.off.cell CF (hj 0 _ rfl);have p1:=HE.out.off.cell CF (hj 1 _ rfl);have p2:=HE.out.off.cell CF (hj 2 _ rfl);have p3:=HE.out.off.cell CF (hj 3 _ rfl);have p4:=HE.out.off.cell CF (hj 4 _ rfl);have p5:=HE.out.off.cell CF (hj 5 _ rfl);have rR:=aA wr (aN op n s m a3 ns.length c3 a4 args.length c4);have xF:=HE.out.trans (Ext.below cb v1 rR);have A8:=zh xF;have HQ:=zh (xB.out (.mk op n s m ns args) B cb vars vv v1 ((l.take q).foldl F c) css1 names _ op n s m _ _ _ (HR.out _ tD) (HC.out.later rR) (by have:=HFL.out;omega) yD (dE aV YO HNS.out xF) (eR uG xF));rw[show bJ (vars.map (·.1)) d names (.mk op n s m ns args) ((l.take q).foldl F c)=F ((l.take q).foldl F c) (.mk op n s m ns args) from by rw[<-HF.out],<-RC] at HQ;clear hj uG hx rR xF tD RC xQ wB HA HFL OP;generalize ns.length=k1 at *;generalize args.length=k2 at *;go_wp2_with(go_at_call 214;refine HQ.out.mono ?_;rintro e w2 ⟨css2,v2,rfl,tE,rV⟩);go_roundw;(case rel=>exact⟨q+1,css2,v2,YM,YZ,zh tE,zh (A8.out.trans rV)⟩);case measure=>simp[intOf];omega
  have wK:q=l.length:=YM;have HT:Hid ((l.take q).foldl F c=l.foldl F c):=zh (by rw[wK,List.take_length]);go_wp2_with fail;go_end0;exact⟨css1,v1,rfl,by have h:=HC.out;rw[HT.out] at h;exact h,HE.out⟩
theorem exp_0{d:Nat}(HX:ExpAt d)(n:Int)(s m:bA)(ns:List bA)(args:List Xp){B cb:Nat}{vars:List Fld}{vv v:Value}{c:Cmp}{css:List (List Value)}{names:List bA}{vns vn va:Value}{w:World}
  (hr:aJ (d+1) (.mk 0 n s m ns args)=true) (h:Cp B cb vars vv c css v w) (hlen:c.code.length+fA (d+1)<=100000000000) (yD:names.length+(d+1)<=1000) (vZ:aO 1 dD (cE cb v) w vns names)
  (he:bN (cE cb v) w (.mk 0 n s m ns args) [.int .i64 0,.int .i64 n,.string s,.string m,vn,va]):
  Calls Tryz.prog 214 #[.pointer (some ⟨cb,0,none⟩),kP 0 n s m vn va,vns] w (mM B cb vars vv v w (bJ (vars.map (·.1)) (d+1) names (.mk 0 n s m ns args) c)):=by
 have hE:bJ (vars.map (·.1)) (d+1) names (.mk 0 n s m ns args) c=c.put (ins 0 n):=by rw[gT];rfl
 obtain⟨RS,h8,h2,h3,sU,uN⟩:=kT hr;have OR:fA (d+1)=8*fA d+1:=rfl;rw[aU] at he;obtain⟨vn',va',e,hs,hm,hn,rT⟩:=he;cases e;obtain⟨a1,c1,rfl,-⟩:=hn.at;obtain⟨a2,c2,rfl,A3,yI,tL⟩:=rT.at;obtain⟨ans,cns,rfl,-⟩:=vZ.at;have hb:=aA w (aN 0 n s m a1 ns.length c1 a2 args.length c2);have sN:=zh (Ext.below cb v hb);have zL:=zh (h.later hb);have wR:=h.new (Nat.le_refl _);have yH:Hid ((w.alloc (aN 0 n s m a1 ns.length c1 a2 args.length c2)).heap[w.heap.size]? =some (aN 0 n s m a1 ns.length c1 a2 args.length c2)):=zh (bY w _);obtain⟨⟨x0,x1,x2,x3,x4,x5⟩,-⟩:=bx6 yH.out;have hmf:∀(fn:Fn)(first cap:Array Value)(w:World),(Instr.makeFunc fn first cap).run Tryz.prog w=.ok (.func fn first cap) w:=fun _ _ _ _=>rfl;have HP:=zh (nZ (ins 0 n) (.slice none 0 0) zL.out YM (kS _ _ 0 n aAd aAd));exact W4
theorem exp_1{d:Nat}(HX:ExpAt d)(n:Int)(s m:bA)(ns:List bA)(args:List Xp){B cb:Nat}{vars:List Fld}{vv v:Value}{c:Cmp}{css:List (List Value)}{names:List bA}{vns vn va:Value}{w:World}
  (hr:aJ (d+1) (.mk 1 n s m ns args)=true) (h:Cp B cb vars vv c css v w) (hlen:c.code.length+fA (d+1)<=100000000000) (yD:names.length+(d+1)<=1000) (vZ:aO 1 dD (cE cb v) w vns names)
  (he:bN (cE cb v) w (.mk 1 n s m ns args) [.int .i64 1,.int .i64 n,.string s,.string m,vn,va]):
  Calls Tryz.prog 214 #[.pointer (some ⟨cb,0,none⟩),kP 1 n s m vn va,vns] w (mM B cb vars vv v w (bJ (vars.map (·.1)) (d+1) names (.mk 1 n s m ns args) c)):=by
 have hE:bJ (vars.map (·.1)) (d+1) names (.mk 1 n s m ns args) c=c.put (ins 1 n):=by rw[gT];rfl
 obtain⟨RS,h8,h2,h3,sU,uN⟩:=kT hr;have OR:fA (d+1)=8*fA d+1:=rfl;rw[aU] at he;obtain⟨vn',va',e,hs,hm,hn,rT⟩:=he;cases e;obtain⟨a1,c1,rfl,-⟩:=hn.at;obtain⟨a2,c2,rfl,A3,yI,tL⟩:=rT.at;obtain⟨ans,cns,rfl,-⟩:=vZ.at;have hb:=aA w (aN 1 n s m a1 ns.length c1 a2 args.length c2);have sN:=zh (Ext.below cb v hb);have zL:=zh (h.later hb);have wR:=h.new (Nat.le_refl _);have yH:Hid ((w.alloc (aN 1 n s m a1 ns.length c1 a2 args.length c2)).heap[w.heap.size]? =some (aN 1 n s m a1 ns.length c1 a2 args.length c2)):=zh (bY w _);obtain⟨⟨x0,x1,x2,x3,x4,x5⟩,-⟩:=bx6 yH.out;have hmf:∀(fn:Fn)(first cap:Array Value)(w:World),(Instr.makeFunc fn first cap).run Tryz.prog w=.ok (.func fn first cap) w:=fun _ _ _ _=>rfl;have HP:=zh (nZ (ins 1 n) (.slice none 0 0) zL.out YM (kS _ _ 1 n aAd aAd));exact W4
theorem exp_2{d:Nat}(HX:ExpAt d)(n:Int)(s m:bA)(ns:List bA)(args:List Xp){B cb:Nat}{vars:List Fld}{vv v:Value}{c:Cmp}{css:List (List Value)}{names:List bA}{vns vn va:Value}{w:World}
  (hr:aJ (d+1) (.mk 2 n s m ns args)=true) (h:Cp B cb vars vv c css v w) (hlen:c.code.length+fA (d+1)<=100000000000) (yD:names.length+(d+1)<=1000) (vZ:aO 1 dD (cE cb v) w vns names)
  (he:bN (cE cb v) w (.mk 2 n s m ns args) [.int .i64 2,.int .i64 n,.string s,.string m,vn,va]):
  Calls Tryz.prog 214 #[.pointer (some ⟨cb,0,none⟩),kP 2 n s m vn va,vns] w (mM B cb vars vv v w (bJ (vars.map (·.1)) (d+1) names (.mk 2 n s m ns args) c)):=by
 have hE:bJ (vars.map (·.1)) (d+1) names (.mk 2 n s m ns args) c=c.put (ins 2 (eU names s)):=by rw[gT];rfl
 obtain⟨RS,h8,h2,h3,sU,uN⟩:=kT hr;have OR:fA (d+1)=8*fA d+1:=rfl;rw[aU] at he;obtain⟨vn',va',e,hs,hm,hn,rT⟩:=he;cases e;obtain⟨a1,c1,rfl,-⟩:=hn.at;obtain⟨a2,c2,rfl,A3,yI,tL⟩:=rT.at;obtain⟨ans,cns,rfl,-⟩:=vZ.at;have hb:=aA w (aN 2 n s m a1 ns.length c1 a2 args.length c2);have sN:=zh (Ext.below cb v hb);have zL:=zh (h.later hb);have wR:=h.new (Nat.le_refl _);have yH:Hid ((w.alloc (aN 2 n s m a1 ns.length c1 a2 args.length c2)).heap[w.heap.size]? =some (aN 2 n s m a1 ns.length c1 a2 args.length c2)):=zh (bY w _);obtain⟨⟨x0,x1,x2,x3,x4,x5⟩,-⟩:=bx6 yH.out;have hmf:∀(fn:Fn)(first cap:Array Value)(w:World),(Instr.makeFunc fn first cap).run Tryz.prog w=.ok (.func fn first cap) w:=fun _ _ _ _=>rfl;have hli:=lastIdx_ge s names;have HL:=zh (clast_any names s _ _ YM (vZ.strs.later hb));have HP:=zh (nZ (ins 2 (eU names s)) (.slice none 0 0) zL.out YM (kS _ _ 2 (eU names s) YM YM));clear h hr vZ hn rT tL sU;go_enter Tryz.func214,Tryz.ntmps214;go_wp2_with(first|(go_at_call 215;refine HP.out.mono ?_;rintro e w2 ⟨css2,v2,rfl,tE,rV⟩)|(go_at_call 239;refine HL.out.mono ?_;rintro e w1 ⟨rfl,rfl⟩));go_end0;exact⟨css2,v2,rfl,by rw[hE];exact tE,sN.out.trans rV⟩
theorem exp_17{d:Nat}(HX:ExpAt d)(n:Int)(s m:bA)(ns:List bA)(args:List Xp){B cb:Nat}{vars:List Fld}{vv v:Value}{c:Cmp}{css:List (List Value)}{names:List bA}{vns vn va:Value}{w:World}
  (hr:aJ (d+1) (.mk 17 n s m ns args)=true) (h:Cp B cb vars vv c css v w) (hlen:c.code.length+fA (d+1)<=100000000000) (yD:names.length+(d+1)<=1000) (vZ:aO 1 dD (cE cb v) w vns names)
  (he:bN (cE cb v) w (.mk 17 n s m ns args) [.int .i64 17,.int .i64 n,.string s,.string m,vn,va]):
  Calls Tryz.prog 214 #[.pointer (some ⟨cb,0,none⟩),kP 17 n s m vn va,vns] w (mM B cb vars vv v w (bJ (vars.map (·.1)) (d+1) names (.mk 17 n s m ns args) c)):=by
 have hE:bJ (vars.map (·.1)) (d+1) names (.mk 17 n s m ns args) c=c.put (ins 16 (kJ (vars.map (·.1)) s)):=by rw[gT];rfl
 obtain⟨RS,h8,h2,h3,sU,uN⟩:=kT hr;have OR:fA (d+1)=8*fA d+1:=rfl;rw[aU] at he;obtain⟨vn',va',e,hs,hm,hn,rT⟩:=he;cases e;obtain⟨a1,c1,rfl,-⟩:=hn.at;obtain⟨a2,c2,rfl,A3,yI,tL⟩:=rT.at;obtain⟨ans,cns,rfl,-⟩:=vZ.at;have hb:=aA w (aN 17 n s m a1 ns.length c1 a2 args.length c2);have sN:=zh (Ext.below cb v hb);have zL:=zh (h.later hb);have wR:=h.new (Nat.le_refl _);have yH:Hid ((w.alloc (aN 17 n s m a1 ns.length c1 a2 args.length c2)).heap[w.heap.size]? =some (aN 17 n s m a1 ns.length c1 a2 args.length c2)):=zh (bY w _);obtain⟨⟨x0,x1,x2,x3,x4,x5⟩,-⟩:=bx6 yH.out;have hmf:∀(fn:Fn)(first cap:Array Value)(w:World),(Instr.makeFunc fn first cap).run Tryz.prog w=.ok (.func fn first cap) w:=fun _ _ _ _=>rfl;have hli:=varIdx_range (vars.map (·.1)) s;rw[List.length_map] at hli;have hnv:=h.nv;have HV:=zh (variable_any cb vars _ vv _ _ s _ zL.out.box zL.out.row);have HP:=zh (fun W(rQ:Below _ _ W)=>nZ (ins 16 (kJ (vars.map (·.1)) s)) (.slice none 0 0) (zL.out.later (w':=W) rQ) YM (kS _ _ 16 (kJ (vars.map (·.1)) s) YM YM));clear h hr vZ hn rT tL sU;generalize kJ (vars.map (·.1)) s=ix at *;go_enter Tryz.func214,Tryz.ntmps214;go_wp2_with(first|(go_at_call 215;refine(HP.out _ rR).mono ?_;rintro e w2 ⟨css2,v2,rfl,tE,rV⟩)|(go_at_call 240;refine HV.out.mono ?_;rintro e w1 ⟨rfl,rR⟩));go_end0;exact⟨css2,v2,rfl,by rw[hE];exact tE,(sN.out.trans (Ext.below cb v rR)).trans rV⟩
theorem plain_all{d:Nat}{B cb:Nat}{vars:List Fld}{vv v:Value}{c:Cmp}{css:List (List Value)}(op n:Int)(s m:bA)(ns:List bA)(args:List Xp)(a1:Option Addr)(c1:Nat)(a2:Option Addr)(c2:Nat){N:Nat->Prop}{w:World}
  (tN:op≠0/\op≠1/\op≠2/\op≠17/\op≠8/\op≠9/\op≠11/\op≠12) (hr:aJ (d+1) (.mk op n s m ns args)=true) (h:Cp B cb vars vv c css v w) (hs:s.size<=8000) (hm:m.size<=8000) (hn:aO 1 dD N w (.slice a1 ns.length c1) ns):
  dI cb (vars.map (·.1)) (.mk op n s m ns args) op n s m (.slice a1 ns.length c1) (.slice a2 args.length c2) w:=by
 obtain⟨RS,h8,-,-,-,uN⟩:=kT hr;obtain⟨n0,n1,n2,n17,n8,n9,n11,n12⟩:=tN;have hc:op=3\/op=4\/op=5\/op=6\/op=7\/op=10\/op=13\/op=14\/op=15\/op=16\/op=18:=YM;rcases hc with rfl|rfl|rfl|rfl|rfl|rfl|rfl|rfl|rfl|rfl|rfl
 ·exact plain_3 cb _ n s m ns args a1 ns.length c1 a2 c2 w hs hm YM
 ·exact plain_4 cb _ n s m ns args a1 ns.length c1 a2 c2 w hs hm YM
 ·exact plain_5 cb _ n s m ns args a1 ns.length c1 a2 c2 w hs hm YM
 ·exact plain_6 cb _ n s m ns args a1 ns.length c1 a2 c2 w hs hm YM
 ·exact plain_7 cb _ n s m ns args a1 ns.length c1 a2 c2 w hs hm YM
 ·exact plain_10 cb _ n s m ns args a1 ns.length c1 a2 c2 w hs hm YM
 ·exact plain_13 cb _ n s m ns args _ a2 args.length c2 w aAd hn.strs
 ·exact plain_14 cb _ n s m ns args a1 ns.length c1 a2 c2 w hs hm YM
 ·exact plain_15 cb _ n s m ns args a1 ns.length c1 a2 c2 w hs hm YM
 ·exact plain_16 cb _ n s m ns args a1 ns.length c1 a2 c2 w hs hm YM aAd aAd
 exact plain_18 n s m ns args a1 ns.length c1 a2 args.length c2 w h
theorem exp_else{d:Nat}(HX:ExpAt d)(op:Int)(tN:op≠0/\op≠1/\op≠2/\op≠17/\op≠8/\op≠9/\op≠11/\op≠12)(n:Int)(s m:bA)(ns:List bA)(args:List Xp){B cb:Nat}{vars:List Fld}{vv v:Value}{c:Cmp}{css:List (List Value)}{names:List bA}{vns vn va:Value}{w:World}
  (hr:aJ (d+1) (.mk op n s m ns args)=true) (h:Cp B cb vars vv c css v w) (hlen:c.code.length+fA (d+1)<=100000000000) (yD:names.length+(d+1)<=1000) (vZ:aO 1 dD (cE cb v) w vns names)
  (he:bN (cE cb v) w (.mk op n s m ns args) [.int .i64 op,.int .i64 n,.string s,.string m,vn,va]):
  Calls Tryz.prog 214 #[.pointer (some ⟨cb,0,none⟩),kP op n s m vn va,vns] w (mM B cb vars vv v w (bJ (vars.map (·.1)) (d+1) names (.mk op n s m ns args) c)):=by
 have hE:bJ (vars.map (·.1)) (d+1) names (.mk op n s m ns args) c=(args.foldl (fun c x=>bJ (vars.map (·.1)) d names x c) c).put (gY (vars.map (·.1)) (.mk op n s m ns args)):=by
  rw[gT,if_neg tN.1,if_neg tN.2.1,if_neg tN.2.2.1,if_neg tN.2.2.2.1,if_neg tN.2.2.2.2.1,if_neg tN.2.2.2.2.2.1,if_neg tN.2.2.2.2.2.2.1,if_neg tN.2.2.2.2.2.2.2]
 obtain⟨RS,h8,h2,h3,sU,uN⟩:=kT hr;have OR:fA (d+1)=8*fA d+1:=rfl;rw[aU] at he;obtain⟨vn',va',e,hs,hm,hn,rT⟩:=he;cases e;obtain⟨a1,c1,rfl,-⟩:=hn.at;obtain⟨a2,c2,rfl,A3,yI,tL⟩:=rT.at;obtain⟨ans,cns,rfl,-⟩:=vZ.at;have hb:=aA w (aN op n s m a1 ns.length c1 a2 args.length c2);have sN:=zh (Ext.below cb v hb);have zL:=zh (h.later hb);have wR:=h.new (Nat.le_refl _);have yH:Hid ((w.alloc (aN op n s m a1 ns.length c1 a2 args.length c2)).heap[w.heap.size]? =some (aN op n s m a1 ns.length c1 a2 args.length c2)):=zh (bY w _);obtain⟨⟨x0,x1,x2,x3,x4,x5⟩,-⟩:=bx6 yH.out;have hmf:∀(fn:Fn)(first cap:Array Value)(w:World),(Instr.makeFunc fn first cap).run Tryz.prog w=.ok (.func fn first cap) w:=fun _ _ _ _=>rfl;have g0:(op==0)=false:=by rw[beq_eq_false_iff_ne];exact tN.1
 have g1:(op==1)=false:=by rw[beq_eq_false_iff_ne];exact tN.2.1
 have g2:(op==2)=false:=by rw[beq_eq_false_iff_ne];exact tN.2.2.1
 have g17:(op==17)=false:=by rw[beq_eq_false_iff_ne];exact tN.2.2.2.1
 have g8:(op==8)=false:=by rw[beq_eq_false_iff_ne];exact tN.2.2.2.2.1
 have g9:(op==9)=false:=by rw[beq_eq_false_iff_ne];exact tN.2.2.2.2.2.1
 have g11:(op==11)=false:=by rw[beq_eq_false_iff_ne];exact tN.2.2.2.2.2.2.1
 have g12:(op==12)=false:=by rw[beq_eq_false_iff_ne];exact tN.2.2.2.2.2.2.2
 have hml:args.length*fA d<=8*fA d:=Nat.mul_le_mul_right _ h8;have HQ:=zh (all_any' HX args sU zL.out YM YM (dE aV YO vZ sN.out) (dE aI YO rT sN.out));have HFL:=zh (fold_len (f:=fun c x=>bJ (vars.map (·.1)) d names x c) (a:=fA d) args c (fun x hx c=>jH _ d names x c (sU x hx)));have HPL:=zh (fun css' v' W(hc:Cp B cb vars vv (args.foldl (fun c x=>bJ (vars.map (·.1)) d names x c) c) css' v' W)(hx:Ext cb v w v' W)=>plain_all (d:=d) op n s m ns args a1 c1 a2 c2 tN hr hc hs hm (dE aV YO hn hx));unfold dI at HPL;generalize args.foldl (fun c x=>bJ (vars.map (·.1)) d names x c) c=cA at *;generalize gY (vars.map (·.1)) (.mk op n s m ns args)=pX at *;clear h hr hn rT tL sU tN uN;go_enter Tryz.func214,Tryz.ntmps214;go_wp2_with(go_at_call 243;refine HQ.out.mono ?_;rintro e w2 ⟨css2,v2,rfl,tE,rV⟩;have uU:=zh tE;have sL:=zh rV;have rZ:=zh (rV.blk wR yH.out);obtain⟨⟨y0,y1,y2,y3,y4,y5⟩,-⟩:=bx6 rZ.out.1);have J8:=zh (HPL.out css2 v2 w2 uU.out (sN.out.trans sL.out));clear tE rV;go_wp2_with(go_at_call 244;refine J8.out.mono ?_;rintro e w3 ⟨ax,kx,cx,rfl,hen3,tI⟩);have FT:=uU.out.size_le;have CM:=zh (nZ pX (.slice ax kx cx) (uU.out.later tI) (by have:=HFL.out;omega) (iM _ _ _ _ _ _ (fun b hb _=>⟨⟨by have hb:w2.heap.size<=b:=hb;omega,fun e=>by have hb:w2.heap.size<=b:=hb;have:=(uU.out.own b e).2;omega⟩,fun _ _ h=>h⟩) hen3));go_wp2_with(go_at_call 215;refine CM.out.mono ?_;rintro e w4 ⟨css4,v4,rfl,TK,sI⟩);go_end0;exact⟨css4,v4,rfl,by rw[hE];exact TK,((sN.out.trans sL.out).trans (Ext.below cb v2 tI)).trans sI⟩
end Go.Proofs.YtiionicikdnnpaaGreatDoor
