/- Texts of this seat, joined. -/
import Derived.Test.YtacgopankhpnbaaGreatDoorSAN
set_option maxHeartbeats 8000000
set_option maxRecDepth 100000
set_option linter.unusedVariables false
set_option linter.unusedSimpArgs false
namespace Go.Proofs.YtacgopankhpnbaaGreatDoor
theorem T9{p:Prop}(h:p:=by
 unfold gF;simp only[Cmp.fix_len];have h1:=hy (c.put (ins 11 0));rw[Cmp.put_len] at h1;have h2:=hn (((yes (c.put (ins 11 0))).put (ins 10 0)).fix c.code.length);rw[Cmp.fix_len,Cmp.put_len] at h2
 omega):p:=h
def dV:Nat->Nat
 |0=>0
 |d+1=>8*dV d+1
theorem jL{d:Nat}{op n:Int}{s m:ByteArray}{names:List ByteArray}{args:List Xp}(h:aT (d+1) (.mk op n s m names args)=true):
  (0<=op/\op<19)/\args.length<=8/\(op=8\/op=9\/op=12->args.length=2)/\(op=11->args.length=3)/\(∀x∈args,aT d x=true)/\gX (.mk op n s m names args)=true:=by
 rw[aT] at h;simp only[Bool.and_eq_true,decide_eq_true_eq,Bool.or_eq_true,List.all_eq_true] at h;obtain⟨⟨⟨⟨⟨⟨⟨⟨h0,h1⟩,h2⟩,-⟩,-⟩,-⟩,-⟩,h3⟩,h4⟩:=h;have e:=cleanX_eq op n s m names args h0 h1;rw[e] at h2;refine⟨⟨h0,h1⟩,?_,?_,?_,h4,h3⟩
 ·have hc:op=0\/op=1\/op=2\/op=3\/op=4\/op=5\/op=6\/op=7\/op=8\/op=9\/op=10\/op=11\/op=12\/op=13\/op=14\/op=15\/op=16\/op=17\/op=18:=VG;rcases hc with rfl|rfl|rfl|rfl|rfl|rfl|rfl|rfl|rfl|rfl|rfl|rfl|rfl|rfl|rfl|rfl|rfl|rfl|rfl<;>simp[nL] at h2<;>simp[gX] at h3<;>omega
 ·rintro(rfl|rfl|rfl)<;>simp[nL] at h2<;>omega
 ·rintro rfl;simp[nL] at h2;omega
theorem Cmp.put_len(c:Cmp)(i:Ins):(c.put i).code.length=c.code.length+1:=by simp[Cmp.put]
theorem Cmp.fix_len(c:Cmp)(k:Nat):(c.fix k).code.length=c.code.length:=by simp[Cmp.fix]
theorem choice_len{yes no:Cmp->Cmp}{a b:Nat}(hy:∀c,(yes c).code.length<=c.code.length+a)(hn:∀c,(no c).code.length<=c.code.length+b)(c:Cmp):(gF yes no c).code.length<=c.code.length+(a+b+2):=by
 exact T9
theorem fold_len{f:Cmp->Xp->Cmp}{a:Nat}:∀(args:List Xp)(c:Cmp),(∀x∈args,∀c,(f c x).code.length<=c.code.length+a)->(args.foldl f c).code.length<=c.code.length+args.length*a
 |[],c,_=>VL
 |x::args,c,h=>by
  have h1:=h x VL c;have h2:=fold_len args (f c x) (fun y hy=>h y (by simp[hy]));rw[List.foldl_cons,List.length_cons,Nat.succ_mul];omega
theorem lenB_pos:∀{d:Nat}{x:Xp},aT d x=true->1<=dV d
 |0,x,h=>by simp[aT] at h
 |d+1,_,_=>by simp[dV]
theorem fA(vars:List ByteArray)(d:Nat)(names:List ByteArray)(op n:Int)(s m:ByteArray)(ns:List ByteArray)(args:List Xp)(c:Cmp):bA vars (d+1) names (.mk op n s m ns args) c=
  (if op=0 then c.put (ins 0 n)
  else if op=1 then c.put (ins 1 n)
  else if op=2 then c.put (ins 2 (dP names s))
  else if op=17 then c.put (ins 16 (jD vars s))
  else if op=8 then match args with
   |[x,y]=>gF (bA vars d names y) (fun c=>c.put (ins 1 0)) (bA vars d names x c)
   |_=>c
  else if op=9 then match args with
   |[x,y]=>gF (fun c=>c.put (ins 1 1)) (bA vars d names y) (bA vars d names x c)
   |_=>c
  else if op=11 then match args with
   |[x,y,z]=>gF (bA vars d names y) (bA vars d names z) (bA vars d names x c)
   |_=>c
  else if op=12 then match args with
   |[x,y]=>
    let c1:=(bA vars d names x c).put (ins 3 names.length)
    bA vars d (names++[s]) y ⟨c1.code,max c1.locals (names.length+1)⟩
   |_=>c
  else(args.foldl (fun c x=>bA vars d names x c) c).put (fH vars (.mk op n s m ns args))):=rfl
theorem hJ(vars:List ByteArray):∀(d:Nat)(names:List ByteArray)(x:Xp)(c:Cmp),aT d x=true->(bA vars d names x c).code.length<=c.code.length+dV d
 |0,_,_,c,_=>by simp[bA,dV]
 |d+1,names,.mk op n s m ns args,c,h=>by
  obtain⟨⟨h0,h1⟩,h8,h2,h3,ha,-⟩:=jL h;have ih:=fun names x(hx:x∈args)c=>hJ vars d names x c (ha x hx);rw[fA,dV];split
  ·rw[Cmp.put_len];omega
  split
  ·rw[Cmp.put_len];omega
  split
  ·rw[Cmp.put_len];omega
  split
  ·rw[Cmp.put_len];omega
  split
  ·rename_i e8;have hl:=h2 (.inl e8)
   match args,hl,ih,ha with
   |[x,y],_,ih,ha=>
    have hp:=lenB_pos (ha x VL);have h1:=ih names x VL c;have h2:=choice_len (a:=dV d) (b:=1) (fun c=>ih names y VL c) (fun c=>Nat.le_of_eq (Cmp.put_len c (ins 1 0))) (bA vars d names x c);(try dsimp only);omega
  split
  ·rename_i e8;have hl:=h2 (.inr (.inl e8))
   match args,hl,ih,ha with
   |[x,y],_,ih,ha=>
    have hp:=lenB_pos (ha x VL);have h1:=ih names x VL c;have h2:=choice_len (a:=1) (b:=dV d) (fun c=>Nat.le_of_eq (Cmp.put_len c (ins 1 1))) (fun c=>ih names y VL c) (bA vars d names x c);(try dsimp only);omega
  split
  ·rename_i e8;have hl:=h3 e8
   match args,hl,ih,ha with
   |[x,y,z],_,ih,ha=>
    have hp:=lenB_pos (ha x VL);have h1:=ih names x VL c;have h2:=choice_len (a:=dV d) (b:=dV d) (fun c=>ih names y VL c) (fun c=>ih names z VL c) (bA vars d names x c);(try dsimp only);omega
  split
  ·rename_i e8;have hl:=h2 (.inr (.inr e8))
   match args,hl,ih,ha with
   |[x,y],_,ih,ha=>
    have hp:=lenB_pos (ha x VL);have h1:=ih names x VL c;have h2:=ih (names++[s]) y VL ⟨((bA vars d names x c).put (ins 3 names.length)).code,max ((bA vars d names x c).put (ins 3 names.length)).locals (names.length+1)⟩;dsimp only at h2 ⊢;rw[Cmp.put_len] at h2;omega
  ·rw[Cmp.put_len];have h1:=fold_len (f:=fun c x=>bA vars d names x c) (a:=dV d) args c (fun x hx c=>ih names x hx c);have h2:args.length*dV d<=8*dV d:=Nat.mul_le_mul_right _ h8;omega
theorem choice_ge{yes no:Cmp->Cmp}(hy:∀c,c.code.length<=(yes c).code.length)(hn:∀c,c.code.length<=(no c).code.length)(c:Cmp):c.code.length<=(gF yes no c).code.length:=by
 exact T9
theorem fold_ge{f:Cmp->Xp->Cmp}(h:∀c x,c.code.length<=(f c x).code.length):∀(args:List Xp)(c:Cmp),c.code.length<=(args.foldl f c).code.length
 |[],c=>Nat.le_refl _
 |x::args,c=>Nat.le_trans (h c x) (fold_ge h args (f c x))
theorem put_ge(c:Cmp)(i:Ins):c.code.length<=(c.put i).code.length:=by rw[Cmp.put_len];omega
theorem compX_ge(vars:List ByteArray):∀(d:Nat)(names:List ByteArray)(x:Xp)(c:Cmp),c.code.length<=(bA vars d names x c).code.length
 |0,_,_,_=>by simp[bA]
 |d+1,names,.mk op n s m ns args,c=>by
  have ih:=fun names x c=>compX_ge vars d names x c;rw[fA];split
  ·exact put_ge _ _
  split
  ·exact put_ge _ _
  split
  ·exact put_ge _ _
  split
  ·exact put_ge _ _
  split
  ·split
   ·exact Nat.le_trans (ih _ _ _) (choice_ge (fun c=>ih _ _ c) (fun c=>put_ge c _) _)
   ·exact Nat.le_refl _
  split
  ·split
   ·exact Nat.le_trans (ih _ _ _) (choice_ge (fun c=>put_ge c _) (fun c=>ih _ _ c) _)
   ·exact Nat.le_refl _
  split
  ·split
   ·exact Nat.le_trans (ih _ _ _) (choice_ge (fun c=>ih _ _ c) (fun c=>ih _ _ c) _)
   ·exact Nat.le_refl _
  split
  ·split
   ·rename_i x y;(try dsimp only);have h1:=ih names x c;have h2:=put_ge (bA vars d names x c) (ins 3 names.length);have h3:=ih (names++[s]) y ⟨((bA vars d names x c).put (ins 3 names.length)).code,max ((bA vars d names x c).put (ins 3 names.length)).locals (names.length+1)⟩;dsimp only at h3;omega
   ·exact Nat.le_refl _
  ·exact Nat.le_trans (fold_ge (fun c x=>ih names x c) args c) (put_ge _ _)
theorem lenB_12:dV 12=9817068105:=VI
end Go.Proofs.YtacgopankhpnbaaGreatDoor
namespace Go.Proofs.YtacgopankhpnbaaGreatDoor
open Go.RowKit
def lA(B cb:Nat)(vars:List Fld)(vv v:Value)(w:World)(c':Cmp)(e:Ending)(w':World):Prop:=∃css' v',e=.returned (.tuple #[])/\Cp B cb vars vv c' css' v' w'/\Ext cb v w v' w'
def ExpAt(d:Nat):Prop:=∀(x:Xp)(B cb:Nat)(vars:List Fld)(vv v:Value)(c:Cmp)(css:List (List Value))(names:List ByteArray)(vns:Value)(op n:Int)(s m:ByteArray)(vn va:Value)(w:World),
 aT d x=true->Cp B cb vars vv c css v w->c.code.length+dV d<=100000000000->names.length+d<=1000->aK 1 cK (gJ cb v) w vns names->bV (gJ cb v) w x [.int .i64 op,.int .i64 n,.string s,.string m,vn,va]->
 Calls Tryz.prog 114 #[.pointer (some ⟨cb,0,none⟩),.agg #[.int .i64 op,.int .i64 n,.string s,.string m,vn,va],vns] w (lA B cb vars vv v w (bA (vars.map (·.1)) d names x c))
theorem modify_set{α:Type}(f:α->α):∀(l:List α)(i:Nat)(x:α),l[i]? =some x->l.modify i f=l.set i (f x)
 |[],i,x,h=>W9
 |y::l,0,x,h=>by simp at h;subst h;simp
 |y::l,i+1,x,h=>by
  simp only[List.modify_succ_cons,List.set_cons_succ];rw[modify_set f l i x WI]
theorem Gro.cellAt{α:Type}{k:Nat}{T:TypeId}{enc:(Nat->Prop)->World->α->List Value->Prop}{B:Nat}{l:List α}{css:List (List Value)}{w:World}{g cap n i j:Nat}(h:Gro k T enc B l css (.slice (some ⟨g,0,none⟩) n cap) w)(hi:i<l.length)(hj:j<k):
  ∃u,w.cell? ⟨g,i*k+j,none⟩=some u/\w.frozen? ⟨g,i*k+j,none⟩=false:=by
 rcases h.own.2 with⟨h2,-⟩|⟨g',cap',cur,hv,hg,DW,r1,r2,r3,r4⟩
 ·cases h2
 ·cases hv
  have pT:i*k+j<cur.size:=by
   have h1:(i+1)*k<=cap*k:=Nat.mul_le_mul_right _ VG;rw[Nat.succ_mul] at h1;omega
  have hb:=bx DW (i*k+j) (u:=cur[i*k+j]) (Array.getElem?_eq_getElem pT);exact⟨_,hb.1,hb.2⟩
theorem Cp.fixed{B cb:Nat}{vars:List Fld}{vv:Value}{c:Cmp}{css:List (List Value)}{w:World}{g cap n k:Nat}(h:Cp B cb vars vv c css (.slice (some ⟨g,0,none⟩) n cap) w)(hk:k<c.code.length)(hlen:c.code.length<=100000000000):
  ∃css',Cp B cb vars vv (c.fix k) css' (.slice (some ⟨g,0,none⟩) n cap) (w.setCell ⟨g,k*5+1,none⟩ (.int .i64 (c.code.length:Int)))/\Ext cb (.slice (some ⟨g,0,none⟩) n cap) w (.slice (some ⟨g,0,none⟩) n cap) (w.setCell ⟨g,k*5+1,none⟩ (.int .i64 (c.code.length:Int))):=by
 have hx:=List.getElem?_eq_getElem hk;have hkc:k<css.length:=by rw[h.gro.len];exact hk
 have hgB:B<=g:=(h.own g rfl).1;have hcb:=h.hcb;have he:Ext cb (.slice (some ⟨g,0,none⟩) n cap) w (.slice (some ⟨g,0,none⟩) n cap) (w.setCell ⟨g,k*5+1,none⟩ (.int .i64 (c.code.length:Int))):=⟨Off.setCell (S:=inC cb _) w (.inr rfl),fun b hb=>.inl hb⟩
 have LE:=h.gro.set1 (j:=1) (y:={c.code[k] with a:=(c.code.length:Int)}) (u:=.int .i64 (c.code.length:Int)) fZ hx (List.getElem?_eq_getElem hkc) VI (fun N W hh=>by
  obtain⟨vn,h1,h2,h3,h4,-⟩:=hh
  exact⟨vn,by rw[h1];rfl,h2,h3,h4,by show(-1:Int)<=(c.code.length:Int);omega,by show(c.code.length:Int)<=1099511627776;omega⟩)
 have e:c.code.set k {c.code[k] with a:=(c.code.length:Int)}=(c.fix k).code:=by
  show _=c.code.modify k _;rw[modify_set _ _ _ _ hx]
 rw[e] at LE;exact⟨_,h.put (c':=c.fix k) he ((Off.setCell (S:=fun b=>b=g) w rfl).heap VG h.box) LE,he⟩
theorem gG{α:Type}{k:Nat}{enc:(Nat->Prop)->World->α->List Value->Prop}(he:eD enc)(hk:0<k){cb:Nat}{v v' x:Value}{w w':World}{l:List α}(h:aK k enc (gJ cb v) w x l)(hx:Ext cb v w v' w'):aK k enc (gJ cb v') w' x l:=h.moves he hx.moves hk
theorem gD{cb:Nat}{v v':Value}{w w':World}{x:Xp}{cs:List Value}(h:bV (gJ cb v) w x cs)(hx:Ext cb v w v' w'):bV (gJ cb v') w' x cs:=aG _ _ _ _ _ _ hx.moves h
abbrev truthX(n:Int):Xp:=.mk 1 n noB noB [] []
theorem encX_truth(N:Nat->Prop)(w:World)(n:Int):bV N w (truthX n) [.int .i64 1,.int .i64 n,.string noB,.string noB,.slice none 0 0,.slice none 0 0]:=by
 rw[aZ];exact⟨_,_,rfl,VI,VI,aK.nil _ _ _ _,aK.nil _ _ _ _⟩
theorem right_truth{d:Nat}{n:Int}(h:n=0\/n=1):aT (d+1) (truthX n)=true:=by
 rcases h with rfl|rfl<;>simp[aT,cleanX,gX]
theorem Ext.blk{cb b:Nat}{v v':Value}{w w':World}{o:Obj}(h:Ext cb v w v' w')(hb:gJ cb v b)(ho:w.heap[b]? =some o):w'.heap[b]? =some o/\gJ cb v' b:=by
 have pT:=(Array.getElem?_eq_some_iff.1 ho).1;exact⟨h.off.heap (fun e=>e.elim hb.1 hb.2) ho,hb.1,fun e=>(h.own b e).elim hb.2 (fun h1=>VG)⟩
theorem Cp.form1{B cb:Nat}{vars:List Fld}{vv v:Value}{c:Cmp}{css:List (List Value)}{w:World}(h:Cp B cb vars vv c css v w)(hp:0<c.code.length):∃g cp,v=.slice (some ⟨g,0,none⟩) c.code.length cp:=by
 rcases h.gro.val with⟨rfl,h0⟩|⟨g,cap,rfl,-⟩
 ·rw[h0] at hp;simp at hp
 ·exact⟨_,_,rfl⟩
theorem Cp.new{B cb b:Nat}{vars:List Fld}{vv v:Value}{c:Cmp}{css:List (List Value)}{w:World}(h:Cp B cb vars vv c css v w)(hb:w.heap.size<=b):gJ cb v b:=⟨by have:=h.lt;omega,fun e=>by have:=(h.own b e).2;omega⟩
theorem jF(N:Nat->Prop)(w:World)(op a:Int)(h0: -1<=a)(h1:a<=1099511627776):nI N w (ins op a) [.int .i64 op,.int .i64 a,.string noB,.string noB,.slice none 0 0]:=eV dR dR h0 h1
theorem choice_any{d:Nat}(HX:ExpAt d)(y z:Xp){B cb:Nat}{vars:List Fld}{vv v:Value}{c:Cmp}{css:List (List Value)}{names:List ByteArray}{vns:Value}{opy ny:Int}{sy my:ByteArray}{vny vay:Value}{opz nz:Int}{sz mz:ByteArray}{vnz vaz:Value}{w:World}
  (ry:aT d y=true) (rz:aT d z=true) (h:Cp B cb vars vv c css v w) (hlen:c.code.length+(dV d+dV d+2)<=100000000000) (xA:names.length+d<=1000) (tR:aK 1 cK (gJ cb v) w vns names)
  (hy:bV (gJ cb v) w y [.int .i64 opy,.int .i64 ny,.string sy,.string my,vny,vay]) (hz:bV (gJ cb v) w z [.int .i64 opz,.int .i64 nz,.string sz,.string mz,vnz,vaz]):
  Calls Tryz.prog 155 #[.pointer (some ⟨cb,0,none⟩),.agg #[.int .i64 opy,.int .i64 ny,.string sy,.string my,vny,vay],.agg #[.int .i64 opz,.int .i64 nz,.string sz,.string mz,vnz,vaz],vns] w
   (lA B cb vars vv v w (gF (bA (vars.map (·.1)) d names y) (bA (vars.map (·.1)) d names z) c)):=by
 have HXh:=zh HX;obtain⟨⟨Q7,O1,Q5,rfl⟩,Q6,O0,Q4,rfl⟩:=kP hy;obtain⟨⟨az1,nz1,cz1,rfl⟩,az2,nz2,cz2,rfl⟩:=kP hz;have pS:=aB (aA w (.cells #[.int .i64 opy,.int .i64 ny,.string sy,.string my,.slice Q7 O1 Q5,.slice Q6 O0 Q4] 177)) (aA (w.alloc (.cells #[.int .i64 opy,.int .i64 ny,.string sy,.string my,.slice Q7 O1 Q5,.slice Q6 O0 Q4] 177)) (.cells #[.int .i64 opz,.int .i64 nz,.string sz,.string mz,.slice az1 nz1 cz1,.slice az2 nz2 cz2] 177));have DQ:=Ext.below cb v pS;have wI:=zh DQ;have xR:=zh (h.later pS);have HNS:=zh (gG aQ VI tR DQ);have HYE:=zh (gD hy DQ);have HZE:=zh (gD hz DQ);have HYB:Hid (((w.alloc (.cells #[.int .i64 opy,.int .i64 ny,.string sy,.string my,.slice Q7 O1 Q5,.slice Q6 O0 Q4] 177)).alloc (.cells #[.int .i64 opz,.int .i64 nz,.string sz,.string mz,.slice az1 nz1 cz1,.slice az2 nz2 cz2] 177)).heap[w.heap.size]? =some (.cells #[.int .i64 opy,.int .i64 ny,.string sy,.string my,.slice Q7 O1 Q5,.slice Q6 O0 Q4] 177)/\gJ cb v w.heap.size):=zh ⟨aF (aA _ _) (heap_alloc_new w (.cells #[.int .i64 opy,.int .i64 ny,.string sy,.string my,.slice Q7 O1 Q5,.slice Q6 O0 Q4] 177)),h.new (Nat.le_refl _)⟩;have HZB:Hid (((w.alloc (.cells #[.int .i64 opy,.int .i64 ny,.string sy,.string my,.slice Q7 O1 Q5,.slice Q6 O0 Q4] 177)).alloc (.cells #[.int .i64 opz,.int .i64 nz,.string sz,.string mz,.slice az1 nz1 cz1,.slice az2 nz2 cz2] 177)).heap[w.heap.size+1]? =some (.cells #[.int .i64 opz,.int .i64 nz,.string sz,.string mz,.slice az1 nz1 cz1,.slice az2 nz2 cz2] 177)/\gJ cb v (w.heap.size+1)):=zh ⟨by simpa using heap_alloc_new (w.alloc (.cells #[.int .i64 opy,.int .i64 ny,.string sy,.string my,.slice Q7 O1 Q5,.slice Q6 O0 Q4] 177)) (.cells #[.int .i64 opz,.int .i64 nz,.string sz,.string mz,.slice az1 nz1 cz1,.slice az2 nz2 cz2] 177),h.new VG⟩;obtain⟨ans,cns,rfl,-⟩:=tR.at;generalize hCy:bA (vars.map (·.1)) d names y=CY;generalize hCz:bA (vars.map (·.1)) d names z=CZ;have HLY:Hid (∀c,(CY c).code.length<=c.code.length+dV d):=zh (fun c=>by rw[<-hCy];exact hJ _ d names y c ry);have HLZ:Hid (∀c,(CZ c).code.length<=c.code.length+dV d):=zh (fun c=>by rw[<-hCz];exact hJ _ d names z c rz);have HCY:=zh hCy;have HCZ:=zh hCz;have HRY:=zh ry;have HRZ:=zh rz;have HP1:=zh (mH (ins 11 0) (.slice none 0 0) xR.out VG (jF _ _ 11 0 VI VI));clear hCy hCz ry rz hy hz tR h pS DQ HX;go_enter Tryz.func155,Tryz.ntmps155;go_wp2_with(go_at_call 115;refine HP1.out.mono ?_;rintro e w3 ⟨css3,v3,rfl,BC,sW⟩;have HYB3:=zh (sW.blk HYB.out.2 HYB.out.1);obtain⟨⟨y0,y1,y2,y3,y4,y5⟩,-⟩:=bx6 HYB3.out.1);have M6:=zh BC;have CU:=zh sW;have RA:=zh (sW.blk HZB.out.2 HZB.out.1);have IM:(c.put (ins 11 0)).code.length=c.code.length+1:=Cmp.put_len _ _;have HQ3:=zh (HXh.out y B cb vars vv v3 (c.put (ins 11 0)) css3 names _ opy ny sy my _ _ w3 HRY.out M6.out VG xA (gG aQ VI HNS.out CU.out) (gD HYE.out CU.out));clear BC sW HP1 HYB;rw[HCY.out] at HQ3;go_wp2_with(go_at_call 114;refine HQ3.out.mono ?_;rintro e w4 ⟨css4,v4,rfl,QF,sI⟩);have OV:=zh QF;have uC:=zh (CU.out.trans sI);have Q9:=zh (sI.blk RA.out.2 RA.out.1);have PT:=HLY.out (c.put (ins 11 0));have HP4:=zh (mH (ins 10 0) (.slice none 0 0) OV.out VG (jF _ _ 10 0 VI VI));clear QF sI HQ3 y0 y1 y2 y3 y4 y5 HYB3 RA;go_wp2_with(go_at_call 115;refine HP4.out.mono ?_;rintro e w5 ⟨css5,v5,rfl,AH,rK⟩);have hl5:((CY (c.put (ins 11 0))).put (ins 10 0)).code.length=(CY (c.put (ins 11 0))).code.length+1:=Cmp.put_len _ _;obtain⟨g5,cp5,rfl⟩:=AH.form1 VG;have OK:=zh (uC.out.trans rK);have Q8:=zh (rK.blk Q9.out.2 Q9.out.1)
 have LW:c.code.length<(CY (c.put (ins 11 0))).code.length:=by
  rw[<-HCY.out];have:=compX_ge (vars.map (·.1)) d names y (c.put (ins 11 0));omega
 obtain⟨css6,hc6,uH⟩:=AH.fixed (k:=c.code.length) VG VG;obtain⟨u5,hu5,hf5⟩:=AH.gro.cellAt (i:=c.code.length) (j:=1) VG VI;obtain⟨⟨b0,b1,b2⟩,f0,f1,f2⟩:=bx3 AH.box;have hne5:g5≠cb:=fun e=>by have h1:=(AH.own g5 rfl).1;have h2:=AH.hcb;omega
 have HC6:=zh hc6;have MI:=zh (OK.out.trans uH);have MF:=zh (uH.blk Q8.out.2 Q8.out.1);generalize hn5:((CY (c.put (ins 11 0))).put (ins 10 0)).code.length=n5 at *;have HN5:=zh hn5;have zM:(c.code.length:Int)<(n5:Int):=VG;clear AH rK hc6 uH HP4 Q9 Q8 hn5;generalize hkc:c.code.length=kc at *;have HKC:=zh hkc;clear hkc;have HLn:Hid (n5+dV d<=100000000000):=zh VG;have tS:=zh hl5;have HGE:=zh LW;have hkn2:¬(n5:Int)<=(kc:Int):=VG;clear hl5 PT IM LW hlen;go_wp2_with fail;refine wp_region_held_drew (S:=fun W=>W.cell? ⟨cb,1,none⟩=some (.slice (some ⟨g5,0,none⟩) n5 cp5)) VH b1 fun hS=>?_;refine zt 0 (.pointer (some ⟨cb,0,none⟩)) rfl (fun W hW=>VM) hS ?_;try simp only[zn]
 refine zt 1 (.pointer (some ⟨cb,0,none⟩)) rfl (fun W hW=>VM) hS ?_;try simp only[zn]
 refine zt 2 (.pointer (some ⟨cb,1,none⟩)) rfl (fun W hW=>VM) hS ?_;try simp only[zn]
 refine zt 3 (.slice (some ⟨g5,0,none⟩) n5 cp5) rfl (fun W hW=>ZF) hS ?_;try simp only[zn]
 refine zt 4 (.int .i64 (kc:Int)) rfl (fun W hW=>VM) hS ?_;try simp only[zn]
 refine zt 5 (.pointer (some ⟨cb,0,none⟩)) rfl (fun W hW=>VM) hS ?_;try simp only[zn]
 refine zt 6 (.pointer (some ⟨cb,0,none⟩)) rfl (fun W hW=>VM) hS ?_;try simp only[zn]
 refine zt 7 (.pointer (some ⟨cb,1,none⟩)) rfl (fun W hW=>VM) hS ?_;try simp only[zn]
 refine zt 8 (.slice (some ⟨g5,0,none⟩) n5 cp5) rfl (fun W hW=>ZF) hS ?_;try simp only[zn]
 refine zt 9 (.int .i64 (n5:Int)) rfl (fun W hW=>VM) hS ?_;try simp only[zn]
 refine zt 10 (.pointer (some ⟨g5,kc*5,none⟩)) rfl (fun W hW=>VM) hS ?_;try simp only[zn]
 refine zt 11 (.pointer (some ⟨g5,kc*5+1,none⟩)) rfl (fun W hW=>VM) hS ?_;try simp only[zn]
 have hu:w5.drew.cell? ⟨g5,kc*5+1,none⟩=some _:=hu5;have hf:w5.drew.frozen? ⟨g5,kc*5+1,none⟩=false:=hf5;refine zr 12 rfl (fun K hK=>?_);try simp only[z1,z2,z3]
 go_simp;refine hK.out _ _ (cell_set (fun e=>hne5 e.symm) b1) (fun hS=>?_);clear hK K;try simp only[zn]
 refine wpAnyH_done VH ?_ _;clear hS hu hf;clear b0 b1 b2 f0 f1 f2 hu5 hf5;generalize w5.setCell ⟨g5,kc*5+1,none⟩ (.int .i64 (n5:Int))=w6 at *;have hc6d:=HC6.out.later (aE w6);have hx6d:=MI.out.trans (Ext.below cb _ (aE w6));have NE:w6.drew.heap[w.heap.size+1]? =some (.cells #[.int .i64 opz,.int .i64 nz,.string sz,.string mz,.slice az1 nz1 cz1,.slice az2 nz2 cz2] 177)/\gJ cb (.slice (some ⟨g5,0,none⟩) n5 cp5) (w.heap.size+1):=MF.out;clear HC6 MI MF;have HC6:=zh hc6d;have MI:=zh hx6d;have MF:=zh NE;clear hc6d hx6d NE;generalize w6.drew=w6 at *;have EG:=zh (HXh.out z B cb vars vv _ (((CY (c.put (ins 11 0))).put (ins 10 0)).fix kc) css6 names _ opz nz sz mz _ _ w6 HRZ.out (by have h:=HC6.out;exact h) (by have:=HN5.out;have h2:=HLn.out;rw[Cmp.fix_len];omega) xA (gG aQ VI HNS.out MI.out) (gD HZE.out MI.out));rw[HCZ.out] at EG;obtain⟨⟨z0,z1,z2,z3,z4,z5⟩,-⟩:=bx6 MF.out.1;go_wp2_with(go_at_call 114;refine EG.out.mono ?_;rintro e w7 ⟨css7,v7,rfl,QE,rJ⟩);have hl5:=tS.out;have hlen:=HLn.out;have LW:=HGE.out;have KK:=HLZ.out (((CY (c.put (ins 11 0))).put (ins 10 0)).fix kc);have N2:(((CY (c.put (ins 11 0))).put (ins 10 0)).fix kc).code.length=n5:=by rw[Cmp.fix_len];exact HN5.out
 have hge7:n5<=(CZ (((CY (c.put (ins 11 0))).put (ins 10 0)).fix kc)).code.length:=by
  rw[<-HCZ.out];have:=compX_ge (vars.map (·.1)) d names z (((CY (c.put (ins 11 0))).put (ins 10 0)).fix kc);omega
 obtain⟨g7,cp7,rfl⟩:=QE.form1 VG;have GT:=zh (MI.out.trans rJ);obtain⟨css8,FT,sM⟩:=QE.fixed (k:=(CY (c.put (ins 11 0))).code.length) VG VG;obtain⟨u7,hu7,EY⟩:=QE.gro.cellAt (i:=(CY (c.put (ins 11 0))).code.length) (j:=1) VG VI;obtain⟨⟨b0,b1,b2⟩,f0,f1,f2⟩:=bx3 QE.box;have hne7:g7≠cb:=fun e=>by have h1:=(QE.own g7 rfl).1;have h2:=QE.hcb;omega
 have HC8:=zh FT;have HX8:=zh (GT.out.trans sM);have M4:Hid (gF CY CZ c=(CZ (((CY (c.put (ins 11 0))).put (ins 10 0)).fix kc)).fix (CY (c.put (ins 11 0))).code.length):=zh (by unfold gF;dsimp only;rw[HKC.out]);rw[M4.out];generalize hn7:(CZ (((CY (c.put (ins 11 0))).put (ins 10 0)).fix kc)).code.length=n7 at *;have HN7:=zh hn7;generalize hk7:(CY (c.put (ins 11 0))).code.length=k7 at *;have HK7:=zh hk7;have hkn7:(k7:Int)<(n7:Int):=VG;have hkn8:¬(n7:Int)<=(k7:Int):=VG;clear hl5 hlen LW KK N2 hge7;clear QE rJ FT sM hn7 hk7 z0 z1 z2 z3 z4 z5 EG;go_wp2_with fail;refine wp_region_held_drew (S:=fun W=>W.cell? ⟨cb,1,none⟩=some (.slice (some ⟨g7,0,none⟩) n7 cp7)) VH b1 fun hS=>?_;refine zt 0 (.pointer (some ⟨cb,0,none⟩)) rfl (fun W hW=>VM) hS ?_;try simp only[zn]
 refine zt 1 (.pointer (some ⟨cb,0,none⟩)) rfl (fun W hW=>VM) hS ?_;try simp only[zn]
 refine zt 2 (.pointer (some ⟨cb,1,none⟩)) rfl (fun W hW=>VM) hS ?_;try simp only[zn]
 refine zt 3 (.slice (some ⟨g7,0,none⟩) n7 cp7) rfl (fun W hW=>ZF) hS ?_;try simp only[zn]
 refine zt 4 (.int .i64 (k7:Int)) rfl (fun W hW=>VM) hS ?_;try simp only[zn]
 refine zt 5 (.pointer (some ⟨cb,0,none⟩)) rfl (fun W hW=>VM) hS ?_;try simp only[zn]
 refine zt 6 (.pointer (some ⟨cb,0,none⟩)) rfl (fun W hW=>VM) hS ?_;try simp only[zn]
 refine zt 7 (.pointer (some ⟨cb,1,none⟩)) rfl (fun W hW=>VM) hS ?_;try simp only[zn]
 refine zt 8 (.slice (some ⟨g7,0,none⟩) n7 cp7) rfl (fun W hW=>ZF) hS ?_;try simp only[zn]
 refine zt 9 (.int .i64 (n7:Int)) rfl (fun W hW=>VM) hS ?_;try simp only[zn]
 refine zt 10 (.pointer (some ⟨g7,k7*5,none⟩)) rfl (fun W hW=>VM) hS ?_;try simp only[zn]
 refine zt 11 (.pointer (some ⟨g7,k7*5+1,none⟩)) rfl (fun W hW=>VM) hS ?_;try simp only[zn]
 have hu:w7.drew.cell? ⟨g7,k7*5+1,none⟩=some _:=hu7;have hf:w7.drew.frozen? ⟨g7,k7*5+1,none⟩=false:=EY;refine zr 12 rfl (fun K hK=>?_);try simp only[z1,z2,z3]
 go_simp;refine hK.out _ _ (cell_set (fun e=>hne7 e.symm) b1) (fun hS=>?_);clear hK K;try simp only[zn]
 refine wpAnyH_done VH ?_ _;clear hS hu hf;go_wp2_with fail;refine bodyPost_ret (v:=.tuple #[]) (by simp[results,Tryz.results155,go_sem]) rfl ?_;exact⟨css8,_,rfl,HC8.out.later (aE _),(wI.out.trans HX8.out).trans (Ext.below cb _ (aE _))⟩
theorem T4{p:Prop}(h:p:=by
 clear h hr tR hn rC yP qP;go_enter Tryz.func114,Tryz.ntmps114;go_wp2_with(go_at_call 115;refine HP.out.mono ?_;rintro e w2 ⟨css2,v2,rfl,rB,rA⟩);go_end0
 exact⟨css2,v2,rfl,by rw[hE];exact rB,wI.out.trans rA⟩):p:=h
theorem foldl_at{α β:Type}{f:β->α->β}{l:List α}{q:Nat}{x:α}(hx:l[q]? =some x)(c:β):(l.take (q+1)).foldl f c=f ((l.take q).foldl f c) x:=by
 rw[List.take_add_one,hx,List.foldl_append];rfl
theorem all_any'{d:Nat}(HX:ExpAt d)(l:List Xp){B cb:Nat}{vars:List Fld}{vv v:Value}{c:Cmp}{css:List (List Value)}{names:List ByteArray}{vns va:Value}{w:World}(hr:∀x∈l,aT d x=true)(h:Cp B cb vars vv c css v w)
  (hlen:c.code.length+l.length*dV d<=100000000000) (xA:names.length+d<=1000) (tR:aK 1 cK (gJ cb v) w vns names) (hl:aK 6 bV (gJ cb v) w va l):
  Calls Tryz.prog 157 #[.pointer (some ⟨cb,0,none⟩),va,vns] w (lA B cb vars vv v w (l.foldl (fun c x=>bA (vars.map (·.1)) d names x c) c)):=by
 have HXh:=zh HX;have HR:=zh hr;have HNS:=zh tR;obtain⟨ans,cns,rfl,-⟩:=tR.at;obtain⟨a,cl,rfl,xX,xW,hla⟩:=hl.at;have HA:=zh hla;have HC0:=zh h;have hcbw:=h.lt;clear hla hl tR h HX hr;generalize hF:(fun(c:Cmp)(x:Xp)=>bA (vars.map (·.1)) d names x c)=F;have HF:=zh hF;have HLF:Hid (∀x∈l,∀c,(F c x).code.length<=c.code.length+dV d):=zh (fun x hx c=>by rw[<-hF];exact hJ _ d names x c (HR.out x hx));clear hF;go_enter Tryz.func157,Tryz.ntmps157;go_wp2_with fail;go_loopw [10] (fun iv wr=>∃(q:Nat)(css':List (List Value))(v':Value),q<=l.length/\iv=.int .i64 (q:Int)/\Hid (Cp B cb vars vv ((l.take q).foldl F c) css' v' wr)/\Hid (Ext cb v w v' wr)) (fun iv _=>l.length-(intOf iv).toNat)
 case atStart=>exact⟨0,css,v,Nat.zero_le _,rfl,HC0,zh (Ext.refl _ _ _)⟩
 case round=>
  obtain⟨q,css1,v1,hq,rfl,HC,HE⟩:=hrel;rename World=>wr
  by_cases pT:q<l.length
  ·obtain⟨x,hx,tU⟩:=getElem?_of_lt pT;obtain⟨b,o,rfl,xF,cs,tI,-,hj⟩:=HA.out q x hx
   have HFL:Hid (((l.take q).foldl F c).code.length<=c.code.length+q*dV d):=zh (by
    have:=fold_len (f:=F) (a:=dV d) (l.take q) c (fun x hx c=>HLF.out x (List.mem_of_mem_take hx) c)
    rwa [List.length_take,Nat.min_eq_left VG] at this)
   have LO:q*dV d+dV d<=l.length*dV d:=by
    have:(q+1)*dV d<=l.length*dV d:=Nat.mul_le_mul_right _ pT
    rwa [Nat.succ_mul] at this
   have N1:=foldl_at (f:=F) hx c
   cases x with
   |mk op n s m ns args=>
    have uY:=tI;rw[aZ] at uY;obtain⟨vn2,va2,rfl,-,-,uW,uV⟩:=uY;obtain⟨a3,c3,rfl,-⟩:=uW.at;obtain⟨a4,c4,rfl,-⟩:=uV.at;have LL:¬inC cb v b:=fun e=>e.elim xF.1 xF.2;have p0:wr.cell? ⟨b,o+q*6,none⟩=some (.int .i64 op):=HE.out.off.cell LL (hj 0 _ rfl);have p1:=HE.out.off.cell LL (hj 1 _ rfl);have p2:=HE.out.off.cell LL (hj 2 _ rfl);have p3:=HE.out.off.cell LL (hj 3 _ rfl);have p4:=HE.out.off.cell LL (hj 4 _ rfl);have p5:=HE.out.off.cell LL (hj 5 _ rfl);have pS:=aA wr (.cells #[.int .i64 op,.int .i64 n,.string s,.string m,.slice a3 ns.length c3,.slice a4 args.length c4] 177);have EU:=HE.out.trans (Ext.below cb v1 pS);have D9:=zh EU;have HQ:=zh (HXh.out (.mk op n s m ns args) B cb vars vv v1 ((l.take q).foldl F c) css1 names _ op n s m _ _ _ (HR.out _ tU) (HC.out.later pS) (by have:=HFL.out;omega) xA (gG aQ VI HNS.out EU) (gD tI EU));rw[show bA (vars.map (·.1)) d names (.mk op n s m ns args) ((l.take q).foldl F c)=F ((l.take q).foldl F c) (.mk op n s m ns args) from by rw[<-HF.out],<-N1] at HQ;clear hj tI hx pS EU tU N1 uW uV HA HFL LO;generalize ns.length=k1 at *;generalize args.length=k2 at *;go_wp2_with(go_at_call 114;refine HQ.out.mono ?_;rintro e w2 ⟨css2,v2,rfl,rB,rA⟩);go_roundw;(case rel=>exact⟨q+1,css2,v2,VG,VT,zh rB,zh (D9.out.trans rA)⟩);case measure=>simp[intOf];omega
  ·have wY:q=l.length:=VG;have HT:Hid ((l.take q).foldl F c=l.foldl F c):=zh (by rw[wY,List.take_length]);go_wp2_with fail;go_end0;exact⟨css1,v1,rfl,by have h:=HC.out;rw[HT.out] at h;exact h,HE.out⟩
theorem exp_0{d:Nat}(HX:ExpAt d)(n:Int)(s m:ByteArray)(ns:List ByteArray)(args:List Xp){B cb:Nat}{vars:List Fld}{vv v:Value}{c:Cmp}{css:List (List Value)}{names:List ByteArray}{vns vn va:Value}{w:World}
  (hr:aT (d+1) (.mk 0 n s m ns args)=true) (h:Cp B cb vars vv c css v w) (hlen:c.code.length+dV (d+1)<=100000000000) (xA:names.length+(d+1)<=1000) (tR:aK 1 cK (gJ cb v) w vns names)
  (he:bV (gJ cb v) w (.mk 0 n s m ns args) [.int .i64 0,.int .i64 n,.string s,.string m,vn,va]):
  Calls Tryz.prog 114 #[.pointer (some ⟨cb,0,none⟩),.agg #[.int .i64 0,.int .i64 n,.string s,.string m,vn,va],vns] w (lA B cb vars vv v w (bA (vars.map (·.1)) (d+1) names (.mk 0 n s m ns args) c)):=by
 have hE:bA (vars.map (·.1)) (d+1) names (.mk 0 n s m ns args) c=c.put (ins 0 n):=by rw[fA];rfl
 obtain⟨OF,h8,h2,h3,qP,sK⟩:=jL hr;have LT:dV (d+1)=8*dV d+1:=rfl;rw[aZ] at he;obtain⟨vn',va',e,hs,hm,hn,rC⟩:=he;cases e;obtain⟨a1,c1,rfl,-⟩:=hn.at;obtain⟨a2,c2,rfl,CA,B9,yP⟩:=rC.at;obtain⟨ans,cns,rfl,-⟩:=tR.at;have hb:=aA w (.cells #[.int .i64 0,.int .i64 n,.string s,.string m,.slice a1 ns.length c1,.slice a2 args.length c2] 177);have wI:=zh (Ext.below cb v hb);have xR:=zh (h.later hb);have xF:=h.new (Nat.le_refl _);have vH:Hid ((w.alloc (.cells #[.int .i64 0,.int .i64 n,.string s,.string m,.slice a1 ns.length c1,.slice a2 args.length c2] 177)).heap[w.heap.size]? =some (.cells #[.int .i64 0,.int .i64 n,.string s,.string m,.slice a1 ns.length c1,.slice a2 args.length c2] 177)):=zh (heap_alloc_new w _);obtain⟨⟨x0,x1,x2,x3,x4,x5⟩,-⟩:=bx6 vH.out;have hmf:∀(fn:Fn)(first cap:Array Value)(w:World),(Instr.makeFunc fn first cap).run Tryz.prog w=.ok (.func fn first cap) w:=fun _ _ _ _=>rfl;have HP:=zh (mH (ins 0 n) (.slice none 0 0) xR.out VG (jF _ _ 0 n W1 W1));exact T4
theorem exp_1{d:Nat}(HX:ExpAt d)(n:Int)(s m:ByteArray)(ns:List ByteArray)(args:List Xp){B cb:Nat}{vars:List Fld}{vv v:Value}{c:Cmp}{css:List (List Value)}{names:List ByteArray}{vns vn va:Value}{w:World}
  (hr:aT (d+1) (.mk 1 n s m ns args)=true) (h:Cp B cb vars vv c css v w) (hlen:c.code.length+dV (d+1)<=100000000000) (xA:names.length+(d+1)<=1000) (tR:aK 1 cK (gJ cb v) w vns names)
  (he:bV (gJ cb v) w (.mk 1 n s m ns args) [.int .i64 1,.int .i64 n,.string s,.string m,vn,va]):
  Calls Tryz.prog 114 #[.pointer (some ⟨cb,0,none⟩),.agg #[.int .i64 1,.int .i64 n,.string s,.string m,vn,va],vns] w (lA B cb vars vv v w (bA (vars.map (·.1)) (d+1) names (.mk 1 n s m ns args) c)):=by
 have hE:bA (vars.map (·.1)) (d+1) names (.mk 1 n s m ns args) c=c.put (ins 1 n):=by rw[fA];rfl
 obtain⟨OF,h8,h2,h3,qP,sK⟩:=jL hr;have LT:dV (d+1)=8*dV d+1:=rfl;rw[aZ] at he;obtain⟨vn',va',e,hs,hm,hn,rC⟩:=he;cases e;obtain⟨a1,c1,rfl,-⟩:=hn.at;obtain⟨a2,c2,rfl,CA,B9,yP⟩:=rC.at;obtain⟨ans,cns,rfl,-⟩:=tR.at;have hb:=aA w (.cells #[.int .i64 1,.int .i64 n,.string s,.string m,.slice a1 ns.length c1,.slice a2 args.length c2] 177);have wI:=zh (Ext.below cb v hb);have xR:=zh (h.later hb);have xF:=h.new (Nat.le_refl _);have vH:Hid ((w.alloc (.cells #[.int .i64 1,.int .i64 n,.string s,.string m,.slice a1 ns.length c1,.slice a2 args.length c2] 177)).heap[w.heap.size]? =some (.cells #[.int .i64 1,.int .i64 n,.string s,.string m,.slice a1 ns.length c1,.slice a2 args.length c2] 177)):=zh (heap_alloc_new w _);obtain⟨⟨x0,x1,x2,x3,x4,x5⟩,-⟩:=bx6 vH.out;have hmf:∀(fn:Fn)(first cap:Array Value)(w:World),(Instr.makeFunc fn first cap).run Tryz.prog w=.ok (.func fn first cap) w:=fun _ _ _ _=>rfl;have HP:=zh (mH (ins 1 n) (.slice none 0 0) xR.out VG (jF _ _ 1 n W1 W1));exact T4
theorem exp_2{d:Nat}(HX:ExpAt d)(n:Int)(s m:ByteArray)(ns:List ByteArray)(args:List Xp){B cb:Nat}{vars:List Fld}{vv v:Value}{c:Cmp}{css:List (List Value)}{names:List ByteArray}{vns vn va:Value}{w:World}
  (hr:aT (d+1) (.mk 2 n s m ns args)=true) (h:Cp B cb vars vv c css v w) (hlen:c.code.length+dV (d+1)<=100000000000) (xA:names.length+(d+1)<=1000) (tR:aK 1 cK (gJ cb v) w vns names)
  (he:bV (gJ cb v) w (.mk 2 n s m ns args) [.int .i64 2,.int .i64 n,.string s,.string m,vn,va]):
  Calls Tryz.prog 114 #[.pointer (some ⟨cb,0,none⟩),.agg #[.int .i64 2,.int .i64 n,.string s,.string m,vn,va],vns] w (lA B cb vars vv v w (bA (vars.map (·.1)) (d+1) names (.mk 2 n s m ns args) c)):=by
 have hE:bA (vars.map (·.1)) (d+1) names (.mk 2 n s m ns args) c=c.put (ins 2 (dP names s)):=by rw[fA];rfl
 obtain⟨OF,h8,h2,h3,qP,sK⟩:=jL hr;have LT:dV (d+1)=8*dV d+1:=rfl;rw[aZ] at he;obtain⟨vn',va',e,hs,hm,hn,rC⟩:=he;cases e;obtain⟨a1,c1,rfl,-⟩:=hn.at;obtain⟨a2,c2,rfl,CA,B9,yP⟩:=rC.at;obtain⟨ans,cns,rfl,-⟩:=tR.at;have hb:=aA w (.cells #[.int .i64 2,.int .i64 n,.string s,.string m,.slice a1 ns.length c1,.slice a2 args.length c2] 177);have wI:=zh (Ext.below cb v hb);have xR:=zh (h.later hb);have xF:=h.new (Nat.le_refl _);have vH:Hid ((w.alloc (.cells #[.int .i64 2,.int .i64 n,.string s,.string m,.slice a1 ns.length c1,.slice a2 args.length c2] 177)).heap[w.heap.size]? =some (.cells #[.int .i64 2,.int .i64 n,.string s,.string m,.slice a1 ns.length c1,.slice a2 args.length c2] 177)):=zh (heap_alloc_new w _);obtain⟨⟨x0,x1,x2,x3,x4,x5⟩,-⟩:=bx6 vH.out;have hmf:∀(fn:Fn)(first cap:Array Value)(w:World),(Instr.makeFunc fn first cap).run Tryz.prog w=.ok (.func fn first cap) w:=fun _ _ _ _=>rfl;have hli:=lastIdx_ge s names;have HL:=zh (clast_any names s _ _ VG (tR.strs.later hb));have HP:=zh (mH (ins 2 (dP names s)) (.slice none 0 0) xR.out VG (jF _ _ 2 (dP names s) VG VG));clear h hr tR hn rC yP qP;go_enter Tryz.func114,Tryz.ntmps114;go_wp2_with(first|(go_at_call 115;refine HP.out.mono ?_;rintro e w2 ⟨css2,v2,rfl,rB,rA⟩)|(go_at_call 153;refine HL.out.mono ?_;rintro e w1 ⟨rfl,rfl⟩));go_end0;exact⟨css2,v2,rfl,by rw[hE];exact rB,wI.out.trans rA⟩
theorem exp_17{d:Nat}(HX:ExpAt d)(n:Int)(s m:ByteArray)(ns:List ByteArray)(args:List Xp){B cb:Nat}{vars:List Fld}{vv v:Value}{c:Cmp}{css:List (List Value)}{names:List ByteArray}{vns vn va:Value}{w:World}
  (hr:aT (d+1) (.mk 17 n s m ns args)=true) (h:Cp B cb vars vv c css v w) (hlen:c.code.length+dV (d+1)<=100000000000) (xA:names.length+(d+1)<=1000) (tR:aK 1 cK (gJ cb v) w vns names)
  (he:bV (gJ cb v) w (.mk 17 n s m ns args) [.int .i64 17,.int .i64 n,.string s,.string m,vn,va]):
  Calls Tryz.prog 114 #[.pointer (some ⟨cb,0,none⟩),.agg #[.int .i64 17,.int .i64 n,.string s,.string m,vn,va],vns] w (lA B cb vars vv v w (bA (vars.map (·.1)) (d+1) names (.mk 17 n s m ns args) c)):=by
 have hE:bA (vars.map (·.1)) (d+1) names (.mk 17 n s m ns args) c=c.put (ins 16 (jD (vars.map (·.1)) s)):=by rw[fA];rfl
 obtain⟨OF,h8,h2,h3,qP,sK⟩:=jL hr;have LT:dV (d+1)=8*dV d+1:=rfl;rw[aZ] at he;obtain⟨vn',va',e,hs,hm,hn,rC⟩:=he;cases e;obtain⟨a1,c1,rfl,-⟩:=hn.at;obtain⟨a2,c2,rfl,CA,B9,yP⟩:=rC.at;obtain⟨ans,cns,rfl,-⟩:=tR.at;have hb:=aA w (.cells #[.int .i64 17,.int .i64 n,.string s,.string m,.slice a1 ns.length c1,.slice a2 args.length c2] 177);have wI:=zh (Ext.below cb v hb);have xR:=zh (h.later hb);have xF:=h.new (Nat.le_refl _);have vH:Hid ((w.alloc (.cells #[.int .i64 17,.int .i64 n,.string s,.string m,.slice a1 ns.length c1,.slice a2 args.length c2] 177)).heap[w.heap.size]? =some (.cells #[.int .i64 17,.int .i64 n,.string s,.string m,.slice a1 ns.length c1,.slice a2 args.length c2] 177)):=zh (heap_alloc_new w _);obtain⟨⟨x0,x1,x2,x3,x4,x5⟩,-⟩:=bx6 vH.out;have hmf:∀(fn:Fn)(first cap:Array Value)(w:World),(Instr.makeFunc fn first cap).run Tryz.prog w=.ok (.func fn first cap) w:=fun _ _ _ _=>rfl;have hli:=varIdx_range (vars.map (·.1)) s;rw[List.length_map] at hli;have hnv:=h.nv;have HV:=zh (variable_any cb vars _ vv _ _ s _ xR.out.box xR.out.row);have HP:=zh (fun W(pR:Below _ _ W)=>mH (ins 16 (jD (vars.map (·.1)) s)) (.slice none 0 0) (xR.out.later (w':=W) pR) VG (jF _ _ 16 (jD (vars.map (·.1)) s) VG VG));clear h hr tR hn rC yP qP;generalize jD (vars.map (·.1)) s=ix at *;go_enter Tryz.func114,Tryz.ntmps114;go_wp2_with(first|(go_at_call 115;refine(HP.out _ pS).mono ?_;rintro e w2 ⟨css2,v2,rfl,rB,rA⟩)|(go_at_call 154;refine HV.out.mono ?_;rintro e w1 ⟨rfl,pS⟩));go_end0;exact⟨css2,v2,rfl,by rw[hE];exact rB,(wI.out.trans (Ext.below cb v pS)).trans rA⟩
theorem plain_all{d:Nat}{B cb:Nat}{vars:List Fld}{vv v:Value}{c:Cmp}{css:List (List Value)}(op n:Int)(s m:ByteArray)(ns:List ByteArray)(args:List Xp)(a1:Option Addr)(c1:Nat)(a2:Option Addr)(c2:Nat){N:Nat->Prop}{w:World}
  (sJ:op≠0/\op≠1/\op≠2/\op≠17/\op≠8/\op≠9/\op≠11/\op≠12) (hr:aT (d+1) (.mk op n s m ns args)=true) (h:Cp B cb vars vv c css v w) (hs:s.size<=8000) (hm:m.size<=8000) (hn:aK 1 cK N w (.slice a1 ns.length c1) ns):
  cG cb (vars.map (·.1)) (.mk op n s m ns args) op n s m (.slice a1 ns.length c1) (.slice a2 args.length c2) w:=by
 obtain⟨OF,h8,-,-,-,sK⟩:=jL hr;obtain⟨n0,n1,n2,n17,n8,n9,n11,n12⟩:=sJ;have hc:op=3\/op=4\/op=5\/op=6\/op=7\/op=10\/op=13\/op=14\/op=15\/op=16\/op=18:=VG;rcases hc with rfl|rfl|rfl|rfl|rfl|rfl|rfl|rfl|rfl|rfl|rfl
 ·exact plain_3 cb _ n s m ns args a1 ns.length c1 a2 c2 w hs hm VG
 ·exact plain_4 cb _ n s m ns args a1 ns.length c1 a2 c2 w hs hm VG
 ·exact plain_5 cb _ n s m ns args a1 ns.length c1 a2 c2 w hs hm VG
 ·exact plain_6 cb _ n s m ns args a1 ns.length c1 a2 c2 w hs hm VG
 ·exact plain_7 cb _ n s m ns args a1 ns.length c1 a2 c2 w hs hm VG
 ·exact plain_10 cb _ n s m ns args a1 ns.length c1 a2 c2 w hs hm VG
 ·exact plain_13 cb _ n s m ns args _ a2 args.length c2 w W1 hn.strs
 ·exact plain_14 cb _ n s m ns args a1 ns.length c1 a2 c2 w hs hm VG
 ·exact plain_15 cb _ n s m ns args a1 ns.length c1 a2 c2 w hs hm VG
 ·exact plain_16 cb _ n s m ns args a1 ns.length c1 a2 c2 w hs hm VG W1 W1
 ·exact plain_18 n s m ns args a1 ns.length c1 a2 args.length c2 w h
theorem exp_else{d:Nat}(HX:ExpAt d)(op:Int)(sJ:op≠0/\op≠1/\op≠2/\op≠17/\op≠8/\op≠9/\op≠11/\op≠12)(n:Int)(s m:ByteArray)(ns:List ByteArray)(args:List Xp){B cb:Nat}{vars:List Fld}{vv v:Value}{c:Cmp}{css:List (List Value)}{names:List ByteArray}{vns vn va:Value}{w:World}
  (hr:aT (d+1) (.mk op n s m ns args)=true) (h:Cp B cb vars vv c css v w) (hlen:c.code.length+dV (d+1)<=100000000000) (xA:names.length+(d+1)<=1000) (tR:aK 1 cK (gJ cb v) w vns names)
  (he:bV (gJ cb v) w (.mk op n s m ns args) [.int .i64 op,.int .i64 n,.string s,.string m,vn,va]):
  Calls Tryz.prog 114 #[.pointer (some ⟨cb,0,none⟩),.agg #[.int .i64 op,.int .i64 n,.string s,.string m,vn,va],vns] w (lA B cb vars vv v w (bA (vars.map (·.1)) (d+1) names (.mk op n s m ns args) c)):=by
 have hE:bA (vars.map (·.1)) (d+1) names (.mk op n s m ns args) c=(args.foldl (fun c x=>bA (vars.map (·.1)) d names x c) c).put (fH (vars.map (·.1)) (.mk op n s m ns args)):=by
  rw[fA,if_neg sJ.1,if_neg sJ.2.1,if_neg sJ.2.2.1,if_neg sJ.2.2.2.1,if_neg sJ.2.2.2.2.1,if_neg sJ.2.2.2.2.2.1,if_neg sJ.2.2.2.2.2.2.1,if_neg sJ.2.2.2.2.2.2.2]
 obtain⟨OF,h8,h2,h3,qP,sK⟩:=jL hr;have LT:dV (d+1)=8*dV d+1:=rfl;rw[aZ] at he;obtain⟨vn',va',e,hs,hm,hn,rC⟩:=he;cases e;obtain⟨a1,c1,rfl,-⟩:=hn.at;obtain⟨a2,c2,rfl,CA,B9,yP⟩:=rC.at;obtain⟨ans,cns,rfl,-⟩:=tR.at;have hb:=aA w (.cells #[.int .i64 op,.int .i64 n,.string s,.string m,.slice a1 ns.length c1,.slice a2 args.length c2] 177);have wI:=zh (Ext.below cb v hb);have xR:=zh (h.later hb);have xF:=h.new (Nat.le_refl _);have vH:Hid ((w.alloc (.cells #[.int .i64 op,.int .i64 n,.string s,.string m,.slice a1 ns.length c1,.slice a2 args.length c2] 177)).heap[w.heap.size]? =some (.cells #[.int .i64 op,.int .i64 n,.string s,.string m,.slice a1 ns.length c1,.slice a2 args.length c2] 177)):=zh (heap_alloc_new w _);obtain⟨⟨x0,x1,x2,x3,x4,x5⟩,-⟩:=bx6 vH.out;have hmf:∀(fn:Fn)(first cap:Array Value)(w:World),(Instr.makeFunc fn first cap).run Tryz.prog w=.ok (.func fn first cap) w:=fun _ _ _ _=>rfl;have g0:(op==0)=false:=by rw[beq_eq_false_iff_ne];exact sJ.1
 have g1:(op==1)=false:=by rw[beq_eq_false_iff_ne];exact sJ.2.1
 have g2:(op==2)=false:=by rw[beq_eq_false_iff_ne];exact sJ.2.2.1
 have g17:(op==17)=false:=by rw[beq_eq_false_iff_ne];exact sJ.2.2.2.1
 have g8:(op==8)=false:=by rw[beq_eq_false_iff_ne];exact sJ.2.2.2.2.1
 have g9:(op==9)=false:=by rw[beq_eq_false_iff_ne];exact sJ.2.2.2.2.2.1
 have g11:(op==11)=false:=by rw[beq_eq_false_iff_ne];exact sJ.2.2.2.2.2.2.1
 have g12:(op==12)=false:=by rw[beq_eq_false_iff_ne];exact sJ.2.2.2.2.2.2.2
 have hml:args.length*dV d<=8*dV d:=Nat.mul_le_mul_right _ h8;have HQ:=zh (all_any' HX args qP xR.out VG VG (gG aQ VI tR wI.out) (gG aG VI rC wI.out));have HFL:=zh (fold_len (f:=fun c x=>bA (vars.map (·.1)) d names x c) (a:=dV d) args c (fun x hx c=>hJ _ d names x c (qP x hx)));have HPL:=zh (fun css' v' W(hc:Cp B cb vars vv (args.foldl (fun c x=>bA (vars.map (·.1)) d names x c) c) css' v' W)(hx:Ext cb v w v' W)=>plain_all (d:=d) op n s m ns args a1 c1 a2 c2 sJ hr hc hs hm (gG aQ VI hn hx));unfold cG at HPL;generalize args.foldl (fun c x=>bA (vars.map (·.1)) d names x c) c=cA at *;generalize fH (vars.map (·.1)) (.mk op n s m ns args)=pX at *;clear h hr hn rC yP qP sJ sK;go_enter Tryz.func114,Tryz.ntmps114;go_wp2_with(go_at_call 157;refine HQ.out.mono ?_;rintro e w2 ⟨css2,v2,rfl,rB,rA⟩;have zX:=zh rB;have rW:=zh rA;have qM:=zh (rA.blk xF vH.out);obtain⟨⟨y0,y1,y2,y3,y4,y5⟩,-⟩:=bx6 qM.out.1);have HP2:=zh (HPL.out css2 v2 w2 zX.out (wI.out.trans rW.out));clear rB rA;go_wp2_with(go_at_call 158;refine HP2.out.mono ?_;rintro e w3 ⟨ax,kx,cx,rfl,hen3,rD⟩);have PE:=zX.out.size_le;have HP3:=zh (mH pX (.slice ax kx cx) (zX.out.later rD) (by have:=HFL.out;omega) (fZ _ _ _ _ _ _ (fun b hb _=>⟨⟨by have hb:w2.heap.size<=b:=hb;omega,fun e=>by have hb:w2.heap.size<=b:=hb;have:=(zX.out.own b e).2;omega⟩,fun _ _ h=>h⟩) hen3));go_wp2_with(go_at_call 115;refine HP3.out.mono ?_;rintro e w4 ⟨css4,v4,rfl,QF,sI⟩);go_end0;exact⟨css4,v4,rfl,by rw[hE];exact QF,((wI.out.trans rW.out).trans (Ext.below cb v2 rD)).trans sI⟩
end Go.Proofs.YtacgopankhpnbaaGreatDoor
