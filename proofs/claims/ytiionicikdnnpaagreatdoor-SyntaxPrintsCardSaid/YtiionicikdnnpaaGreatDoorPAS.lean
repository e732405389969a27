/- Texts of this seat, joined. -/
import Derived.Test.YtiionicikdnnpaaGreatDoorRpJ
set_option maxHeartbeats 16000000
set_option maxRecDepth 100000
set_option linter.unusedVariables false
set_option linter.unusedSimpArgs false
set_option linter.constructorNameAsVariable false
namespace Go.Proofs.YtiionicikdnnpaaGreatDoor
open Go.RowKit
theorem TT{p:Prop}(h:p:=by
 refine wpAnyH_done VT ?_ _;go_wp2_with fail;go_ret
 exact⟨X5,aA pK.out qQ⟩):p:=h
theorem UF{p:Prop}(h:p:=by
 go_wp2_with fail;go_ret
 exact⟨X5,pK.out⟩):p:=h
theorem UW{p:Prop}(h:p:=by
 have h:=ls_size hd hr xs.length (Nat.le_refl _);rw[List.take_length] at h;have:xs.length*2041950165850<=6*2041950165850:=Nat.mul_le_mul_right _ hl
 omega):p:=h
theorem VQ{p:Prop}(h:p:=by
 go_enter Tryz.func158,Tryz.ntmps158;go_wp2_with fail;go_ret
 exact⟨X5,aA pK.out qN.out⟩):p:=h
theorem rbody_num(n:Nat)(hk:n<=1099511627776)(s m:bA)(ns:List bA)(xs:List Xp){N:Nat->Prop}{cx:List Value}{w:World}(hx:aU N w (.mk 0 (n:Int) s m ns xs) cx):
  Calls Tryz.prog 158 #[.agg cx.toArray,.int .i64 8] w fun e w'=>e=.returned (.string (Jn (aI (.mk 0 (n:Int) s m ns xs))))/\Below w.heap.size w w':=by
 rw[aN] at hx;obtain⟨v1,v2,rfl,rX,uW,hn,ha⟩:=hx;obtain⟨a1,c1,rfl,-⟩:=id hn;obtain⟨a2,c2,rfl,-⟩:=id ha;have HL:=zh ((law_num (n:Int) s m ns xs).trans numX_digits);have pK:=zh (aC w (aH 0 (n:Int) s m a1 ns.length c1 a2 xs.length c2));have HX:=zh (bY w (aH 0 (n:Int) s m a1 ns.length c1 a2 xs.length c2));have hX:=HX.out;obtain⟨⟨x0,x1,x2,x3,x4,x5⟩,-⟩:=bx6 hX;clear hX;clear hn ha;go_enter Tryz.func158,Tryz.ntmps158;go_wp2_with fail;refine(rdigits_any n _ hk).mono ?_;rintro e w3 ⟨rfl,rfl⟩;exact UF
theorem bx2s{w:World}{b:Nat}{x y:Value}{t:TypeId}(h:w.heap[b]? =some (.cells #[x,y] t)):w.cell? ⟨b,0,none⟩=some x/\w.cell? ⟨b,1,none⟩=some y:=
 ⟨(bx h 0 rfl).1,(bx h 1 rfl).1⟩
theorem rbody_bool(n:Int)(hk:n=0\/n=1)(s m:bA)(ns:List bA)(xs:List Xp){N:Nat->Prop}{cx:List Value}{w:World}(hx:aU N w (.mk 1 n s m ns xs) cx):
  Calls Tryz.prog 158 #[.agg cx.toArray,.int .i64 8] w fun e w'=>e=.returned (.string (Jn (aI (.mk 1 n s m ns xs))))/\Below w.heap.size w w':=by
 rw[aN] at hx;obtain⟨v1,v2,rfl,rX,uW,hn,ha⟩:=hx;obtain⟨a1,c1,rfl,-⟩:=id hn;obtain⟨a2,c2,rfl,-⟩:=id ha;have HL:=zh (law_bool n s m ns xs);have pK:=zh (aC w (aH 1 n s m a1 ns.length c1 a2 xs.length c2));have HX:=zh (bY w (aH 1 n s m a1 ns.length c1 a2 xs.length c2));have hX:=HX.out;obtain⟨⟨x0,x1,x2,x3,x4,x5⟩,-⟩:=bx6 hX;clear hX;clear hn ha;have qN:=zh (aC (w.alloc (aH 1 n s m a1 ns.length c1 a2 xs.length c2)) (.cells #[.string ⟨#[102,97,108,115,101]⟩,.string ⟨#[116,114,117,101]⟩] 9));have HY:=zh (bY (w.alloc (aH 1 n s m a1 ns.length c1 a2 xs.length c2)) (.cells #[.string ⟨#[102,97,108,115,101]⟩,.string ⟨#[116,114,117,101]⟩] 9));have pW:=aD qN.out HX.out;clear x0 x1 x2 x3 x4 x5;obtain⟨⟨x0,x1,x2,x3,x4,x5⟩,-⟩:=bx6 pW;have hy:=HY.out;obtain⟨y0,y1⟩:=bx2s hy;clear hy pW;rcases hk with rfl|rfl
 ·exact VQ
 exact VQ
theorem rbody_var(n:Int)(s m:bA)(ns:List bA)(xs:List Xp){N:Nat->Prop}{cx:List Value}{w:World}(hx:aU N w (.mk 2 n s m ns xs) cx):
  Calls Tryz.prog 158 #[.agg cx.toArray,.int .i64 8] w fun e w'=>e=.returned (.string (Jn (aI (.mk 2 n s m ns xs))))/\Below w.heap.size w w':=by
 rw[aN] at hx;obtain⟨v1,v2,rfl,rX,uW,hn,ha⟩:=hx;obtain⟨a1,c1,rfl,-⟩:=id hn;obtain⟨a2,c2,rfl,-⟩:=id ha;have HL:=zh (law_var n s m ns xs);have pK:=zh (aC w (aH 2 n s m a1 ns.length c1 a2 xs.length c2));have HX:=zh (bY w (aH 2 n s m a1 ns.length c1 a2 xs.length c2));have hX:=HX.out;obtain⟨⟨x0,x1,x2,x3,x4,x5⟩,-⟩:=bx6 hX;clear hX;clear hn ha;go_enter Tryz.func158,Tryz.ntmps158;exact UF
theorem rbody_get(n:Int)(s m:bA)(ns:List bA)(xs:List Xp){N:Nat->Prop}{cx:List Value}{w:World}(hx:aU N w (.mk 17 n s m ns xs) cx):
  Calls Tryz.prog 158 #[.agg cx.toArray,.int .i64 8] w fun e w'=>e=.returned (.string (Jn (aI (.mk 17 n s m ns xs))))/\Below w.heap.size w w':=by
 rw[aN] at hx;obtain⟨v1,v2,rfl,rX,uW,hn,ha⟩:=hx;obtain⟨a1,c1,rfl,-⟩:=id hn;obtain⟨a2,c2,rfl,-⟩:=id ha;have HL:=zh (law_get n s m ns xs);have pK:=zh (aC w (aH 17 n s m a1 ns.length c1 a2 xs.length c2));have HX:=zh (bY w (aH 17 n s m a1 ns.length c1 a2 xs.length c2));have hX:=HX.out;obtain⟨⟨x0,x1,x2,x3,x4,x5⟩,-⟩:=bx6 hX;clear hX;clear hn ha;go_enter Tryz.func158,Tryz.ntmps158;exact UF
theorem rbody_call{d:Nat}(hd:d<=12)(hD:oH d)(n:Int)(s:bA)(ns:List bA)(xs:List Xp)(hr:∀x∈xs,aJ d x=true)(hl:xs.length<=6){N:Nat->Prop}{cx:List Value}{w:World}(hx:aU N w (.mk 15 n s noB ns xs) cx):
  Calls Tryz.prog 158 #[.agg cx.toArray,.int .i64 8] w fun e w'=>e=.returned (.string (Jn (aI (.mk 15 n s noB ns xs))))/\Below w.heap.size w w':=by
 rw[aN] at hx;obtain⟨v1,v2,rfl,rX,uW,hn,ha⟩:=hx;obtain⟨a1,c1,rfl,-⟩:=id hn;obtain⟨a2,c2,rfl,-⟩:=id ha;have HL:=zh (law_call n s ns xs);have pK:=zh (aC w (aH 15 n s noB a1 ns.length c1 a2 xs.length c2));have HX:=zh (bY w (aH 15 n s noB a1 ns.length c1 a2 xs.length c2));have hX:=HX.out;obtain⟨⟨x0,x1,x2,x3,x4,x5⟩,-⟩:=bx6 hX;clear hX;have HC:=zh (fun W(hb:Below (w.alloc (aH 15 n s noB a1 ns.length c1 a2 xs.length c2)).heap.size (w.alloc (aH 15 n s noB a1 ns.length c1 a2 xs.length c2)) W)=>rlist_of hd hD xs hr VS (ha.moves aG (aK.later (aA pK.out hb)) VU))
 have hzl:(Ls xs).size<=12251700995100:=by
  exact UW
 clear hn ha hr hD;go_enter Tryz.func158,Tryz.ntmps158;go_wp2_with fail;generalize w.alloc (aH 15 n s noB a1 ns.length c1 a2 xs.length c2)=w0 at *;refine wp_region_held_drew (S:=fun W=>Below w0.heap.size w0 W) VT (aE w0) fun hS=>?_;refine tk 0 (.pointer (some ⟨w.heap.size,2,none⟩)) (y:=fun W hW=>VV) (s:=hS) (h:=?_);refine tk 1 (.string s) (y:=fun W hW=>W8) (s:=hS) (h:=?_);refine tk 2 (.string (s++⟨#[32,40,32]⟩)) (y:=fun W hW=>VX) (s:=hS) (h:=?_);refine tk 3 (.pointer (some ⟨w.heap.size,5,none⟩)) (y:=fun W hW=>VV) (s:=hS) (h:=?_);refine tk 4 (.slice a2 xs.length c2) (y:=fun W hW=>V8) (s:=hS) (h:=?_);refine zr 5 rfl (fun K hK=>?_);try simp only[z1,z2,z3]
 go_simp;refine(HC.out _ (aE w0)).mono ?_;rintro e wa ⟨rfl,qR⟩;have qQ:=aA (aE w0) qR;refine hK.out _ _ qQ (fun hS=>?_);clear hK K;try simp only[zn]
 refine tk 6 (.string (s++⟨#[32,40,32]⟩++Ls xs)) (y:=fun W hW=>VX) (s:=hS) (h:=?_);refine tk 7 (.string (s++⟨#[32,40,32]⟩++Ls xs++⟨#[41]⟩)) (y:=fun W hW=>VX) (s:=hS) (h:=?_);refine tk 8 (.string (s++⟨#[32,40,32]⟩++Ls xs++⟨#[41]⟩)) (y:=fun W hW=>VV) (s:=hS) (h:=?_);exact TT
theorem rbody_ext{d:Nat}(hd:d<=12)(hD:oH d)(n:Int)(s m:bA)(hm:m≠⟨#[]⟩)(ns:List bA)(xs:List Xp)(hr:∀x∈xs,aJ d x=true)(hl:xs.length<=6){N:Nat->Prop}{cx:List Value}{w:World}(hx:aU N w (.mk 15 n s m ns xs) cx):
  Calls Tryz.prog 158 #[.agg cx.toArray,.int .i64 8] w fun e w'=>e=.returned (.string (Jn (aI (.mk 15 n s m ns xs))))/\Below w.heap.size w w':=by
 rw[aN] at hx;obtain⟨v1,v2,rfl,rX,uW,hn,ha⟩:=hx;obtain⟨a1,c1,rfl,-⟩:=id hn;obtain⟨a2,c2,rfl,-⟩:=id ha;have HL:=zh (law_ext n s m hm ns xs);have pK:=zh (aC w (aH 15 n s m a1 ns.length c1 a2 xs.length c2));have HX:=zh (bY w (aH 15 n s m a1 ns.length c1 a2 xs.length c2));have hX:=HX.out;obtain⟨⟨x0,x1,x2,x3,x4,x5⟩,-⟩:=bx6 hX;clear hX;have HC:=zh (fun W(hb:Below (w.alloc (aH 15 n s m a1 ns.length c1 a2 xs.length c2)).heap.size (w.alloc (aH 15 n s m a1 ns.length c1 a2 xs.length c2)) W)=>rlist_of hd hD xs hr VS (ha.moves aG (aK.later (aA pK.out hb)) VU))
 have hzl:(Ls xs).size<=12251700995100:=by
  exact UW
 have gm:=nil_of hm;clear hm;clear hn ha hr hD;go_enter Tryz.func158,Tryz.ntmps158;go_wp2_with fail;generalize w.alloc (aH 15 n s m a1 ns.length c1 a2 xs.length c2)=w0 at *;refine wp_region_held_drew (S:=fun W=>Below w0.heap.size w0 W) VT (aE w0) fun hS=>?_;refine tk 0 (.pointer (some ⟨w.heap.size,3,none⟩)) (y:=fun W hW=>VV) (s:=hS) (h:=?_);refine tk 1 (.string m) (y:=fun W hW=>by have q0:=aB hW x3;go_simp) (s:=hS) (h:=?_);refine tk 2 (.string (m++⟨#[32,46,32]⟩)) (y:=fun W hW=>VX) (s:=hS) (h:=?_);refine tk 3 (.pointer (some ⟨w.heap.size,2,none⟩)) (y:=fun W hW=>VV) (s:=hS) (h:=?_);refine tk 4 (.string s) (y:=fun W hW=>W8) (s:=hS) (h:=?_);refine tk 5 (.string (m++⟨#[32,46,32]⟩++s)) (y:=fun W hW=>VX) (s:=hS) (h:=?_);refine tk 6 (.string (m++⟨#[32,46,32]⟩++s++⟨#[32,40,32]⟩)) (y:=fun W hW=>VX) (s:=hS) (h:=?_);refine tk 7 (.pointer (some ⟨w.heap.size,5,none⟩)) (y:=fun W hW=>VV) (s:=hS) (h:=?_);refine tk 8 (.slice a2 xs.length c2) (y:=fun W hW=>V8) (s:=hS) (h:=?_);refine zr 9 rfl (fun K hK=>?_);try simp only[z1,z2,z3]
 go_simp;refine(HC.out _ (aE w0)).mono ?_;rintro e wa ⟨rfl,qR⟩;have qQ:=aA (aE w0) qR;refine hK.out _ _ qQ (fun hS=>?_);clear hK K;try simp only[zn]
 refine tk 10 (.string (m++⟨#[32,46,32]⟩++s++⟨#[32,40,32]⟩++Ls xs)) (y:=fun W hW=>VX) (s:=hS) (h:=?_);refine tk 11 (.string (m++⟨#[32,46,32]⟩++s++⟨#[32,40,32]⟩++Ls xs++⟨#[41]⟩)) (y:=fun W hW=>VX) (s:=hS) (h:=?_);refine tk 12 (.string (m++⟨#[32,46,32]⟩++s++⟨#[32,40,32]⟩++Ls xs++⟨#[41]⟩)) (y:=fun W hW=>VV) (s:=hS) (h:=?_);exact TT
theorem TG{p:Prop}(h:p:=by
 go_wp2_with fail;go_roundw;case rel=>exact⟨q+1,VS,by rw[HN.out],WH,AC⟩
 case measure=>simp[intOf];omega):p:=h
theorem names_each:∀{l:List bA}{before:Option bA},cO before l=true->∀y∈l,aP y=true
 |[],_,_,y,hy=>by cases hy
 |x::l,before,h,y,hy=>by
  have h0:=namesOk_at (l:=x::l) (q:=0) (x:=x) rfl before;rw[List.drop_zero] at h0;rw[h0,Bool.and_eq_true,Bool.and_eq_true] at h;rcases List.mem_cons.1 hy with rfl|hy
  ·exact h.1.1
  exact names_each (before:=some x) (by simpa using h.2) y hy
theorem rc_nil:Rc [] []=⟨#[123,32]⟩:=by unfold Rc;rw[if_pos (by simp[bB,hJ])]
theorem rc_size{d:Nat}(hd:d<=12){ns:List bA}{xs:List Xp}(hl:ns.length=xs.length)(hn:∀y∈ns,y.size<=20)(h:∀x∈xs,aJ d x=true):∀q,q<=xs.length->(Rc (ns.take q) (xs.take q)).size<=2+q*2041950165900
 |0,_=>by
  rw[List.take_zero,List.take_zero,rc_nil];have e:(⟨#[123,32]⟩:bA).size=2:=rfl;omega
 |q+1,hq=>by
  obtain⟨x,hx,hm⟩:=getElem?_of_lt (show q<xs.length by omega);obtain⟨nm,ET,-⟩:=getElem?_of_lt (show q<ns.length by omega);have h1:=rc_size hd hl hn h q VS;have h2:=dG hd (h x (List.mem_of_getElem? hx)) 0;have h3:=hn nm (List.mem_of_getElem? ET);rw[rc_step hl ET hx,ByteArray.size_append,ByteArray.size_append,ByteArray.size_append,ByteArray.size_append];have e1:(⟨#[32]⟩:bA).size=1:=rfl;have e2:(⟨#[44,32]⟩:bA).size=2:=rfl;have e3:(⟨#[32,61,32]⟩:bA).size=3:=rfl;split
  ·omega
  rw[ByteArray.size_append];omega
theorem rbody_rec{d:Nat}(hd:d<=12)(hD:oH d)(n:Int)(s m:bA)(ns:List bA)(xs:List Xp)(hr:∀x∈xs,aJ d x=true)(hl:xs.length<=8)(PG:ns.length=xs.length)(hns:∀y∈ns,y.size<=20){N:Nat->Prop}{cx:List Value}{w:World}(hx:aU N w (.mk 13 n s m ns xs) cx):
  Calls Tryz.prog 158 #[.agg cx.toArray,.int .i64 8] w fun e w'=>e=.returned (.string (Jn (aI (.mk 13 n s m ns xs))))/\Below w.heap.size w w':=by
 rw[aN] at hx;obtain⟨v1,v2,rfl,rX,uW,hn,ha⟩:=hx;obtain⟨a1,c1,rfl,AV,FA,Q7⟩:=hn.at;obtain⟨a2,c2,rfl,vD,vC,qB⟩:=ha.at;have HL:=zh (law_rec n s m ns xs);have pK:=zh (aC w (aH 13 n s m a1 ns.length c1 a2 xs.length c2));have HX:=zh (bY w (aH 13 n s m a1 ns.length c1 a2 xs.length c2));have hX:=HX.out;obtain⟨⟨x0,x1,x2,x3,x4,x5⟩,-⟩:=bx6 hX;clear hX;have HA:=zh qB;have HM:=zh Q7;have HD:=zh hD;have HRg:=zh hr;have E8:=zh hns;have HSz:=zh (rc_size hd PG hns hr);have OM:=zh PG;clear PG qB Q7 hn ha hD hr hns;go_enter Tryz.func158,Tryz.ntmps158;go_wp2_with fail;generalize w.alloc (aH 13 n s m a1 ns.length c1 a2 xs.length c2)=w0 at *;go_loopw [5,6] (fun sv iv wr=>∃q:Nat,q<=xs.length/\sv=.string (Rc (ns.take q) (xs.take q))/\iv=.int .i64 (q:Int)/\Hid (Below w0.heap.size w0 wr)) (fun _ iv _=>xs.length-(intOf iv).toNat)
 case atStart=>exact⟨0,Nat.zero_le _,by rw[List.take_zero,List.take_zero,rc_nil],rfl,zh (Below.refl _ _)⟩
 case round=>
  obtain⟨q,hq,rfl,rfl,HW⟩:=hrel;rename World=>wr
  have pW:=aD HW.out HX.out;clear x0 x1 x2 x3 x4 x5;obtain⟨⟨x0,x1,x2,x3,x4,x5⟩,-⟩:=bx6 pW;clear pW;have tS:=HSz.out q hq
  have OU:(Rc (ns.take q) (xs.take q)).size<=20419501658500:=by
   have:q*2041950165900<=8*2041950165900:=Nat.mul_le_mul_right _ VS;omega
  clear tS;by_cases pS:q<xs.length
  ·obtain⟨x,hx,-⟩:=getElem?_of_lt pS;obtain⟨nm,ET,-⟩:=getElem?_of_lt (show q<ns.length by have:=OM.out;omega);have sL:(0:Int)<=(q:Int)/\(q:Int)<(xs.length:Int):=VS;(have yT:(q:Int)<(ns.length:Int):=by have:=OM.out;omega);have E1:=zh (rc_step OM.out ET hx);have xR:=HRg.out x (List.mem_of_getElem? hx);have rZ:=dG hd xR 0;have hzn:=E8.out nm (List.mem_of_getElem? ET);obtain⟨b1,o1,rfl,-,uG,qF,-,pO⟩:=HA.out q x hx;obtain⟨b2,o2,rfl,-,zA,⟨rfl,-⟩,-,qL⟩:=HM.out q nm ET;obtain⟨rW,n1,s1,m1,i1,j1,k1,u1,z1,t1,rfl⟩:=aZ qF;have OD:=zh (aA pK.out HW.out);(have r0:wr.cell? ⟨b2,o2+q,none⟩=some (.string nm):=by have h:=aB OD.out (qL 0 _ rfl);simpa using h);have rG:wr.cell? ⟨b1,o1+q*6,none⟩=some (.int .i64 rW):=aB OD.out (pO 0 _ rfl);have rF:=aB OD.out (pO 1 _ rfl);have rI:=aB OD.out (pO 2 _ rfl);have sG:=aB OD.out (pO 3 _ rfl);have sF:=aB OD.out (pO 4 _ rfl);have sD:=aB OD.out (pO 5 _ rfl);have HC:=zh (fun W(hb:Below wr.heap.size wr W)=>HD.out x N _ W 0 VU xR (aG _ _ _ _ _ _ (aK.later (aA OD.out hb)) qF));clear pO qL hx qF xR ET;generalize Tx x 0=t0 at *;generalize Rc (ns.take q) (xs.take q)=sq at *;by_cases h0:q=0
   ·have HN:Hid (Rc (ns.take (q+1)) (xs.take (q+1))=(((sq++nm)++⟨#[32,61,32]⟩)++t0)++⟨#[32]⟩):=zh (by rw[E1.out,if_pos h0]);have hn0:¬0<q:=VS;clear h0 E1;go_wp2_with fail;refine wp_region_held_drew (S:=fun W=>Below wr.heap.size wr W) VT (aE wr) fun hS=>?_;refine tk 0 (.string (sq)) (y:=fun W hW=>VV) (s:=hS) (h:=?_);refine tk 1 (.pointer (some ⟨w.heap.size,4,none⟩)) (y:=fun W hW=>VV) (s:=hS) (h:=?_);refine tk 2 (.slice (some ⟨b2,o2,none⟩) ns.length c1) (y:=fun W hW=>by have q0:=aB hW x4;go_simp) (s:=hS) (h:=?_);refine tk 3 (.int .i64 (q:Int)) (y:=fun W hW=>VV) (s:=hS) (h:=?_);refine tk 4 (.pointer (some ⟨b2,o2+q,none⟩)) (y:=fun W hW=>VV) (s:=hS) (h:=?_);refine tk 5 (.string nm) (y:=fun W hW=>by have q0:=aB hW r0;go_simp) (s:=hS) (h:=?_);refine tk 6 (.string (sq++nm)) (y:=fun W hW=>VX) (s:=hS) (h:=?_);refine tk 7 (.string (sq++nm++⟨#[32,61,32]⟩)) (y:=fun W hW=>VX) (s:=hS) (h:=?_);refine tk 8 (.pointer (some ⟨w.heap.size,5,none⟩)) (y:=fun W hW=>VV) (s:=hS) (h:=?_);refine tk 9 (.slice (some ⟨b1,o1,none⟩) xs.length c2) (y:=fun W hW=>V8) (s:=hS) (h:=?_);refine tk 10 (.int .i64 (q:Int)) (y:=fun W hW=>VV) (s:=hS) (h:=?_);refine tk 11 (.pointer (some ⟨b1,o1+q*6,none⟩)) (y:=fun W hW=>VV) (s:=hS) (h:=?_);refine tk 12 (bW rW n1 s1 m1 i1 j1 k1 u1 z1 t1) (y:=fun W hW=>VW) (s:=hS) (h:=?_);refine zr 13 rfl (fun K hK=>?_);(try simp only[z1,z2,z3]);go_simp;refine(HC.out _ (aE wr)).mono ?_;rintro e wa ⟨rfl,qR⟩;have qQ:=aA (aE wr) qR;refine hK.out _ _ qQ (fun hS=>?_);clear hK K;(try simp only[zn]);refine tk 14 (.string (sq++nm++⟨#[32,61,32]⟩++t0)) (y:=fun W hW=>VX) (s:=hS) (h:=?_);refine tk 15 (.string (sq++nm++⟨#[32,61,32]⟩++t0++⟨#[32]⟩)) (y:=fun W hW=>VX) (s:=hS) (h:=?_);refine tk 16 (.string (sq++nm++⟨#[32,61,32]⟩++t0++⟨#[32]⟩)) (y:=fun W hW=>VV) (s:=hS) (h:=?_);refine wpAnyH_done VT ?_ _;have AC:=zh (aA HW.out qQ);clear qQ hS HC r0 rG rF rI sG sF sD x0 x1 x2 x3 x4 x5;exact TG
   have HN:Hid (Rc (ns.take (q+1)) (xs.take (q+1))=((((sq++⟨#[44,32]⟩)++nm)++⟨#[32,61,32]⟩)++t0)++⟨#[32]⟩):=zh (by rw[E1.out,if_neg h0]);have hn0:0<q:=VS;have hzc:(sq++⟨#[44,32]⟩).size<=25000000000000:=XG;clear h0 E1;go_wp2_with fail;refine wp_region_held_drew (S:=fun W=>Below wr.heap.size wr W) VT (aE wr) fun hS=>?_;refine tk 0 (.string (sq++⟨#[44,32]⟩)) (y:=fun W hW=>VV) (s:=hS) (h:=?_);refine tk 1 (.pointer (some ⟨w.heap.size,4,none⟩)) (y:=fun W hW=>VV) (s:=hS) (h:=?_);refine tk 2 (.slice (some ⟨b2,o2,none⟩) ns.length c1) (y:=fun W hW=>by have q0:=aB hW x4;go_simp) (s:=hS) (h:=?_);refine tk 3 (.int .i64 (q:Int)) (y:=fun W hW=>VV) (s:=hS) (h:=?_);refine tk 4 (.pointer (some ⟨b2,o2+q,none⟩)) (y:=fun W hW=>VV) (s:=hS) (h:=?_);refine tk 5 (.string nm) (y:=fun W hW=>by have q0:=aB hW r0;go_simp) (s:=hS) (h:=?_);refine tk 6 (.string ((sq++⟨#[44,32]⟩)++nm)) (y:=fun W hW=>VX) (s:=hS) (h:=?_);refine tk 7 (.string ((sq++⟨#[44,32]⟩)++nm++⟨#[32,61,32]⟩)) (y:=fun W hW=>VX) (s:=hS) (h:=?_);refine tk 8 (.pointer (some ⟨w.heap.size,5,none⟩)) (y:=fun W hW=>VV) (s:=hS) (h:=?_);refine tk 9 (.slice (some ⟨b1,o1,none⟩) xs.length c2) (y:=fun W hW=>V8) (s:=hS) (h:=?_);refine tk 10 (.int .i64 (q:Int)) (y:=fun W hW=>VV) (s:=hS) (h:=?_);refine tk 11 (.pointer (some ⟨b1,o1+q*6,none⟩)) (y:=fun W hW=>VV) (s:=hS) (h:=?_);refine tk 12 (bW rW n1 s1 m1 i1 j1 k1 u1 z1 t1) (y:=fun W hW=>VW) (s:=hS) (h:=?_);refine zr 13 rfl (fun K hK=>?_);(try simp only[z1,z2,z3]);go_simp;refine(HC.out _ (aE wr)).mono ?_;rintro e wa ⟨rfl,qR⟩;have qQ:=aA (aE wr) qR;refine hK.out _ _ qQ (fun hS=>?_);clear hK K;(try simp only[zn]);refine tk 14 (.string ((sq++⟨#[44,32]⟩)++nm++⟨#[32,61,32]⟩++t0)) (y:=fun W hW=>VX) (s:=hS) (h:=?_);refine tk 15 (.string ((sq++⟨#[44,32]⟩)++nm++⟨#[32,61,32]⟩++t0++⟨#[32]⟩)) (y:=fun W hW=>VX) (s:=hS) (h:=?_);refine tk 16 (.string ((sq++⟨#[44,32]⟩)++nm++⟨#[32,61,32]⟩++t0++⟨#[32]⟩)) (y:=fun W hW=>VV) (s:=hS) (h:=?_);refine wpAnyH_done VT ?_ _;have AC:=zh (aA HW.out qQ);clear qQ hS HC r0 rG rF rI sG sF sD x0 x1 x2 x3 x4 x5;exact TG
  have LA:Hid (xs.take q=xs):=zh (List.take_of_length_le VS);have AT:Hid (ns.take q=ns):=zh (List.take_of_length_le (by have:=OM.out;omega));go_wp2_with fail;go_ret;exact⟨by rw[HL.out,LA.out,AT.out];rfl,aA pK.out HW.out⟩
theorem eR{x:Xp}{k:Nat}(h:iZ x=k):((iZ x:Nat):Int)=(k:Int):=by rw[h]
theorem xlen1{α:Type}{l:List α}(h:l.length=1):∃x,l=[x]:=List.length_eq_one_iff.1 h
theorem xlen2{α:Type}{l:List α}(h:l.length=2):∃x y,l=[x,y]:=by
 match l,h with
 |[x,y],_=>exact⟨x,y,rfl⟩
theorem xlen3{α:Type}{l:List α}(h:l.length=3):∃x y z,l=[x,y,z]:=by
 match l,h with
 |[x,y,z],_=>exact⟨x,y,z,rfl⟩
theorem jP{d:Nat}{xs:List Xp}(h:xs.all (aJ d)=true):∀x∈xs,aJ d x=true:=XE
theorem rbody_any{d:Nat}(hd:d<=12)(hD:oH d)(x:Xp)(hr:aJ (d+1) x=true){N:Nat->Prop}{cx:List Value}{w:World}(hx:aU N w x cx):
  Calls Tryz.prog 158 #[.agg cx.toArray,.int .i64 (iZ x:Int)] w fun e w'=>e=.returned (.string (Jn (aI x)))/\Below w.heap.size w w':=by
 obtain⟨op,n,s,m,ns,xs⟩:=x;rw[rx_node,Bool.and_eq_true] at hr;obtain⟨qC,ha⟩:=hr
 have vT:op=0\/op=1\/op=2\/op=3\/op=4\/op=5\/op=6\/op=7\/op=8\/op=9\/op=10\/op=11\/op=12\/op=13\/op=14\/op=15\/op=16\/op=17\/op=18:=by
  by_cases h:op<0\/19<=op
  ·rw[node_none op h] at qC;cases qC
  omega
 rcases vT with rfl|rfl|rfl|rfl|rfl|rfl|rfl|rfl|rfl|rfl|rfl|rfl|rfl|rfl|rfl|rfl|rfl|rfl|rfl
 ·rw[eR (show iZ (.mk 0 n s m ns xs)=8 by show(dF 0).1=8;decide)];rw[node_num n s m ns xs] at qC;simp only[Bool.and_eq_true,Bool.or_eq_true,decide_eq_true_eq] at qC;obtain⟨-,h0,h1⟩:=qC;obtain⟨k,rfl⟩:=Int.eq_ofNat_of_zero_le h0;exact rbody_num k VS s m ns xs hx
 ·rw[eR (show iZ (.mk 1 n s m ns xs)=8 by show(dF 1).1=8;decide)];rw[node_bool n s m ns xs] at qC;simp only[Bool.and_eq_true,Bool.or_eq_true,decide_eq_true_eq] at qC;obtain⟨-,h0,h1⟩:=qC;exact rbody_bool n VS s m ns xs hx
 ·rw[eR (show iZ (.mk 2 n s m ns xs)=8 by show(dF 2).1=8;decide)];rw[node_var 2 VU n s m ns xs] at qC;simp only[Bool.and_eq_true,Bool.or_eq_true,decide_eq_true_eq] at qC;exact rbody_var n s m ns xs hx
 ·rw[eR (show iZ (.mk 3 n s m ns xs)=5 by show(dF 3).1=5;decide)];rw[lS 3 VU n s m ns xs] at qC;simp only[Bool.and_eq_true,Bool.or_eq_true,decide_eq_true_eq] at qC;obtain⟨x,y,rfl⟩:=xlen2 qC.2;exact rbody_two3 hd hD n s m ns x y (jP ha) hx
 ·rw[eR (show iZ (.mk 4 n s m ns xs)=5 by show(dF 4).1=5;decide)];rw[lS 4 VU n s m ns xs] at qC;simp only[Bool.and_eq_true,Bool.or_eq_true,decide_eq_true_eq] at qC;obtain⟨x,y,rfl⟩:=xlen2 qC.2;exact rbody_two4 hd hD n s m ns x y (jP ha) hx
 ·rw[eR (show iZ (.mk 5 n s m ns xs)=6 by show(dF 5).1=6;decide)];rw[lS 5 VU n s m ns xs] at qC;simp only[Bool.and_eq_true,Bool.or_eq_true,decide_eq_true_eq] at qC;obtain⟨x,y,rfl⟩:=xlen2 qC.2;exact rbody_two5 hd hD n s m ns x y (jP ha) hx
 ·rw[eR (show iZ (.mk 6 n s m ns xs)=4 by show(dF 6).1=4;decide)];rw[lS 6 VU n s m ns xs] at qC;simp only[Bool.and_eq_true,Bool.or_eq_true,decide_eq_true_eq] at qC;obtain⟨x,y,rfl⟩:=xlen2 qC.2;exact rbody_two6 hd hD n s m ns x y (jP ha) hx
 ·rw[eR (show iZ (.mk 7 n s m ns xs)=4 by show(dF 7).1=4;decide)];rw[lS 7 VU n s m ns xs] at qC;simp only[Bool.and_eq_true,Bool.or_eq_true,decide_eq_true_eq] at qC;obtain⟨x,y,rfl⟩:=xlen2 qC.2;exact rbody_two7 hd hD n s m ns x y (jP ha) hx
 ·rw[eR (show iZ (.mk 8 n s m ns xs)=2 by show(dF 8).1=2;decide)];rw[lS 8 VU n s m ns xs] at qC;simp only[Bool.and_eq_true,Bool.or_eq_true,decide_eq_true_eq] at qC;obtain⟨x,y,rfl⟩:=xlen2 qC.2;exact rbody_two8 hd hD n s m ns x y (jP ha) hx
 ·rw[eR (show iZ (.mk 9 n s m ns xs)=1 by show(dF 9).1=1;decide)];rw[lS 9 VU n s m ns xs] at qC;simp only[Bool.and_eq_true,Bool.or_eq_true,decide_eq_true_eq] at qC;obtain⟨x,y,rfl⟩:=xlen2 qC.2;exact rbody_two9 hd hD n s m ns x y (jP ha) hx
 ·rw[eR (show iZ (.mk 10 n s m ns xs)=3 by show(dF 10).1=3;decide)];rw[node_not n s m ns xs] at qC;simp only[Bool.and_eq_true,Bool.or_eq_true,decide_eq_true_eq] at qC;obtain⟨x,rfl⟩:=xlen1 qC.2;exact rbody_not hd hD n s m ns x (jP ha) hx
 ·rw[eR (show iZ (.mk 11 n s m ns xs)=0 by show(dF 11).1=0;decide)];rw[node_if n s m ns xs] at qC;simp only[Bool.and_eq_true,Bool.or_eq_true,decide_eq_true_eq] at qC;obtain⟨x,y,z,rfl⟩:=xlen3 qC.2;exact rbody_if hd hD n s m ns x y z (jP ha) hx
 ·rw[eR (show iZ (.mk 12 n s m ns xs)=0 by show(dF 12).1=0;decide)];rw[node_let n s m ns xs] at qC;simp only[Bool.and_eq_true,Bool.or_eq_true,decide_eq_true_eq] at qC;obtain⟨x,y,rfl⟩:=xlen2 qC.1.2;exact rbody_let hd hD n s m ns x y (jP ha) hx
 ·rw[eR (show iZ (.mk 13 n s m ns xs)=8 by show(dF 13).1=8;decide)];rw[node_rec n s m ns xs] at qC;simp only[Bool.and_eq_true,Bool.or_eq_true,decide_eq_true_eq] at qC;obtain⟨⟨⟨-,h1⟩,h2⟩,h3⟩:=qC;exact rbody_rec hd hD n s m ns xs (jP ha) h2 h1.symm (fun y hy=>eL (names_each h3 y hy)) hx
 ·rw[eR (show iZ (.mk 14 n s m ns xs)=7 by show(dF 14).1=7;decide)];rw[node_field 14 VU n s m ns xs] at qC;simp only[Bool.and_eq_true,Bool.or_eq_true,decide_eq_true_eq] at qC;obtain⟨x,rfl⟩:=xlen1 qC.1.2;exact rbody_field hd hD n s m ns x (jP ha) hx
 ·rw[eR (show iZ (.mk 15 n s m ns xs)=8 by show(dF 15).1=8;decide)];rw[node_call n s m ns xs] at qC;simp only[Bool.and_eq_true,Bool.or_eq_true,decide_eq_true_eq] at qC;obtain⟨⟨⟨-,h1⟩,-⟩,-⟩:=qC;by_cases hm:m=⟨#[]⟩
  ·subst hm;exact rbody_call hd hD n s ns xs (jP ha) h1 hx
  exact rbody_ext hd hD n s m hm ns xs (jP ha) h1 hx
 ·rw[eR (show iZ (.mk 16 n s m ns xs)=8 by show(dF 16).1=8;decide)];rw[node_act n s m ns xs] at qC;simp only[Bool.and_eq_true,Bool.or_eq_true,decide_eq_true_eq] at qC;simp only[bC,Bool.or_eq_true,Bool.and_eq_true,decide_eq_true_eq,Bool.false_eq_true,false_or] at qC;obtain⟨⟨hp,h1⟩,h2⟩:=qC;have hm:m=⟨#[]⟩:=hp.1.2;obtain⟨x,rfl⟩:=xlen1 h1;subst hm;exact rbody_act hd hD n VS s ns x (jP ha) hx
 ·rw[eR (show iZ (.mk 17 n s m ns xs)=8 by show(dF 17).1=8;decide)];rw[node_var 17 VU n s m ns xs] at qC;simp only[Bool.and_eq_true,Bool.or_eq_true,decide_eq_true_eq] at qC;exact rbody_get n s m ns xs hx
 rw[eR (show iZ (.mk 18 n s m ns xs)=0 by show(dF 18).1=0;decide)];rw[node_field 18 VU n s m ns xs] at qC;simp only[Bool.and_eq_true,Bool.or_eq_true,decide_eq_true_eq] at qC;obtain⟨x,rfl⟩:=xlen1 qC.1.2;exact rbody_set hd hD n s m ns x (jP ha) hx
theorem show_step{d:Nat}(hd:d<=11)(hD:oH d):oH (d+1):=by
 intro x N cx w lv IX hr hx;have LF:=dG (show d+1<=12 by omega) hr 0;rw[tx_zero] at LF;have HB:=zh (fun W(hb:Below w.heap.size w W)=>rbody_any VS hD x hr (aG _ _ _ _ _ _ (aK.later hb) hx));have HT0:=zh (tx_own x lv);obtain⟨op,n,s,m,ns,xs⟩:=x;rw[aN] at hx;obtain⟨v1,v2,rfl,rX,uW,hn,ha⟩:=hx;obtain⟨a1,c1,rfl,-⟩:=id hn;obtain⟨a2,c2,rfl,-⟩:=id ha;have GO:Hid (∀W,Below w.heap.size w W->Calls Tryz.prog 158 #[bW op n s m a1 ns.length c1 a2 xs.length c2,.int .i64 ((dF op).1:Int)] W fun e w'=>e=.returned (.string (Jn (aI (.mk op n s m ns xs))))/\Below W.heap.size W w'):=HB;have HT:Hid (Tx (.mk op n s m ns xs) lv=if(dF op).1<lv then(⟨#[40,32]⟩++Jn (aI (.mk op n s m ns xs)))++⟨#[32,41]⟩ else Jn (aI (.mk op n s m ns xs))):=HT0;clear HB HT0 hn ha hr hD;generalize Tx (.mk op n s m ns xs) lv=tt at *;generalize Jn (aI (.mk op n s m ns xs))=jt at *;have HF:=zh (fun W=>rformOf_any op n s m a1 a2 ns.length c1 xs.length c2 W);generalize (dF op).1=own at *;have pK:=zh (aC w (aH op n s m a1 ns.length c1 a2 xs.length c2));have HX:=zh (bY w (aH op n s m a1 ns.length c1 a2 xs.length c2));have hX:=HX.out;obtain⟨⟨x0,x1,x2,x3,x4,x5⟩,-⟩:=bx6 hX;clear hX;go_enter Tryz.func76,Tryz.ntmps76;go_wp2_with fail;refine(HF.out _).mono ?_;rintro e w2 ⟨rfl,pM⟩;have pQ:=zh (aA pK.out pM);have pW:=aD pM HX.out;clear x0 x1 x2 x3 x4 x5;obtain⟨⟨x0,x1,x2,x3,x4,x5⟩,-⟩:=bx6 pW;clear pW pM;go_wp2_with fail;refine(GO.out _ pQ.out).mono ?_;rintro e w3 ⟨rfl,pR⟩;have qG:=zh (aA pQ.out pR);clear x0 x1 x2 x3 x4 x5 pR;by_cases pS:own<lv
 ·have HR:Hid (tt=(⟨#[40,32]⟩++jt)++⟨#[32,41]⟩):=zh (by rw[HT.out,if_pos pS]);have hi:(own:Int)<(lv:Int):=VS;go_wp2_with fail;go_ret;exact⟨WP,qG.out⟩
 have HR:Hid (tt=jt):=zh (by rw[HT.out,if_neg pS]);have hi:¬(own:Int)<(lv:Int):=VS;go_wp2_with fail;go_ret;exact⟨WP,qG.out⟩
theorem shoX_all:∀d,d<=12->oH d
 |0,_=>fun x N cx w lv IX hr hx=>by rw[aJ] at hr;cases hr
 |d+1,h=>show_step VS (shoX_all d VS)
theorem rshow_any(x:Xp)(hr:aJ 12 x=true)(lv:Nat)(IX:lv<=8){N:Nat->Prop}{cx:List Value}{w:World}(hx:aU N w x cx):
  Calls Tryz.prog 76 #[.agg cx.toArray,.int .i64 (lv:Int)] w fun e w'=>e=.returned (.string (Tx x lv))/\Below w.heap.size w w':=
 shoX_all 12 VU x N cx w lv IX hr hx
theorem rlist_any(l:List Xp)(hr:∀x∈l,aJ 12 x=true)(hl:l.length<=10){N:Nat->Prop}{v:Value}{w:World}(hv:aO 6 aU N w v l):
  Calls Tryz.prog 79 #[v] w fun e w'=>e=.returned (.string (Ls l))/\Below w.heap.size w w':=
 rlist_of VU (shoX_all 12 VU) l hr hl hv
theorem bT_le:∀d:Fin 5,bT d.val<=109980:=VU
theorem ty_size{d:Nat}(hd:d<=4){t:Ty}(h:aQ d t=true):tsz (eI t)<=109980:=by
 have h1:=type_size d t h;have h2:bT d<=109980:=bT_le ⟨d,VS⟩;omega
def ShowT(d:Nat):Prop:=∀(x:Ty)(N:Nat->Prop)(cx:List Value)(w:World),aQ d x=true->eX N w x cx->
 Calls Tryz.prog 75 #[.agg cx.toArray] w fun e w'=>e=.returned (.string (Jt x))/\Below w.heap.size w w'
theorem rtyped_of{d:Nat}(hd:d<=4)(hD:ShowT d)(l:List Fld)(hr:∀x∈l,aP x.1=true/\aQ d x.2=true)(hl:l.length<=10){N:Nat->Prop}{v:Value}{w:World}(hv:aO 3 eH N w v l):
  Calls Tryz.prog 78 #[v] w fun e w'=>e=.returned (.string (Fl l))/\Below w.heap.size w w':=by
 obtain⟨a1,c1,rfl,vD,vC,qB⟩:=hv.at;have HA:=zh qB;have HD:=zh hD;have HRg:=zh hr;have HSz:Hid (∀q,(Fl (l.take q)).size<=1100030):=zh (fun q=>fl_size (fun g hg=>⟨(hr g (List.mem_of_mem_take hg)).1,ty_size hd (hr g (List.mem_of_mem_take hg)).2⟩) (by rw[List.length_take];omega));clear qB hv hD hr;go_enter Tryz.func78,Tryz.ntmps78;go_wp2_with fail;go_loopw [3,4] (fun sv iv wr=>∃q:Nat,q<=l.length/\sv=.string (Fl (l.take q))/\iv=.int .i64 (q:Int)/\Hid (Below w.heap.size w wr)) (fun _ iv _=>l.length-(intOf iv).toNat)
 case atStart=>exact⟨0,Nat.zero_le _,by rw[List.take_zero,fl_nil],rfl,zh (Below.refl _ _)⟩
 case round=>
  obtain⟨q,hq,rfl,rfl,HW⟩:=hrel;rename World=>wr
  have OU:=HSz.out q;by_cases pS:q<l.length
  ·obtain⟨x,hx,-⟩:=getElem?_of_lt pS;have sL:(0:Int)<=(q:Int)/\(q:Int)<(l.length:Int):=VS;obtain⟨nm,x⟩:=x;have E1:=zh (fl_step hx);have xR:=HRg.out (nm,x) (List.mem_of_getElem? hx);have rZ:=jt_size (ty_size hd xR.2);have rY:=eL xR.1;simp only at rZ rY;obtain⟨b1,o1,rfl,-,uG,⟨K0,rfl,FI,qF⟩,-,pO⟩:=HA.out q (nm,x) hx;obtain⟨k1,i1,j1,z1,rfl⟩:=cI qF;have rG:wr.cell? ⟨b1,o1+q*3,none⟩=some (.string nm):=aB HW.out (pO 0 _ rfl);have rF:wr.cell? ⟨b1,o1+q*3+1,none⟩=some (.int .i64 k1):=aB HW.out (pO 1 _ rfl);have rI:wr.cell? ⟨b1,o1+q*3+1+1,none⟩=some (.slice i1 j1 z1):=aB HW.out (pO 2 _ rfl);have HC:=zh (fun W(hb:Below wr.heap.size wr W)=>HD.out x N _ W xR.2 (cB _ _ _ _ _ _ (aK.later (aA HW.out hb)) qF));clear pO hx qF xR FI;generalize Jt x=t0 at *;generalize Fl (l.take q)=sq at *;by_cases h0:q=0
   ·have HN:Hid (Fl (l.take (q+1))=(((sq++nm)++⟨#[32]⟩)++t0)++⟨#[32]⟩):=zh (by rw[E1.out,if_pos h0]);have hn0:¬0<q:=VS;clear h0 E1;go_wp2_with fail;refine wp_region_held_drew (S:=fun W=>Below wr.heap.size wr W) VT (aE wr) fun hS=>?_;refine tk 0 (.string (sq)) (y:=fun W hW=>VV) (s:=hS) (h:=?_);refine tk 1 (.slice (some ⟨b1,o1,none⟩) l.length c1) (y:=fun W hW=>VV) (s:=hS) (h:=?_);refine tk 2 (.int .i64 (q:Int)) (y:=fun W hW=>VV) (s:=hS) (h:=?_);refine tk 3 (.pointer (some ⟨b1,o1+q*3,none⟩)) (y:=fun W hW=>VV) (s:=hS) (h:=?_);refine tk 4 (.pointer (some ⟨b1,o1+q*3,none⟩)) (y:=fun W hW=>VV) (s:=hS) (h:=?_);refine tk 5 (.string nm) (y:=fun W hW=>YQ) (s:=hS) (h:=?_);refine tk 6 (.string (sq++nm)) (y:=fun W hW=>VX) (s:=hS) (h:=?_);refine tk 7 (.string (sq++nm++⟨#[32]⟩)) (y:=fun W hW=>VX) (s:=hS) (h:=?_);refine tk 8 (.slice (some ⟨b1,o1,none⟩) l.length c1) (y:=fun W hW=>VV) (s:=hS) (h:=?_);refine tk 9 (.int .i64 (q:Int)) (y:=fun W hW=>VV) (s:=hS) (h:=?_);refine tk 10 (.pointer (some ⟨b1,o1+q*3,none⟩)) (y:=fun W hW=>VV) (s:=hS) (h:=?_);refine tk 11 (.pointer (some ⟨b1,o1+q*3+1,none⟩)) (y:=fun W hW=>VV) (s:=hS) (h:=?_);refine tk 12 (.agg #[.int .i64 k1,.slice i1 j1 z1]) (y:=fun W hW=>YK) (s:=hS) (h:=?_);refine zr 13 rfl (fun K hK=>?_);(try simp only[z1,z2,z3]);go_simp;refine(HC.out _ (aE wr)).mono ?_;rintro e wa ⟨rfl,qR⟩;have qQ:=aA (aE wr) qR;refine hK.out _ _ qQ (fun hS=>?_);clear hK K;(try simp only[zn]);refine tk 14 (.string (sq++nm++⟨#[32]⟩++t0)) (y:=fun W hW=>VX) (s:=hS) (h:=?_);refine tk 15 (.string (sq++nm++⟨#[32]⟩++t0++⟨#[32]⟩)) (y:=fun W hW=>VX) (s:=hS) (h:=?_);refine tk 16 (.string (sq++nm++⟨#[32]⟩++t0++⟨#[32]⟩)) (y:=fun W hW=>VV) (s:=hS) (h:=?_);refine wpAnyH_done VT ?_ _;have AC:=zh (aA HW.out qQ);clear qQ hS HC rG rF rI;exact TG
   have HN:Hid (Fl (l.take (q+1))=((((sq++⟨#[44,32]⟩)++nm)++⟨#[32]⟩)++t0)++⟨#[32]⟩):=zh (by rw[E1.out,if_neg h0]);have hn0:0<q:=VS;have hzc:(sq++⟨#[44,32]⟩).size<=2000000:=XG;clear h0 E1;go_wp2_with fail;refine wp_region_held_drew (S:=fun W=>Below wr.heap.size wr W) VT (aE wr) fun hS=>?_;refine tk 0 (.string (sq++⟨#[44,32]⟩)) (y:=fun W hW=>VV) (s:=hS) (h:=?_);refine tk 1 (.slice (some ⟨b1,o1,none⟩) l.length c1) (y:=fun W hW=>VV) (s:=hS) (h:=?_);refine tk 2 (.int .i64 (q:Int)) (y:=fun W hW=>VV) (s:=hS) (h:=?_);refine tk 3 (.pointer (some ⟨b1,o1+q*3,none⟩)) (y:=fun W hW=>VV) (s:=hS) (h:=?_);refine tk 4 (.pointer (some ⟨b1,o1+q*3,none⟩)) (y:=fun W hW=>VV) (s:=hS) (h:=?_);refine tk 5 (.string nm) (y:=fun W hW=>YQ) (s:=hS) (h:=?_);refine tk 6 (.string ((sq++⟨#[44,32]⟩)++nm)) (y:=fun W hW=>VX) (s:=hS) (h:=?_);refine tk 7 (.string ((sq++⟨#[44,32]⟩)++nm++⟨#[32]⟩)) (y:=fun W hW=>VX) (s:=hS) (h:=?_);refine tk 8 (.slice (some ⟨b1,o1,none⟩) l.length c1) (y:=fun W hW=>VV) (s:=hS) (h:=?_);refine tk 9 (.int .i64 (q:Int)) (y:=fun W hW=>VV) (s:=hS) (h:=?_);refine tk 10 (.pointer (some ⟨b1,o1+q*3,none⟩)) (y:=fun W hW=>VV) (s:=hS) (h:=?_);refine tk 11 (.pointer (some ⟨b1,o1+q*3+1,none⟩)) (y:=fun W hW=>VV) (s:=hS) (h:=?_);refine tk 12 (.agg #[.int .i64 k1,.slice i1 j1 z1]) (y:=fun W hW=>YK) (s:=hS) (h:=?_);refine zr 13 rfl (fun K hK=>?_);(try simp only[z1,z2,z3]);go_simp;refine(HC.out _ (aE wr)).mono ?_;rintro e wa ⟨rfl,qR⟩;have qQ:=aA (aE wr) qR;refine hK.out _ _ qQ (fun hS=>?_);clear hK K;(try simp only[zn]);refine tk 14 (.string ((sq++⟨#[44,32]⟩)++nm++⟨#[32]⟩++t0)) (y:=fun W hW=>VX) (s:=hS) (h:=?_);refine tk 15 (.string ((sq++⟨#[44,32]⟩)++nm++⟨#[32]⟩++t0++⟨#[32]⟩)) (y:=fun W hW=>VX) (s:=hS) (h:=?_);refine tk 16 (.string ((sq++⟨#[44,32]⟩)++nm++⟨#[32]⟩++t0++⟨#[32]⟩)) (y:=fun W hW=>VV) (s:=hS) (h:=?_);refine wpAnyH_done VT ?_ _;have AC:=zh (aA HW.out qQ);clear qQ hS HC rG rF rI;exact TG
  have LA:Hid (l.take q=l):=zh (List.take_of_length_le VS);go_wp2_with fail;go_ret;exact⟨by rw[LA.out];rfl,HW.out⟩
theorem showT_step{d:Nat}(hd:d<=3)(hD:ShowT d):ShowT (d+1):=by
 rintro⟨kd,fs⟩ N cx w hr hx;rw[dY] at hx;obtain⟨v1,rfl,ha⟩:=hx;obtain⟨a1,c1,rfl,-⟩:=id ha;by_cases h0:kd=0
 ·subst h0;have pK:=zh (aC w (dT 0 a1 fs.length c1));have HX:=zh (bY w (dT 0 a1 fs.length c1));have hX:=HX.out;obtain⟨⟨x0,x1⟩,-⟩:=bx2 hX;clear hX;have HL:=zh (law_ty0 fs);clear ha hD hr;go_enter Tryz.func75,Tryz.ntmps75;exact UF
 by_cases h1:kd=1
 ·subst h1;have pK:=zh (aC w (dT 1 a1 fs.length c1));have HX:=zh (bY w (dT 1 a1 fs.length c1));have hX:=HX.out;obtain⟨⟨x0,x1⟩,-⟩:=bx2 hX;clear hX;have HL:=zh (law_ty1 fs);clear ha hD hr;go_enter Tryz.func75,Tryz.ntmps75;exact UF
 obtain⟨hk,h8,pP,DK⟩:=ty_parts hr;have HL:=zh (law_ty2 h0 h1 fs);have g0:=aL h0;have g1:=aL h1;have LF:(Fl fs).size<=1100030:=fl_size (fun g hg=>⟨(gU DK g hg).1,ty_size VS (gU DK g hg).2⟩) VS;have HC:=zh (fun W(hb:Below w.heap.size w W)=>rtyped_of VS hD fs (fun x hx=>gU DK x hx) VS (ha.moves aS (aK.later hb) VU));have pK:=zh (aC w (dT kd a1 fs.length c1));have HX:=zh (bY w (dT kd a1 fs.length c1));have hX:=HX.out;obtain⟨⟨x0,x1⟩,-⟩:=bx2 hX;clear hX;clear ha hD hr DK h0 h1 hk pP;generalize Fl fs=ft at *;go_enter Tryz.func75,Tryz.ntmps75;go_wp2_with fail;refine(HC.out _ pK.out).mono ?_;rintro e w2 ⟨rfl,pM⟩;have pQ:=zh (aA pK.out pM);clear pM x0 x1;go_wp2_with fail;go_ret;exact⟨X5,pQ.out⟩
theorem showT_all:∀d,d<=4->ShowT d
 |0,_=>fun x N cx w hr hx=>by rw[aQ] at hr;cases hr
 |d+1,h=>showT_step VS (showT_all d VS)
theorem rshowType_any(x:Ty)(hr:aQ 4 x=true){N:Nat->Prop}{cx:List Value}{w:World}(hx:eX N w x cx):
  Calls Tryz.prog 75 #[.agg cx.toArray] w fun e w'=>e=.returned (.string (Jt x))/\Below w.heap.size w w':=
 showT_all 4 VU x N cx w hr hx
theorem rtyped_any(l:List Fld)(hr:∀x∈l,aP x.1=true/\aQ 4 x.2=true)(hl:l.length<=10){N:Nat->Prop}{v:Value}{w:World}(hv:aO 3 eH N w v l):
  Calls Tryz.prog 78 #[v] w fun e w'=>e=.returned (.string (Fl l))/\Below w.heap.size w w':=
 rtyped_of VU (showT_all 4 VU) l hr hl hv
theorem map_step{l:List Fld}{q:Nat}{x:Fld}(hx:l[q]? =some x):(l.take (q+1)).map (·.1)=(l.take q).map (·.1)++[x.1]:=by
 rw[List.take_add_one,hx,List.map_append];rfl
theorem ty_at(d:Nat)(k:Int)(fs:List Fld):aQ (d+1) (.mk k fs)=((decide (0<=k)&&decide (k<=2))&&(!(!decide (k=2)&&decide (0<fs.length)))&&(!decide (8<fs.length))&&cO none (fs.map (·.1))&&fs.all fun x=>aQ d x.2):=by
 rw[aQ];have h:=fieldsOk_iff (p:=aQ d) (fs:=fs) (before:=none)
 have h2:eS (aQ d) none fs=(cO none (fs.map (·.1))&&fs.all fun x=>aQ d x.2):=by
  rw[Bool.eq_iff_iff,h,Bool.and_eq_true,List.all_eq_true]
 rw[h2];generalize cO none (fs.map (·.1))=a;generalize (fs.all fun x=>aQ d x.2)=b;generalize fs.length=n;rw[Bool.eq_iff_iff];simp;grind
theorem flds_uses:∀(l:List Fld)(known:List bA),cG l known=(bM (l.map (·.1)) known&&l.all fun x=>aQ 4 x.2)
 |[],known=>rfl
 |(n,t)::r,known=>by
  rw[cG,List.map_cons,bM,List.all_cons,flds_uses r (n::known)];cases (known.any fun x=>decide (x=n))<;>cases aP n<;>cases aQ 4 t<;>simp
theorem rlabels_any(l:List Fld)(PG:l.length<=1000){N:Nat->Prop}{v:Value}{w:World}(hv:aO 3 eH N w v l):
  Calls Tryz.prog 161 #[v] w fun e w'=>(∃v,e=.returned v/\aO 1 eT (bP w.heap.size) w' v (l.map (·.1)))/\Below w.heap.size w w':=by
 obtain⟨i0,wO,tS,rZ,rY⟩:=info_parts strInfo1;obtain⟨a1,c1,rfl,vD,vC,qB⟩:=hv.at;have HA:=zh qB;clear qB hv;go_enter Tryz.func161,Tryz.ntmps161;go_wp2_with fail;go_loopw [3,4] (fun pv iv wr=>∃(q:Nat)(out:List bA)(css:List (List Value)),q<=l.length/\iv=.int .i64 (q:Int)/\Hid (Below w.heap.size w wr)/\Hid (out=(l.take q).map (·.1))/\out.length<=q/\Hid (Gro 1 9 eT w.heap.size out css pv wr)) (fun _ iv _=>l.length-(intOf iv).toNat)
 case atStart=>exact⟨0,[],[],Nat.zero_le _,rfl,zh (Below.refl _ _),zh rfl,Nat.le_refl _,zh (Gro.first _ _ _ _)⟩
 case round=>
  obtain⟨q,out,css,hq,rfl,qZ,HO,IN,HG⟩:=hrel;rename World=>wr
  by_cases pS:q<l.length
  ·obtain⟨x,hx,-⟩:=getElem?_of_lt pS;have sL:(0:Int)<=(q:Int)/\(q:Int)<(l.length:Int):=VS;have uT:=zh hx;obtain⟨nm,x⟩:=x;obtain⟨b1,o1,rfl,-,uG,⟨K0,rfl,FI,qF⟩,-,pO⟩:=HA.out q (nm,x) hx;obtain⟨k1,i1,j1,z1,rfl⟩:=cI qF;have rG:wr.cell? ⟨b1,o1+q*3,none⟩=some (.string nm):=aB qZ.out (pO 0 _ rfl);have rF:wr.cell? ⟨b1,o1+q*3+1,none⟩=some (.int .i64 k1):=aB qZ.out (pO 1 _ rfl);have rI:wr.cell? ⟨b1,o1+q*3+1+1,none⟩=some (.slice i1 j1 z1):=aB qZ.out (pO 2 _ rfl);have hnz':nm.size<=140737488355328:=Nat.le_trans FI VU;have G0:Hid (out++[nm]=(l.take (q+1)).map (·.1)):=zh (by rw[map_step uT.out,HO.out]);have KJ:=zh (HG.out.later aT (aC wr (kF nm)));have rK:=KJ.out.big;clear pO hx qF FI rF rI;go_wp2_with(at_builtin;refine wpList_append_lies _ rfl _ _ 23 rfl w.heap.size 9 i0 (.string ByteArray.empty) 1 16 Tryz.underlying23 wO tS rZ rY rfl VS _ out.length css.flatten W7 KJ.out.own ⟨wr.heap.size,0,none⟩ 1 1 [.string nm] W7 rfl (World.news_of_block (cs:=#[.string nm]) (t:=9) (fr:=(0,0)) (bY wr _)) WF VS WL VS rK (wr.heap.size+1) VY ?_);intro g cap w2 pT pL qW _;have EC:=zh (KJ.out.added aT (x:=nm) ⟨rfl,hnz'⟩ rfl pT pL YH);have MS:=zh (mO (aA qZ.out (aC wr (kF nm))) pL (fun b hb=>(KJ.out.lt b hb).1));clear pT pL qW KJ HG;go_wp2_with fail;go_roundw;(case rel=>exact⟨q+1,out++[nm],css++[[.string nm]],VS,WH,MS,G0,by rw[List.length_append,List.length_singleton];omega,EC⟩);case measure=>simp[intOf];omega
  have HR:=zh (HG.out.row aT);have HE:Hid (out=l.map (·.1)):=zh (by rw[HO.out,List.take_of_length_le VS]);go_wp2_with fail;go_ret;exact⟨⟨_,rfl,by rw[<-HE.out];exact HR.out⟩,qZ.out⟩
def ShT(d:Nat):Prop:=∀(x:Ty)(N:Nat->Prop)(cx:List Value)(w:World),d<=100->eX N w x cx->
 Calls Tryz.prog 95 #[.agg cx.toArray,.int .i64 (d:Int)] w fun e w'=>e=.returned (.bool (aQ d x))/\Below w.heap.size w w'
theorem shape_zero:ShT 0:=by
 rintro⟨kd,fs⟩ N cx w hd hx;rw[dY] at hx;obtain⟨v1,rfl,hn⟩:=hx;obtain⟨a1,c1,rfl,vD,vC,qB⟩:=hn.at;have HA:=zh qB;have HN:=zh (fun W(hb:Below w.heap.size w W)=>hn.moves aS (aK.later hb) VU);have pK:=zh (aC w (dT kd a1 fs.length c1));have HX:=zh (bY w (dT kd a1 fs.length c1));have hX:=HX.out;obtain⟨⟨x0,x1⟩,-⟩:=bx2 hX;clear hX qB hn;go_enter Tryz.func95,Tryz.ntmps95;go_wp2_with fail;go_ret;exact⟨rfl,pK.out⟩
theorem shape_step(d:Nat)(hD:ShT d):ShT (d+1):=by
 rintro⟨kd,fs⟩ N cx w hd hx;rw[dY] at hx;obtain⟨v1,rfl,hn⟩:=hx;obtain⟨a1,c1,rfl,vD,vC,qB⟩:=hn.at;have HA:=zh qB;have HN:=zh (fun W(hb:Below w.heap.size w W)=>hn.moves aS (aK.later hb) VU);have pK:=zh (aC w (dT kd a1 fs.length c1));have HX:=zh (bY w (dT kd a1 fs.length c1));have hX:=HX.out;obtain⟨⟨x0,x1⟩,-⟩:=bx2 hX;clear hX qB hn;have HD:=zh hD;have HR:=zh (ty_at d kd fs);have hc:((d+1:Nat):Int)=(d:Int)+1:=VS;rw[hc];have hz:(((d:Int)+1)==0)=false:=V7;have hw:IntKind.i64.wrap ((d:Int)+1-1)=(d:Int):=ZA;clear hD hc;generalize aQ (d+1) (.mk kd fs)=R at *;have HK:=zh (fun W=>nR kd 0 2 W);generalize (decide (0<=kd)&&decide (kd<=2))=kb at HR HK
 cases kb with
 |false=>
  have HF:Hid (R=false):=zh WP;go_enter Tryz.func95,Tryz.ntmps95;go_wp2_with fail;refine(HK.out _).mono ?_;rintro e w2 ⟨rfl,rfl⟩;go_wp2_with fail;go_ret;exact⟨aF WI,pK.out⟩
 |true=>
  by_cases hk:kd=2
  focus
   have gk:(kd==2)=true:=cU hk;(have gk':(kd != 2)=false:=by rw[bne,gk];rfl);have sS:Hid (R=(!decide (8<fs.length)&&cO none (fs.map (·.1))&&fs.all fun x=>aQ d x.2)):=zh (by rw[HR.out,decide_eq_true hk];rfl);clear HR hk;go_enter Tryz.func95,Tryz.ntmps95;go_wp2_with fail;refine(HK.out _).mono ?_;rintro e w2 ⟨rfl,rfl⟩
  rotate_right
  focus
   have gk:(kd==2)=false:=aL hk;(have gk':(kd != 2)=true:=by rw[bne,gk];rfl);by_cases hl:0<fs.length
   focus
    have HF:Hid (R=false):=zh (by rw[HR.out,decide_eq_false hk,decide_eq_true hl];simp);have hl':(0:Int)<(fs.length:Int):=VS;clear hk;go_enter Tryz.func95,Tryz.ntmps95;go_wp2_with fail;refine(HK.out _).mono ?_;rintro e w2 ⟨rfl,rfl⟩;go_wp2_with fail;go_ret;exact⟨aF WI,pK.out⟩
   have LM:fs=[]:=List.eq_nil_of_length_eq_zero VS;subst LM;have HF:Hid (R=true):=zh (by rw[HR.out,decide_eq_false hk];rfl);clear HR hk hl;go_enter Tryz.func95,Tryz.ntmps95;go_wp2_with fail;refine(HK.out _).mono ?_;rintro e w2 ⟨rfl,rfl⟩;go_wp2_with fail;refine(rlabels_any [] VU (HN.out _ pK.out)).mono ?_;rintro e w3 ⟨⟨v,rfl,hv⟩,pR⟩;have HV:=zh hv;have qG:=zh (aA pK.out pR);have sW:=zh (aD pR HX.out);have pW:=sW.out;clear x0 x1 hv pR;obtain⟨⟨x0,x1⟩,-⟩:=bx2 pW;clear pW;go_wp2_with fail;refine(rasc_any [] HV.out).mono ?_;rintro e w4 ⟨rfl,qE⟩;have rB:=zh (aA qG.out qE);have tF:=zh (aD qE sW.out);have pW:=tF.out;clear x0 x1 qE;obtain⟨⟨x0,x1⟩,-⟩:=bx2 pW;clear pW;rw[show cO none []=true from rfl];go_wp2_with fail;(go_loopw [5] (fun iv wr=>iv=.int .i64 0/\Hid (Below w4.heap.size w4 wr)) (fun _ _=>0));case atStart=>exact⟨rfl,zh (Below.refl _ _)⟩
   case round=>
    obtain⟨rfl,HW⟩:=hrel;(rename World=>wr);have pW:=aD HW.out tF.out;clear x0 x1;obtain⟨⟨x0,x1⟩,-⟩:=bx2 pW;clear pW;go_wp2_with fail;go_ret;exact⟨aF WI,aA rB.out HW.out⟩
  all_goals
   by_cases h8:8<fs.length
   ·have HF:Hid (R=false):=zh (by rw[sS.out,decide_eq_true h8];rfl);have h8':(8:Int)<(fs.length:Int):=VS;go_wp2_with fail;go_ret;exact⟨aF WI,pK.out⟩
   have K5:Hid (R=(cO none (fs.map (·.1))&&fs.all fun x=>aQ d x.2)):=zh (by rw[sS.out,decide_eq_false h8];rfl);have h8':¬(8:Int)<(fs.length:Int):=VS;clear sS;go_wp2_with fail;refine(rlabels_any fs VS (HN.out _ pK.out)).mono ?_;rintro e w3 ⟨⟨v,rfl,hv⟩,pR⟩;have HV:=zh hv;have qG:=zh (aA pK.out pR);have sW:=zh (aD pR HX.out);have pW:=sW.out;clear x0 x1 hv pR;obtain⟨⟨x0,x1⟩,-⟩:=bx2 pW;clear pW;go_wp2_with fail;refine(rasc_any (fs.map (·.1)) HV.out).mono ?_;rintro e w4 ⟨rfl,qE⟩;have rB:=zh (aA qG.out qE);have tF:=zh (aD qE sW.out);have pW:=tF.out;clear x0 x1 qE;obtain⟨⟨x0,x1⟩,-⟩:=bx2 pW;clear pW;generalize cO none (fs.map (·.1))=nb at K5 ⊢
   cases nb with
   |false=>
    have HF:Hid (R=false):=zh (by rw[K5.out];rfl);go_wp2_with fail;go_ret;exact⟨aF WI,rB.out⟩
   |true=>
    go_wp2_with fail;(go_loopw [5] (fun iv wr=>∃q:Nat,q<=fs.length/\iv=.int .i64 (q:Int)/\Hid (Below w4.heap.size w4 wr)/\Hid (∀y∈fs.take q,(fun x:Fld=>aQ d x.2) y=true)) (fun iv _=>fs.length-(intOf iv).toNat));case atStart=>exact⟨0,Nat.zero_le _,rfl,zh (Below.refl _ _),zh VY⟩
    case round=>
     obtain⟨q,hq,rfl,HW,HT⟩:=hrel;(rename World=>wr);have pW:=aD HW.out tF.out;clear x0 x1;obtain⟨⟨x0,x1⟩,-⟩:=bx2 pW;clear pW;have qZ:=zh (aA rB.out HW.out);by_cases pS:q<fs.length
     ·obtain⟨x,hx,-⟩:=getElem?_of_lt pS;have sL:(0:Int)<=(q:Int)/\(q:Int)<(fs.length:Int):=VS;have uT:=zh hx;obtain⟨nm,x⟩:=x;obtain⟨b1,o1,rfl,-,uG,⟨K0,rfl,FI,qF⟩,-,pO⟩:=HA.out q (nm,x) hx;obtain⟨k1,i1,j1,z1,rfl⟩:=cI qF;have rG:wr.cell? ⟨b1,o1+q*3,none⟩=some (.string nm):=aB qZ.out (pO 0 _ rfl);have rF:wr.cell? ⟨b1,o1+q*3+1,none⟩=some (.int .i64 k1):=aB qZ.out (pO 1 _ rfl);have rI:wr.cell? ⟨b1,o1+q*3+1+1,none⟩=some (.slice i1 j1 z1):=aB qZ.out (pO 2 _ rfl);have HC:=zh (HD.out x N _ wr VS (cB _ _ _ _ _ _ (aK.later qZ.out) qF));clear pO hx qF;go_wp2_with fail;refine HC.out.mono ?_;rintro e w8 ⟨rfl,qM⟩;have rR:=zh (aA HW.out qM);clear qM HC rG rF rI x0 x1
      cases xR:aQ d x with
      |true=>
       have uF:=zh (iK uT.out HT.out xR);exact SH
      |false=>
       have HF:Hid (R=false):=zh (by rw[K5.out,mA (p:=fun x:Fld=>aQ d x.2) uT.out xR];rfl);go_wp2_with fail;go_ret;exact⟨aF WI,aA rB.out rR.out⟩
     have HF:Hid (R=true):=zh (by rw[K5.out,allX_ok HT.out VS];rfl);go_wp2_with fail;go_ret;exact⟨aF WI,qZ.out⟩
theorem shT_all:∀d,ShT d
 |0=>shape_zero
 |d+1=>shape_step d (shT_all d)
theorem mZ(x:Ty){N:Nat->Prop}{cx:List Value}{w:World}(hx:eX N w x cx):
  Calls Tryz.prog 30 #[.agg cx.toArray] w fun e w'=>e=.returned (.bool (aQ 4 x))/\Below w.heap.size w w':=by
 obtain⟨k1,i1,j1,z1,rfl⟩:=cI hx;have pK:=zh (aC w (dT k1 i1 j1 z1));have hX:=bY w (dT k1 i1 j1 z1);obtain⟨⟨x0,x1⟩,-⟩:=bx2 hX;have HC:=zh (shT_all 4 x N _ (w.alloc (dT k1 i1 j1 z1)) VU (cB _ _ _ _ _ _ (aK.later pK.out) hx));clear hX hx;go_enter Tryz.func30,Tryz.ntmps30;exact VG
theorem kY(l:List Fld)(most:Nat)(hm:most<=1000){N:Nat->Prop}{v:Value}{w:World}(hv:aO 3 eH N w v l):
  Calls Tryz.prog 83 #[v,.int .i64 (most:Int)] w fun e w'=>e=.returned (.bool (bO l most))/\Below w.heap.size w w':=by
 obtain⟨a1,c1,rfl,vD,vC,qB⟩:=hv.at;have HA:=zh qB;have HN:=zh (fun W(hb:Below w.heap.size w W)=>hv.moves aS (aK.later hb) VU);have HR:Hid (bO l most=((bM (l.map (·.1)) []&&l.all fun x=>aQ 4 x.2)&&decide (l.length<=most))):=zh (by unfold bO;rw[flds_uses]);clear qB hv;generalize bO l most=R at *;go_enter Tryz.func83,Tryz.ntmps83;go_wp2_with fail;go_loopw [5] (fun iv wr=>∃q:Nat,q<=l.length/\iv=.int .i64 (q:Int)/\Hid (Below w.heap.size w wr)/\Hid (∀y∈l.take q,(fun x:Fld=>aQ 4 x.2) y=true)) (fun iv _=>l.length-(intOf iv).toNat)
 case atStart=>exact⟨0,Nat.zero_le _,rfl,zh (Below.refl _ _),zh VY⟩
 case round=>
  obtain⟨q,hq,rfl,qZ,HT⟩:=hrel;rename World=>wr
  by_cases pS:q<l.length
  ·obtain⟨x,hx,-⟩:=getElem?_of_lt pS;have sL:(0:Int)<=(q:Int)/\(q:Int)<(l.length:Int):=VS;have uT:=zh hx;obtain⟨nm,x⟩:=x;obtain⟨b1,o1,rfl,-,uG,⟨K0,rfl,FI,qF⟩,-,pO⟩:=HA.out q (nm,x) hx;obtain⟨k1,i1,j1,z1,rfl⟩:=cI qF;have rG:wr.cell? ⟨b1,o1+q*3,none⟩=some (.string nm):=aB qZ.out (pO 0 _ rfl);have rF:wr.cell? ⟨b1,o1+q*3+1,none⟩=some (.int .i64 k1):=aB qZ.out (pO 1 _ rfl);have rI:wr.cell? ⟨b1,o1+q*3+1+1,none⟩=some (.slice i1 j1 z1):=aB qZ.out (pO 2 _ rfl);have HC:=zh (mZ x (cB _ _ _ _ _ _ (aK.later qZ.out) qF));clear pO hx qF;go_wp2_with fail;refine HC.out.mono ?_;rintro e w8 ⟨rfl,qM⟩;have rR:=zh (aA qZ.out qM);clear qM HC rG rF rI
   cases xR:aQ 4 x with
   |true=>
    have uF:=zh (iK uT.out HT.out xR);exact SH
   |false=>
    have HF:Hid (R=false):=zh (by rw[HR.out,mA (p:=fun x:Fld=>aQ 4 x.2) uT.out xR];simp);go_wp2_with fail;exact UO
  have sS:Hid (R=(bM (l.map (·.1)) []&&decide (l.length<=most))):=zh (by rw[HR.out,allX_ok HT.out VS];simp);by_cases C0:l.length<=most
  ·have hlm':(l.length:Int)<=(most:Int):=VS;go_wp2_with fail;refine(rlabels_any l VS (HN.out _ qZ.out)).mono ?_;rintro e w3 ⟨⟨v,rfl,hv⟩,pR⟩;have HV:=zh hv;have qG:=zh (aA qZ.out pR);clear hv pR;go_wp2_with fail;refine(runiq_any (l.map (·.1)) HV.out).mono ?_;rintro e w4 ⟨rfl,qE⟩;go_wp2_with fail;go_ret;exact⟨aF (by rw[sS.out,decide_eq_true C0];simp),aA qG.out qE⟩
  have hlm':¬(l.length:Int)<=(most:Int):=VS;go_wp2_with fail;go_ret;exact⟨aF (by rw[sS.out,decide_eq_false C0];simp),qZ.out⟩
end Go.Proofs.YtiionicikdnnpaaGreatDoor
