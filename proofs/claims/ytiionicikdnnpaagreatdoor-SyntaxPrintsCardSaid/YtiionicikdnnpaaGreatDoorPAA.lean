/- Texts of this seat, joined. -/
import Derived.Test.YtiionicikdnnpaaGreatDoorPF
import Derived.Test.YtiionicikdnnpaaGreatDoorPZ
set_option maxHeartbeats 16000000
set_option maxRecDepth 100000
set_option linter.unusedVariables false
set_option linter.unusedSimpArgs false
set_option linter.constructorNameAsVariable false
namespace Go.Proofs.YtiionicikdnnpaaGreatDoor
open Go.RowKit
theorem SH{p:Prop}(h:p:=by
 go_wp2_with fail;go_roundw;case rel=>exact⟨q+1,VS,WH,rR,uF⟩
 case measure=>simp[intOf];omega):p:=h
theorem SP{p:Prop}(h:p:=by
 have uM:q=a.length:=VS;have HE:Hid (eqL a b=true):=zh (gQ (kV HL.out (by have h:=HT.out;rw[uM] at h;exact h)));go_wp2_with fail;go_ret
 exact⟨aF X8,HW.out⟩):p:=h
theorem TF{p:Prop}(h:p:=by
 have HE:Hid (eqL a b=false):=zh (dH (nQ HX.out HY.out (fun e=>by have:=zQ.out.2 e;cases this)));go_wp2_with fail;go_ret
 exact⟨aF X8,rR.out⟩):p:=h
theorem TL{p:Prop}(h:p:=by
 go_wp2_with fail;go_ret
 exact⟨aF (by rw[HR.out];simp[h1]),pK.out⟩):p:=h
theorem TQ{p:Prop}(h:p:=by
 go_wp2_with fail;go_ret
 exact⟨aF X8,Below.refl _ _⟩):p:=h
theorem UJ{p:Prop}(h:p:=by
 go_wp2_with fail;go_ret
 exact⟨aF (by rw[HR.out];simp[h2]),pK.out⟩):p:=h
theorem U7{p:Prop}(h:p:=by
 go_wp2_with fail;go_ret
 exact⟨aF (by rw[HR.out];simp[h3]),pK.out⟩):p:=h
theorem jF{α:Type}{a b:List α}{q:Nat}{x y:α}(hx:a[q]? =some x)(hy:b[q]? =some y)(ht:a.take q=b.take q)(he:x=y):a.take (q+1)=b.take (q+1):=by
 rw[List.take_add_one,List.take_add_one,ht,hx,hy,he]
theorem nQ{α:Type}{a b:List α}{q:Nat}{x y:α}(hx:a[q]? =some x)(hy:b[q]? =some y)(he:x≠y):a≠b:=by
 intro e;rw[e,hy] at hx;exact he (Option.some.inj hx).symm
theorem kV{α:Type}{a b:List α}(hl:a.length=b.length)(ht:a.take a.length=b.take a.length):a=b:=by
 rw[List.take_length,hl,List.take_length] at ht;exact ht
noncomputable def eqL {α:Type} (a b:List α):Bool:=@decide (a=b) (Classical.propDecidable _)
theorem gQ{α:Type}{a b:List α}(h:a=b):eqL a b=true:=@decide_eq_true _ (Classical.propDecidable _) h
theorem dH{α:Type}{a b:List α}(h:¬a=b):eqL a b=false:=@decide_eq_false _ (Classical.propDecidable _) h
theorem rnames_any(a b:List bA){N N':Nat->Prop}{va vb:Value}{w:World}(ha:aO 1 eT N w va a)(hb:aO 1 eT N' w vb b):
  Calls Tryz.prog 58 #[va,vb] w fun e w'=>e=.returned (.bool (eqL a b))/\Below w.heap.size w w':=by
 obtain⟨aa,ca,rfl,vD,vC,qB⟩:=ha.at;obtain⟨ab,cb,rfl,AV,FA,pK⟩:=hb.at;have HA:=zh qB;have HB:=zh pK;clear qB pK ha hb;by_cases hl:a.length=b.length
 ·have HL:=zh hl;rw[<-hl] at AV ⊢;clear hl;go_enter Tryz.func58,Tryz.ntmps58;go_wp2_with fail;go_loopw [5] (fun iv wr=>∃q:Nat,q<=a.length/\iv=.int .i64 (q:Int)/\Hid (Below w.heap.size w wr)/\Hid (a.take q=b.take q)) (fun iv _=>a.length-(intOf iv).toNat)
  case atStart=>exact⟨0,Nat.zero_le _,rfl,zh (Below.refl _ _),zh rfl⟩
  case round=>
   obtain⟨q,hq,rfl,HW,HT⟩:=hrel;(rename World=>wr);by_cases pS:q<a.length
   ·obtain⟨x,hx,-⟩:=getElem?_of_lt pS;obtain⟨y,hy,-⟩:=getElem?_of_lt (show q<b.length by rw[<-HL.out];exact pS);have sL:(0:Int)<=(q:Int)/\(q:Int)<(a.length:Int):=VS;have HX:=zh hx;have HY:=zh hy;obtain⟨b1,o1,rfl,-,uG,⟨rfl,-⟩,-,pO⟩:=HA.out q x hx;obtain⟨b2,o2,rfl,-,zA,⟨rfl,-⟩,-,qL⟩:=HB.out q y hy;have cx:wr.cell? ⟨b1,o1+q,none⟩=some (.string x):=XH;(have cy:wr.cell? ⟨b2,o2+q,none⟩=some (.string y):=by have h:=aB HW.out (qL 0 _ rfl);simpa using h);clear pO qL hx hy;by_cases he:x=y
    ·have uF:=zh (jF HX.out HY.out HT.out he);subst he;go_wp2_with fail;(go_region);go_wp2_with fail;go_roundw;(case rel=>exact⟨q+1,VS,WH,zh HW.out.drew,uF⟩);case measure=>simp[intOf];omega
    (have pP:(x.toList==y.toList)=false:=by rw[eE];exact decide_eq_false he);(have hne2:(x.toList != y.toList)=true:=by rw[bne,pP];rfl);have HE:Hid (eqL a b=false):=zh (dH (nQ HX.out HY.out he));clear he;go_wp2_with fail;(go_region);go_wp2_with fail;go_ret;exact⟨aF X8,HW.out.drew⟩
   exact SP
 have HE:Hid (eqL a b=false):=zh (dH (fun e=>hl (by rw[e])));have yF:((a.length:Int)==(b.length:Int))=false:=V7;go_enter Tryz.func58,Tryz.ntmps58;exact TQ
def RsX(d:Nat):Prop:=∀(x y:Xp)(N N':Nat->Prop)(cx cy:List Value)(w:World),bI x<=d->aU N w x cx->aU N' w y cy->
 Calls Tryz.prog 16 #[.agg cx.toArray,.agg cy.toArray] w fun e w'=>e=.returned (.bool (jR x y))/\Below w.heap.size w w'
theorem rexps_of(a b:List Xp){d:Nat}(hD:RsX d)(hp:∀x∈a,bI x<=d){N N':Nat->Prop}{va vb:Value}{w:World}(ha:aO 6 aU N w va a)(hb:aO 6 aU N' w vb b):
  Calls Tryz.prog 57 #[va,vb] w fun e w'=>e=.returned (.bool (eqL a b))/\Below w.heap.size w w':=by
 obtain⟨aa,ca,rfl,vD,vC,qB⟩:=ha.at;obtain⟨ab,cb,rfl,AV,FA,pK⟩:=hb.at;have HA:=zh qB;have HB:=zh pK;have HD:=zh hD;have BD:=zh hp;clear hD hp;clear qB pK ha hb;by_cases hl:a.length=b.length
 ·have HL:=zh hl;rw[<-hl] at AV ⊢;clear hl;go_enter Tryz.func57,Tryz.ntmps57;go_wp2_with fail;go_loopw [5] (fun iv wr=>∃q:Nat,q<=a.length/\iv=.int .i64 (q:Int)/\Hid (Below w.heap.size w wr)/\Hid (a.take q=b.take q)) (fun iv _=>a.length-(intOf iv).toNat)
  case atStart=>exact⟨0,Nat.zero_le _,rfl,zh (Below.refl _ _),zh rfl⟩
  case round=>
   obtain⟨q,hq,rfl,HW,HT⟩:=hrel;(rename World=>wr);by_cases pS:q<a.length
   ·obtain⟨x,hx,-⟩:=getElem?_of_lt pS;obtain⟨y,hy,-⟩:=getElem?_of_lt (show q<b.length by rw[<-HL.out];exact pS);have sL:(0:Int)<=(q:Int)/\(q:Int)<(a.length:Int):=VS;have HX:=zh hx;have HY:=zh hy;obtain⟨b1,o1,rfl,-,uG,qF,-,pO⟩:=HA.out q x hx;obtain⟨b2,o2,rfl,-,zA,rL,-,qL⟩:=HB.out q y hy;obtain⟨rW,n1,s1,m1,i1,j1,k1,u1,z1,t1,rfl⟩:=aZ qF;obtain⟨sH,n2,s2,m2,i2,j2,k2,u2,z2,t2,rfl⟩:=aZ rL;have rG:wr.cell? ⟨b1,o1+q*6,none⟩=some (.int .i64 rW):=aB HW.out (pO 0 _ rfl);have rF:=aB HW.out (pO 1 _ rfl);have rI:=aB HW.out (pO 2 _ rfl);have sG:=aB HW.out (pO 3 _ rfl);have sF:=aB HW.out (pO 4 _ rfl);have sD:=aB HW.out (pO 5 _ rfl);have vS:wr.cell? ⟨b2,o2+q*6,none⟩=some (.int .i64 sH):=aB HW.out (qL 0 _ rfl);have vZ:=aB HW.out (qL 1 _ rfl);have vY:=aB HW.out (qL 2 _ rfl);have yO:=aB HW.out (qL 3 _ rfl);have yN:=aB HW.out (qL 4 _ rfl);have p25:=aB HW.out (qL 5 _ rfl);have vE:=zh (fun W(hb:Below wr.heap.size wr W)=>HD.out x y N N' _ _ W (BD.out x (List.mem_of_getElem? hx)) (aG _ _ _ _ _ _ (aK.later (aA HW.out hb)) qF) (aG _ _ _ _ _ _ (aK.later (aA HW.out hb)) rL));have zQ:=zh (oP x y);clear pO qL hx hy qF rL;go_wp2_with fail;refine wp_region_held_drew (S:=fun W=>Below wr.heap.size wr W) VT (aE wr) fun hS=>?_;refine zq 0 (.slice (some ⟨b1,o1,none⟩) a.length ca) rfl ?_;refine zq 1 (.int .i64 (q:Int)) rfl ?_;refine zq 2 (.pointer (some ⟨b1,o1+q*6,none⟩)) rfl ?_;refine zt 3 (bW rW n1 s1 m1 i1 j1 k1 u1 z1 t1) rfl (fun W hW=>VW) ?_;refine zq 4 (.slice (some ⟨b2,o2,none⟩) a.length cb) rfl ?_;refine zq 5 (.int .i64 (q:Int)) rfl ?_;refine zq 6 (.pointer (some ⟨b2,o2+q*6,none⟩)) rfl ?_;refine zt 7 (bW sH n2 s2 m2 i2 j2 k2 u2 z2 t2) rfl (fun W hW=>VZ) ?_;(try simp only[zn]);refine zr 8 rfl (fun K hK=>?_);(try simp only[z1,z2,z3]);go_simp;refine(vE.out _ (aE wr)).mono ?_;rintro e w8 ⟨rfl,rU⟩;have qM:=aA (aE wr) rU;refine hK.out _ _ qM (fun hS=>?_);clear hK K;(try simp only[zn]);generalize jR x y=sr at *;refine zq 9 (.bool (!sr)) rfl ?_;(try simp only[zn]);refine wpAnyH_done VT ?_ _;have rR:=zh (aA HW.out qM);clear hS qM rU vE rG rF rI sG sF sD vS vZ vY yO yN p25
    cases sr with
    |true=>
     have uF:=zh (jF HX.out HY.out HT.out (zQ.out.1 rfl));exact SH
    |false=>
     exact TF
   exact SP
 have HE:Hid (eqL a b=false):=zh (dH (fun e=>hl (by rw[e])));have yF:((a.length:Int)==(b.length:Int))=false:=V7;go_enter Tryz.func57,Tryz.ntmps57;exact TQ
theorem iS{a b:bA}(h:a≠b):(a.toList==b.toList)=false:=by rw[eE];exact decide_eq_false h
theorem rexp_step(d:Nat)(hD:RsX d):RsX (d+1):=by
 rintro⟨op,n,s,m,ns,xs⟩ ⟨op',n',s',m',ns',xs'⟩ N N' cx cy w hd hx hy;have hR:jR (.mk op n s m ns xs) (.mk op' n' s' m' ns' xs')=(decide (op=op')&&decide (n=n')&&decide (s=s')&&decide (m=m')&&decide (ns=ns')&&eG xs xs'):=by rw[jR]
 rw[aN] at hx hy;obtain⟨v1,v2,rfl,-,-,hn,ha⟩:=hx;obtain⟨v3,v4,rfl,-,-,zY,P3⟩:=hy;obtain⟨a1,c1,rfl,-⟩:=id hn;obtain⟨a2,c2,rfl,-⟩:=id ha;obtain⟨zB,xC,rfl,-⟩:=id zY;obtain⟨D2,BJ,rfl,-⟩:=id P3;have wJ:=aA (aC w (aH op n s m a1 ns.length c1 a2 xs.length c2)) (aC (w.alloc (aH op n s m a1 ns.length c1 a2 xs.length c2)) (aH op' n' s' m' zB ns'.length xC D2 xs'.length BJ));have pK:=zh wJ;have tK:=aD (aC (w.alloc (aH op n s m a1 ns.length c1 a2 xs.length c2)) (aH op' n' s' m' zB ns'.length xC D2 xs'.length BJ)) (bY w (aH op n s m a1 ns.length c1 a2 xs.length c2));have qX:=bY (w.alloc (aH op n s m a1 ns.length c1 a2 xs.length c2)) (aH op' n' s' m' zB ns'.length xC D2 xs'.length BJ);rw[show(w.alloc (aH op n s m a1 ns.length c1 a2 xs.length c2)).heap.size=w.heap.size+1 by simp] at qX;obtain⟨⟨x0,x1,x2,x3,x4,x5⟩,-⟩:=bx6 tK;obtain⟨⟨y0,y1,y2,y3,y4,y5⟩,-⟩:=bx6 qX;have pV:=zh tK;have qA:=zh qX;have HN:=zh (rnames_any ns ns' (hn.moves aT (aK.later wJ) VU) (zY.moves aT (aK.later wJ) VU))
 have HE:=zh (fun W(hb:Below w.heap.size w W)=>rexps_of xs xs' hD (fun x hx=>by
  have h1:=iA xs x hx;rw[bI] at hd
  omega) (w:=W) (ha.moves aG (aK.later hb) VU) (P3.moves aG (aK.later hb) VU))
 have JY:Hid (eqL xs xs'=eG xs xs'):=zh (by
  by_cases h:xs=xs'
  ·rw[gQ h,(iD xs xs').2 h]
  rw[dH h];cases hq:eG xs xs' with
  |false=>rfl
  |true=>exact absurd ((iD xs xs').1 hq) h)
 have HSn:Hid (eqL ns ns'=decide (ns=ns')):=zh (by
  by_cases h:ns=ns'
  ·rw[gQ h,decide_eq_true h]
  rw[dH h,decide_eq_false h])
 clear hn ha zY P3 hD hd wJ tK qX;have HR:=zh hR;clear hR;generalize jR (.mk op n s m ns xs) (.mk op' n' s' m' ns' xs')=rr at *;rw[JY.out] at HE;rw[HSn.out] at HN;clear JY HSn;generalize eG xs xs'=q5 at *;generalize decide (ns=ns')=q4 at *;generalize ns.length=l1 at *;generalize ns'.length=l2 at *;generalize xs.length=l3 at *;generalize xs'.length=l4 at *;by_cases h1:op=op'
 ·subst h1;by_cases h2:n=n'
  ·subst h2;by_cases h3:s=s'
   ·subst h3;by_cases h4:m=m'
    ·subst h4;have sS:Hid (rr=(q4&&q5)):=zh WC;clear HR
     cases q4 with
     |false=>
      go_enter Tryz.func16,Tryz.ntmps16;go_wp2_with(go_at_call 58;refine HN.out.mono ?_;rintro e w3 ⟨rfl,pR⟩);go_ret;exact⟨aF X4,aA pK.out pR⟩
     |true=>
      go_enter Tryz.func16,Tryz.ntmps16;go_wp2_with(go_at_call 58;refine HN.out.mono ?_;rintro e w3 ⟨rfl,pR⟩;have qG:=zh (aA pK.out pR);obtain⟨⟨z0,z1,z2,z3,z4,z5⟩,-⟩:=bx6 (aD pR pV.out);obtain⟨⟨t0,t1,t2,t3,t4,t5⟩,-⟩:=bx6 (aD pR qA.out);clear pR);go_wp2_with(go_at_call 57;refine(HE.out w3 qG.out).mono ?_;rintro e w4 ⟨rfl,qE⟩);go_ret;exact⟨aF X4,aA qG.out qE⟩
    have g:(m.toList==m'.toList)=false:=iS h4;go_enter Tryz.func16,Tryz.ntmps16;go_wp2_with fail;go_ret;exact⟨aF (by rw[HR.out];simp[h4]),pK.out⟩
   have g:(s.toList==s'.toList)=false:=iS h3;go_enter Tryz.func16,Tryz.ntmps16;exact U7
  have g:(n==n')=false:=beq_eq_false_iff_ne.2 h2;go_enter Tryz.func16,Tryz.ntmps16;exact UJ
 have g:(op==op')=false:=beq_eq_false_iff_ne.2 h1;go_enter Tryz.func16,Tryz.ntmps16;exact TL
theorem depth_pos(x:Xp):0<bI x:=by cases x;rw[bI];omega
theorem rsX_all:∀d,RsX d
 |0=>fun x y N N' cx cy w h=>Y3
 |d+1=>rexp_step d (rsX_all d)
theorem rexp_any(x y:Xp){N N':Nat->Prop}{cx cy:List Value}{w:World}(hx:aU N w x cx)(hy:aU N' w y cy):
  Calls Tryz.prog 16 #[.agg cx.toArray,.agg cy.toArray] w fun e w'=>e=.returned (.bool (jR x y))/\Below w.heap.size w w':=rsX_all _ x y N N' cx cy w (Nat.le_refl _) hx hy
theorem rexps_any(a b:List Xp){N N':Nat->Prop}{va vb:Value}{w:World}(ha:aO 6 aU N w va a)(hb:aO 6 aU N' w vb b):
  Calls Tryz.prog 57 #[va,vb] w fun e w'=>e=.returned (.bool (eqL a b))/\Below w.heap.size w w':=rexps_of a b (rsX_all _) (fun x hx=>iA a x hx) ha hb
section
variable {P:Program}
theorem run_append_at_string(w:World)(base:Nat)(t u ty e:TypeId)(i:TypeInfo)(ht:P.underlying t=some (.slice e))(hu:P.underlying u=some .string)(hi:P.info? e=some i)(hz:i.zero=some (.int .u8 0))
  (AM:i.size=1) (uV:i.bytes=1) (v:Value) (n:Nat) (xs:List Value) (pT:w.ownsRow base e 1 v n xs) (s:bA)
  (h63:n+s.size<=maxLen) (hbytes:n+s.size<=140737488355328) (JB:base<=w.heap.size):
  ∃v' w',(Builtin.append_ #[t,u] ty #[v,.string s]).run P w=.ok v' w'/\w'.ownsRow base e 1 v' (n+s.size) (xs++Lib.strCells s)/\w.grownBy w' v.ownBlock/\(v'.ownBlock=v.ownBlock\/v'.ownBlock=some w.heap.size):=by
 obtain⟨v',w',hr,h2,h3,h4⟩:=Lib.run_append_own_string (P:=P) w base t u ty e i ht hu hi hz AM uV v n xs pT s h63 hbytes JB;refine⟨v',w',hr,h2,h3,?_⟩;rcases pT.2 with⟨rfl,rfl⟩|⟨g,cap,cur,rfl,hbg,hg,hnc,hcm,AB,NP⟩
 ·have hx:xs=[]:=List.eq_nil_of_length_eq_zero (by simpa using pT.1);subst hx;obtain⟨v2,w2,zK,k2,-,k4⟩:=Lib.run_append_own_string (P:=P) w w.heap.size t u ty e i ht hu hi hz AM uV (.slice none 0 0) 0 [] (World.ownsRow_nil w _ e 1) s h63 hbytes (Nat.le_refl _);rw[hr] at zK;cases zK;by_cases hm:s.size=0
  ·have O3:v'=.slice none 0 0:=h4.2 ⟨rfl,hm⟩;subst O3;exact .inl rfl
  have hr3:=run_append_nil_string (P:=P) w t u ty e i (.int .u8 0) ht hu hi hz s VS (by simp only[maxLen] at h63;omega) (by rw[uV];omega);rw[hr] at hr3;cases hr3;exact .inr rfl
 by_cases hroom:n+s.size<=cap
 ·have hcs':cur.size=cap:=by simpa using AB
  have zK:=Lib.run_append_room_string (P:=P) w t u ty e i ht hu hi AM g n cap cur hg s hroom VS;rw[hr] at zK;cases zK;exact .inl rfl
 have holds:∀j u,xs[j]? =some u->w.cell? ((⟨g,0,none⟩:Addr).add j)=some u:=pT.cells (g:=g) rfl;have zK:=Lib.run_append_grow_string (P:=P) w t u ty e i (.int .u8 0) ht hu hi hz ⟨g,0,none⟩ n cap xs (by rw[AM];simpa using pT.1) holds s VS (by simp only[maxLen] at h63;omega) (by rw[uV];exact growslice_fits VS VS);rw[hr] at zK;cases zK;exact .inr rfl
theorem oI{w:World}{ops:Array Oper}{rest:List Oper}{o:Oper}{a:Act}{Q:Exit->Act->World->Prop}(hgd:o.guard=none)(sl x:Operand)(t u:TypeId)
  (ho:o.op=.call {callee:=.builtin .append,args:=#[sl,x],argTypes:=#[t,u]})
  (base:Nat) (e:TypeId) (i:TypeInfo) (ht:P.underlying t=some (.slice e)) (hu:P.underlying u=some .string) (hi:P.info? e=some i) (hz:i.zero=some (.int .u8 0))
  (AM:i.size=1) (uV:i.bytes=1)
  (v:Value) (n:Nat) (xs:List Value) (hs:a.eval sl=v) (pT:w.ownsRow base e 1 v n xs) (s:bA) (hx:a.eval x=.string s)
  (h63:n+s.size<=maxLen) (hbytes:n+s.size<=140737488355328) (JB:base<=w.heap.size)
  (h:∀v' w',w'.ownsRow base e 1 v' (n+s.size) (xs++Lib.strCells s)->w.grownBy w' v.ownBlock->(v'.ownBlock=v.ownBlock\/v'.ownBlock=some w.heap.size)->wpList P ops Q rest (a.put o.dst v') w'):wpList P ops Q (o::rest) a w:=by
 refine wpList_plain hgd fun K hK=>?_;obtain⟨v',w',hr,h2,h3,h4⟩:=run_append_at_string (P:=P) w base t u o.type e i ht hu hi hz AM uV v n xs pT s h63 hbytes JB;unfold Oper.wp execOp;simp only[ho,resolve,invoke,builtin,Sem.run_bind,Sem.run_pure,Result.andThen_ok,List.map_toArray,List.map_cons,List.map_nil,hs,hx,hr];exact hK _ _ (h v' w' h2 h3 h4)
end
theorem own_val{w:World}{B n:Nat}{e:TypeId}{k:Nat}{v:Value}{xs:List Value}(h:w.ownsRow B e k v n xs):∃a c,v=.slice a n c:=by
 rcases h.2 with⟨rfl,rfl⟩|⟨g,cap,cur,rfl,-⟩
 ·exact⟨none,0,rfl⟩
 exact⟨_,_,rfl⟩
theorem wrLies:liesAt Tryz.prog Tryz.prog.depth 102 (3 / Tryz.prog.cellsOf 102) 0 100 1=true:=VT
theorem bytInfo:(Tryz.prog.info? 5).map (fun i=>(i.zero,i.size,i.bytes))=some (some (.int .u8 0),1,1):=VT
theorem bldSz:(Tryz.prog.info? 100).map (·.size)=some 2:=VT
abbrev bv(l:List UInt8):List Value:=l.map fun b=>Value.int .u8 b.toNat
structure Wr (B wb:Nat) (bl:List UInt8) (ins:Bool) (v:Value) (w:World):Prop where
 box:∃p,(p=Value.pointer none\/p=Value.pointer (some ⟨wb,0,none⟩))/\w.heap[wb]? =some (.cells #[p,v,.bool ins] 102)
 own:w.ownsRow B 5 1 v bl.length (bv bl)
 hcb:wb<B
 h11:11<=wb
 big:B<=w.heap.size
 glob:hZ w
section
variable {B wb:Nat} {bl:List UInt8} {ins:Bool} {v v':Value} {w w':World}
theorem Wr.lt(h:Wr B wb bl ins v w):wb<w.heap.size:=by have:=h.hcb;have:=h.big;omega
theorem Wr.owns(h:Wr B wb bl ins v w):∀b,v.ownBlock=some b->B<=b/\b<w.heap.size:=h.own.lt
theorem Wr.n11(h:Wr B wb bl ins v w):∀k,k<11->¬inC wb v k:=fun k hk hs=>by
 have h1:=h.h11;have h2:=h.hcb;rcases hs with hs|hs
 ·omega
 have:=(h.owns k hs).1;omega
theorem owns_later{T:TypeId}{n:Nat}{xs:List Value}(h:w.ownsRow B T 1 v n xs)(hb:Below w.heap.size w w'):w'.ownsRow B T 1 v n xs:=by
 obtain⟨h1,h2⟩:=h;refine⟨h1,h2.imp id ?_⟩;rintro⟨g,cap,cur,hv,hg,LS,r⟩;exact⟨g,cap,cur,hv,hg,aD hb LS,r⟩
theorem Wr.later(h:Wr B wb bl ins v w)(hb:Below w.heap.size w w'):Wr B wb bl ins v w':=by
 obtain⟨p,hp,uU⟩:=h.box;exact⟨⟨p,hp,aD hb uU⟩,owns_later h.own hb,h.hcb,h.h11,Nat.le_trans h.big hb.size,h.glob.later hb⟩
theorem Wr.val(h:Wr B wb bl ins v w):∃a c,v=.slice a bl.length c:=by
 rcases h.own.2 with⟨hv,h0⟩|⟨g,cap,cur,hv,-⟩
 ·exact⟨none,0,by rw[h0];exact hv⟩
 exact⟨_,_,hv⟩
theorem Wr.new{b:Nat}(h:Wr B wb bl ins v w)(hb:w.heap.size<=b):dM wb v b:=⟨by have:=h.lt;omega,fun e=>by have:=(h.owns b e).2;omega⟩
theorem owns_set{T:TypeId}{n j:Nat}{xs:List Value}{u:Value}(h:w.ownsRow B T 1 v n xs)(hB:wb<B):(w.setCell ⟨wb,j,none⟩ u).ownsRow B T 1 v n xs:=by
 obtain⟨h1,h2⟩:=h;refine⟨h1,h2.imp id ?_⟩;rintro⟨g,cap,cur,hv,hg,LS,r⟩;exact⟨g,cap,cur,hv,hg,(Off.setCell (S:=fun b=>b=wb) w rfl).heap VS LS,r⟩
theorem Wr.used(h:Wr B wb bl ins v w):Wr B wb bl ins v (w.setCell ⟨wb,0,none⟩ (.pointer (some ⟨wb,0,none⟩)))/\Ext wb v w v (w.setCell ⟨wb,0,none⟩ (.pointer (some ⟨wb,0,none⟩))):=by
 obtain⟨p,hp,uU⟩:=h.box;have ho:Off (inC wb v) w (w.setCell ⟨wb,0,none⟩ (.pointer (some ⟨wb,0,none⟩))):=Off.setCell w (.inl rfl);exact⟨⟨⟨_,.inr rfl,aW uU _⟩,owns_set h.own h.hcb,h.hcb,h.h11,by simpa using h.big,h.glob.off ho h.n11⟩,ho,fun _ h=>.inl h⟩
theorem Wr.flag(h:Wr B wb bl ins v w)(q:Bool):Wr B wb bl q v (w.setCell ⟨wb,2,none⟩ (.bool q))/\Ext wb v w v (w.setCell ⟨wb,2,none⟩ (.bool q)):=by
 obtain⟨p,hp,uU⟩:=h.box;have ho:Off (inC wb v) w (w.setCell ⟨wb,2,none⟩ (.bool q)):=Off.setCell w (.inl rfl);exact⟨⟨⟨p,hp,aW uU _⟩,owns_set h.own h.hcb,h.hcb,h.h11,by simpa using h.big,h.glob.off ho h.n11⟩,ho,fun _ h=>.inl h⟩
theorem Wr.push{bl2:List UInt8}{w2 w3:World}(h:Wr B wb bl ins v w)(hb:Below w.heap.size w w2)(pT:w3.ownsRow B 5 1 v' (bl.length+bl2.length) (bv bl++bv bl2))(pL:w2.grownBy w3 v.ownBlock)(qW:v'.ownBlock=v.ownBlock\/v'.ownBlock=some w2.heap.size):
  (∃p,w3.heap[wb]? =some (.cells #[p,v,.bool ins] 102))/\Wr B wb (bl++bl2) ins v' (w3.setCell ⟨wb,1,none⟩ v')/\Ext wb v w v' (w3.setCell ⟨wb,1,none⟩ v'):=by
 have hcb:=h.hcb;have qP:Off (fun b=>v.ownBlock=some b) w2 w3:=⟨pL.os,pL.tape,pL.output,pL.size,fun k hk hn=>pL.block k hk (fun e=>hn e.symm)⟩;have pP:¬v.ownBlock=some wb:=fun e=>by have:=(h.owns wb e).1;omega
 obtain⟨p,hp,uU⟩:=(h.later hb).box;have yC:=qP.heap pP uU
 have hx:Ext wb v w v' (w3.setCell ⟨wb,1,none⟩ v'):=by
  refine⟨(Ba hb).trans ((qP.mono fun b hb=>.inr hb).trans (Off.setCell (S:=inC wb v) w3 (.inl rfl))),fun b pM=>?_⟩;rcases qW with h1|h1
  ·exact .inl (h1▸pM)
  rw[h1] at pM;cases pM;exact .inr hb.size
 refine⟨⟨p,yC⟩,⟨⟨p,hp,?_⟩,?_,hcb,h.h11,?_,h.glob.off hx.off h.n11⟩,hx⟩
 ·rw[aW yC];rfl
 ·rw[List.length_append,bv,List.map_append];exact owns_set pT hcb
 have h1:=hx.size;have h2:=h.big;omega
end
def WrPost(B wb:Nat)(v:Value)(w:World)(r:Value)(bl:List UInt8)(ins:Bool)(e:Ending)(w':World):Prop:=∃v',e=.returned r/\Wr B wb bl ins v' w'/\Ext wb v w v' w'
theorem wrCheck{B wb:Nat}{bl:List UInt8}{ins:Bool}{v:Value}{w:World}(h:Wr B wb bl ins v w):
  Calls Tryz.prog 195 #[.pointer (some ⟨wb,0,none⟩)] w (WrPost B wb v w (.tuple #[]) bl ins):=by
 obtain⟨p,hp,uU⟩:=h.box;have HU:=zh h.used;have HH:=zh h;obtain⟨⟨h0,-⟩,f0,-⟩:=bx3 uU;rcases hp with rfl|rfl
 ·have hsh:w.shape? wb=some (102,3):=by simp[World.shape?,uU]
  clear h uU;obtain⟨j,hj,hjs⟩:=Option.map_eq_some_iff.1 bldSz;go_enter Tryz.func195,Tryz.ntmps195
  go_wp2
  rw[Lib.run_to_unsafe w ⟨wb,0,none⟩ Tryz.underlying97 Tryz.underlying237 hj (by rw[hjs];decide) hsh (Nat.zero_lt_succ 2)];simp only[Result.andThen];rw[Oper.upon_value]
  go_wp2
  rw[run_callFunc_extern Tryz.func228 VT VT VT (e:=Extern.AbiNoEscape.same) VT];rw[Lib.run_noEscape];simp only[Result.andThen];rw[Oper.upon_value]
  go_wp2
  rw[Lib.run_from_unsafe w ⟨wb,0,none⟩ Tryz.underlying237 Tryz.underlying97 hj hsh wrLies];simp only[Result.andThen];rw[Oper.upon_value]
  go_wp2
  go_end0;exact⟨_,rfl,HU.out.1,HU.out.2⟩
 clear h uU HU;obtain⟨j,hj,_⟩:=Option.map_eq_some_iff.1 bldSz;go_enter Tryz.func195,Tryz.ntmps195
 go_wp2
 rw[Lib.run_neq_ptr_same w _ Tryz.underlying97 hj]
 go_wp2
 go_end0;exact⟨_,rfl,HH.out,Ext.refl _ _ _⟩
theorem wrByte{B wb:Nat}{bl:List UInt8}{ins:Bool}{v:Value}{w:World}(c:UInt8)(cc:Int)(hcc:cc=(c.toNat:Int))(h:Wr B wb bl ins v w)(rD:bl.length+1<=140737488355328):
  Calls Tryz.prog 149 #[.pointer (some ⟨wb,0,none⟩),.int .u8 cc] w (WrPost B wb v w .nilIface (bl++[c]) ins):=by
 obtain⟨i0,hi,tS,rZ,rY⟩:=info_parts bytInfo;have HC:=zh (wrCheck h);have HV:Hid (bv [c]=[.int .u8 cc]):=zh (by rw[hcc];rfl);clear h hcc;go_enter Tryz.func149,Tryz.ntmps149;go_wp2_with(go_at_call 195;refine HC.out.mono ?_);rintro e w1 ⟨v1,rfl,h1,xE⟩;have tK:=zh xE;have HH1:=zh h1;obtain⟨p1,IM,BZ⟩:=h1.box;obtain⟨⟨b0,b1,b2⟩,f0,f1,f2⟩:=bx3 BZ;obtain⟨a1,c1,rfl⟩:=h1.val;have hbg1:=h1.big;clear BZ IM h1 xE;have pQ:=zh (aC w1 (.cells #[.int .u8 cc] 5));go_wp2_with(at_builtin;refine wpList_append_own_at _ rfl _ _ 98 rfl B 5 i0 (.int .u8 0) 1 1 Tryz.underlying98 hi tS rZ rY rfl VU _ _ _ rfl (HH1.out.later pQ.out).own ⟨w1.heap.size,0,none⟩ 1 1 [.int .u8 cc] rfl rfl ?c1 ?c2 ?c3 ?c4 ?c5 ?_)
 case c1=>
  intro j u hj
  match j,hj with
  |0,hj=>simp at hj;subst hj;simp[Addr.add]
 case c2=>intro u hu;simp at hu;subst hu;rfl
 case c3=>unfold maxLen;omega
 case c4=>omega
 case c5=>simp;omega
 intro v' w2 wH pL _ qW;have hq:=HH1.out.push (bl2:=[c]) pQ.out (by rw[HV.out];exact wH) pL YH;obtain⟨⟨p3,yC⟩,q1,q2⟩:=hq;obtain⟨⟨d0,d1,d2⟩,g0,g1,g2⟩:=bx3 yC;have Q1:=zh q1;have Q2:=zh (tK.out.trans q2);obtain⟨a3,c3,rfl⟩:=own_val wH;clear q1 q2 wH pL qW yC b0 b1 b2 f0 f1 f2
 go_wp2
 go_ret;exact⟨_,rfl,Q1.out,Q2.out⟩
theorem wrString{B wb:Nat}{bl:List UInt8}{ins:Bool}{v:Value}{w:World}(s:bA)(h:Wr B wb bl ins v w)(rD:bl.length+s.size<=140737488355328):
  Calls Tryz.prog 150 #[.pointer (some ⟨wb,0,none⟩),.string s] w (WrPost B wb v w (.tuple #[.int .i64 s.size,.nilIface]) (bl++s.data.toList) ins):=by
 obtain⟨i0,hi,tS,rZ,rY⟩:=info_parts bytInfo;have HC:=zh (wrCheck h);have HL:Hid (s.data.toList.length=s.size):=zh VY;clear h;go_enter Tryz.func150,Tryz.ntmps150;go_wp2_with(go_at_call 195;refine HC.out.mono ?_);rintro e w1 ⟨v1,rfl,h1,xE⟩;have tK:=zh xE;have HH1:=zh h1;obtain⟨p1,IM,BZ⟩:=h1.box;obtain⟨⟨b0,b1,b2⟩,f0,f1,f2⟩:=bx3 BZ;obtain⟨a1,c1,rfl⟩:=h1.val;have hbg1:=h1.big;clear BZ IM h1 xE;go_wp2_with(at_builtin;refine oI rfl _ _ 98 9 rfl B 5 i0 Tryz.underlying98 Tryz.underlying9 hi tS rZ rY _ _ _ rfl HH1.out.own s rfl ?c3 ?c4 ?c5 ?_);case c3=>unfold maxLen;omega
 case c4=>omega
 case c5=>omega
 intro v' w2 wH pL qW;have hq:=HH1.out.push (bl2:=s.data.toList) (Below.refl _ _) (by rw[HL.out];exact wH) pL qW;obtain⟨⟨p3,yC⟩,q1,q2⟩:=hq;obtain⟨⟨d0,d1,d2⟩,g0,g1,g2⟩:=bx3 yC;have Q1:=zh q1;have Q2:=zh (tK.out.trans q2);obtain⟨a3,c3,rfl⟩:=own_val wH;clear q1 q2 wH pL qW yC b0 b1 b2 f0 f1 f2
 go_wp2
 go_ret2;exact⟨_,rfl,Q1.out,Q2.out⟩
end Go.Proofs.YtiionicikdnnpaaGreatDoor
namespace Go.Proofs.YtiionicikdnnpaaGreatDoor
open Go.RowKit
theorem T6{p:Prop}(h:p:=by
 go_roundw;case rel=>exact⟨q+1,v4,VS,WH,zh (by rw[HT.out];have h:=(KH.out.flag true).1;simpa[WSt.put,emit_one,insL,List.append_assoc] using h),zh (tF.out.trans (KH.out.flag true).2)⟩
 case measure=>simp[intOf];omega):p:=h
theorem UP{p:Prop}(h:p:=by
 go_wp2_with fail;go_end0
 exact⟨v1,rfl,by have h:=HC.out;rw[HT.out] at h;exact h,HE.out⟩):p:=h
abbrev WSt:=List UInt8×Bool
def WSt.put(st:WSt)(ts:List bA):WSt:=(st.1++iR st.2 ts,insL st.2 ts)
def WSt.line(st:WSt):WSt:=((st.put [fD]).1++[10],false)
theorem bV(st:WSt)(a b:List bA):(st.put a).put b=st.put (a++b):=by
 unfold WSt.put;simp only[emit_app,ins_app,List.append_assoc]
theorem iQ(st:WSt):st.put []=st:=by
 unfold WSt.put;obtain⟨l,i⟩:=st;simp[iR,insL]
def dI(st:WSt)(ts:List bA):Prop:=st.1.length+tsz ts<=140737488355328
theorem dI.app{st:WSt}{a b:List bA}(h:dI st (a++b)):dI st a/\dI (st.put a) b:=by
 unfold dI at *;rw[eQ] at h;have:=emit_size st.2 a;refine⟨VS,?_⟩;show(st.1++iR st.2 a).length+_<=_;rw[List.length_append];omega
theorem dI.cons{st:WSt}{t:bA}{b:List bA}(h:dI st (t::b)):dI st [t]/\dI (st.put [t]) b:=dI.app (a:=[t]) h
abbrev WrS(B wb:Nat)(st:WSt)(v:Value)(w:World):Prop:=Wr B wb st.1 st.2 v w
def WrP(B wb:Nat)(v:Value)(w:World)(r:Value)(st:WSt)(e:Ending)(w':World):Prop:=∃v',e=.returned r/\WrS B wb st v' w'/\Ext wb v w v' w'
theorem emit_one(ins:Bool)(t:bA):iR ins [t]=(if ins then[32] else[])++t.data.toList:=by simp[iR]
theorem tsz_mem{t:bA}:∀{l:List bA},t∈l->t.size+1<=tsz l
 |[],h=>WV
 |x::r,h=>by
  rw[aV];rcases List.mem_cons.1 h with rfl|h
  ·omega
  have:=tsz_mem h;omega
theorem take_put{st:WSt}{ts:List bA}{q:Nat}{x:bA}(hx:ts[q]? =some x):st.put (ts.take (q+1))=(st.put (ts.take q)).put [x]:=by
 rw[bV,List.take_add_one,hx];rfl
theorem wput_any{B wb:Nat}{st:WSt}{v vs:Value}{ts:List bA}{w:World}(h:WrS B wb st v w)(hr:aO 1 eT (dM wb v) w vs ts)(hf:dI st ts):
  Calls Tryz.prog 67 #[.pointer (some ⟨wb,0,none⟩),vs] w (WrP B wb v w (.tuple #[]) (st.put ts)):=by
 obtain⟨a,c,rfl,xV,yF,AA⟩:=hr.at;have HA:=zh AA;have HH:=zh h;have HF:=zh hf;clear AA hr h hf;go_enter Tryz.func67,Tryz.ntmps67;go_wp2_with fail;go_loopw [8] (fun iv wr=>∃(q:Nat)(v':Value),q<=ts.length/\iv=.int .i64 (q:Int)/\Hid (WrS B wb (st.put (ts.take q)) v' wr)/\Hid (Ext wb v w v' wr)) (fun iv _=>ts.length-(intOf iv).toNat)
 case atStart=>exact⟨0,v,Nat.zero_le _,rfl,zh (by rw[List.take_zero,iQ];exact HH.out),zh (Ext.refl _ _ _)⟩
 case round=>
  obtain⟨q,v1,hq,rfl,HC,HE⟩:=hrel;rename World=>wr
  by_cases pS:q<ts.length
  ·obtain⟨x,hx,uE⟩:=getElem?_of_lt pS;obtain⟨b,o,rfl,A0,cs,⟨rfl,KR⟩,-,hj⟩:=HA.out q x hx;have KU:¬inC wb v b:=fun e=>e.elim A0.1 A0.2;(have p0:wr.cell? ⟨b,o+q,none⟩=some (.string x):=by have h:=HE.out.off.cell KU (hj 0 _ rfl);simpa using h);have HT:=zh (take_put (st:=st) hx)
   have rJ:dI (st.put (ts.take q)) [x]:=by
    have h1:=HF.out;rw[<-List.take_append_drop q ts,List.drop_eq_getElem_cons pS] at h1;have e:ts[q]=x:=Option.some.inj (by rw[<-List.getElem?_eq_getElem pS,hx]);rw[e] at h1;exact h1.app.2.cons.1
   generalize st.put (ts.take q)=s1 at HC HT rJ;unfold dI at rJ;rw[aV] at rJ;simp only[tsz] at rJ;have RG:=zh rJ;obtain⟨bl,ins⟩:=s1;obtain⟨pp,KT,uU⟩:=HC.out.box;obtain⟨⟨b0,b1,b2⟩,f0,f1,f2⟩:=bx3 uU;clear uU KT hj A0 hx uE rJ KR
   cases ins with
   |true=>
    have qN:=zh (wrByte 32 32 rfl HC.out (by have h9:=RG.out;show bl.length+_<=_;simp only at h9;omega));clear HC;go_wp2_with(first|(go_at_call 150;refine(wrString x h3 (by have h9:=RG.out;show(bl++[32]).length+_<=_;rw[List.length_append];simp only[List.length_singleton] at h9 ⊢;omega)).mono ?_;rintro e w4 ⟨v4,rfl,h4,rC⟩;have tF:=zh (sW.out.trans rC);have KH:=zh h4;obtain⟨pp4,IL,yB⟩:=h4.box;obtain⟨⟨d0,d1,d2⟩,g0,g1,g2⟩:=bx3 yB;clear yB IL h4 rC)|(go_at_call 149;refine qN.out.mono ?_;rintro e w3 ⟨v3,rfl,h3,qJ⟩;have sW:=zh (HE.out.trans qJ);clear qJ));exact T6
   |false=>
    have qN:=zh (wrString x HC.out (by have h9:=RG.out;show bl.length+_<=_;simp only at h9;omega));clear HC;go_wp2_with(go_at_call 150;refine qN.out.mono ?_;rintro e w4 ⟨v4,rfl,h4,rC⟩;have tF:=zh (HE.out.trans rC);have KH:=zh h4;obtain⟨pp4,IL,yB⟩:=h4.box;obtain⟨⟨d0,d1,d2⟩,g0,g1,g2⟩:=bx3 yB;clear yB IL h4 rC);exact T6
  have uM:q=ts.length:=VS;have HT:Hid (st.put (ts.take q)=st.put ts):=zh (by rw[uM,List.take_length]);exact UP
theorem row_lit{N:Nat->Prop}{w:World}{b:Nat}{vs:Array Value}{ts:List bA}(hb:w.heap[b]? =some (.cells vs 9))(he:vs.toList=ts.map Value.string)(hN:N b)(hs:∀t∈ts,t.size<=140737488355328)(hl:ts.length<=1000):aO 1 eT N w (.slice (some ⟨b,0,none⟩) ts.length ts.length) ts:=by
 have hv:vs=(ts.map fun t=>[Value.string t]).flatten.toArray:=by
  apply Array.ext';rw[he];clear he hs hl
  induction ts with
  |nil=>rfl
  |cons t r ih=>simp[ih]
 rw[hv] at hb;refine aO.of_block (css:=ts.map fun t=>[Value.string t]) hb hN VY (fun c hc=>?_) (fun i x c hx hc=>?_) rfl VS
 ·obtain⟨t,-,rfl⟩:=List.mem_map.1 hc;rfl
 rw[List.getElem?_map,hx] at hc;cases hc;exact⟨rfl,hs x (List.mem_of_getElem? hx)⟩
theorem dI.each{st:WSt}{ts:List bA}(h:dI st ts):∀t∈ts,t.size<=140737488355328:=fun t ht=>by
 have:=tsz_mem ht;unfold dI at h;omega
theorem wput_lit{B wb:Nat}{st:WSt}{v:Value}{w w1:World}{b:Nat}(vs:Array Value)(ts:List bA)(h:WrS B wb st v w)(hb:Below w.heap.size w w1)(tM:w1.heap[b]? =some (.cells vs 9))(PP:w.heap.size<=b)(he:vs.toList=ts.map Value.string)(hl:ts.length<=1000)(hf:dI st ts):
  Calls Tryz.prog 67 #[.pointer (some ⟨wb,0,none⟩),.slice (some ⟨b,0,none⟩) ts.length ts.length] w1 (WrP B wb v w (.tuple #[]) (st.put ts)):=by
 refine(wput_any (h.later hb) (row_lit tM he (h.new PP) hf.each hl) hf).mono ?_;rintro e w' ⟨v',he,h',hx⟩;exact⟨v',he,h',(Ext.below wb v hb).trans hx⟩
theorem eW{B wb:Nat}{st:WSt}{v:Value}{w:World}{k:Nat}(a:bA)(h:WrS B wb st v w)(hf:dI st [a])(hk:k=w.heap.size:=by first|rfl|simp):
  Calls Tryz.prog 67 #[.pointer (some ⟨wb,0,none⟩),.slice (some ⟨k,0,none⟩) 1 1] (w.alloc (kF a)) (WrP B wb v w (.tuple #[]) (st.put [a])):=by
 subst hk;exact wput_lit #[.string a] [a] h (aC _ _) (bY _ _) (Nat.le_refl _) rfl VY hf
theorem wput2{B wb:Nat}{st:WSt}{v:Value}{w:World}{k:Nat}(a b:bA)(h:WrS B wb st v w)(hf:dI st [a,b])(hk:k=w.heap.size:=by first|rfl|simp):
  Calls Tryz.prog 67 #[.pointer (some ⟨wb,0,none⟩),.slice (some ⟨k,0,none⟩) 2 2] (w.alloc (.cells #[.string a,.string b] 9)) (WrP B wb v w (.tuple #[]) (st.put [a,b])):=by
 subst hk;exact wput_lit #[.string a,.string b] [a,b] h (aC _ _) (bY _ _) (Nat.le_refl _) rfl VY hf
theorem wput3{B wb:Nat}{st:WSt}{v:Value}{w:World}{k:Nat}(a b c:bA)(h:WrS B wb st v w)(hf:dI st [a,b,c])(hk:k=w.heap.size:=by first|rfl|simp):
  Calls Tryz.prog 67 #[.pointer (some ⟨wb,0,none⟩),.slice (some ⟨k,0,none⟩) 3 3] (w.alloc (.cells #[.string a,.string b,.string c] 9)) (WrP B wb v w (.tuple #[]) (st.put [a,b,c])):=by
 subst hk;exact wput_lit #[.string a,.string b,.string c] [a,b,c] h (aC _ _) (bY _ _) (Nat.le_refl _) rfl VY hf
theorem oJ{B wb:Nat}{st:WSt}{v:Value}{w:World}(h:WrS B wb st v w)(hf:st.1.length+3<=140737488355328):
  Calls Tryz.prog 68 #[.pointer (some ⟨wb,0,none⟩)] w (WrP B wb v w (.tuple #[]) st.line):=by
 have HP:=zh (eW fD h (by unfold dI;have:tsz [fD]=2:=rfl;omega))
 have hl:(st.put [fD]).1.length<=st.1.length+2:=by
  have:=emit_size st.2 [fD];have e:tsz [fD]=2:=rfl;show(st.1++iR st.2 [fD]).length<=_;rw[List.length_append];omega
 have yF:(st.put [fD]).1.length+1<=140737488355328:=VS;have HL:Hid (st.line=((st.put [fD]).1++[10],false)):=zh rfl;generalize st.put [fD]=s1 at *;generalize st.line=s2 at *;clear h hf hl;have HL2:=zh yF;clear yF;go_enter Tryz.func68,Tryz.ntmps68;go_wp2_with(first|(go_at_call 149;refine(wrByte 10 10 rfl h3 HL2.out).mono ?_;rintro e w4 ⟨v4,rfl,h4,rC⟩;have tF:=zh (sW.out.trans rC);have KH:=zh h4;obtain⟨pp4,IL,yB⟩:=h4.box;obtain⟨⟨d0,d1,d2⟩,g0,g1,g2⟩:=bx3 yB;clear yB IL h4 rC)|(go_at_call 67;refine HP.out.mono ?_;rintro e w3 ⟨v3,rfl,h3,qJ⟩;have sW:=zh qJ;clear qJ));go_end0;exact⟨v4,rfl,by rw[HL.out];exact(KH.out.flag false).1,tF.out.trans (KH.out.flag false).2⟩
theorem catch_idle(a b:Nat)(w:World):CallsD Tryz.prog 109 #[.pointer (some ⟨a,0,none⟩),.pointer (some ⟨b,0,none⟩)] .returning w fun e u' w'=>e=.returned (.tuple #[])/\u'=.returning/\w'=w:=by
 refine callsD_of_wpS Tryz.func109 rfl fun c₀ cs hu=>?_;apply wpS_seq;apply wpS_region;simp[wpOpsS,go_sem,recoverD,hu,Tryz.ntmps109,Exit.thenS];refine wpS_of_wp ?_;simp only[Array.replicate_succ,Array.replicate_zero,List.push_toArray,List.append_toArray,List.nil_append,List.cons_append,List.setIfInBounds_toArray,List.set_cons_zero,List.set_cons_succ]
 go_wp2
 cases c₀;simp_all [bodyPostS,results,Tryz.results109]
theorem catch_fault(a b:Nat)(x:Int×Int)(older:List PanicEntry)(w:World)(ha:w.heap[a]? =some (jS 0))(hb:w.heap[b]? =some (oU 0)):
  CallsD Tryz.prog 109 #[.pointer (some ⟨a,0,none⟩),.pointer (some ⟨b,0,none⟩)] (.panicking ({v:=.iface 144 (.agg #[.int .i64 x.1,.int .i64 x.2]),recovered:=false}::older)) w fun e u' w'=>
   e=.returned (.tuple #[])/\u'=.panicking ({v:=.iface 144 (.agg #[.int .i64 x.1,.int .i64 x.2]),recovered:=true}::older)/\Off (fun k=>k=a\/k=b) w w'/\w'.heap[a]? =some (jS x.1)/\w'.heap[b]? =some (oU x.2):=by
 refine callsD_of_wpS Tryz.func109 rfl fun c₀ cs hu=>?_;apply wpS_seq;apply wpS_region;simp[wpOpsS,go_sem,recoverD,hu,Tryz.ntmps109,Exit.thenS];refine wpS_of_wp ?_;simp only[Array.replicate_succ,Array.replicate_zero,List.push_toArray,List.append_toArray,List.nil_append,List.cons_append,List.setIfInBounds_toArray,List.set_cons_zero,List.set_cons_succ];obtain⟨a0,a1⟩:=bx ha 0 (u:=.int .i64 0) rfl;obtain⟨b0,b1⟩:=bx hb 0 (u:=.int .i64 0) rfl;have AA:=(Array.getElem?_eq_some_iff.1 ha).1;have hlb:=(Array.getElem?_eq_some_iff.1 hb).1;have HT:∀(x1 x2:Int)(w:World),(Instr.typeAssert (.iface 144 (.agg #[.int .i64 x1,.int .i64 x2])) 20 144 true).run Tryz.prog w=.ok (.tuple #[.agg #[.int .i64 x1,.int .i64 x2],.bool true]) w:=fun x1 x2 w=>VT;have hab:a≠b:=by rintro rfl;rw[ha] at hb;cases hb
 go_wp2
 refine wp_region_held_drew (S:=(fun W=>W.heap[w.heap.size]? =some (.cells #[.int .i64 x.1,.int .i64 x.2] 144))) VT (by exact bY w _) fun hS=>?_;refine zq 0 (.pointer (some ⟨w.heap.size,0,none⟩)) rfl ?_;refine zt 1 (.int .i64 x.1) rfl (fun W hW=>by obtain⟨k0,k1,-⟩:=bxT2 hW;go_simp) ?_;refine zq 2 (.pointer (some ⟨w.heap.size,1,none⟩)) rfl ?_;refine zt 3 (.int .i64 x.2) rfl (fun W hW=>by obtain⟨k0,k1,-⟩:=bxT2 hW;go_simp) ?_;try simp only[zn]
 have hna:¬w.heap.size=a:=VS;have A0:¬w.heap.size=b:=VS;refine zr 4 rfl (fun K hK=>?_);try simp only[z1,z2,z3]
 go_simp;refine hK.out _ _ (by have h:=bY (w.setCell ⟨a,0,none⟩ (.int .i64 x.1)) (.cells #[.int .i64 x.1,.int .i64 x.2] 144);rw[fE] at h;exact h) (fun hS=>?_);clear hK K;try simp only[zn]
 refine zr 5 rfl (fun K hK=>?_);try simp only[z1,z2,z3]
 go_simp;refine hK.out _ _ (by have h:=bY ((w.setCell ⟨a,0,none⟩ (.int .i64 x.1)).setCell ⟨b,0,none⟩ (.int .i64 x.2)) (.cells #[.int .i64 x.1,.int .i64 x.2] 144);rw[fE,fE] at h;exact h) (fun hS=>?_);clear hK K;try simp only[zn]
 refine wpAnyH_done VT ?_ _
 go_wp2
 simp[bodyPostS,results,Tryz.results109];have oa:Off (fun k=>k=a\/k=b) w ((w.setCell ⟨a,0,none⟩ (.int .i64 x.1)).setCell ⟨b,0,none⟩ (.int .i64 x.2)):=(Off.setCell (S:=fun k=>k=a\/k=b) w (.inl rfl)).trans (Off.setCell (S:=fun k=>k=a\/k=b) _ (.inr rfl));have rE:((w.setCell ⟨a,0,none⟩ (.int .i64 x.1)).setCell ⟨b,0,none⟩ (.int .i64 x.2)).heap[a]? =some (jS x.1):=by rw[Below.heap_setCell _ _ _ _ (by show a≠b;exact hab),aW ha];rfl
 have pM:((w.setCell ⟨a,0,none⟩ (.int .i64 x.1)).setCell ⟨b,0,none⟩ (.int .i64 x.2)).heap[b]? =some (oU x.2):=by rw[aW ((Below.heap_setCell _ _ _ _ (by show b≠a;exact fun e=>hab e.symm)).trans hb)];rfl
 exact⟨(oa.trans (Ba (aC _ _))).drew,aD (aC _ _).drew rE,aD (aC _ _).drew pM⟩
end Go.Proofs.YtiionicikdnnpaaGreatDoor
namespace Go.Proofs.YtiionicikdnnpaaGreatDoor
def Nz{α:Type}(r:PR α):Prop:=∀x,r=.error x->x.2≠0
section
variable {l:List Tok} {α β:Type}
theorem Nz.ok{a:α}{j:Nat}:Nz (.ok (a,j):PR α):=fun x h=>WV
theorem Nz.stop{i:Nat}{e:Int}(he:e≠0):Nz (gK l i e:PR α):=fun x h=>by unfold gK at h;cases h;exact he
theorem Nz.bnd{m:PR α}{k:α->Nat->PR β}(h:Nz m)(hk:∀a j,Nz (k a j)):Nz (m.bnd k):=fun x hx=>by
 cases hm:m with
 |error y=>rw[hm] at hx;have hx:(.error y:PR β)=.error x:=hx;injection hx with e;rw[<-e];exact h y hm
 |ok r=>obtain⟨a,j⟩:=r;rw[hm] at hx;exact hk a j x hx
theorem Nz.ite{c:Prop}[Decidable c]{a b:PR α}(h1:Nz a)(h2:Nz b):Nz (if c then a else b):=by split<;>assumption
theorem gA{i:Nat}{s:bA}:Nz (dN l i s):=by unfold dN;exact .ite .ok (.stop VU)
theorem end_nz{i:Nat}{f:Bool}{s:bA}:Nz (mF l i f s):=by unfold mF;exact .ite (.ite .ok (.stop VU)) (.stop VU)
theorem name_nz{i:Nat}:Nz (fR l i):=by unfold fR;exact .ite .ok (.stop VU)
theorem fresh_nz{i:Nat}{k:bA->Bool}:Nz (gH l i k):=by unfold gH;exact .ite (.ite (.stop VU) .ok) (.stop VU)
theorem later_nz{i:Nat}{t:bA}{b:Bool}:Nz (fM l i t b):=by unfold fM;exact .ite (.ite (.stop VU) (.ite (.stop VU) .ok)) (.stop VU)
theorem room_nz{i a b:Nat}:Nz (gX l i a b):=by unfold gX;exact .ite .ok (.stop VU)
section
variable {rec:RecP} (hr:∀f i,Nz (rec f i))
include hr
omit hr in
theorem dots_nz:∀(F:Nat)(e:Xp)(i:Nat),Nz (lX l F e i)
 |0,e,i=>.ok
 |F+1,e,i=>by unfold lX;exact .ite (.bnd name_nz fun a j=>dots_nz F _ j) .ok
theorem ops_nz(form:Nat):∀(F own:Nat)(e:Xp)(i:Nat),Nz (nM l rec form F own e i)
 |0,own,e,i=>.ok
 |F+1,own,e,i=>by
  unfold nM;split
  ·exact .ok
  exact .ite .ok (.bnd (hr _ _) fun a j=>ops_nz form F _ _ j)
theorem operandsFrom_nz:∀(F:Nat)(out:List Xp)(i:Nat),Nz (cL l rec F out i)
 |0,out,i=>.ok
 |F+1,out,i=>by
  unfold cL;exact .bnd (.ite room_nz .ok) fun _ _=>.bnd (hr _ _) fun e j=>.ite (operandsFrom_nz F _ _) (.bnd gA fun _ _=>.ok)
theorem operands_nz{i:Nat}:Nz (jI l rec i):=by unfold jI;exact .bnd gA fun _ j=>.ite .ok (operandsFrom_nz hr _ _ _)
theorem recordFrom_nz:∀(F:Nat)(names:List bA)(args:List Xp)(last:bA)(i:Nat),Nz (eC l rec F names args last i)
 |0,_,_,_,_=>.ok
 |F+1,names,args,last,i=>by
  unfold eC;exact .bnd (.ite room_nz .ok) fun _ _=>.bnd later_nz fun s j=>.bnd gA fun _ j2=>.bnd (hr _ _) fun e j3=>.ite (recordFrom_nz F _ _ _ _) (.bnd gA fun _ _=>.ok)
theorem paren_nz{i:Nat}:Nz (parenP l rec i):=by unfold parenP;exact .bnd (hr _ _) fun e j=>.bnd gA fun _ _=>.ok
theorem primary_nz{i:Nat}:Nz (aX l rec i):=by
 unfold aX;refine .ite .ok (.ite .ok (.ite .ok (.ite (.bnd name_nz fun _ _=>.ok) (.ite (.bnd gA fun _ j=>.bnd (paren_nz hr) fun _ _=>.ok) (.ite ?_ (.ite (paren_nz hr) (.bnd name_nz fun s j=>?_)))))))
 ·unfold kK;exact .ite .ok (recordFrom_nz hr _ _ _ _ _)
 unfold callP;exact .ite (.bnd (operands_nz hr) fun _ _=>.ok) (.ite (.bnd name_nz fun _ _=>.bnd (operands_nz hr) fun _ _=>.ok) .ok)
theorem prefix_nz{form i:Nat}:Nz (cK l rec form i):=by
 unfold cK
 exact .ite (.bnd (hr _ _) fun _ _=>.bnd gA fun _ _=>.bnd (hr _ _) fun _ _=>.bnd gA fun _ _=>.bnd (hr _ _) fun _ _=>.ok)
  (.ite (.bnd name_nz fun _ _=>.bnd gA fun _ _=>.bnd (hr _ _) fun _ _=>.bnd gA fun _ _=>.bnd (hr _ _) fun _ _=>.ok)
  (.ite (.bnd name_nz fun _ _=>.bnd (hr _ _) fun _ _=>.ok) (.ite (.bnd (hr _ _) fun _ _=>.ok) (.bnd (primary_nz hr) fun _ _=>.ok))))
end
theorem exp_nz:∀(f form i:Nat),Nz (bS l f form i)
 |0,form,i=>.stop VU
 |f+1,form,i=>by
  unfold bS;exact .bnd (prefix_nz fun f' i'=>exp_nz f f' i') fun r j=>.bnd (.ite (dots_nz _ _ _) .ok) fun e k=>ops_nz (fun f' i'=>exp_nz f f' i') _ _ _ _ _
theorem more_nz{i:Nat}{t:Ty}{s:bA}:Nz (moreP l i t s):=by unfold moreP;exact .ite (.bnd end_nz fun _ _=>.ok) (.bnd end_nz fun _ _=>.ok)
theorem typedFrom_nz{rec:Nat->PR Ty}(hr:∀i,Nz (rec i)):∀(F:Nat)(fs:List Fld)(i:Nat),Nz (eY l rec F fs i)
 |0,fs,i=>.ok
 |F+1,fs,i=>by
  unfold eY;exact .bnd (.ite room_nz .ok) fun _ _=>.bnd later_nz fun s j=>.bnd (hr _) fun t j2=>.bnd more_nz fun q j3=>.ite .ok (typedFrom_nz hr F _ _)
theorem typed_nz:∀(f i:Nat),Nz (fW l f i)
 |0,i=>.stop VU
 |f+1,i=>by
  unfold fW;exact .ite .ok (.ite .ok (.bnd gA fun _ j=>.ite .ok (typedFrom_nz (fun i=>typed_nz f i) _ _ _)))
theorem fieldsFrom_nz{most:Nat}:∀(F:Nat)(fs:List Fld)(i:Nat),Nz (eJ l most F fs i)
 |0,fs,i=>.ok
 |F+1,fs,i=>by
  unfold eJ;exact .bnd (.ite room_nz .ok) fun _ _=>.bnd fresh_nz fun s j=>.bnd (typed_nz _ _) fun t j2=>.bnd more_nz fun q j3=>.ite .ok (fieldsFrom_nz F _ _)
theorem fields_nz{most i:Nat}:Nz (jV l most i):=by unfold jV;exact .bnd gA fun _ j=>.ite .ok (fieldsFrom_nz _ _ _)
theorem whole_nz{i:Nat}{s:bA}:Nz (mC l i s):=by unfold mC;exact .bnd (exp_nz _ _ _) fun _ _=>.bnd end_nz fun _ _=>.ok
theorem wholesFrom_nz{s:bA}:∀(n:Nat)(out:List Xp)(i:Nat),Nz (iU l s n out i)
 |0,out,i=>by unfold iU;exact .bnd whole_nz fun _ _=>.ok
 |n+1,out,i=>by unfold iU;exact .bnd whole_nz fun _ _=>wholesFrom_nz n _ _
theorem wholes_nz{n i:Nat}{s:bA}:Nz (iC l n i s):=by
 cases n with
 |zero=>unfold iC;exact .bnd gA fun _ _=>.ok
 |succ n=>unfold iC;exact wholesFrom_nz _ _ _
theorem bang_nz{i:Nat}{f:Bool}:Nz (bangP l i f):=by unfold bangP;exact .ite (.bnd end_nz fun _ _=>.ite .ok (.stop VU)) .ok
theorem function_nz{i:Nat}{k:bA->Bool}:Nz (mT l i k):=by
 unfold mT;exact .bnd gA fun _ _=>.bnd fresh_nz fun _ _=>.bnd fields_nz fun _ _=>.bnd (typed_nz _ _) fun _ _=>.bnd bang_nz fun _ _=>.bnd end_nz fun _ _=>.bnd whole_nz fun _ _=>.ok
theorem uses_nz:∀(F:Nat)(out:List bA)(i:Nat),Nz (iH l F out i)
 |0,out,i=>.ok
 |F+1,out,i=>by unfold iH;exact .ite (.bnd room_nz fun _ _=>.bnd fresh_nz fun _ _=>.bnd gA fun _ _=>uses_nz F _ _) .ok
theorem vars_nz:∀(F:Nat)(vs:List Fld)(es:List Xp)(i:Nat),Nz (iV l F vs es i)
 |0,vs,es,i=>.ok
 |F+1,vs,es,i=>by unfold iV;exact .ite (.bnd room_nz fun _ _=>.bnd fresh_nz fun _ _=>.bnd (typed_nz _ _) fun _ _=>.bnd end_nz fun _ _=>.bnd whole_nz fun _ _=>vars_nz F _ _ _) .ok
theorem funcs_nz:∀(F:Nat)(fs:List Fnc)(i:Nat),Nz (gI l F fs i)
 |0,fs,i=>.ok
 |F+1,fs,i=>by unfold gI;exact .ite (.bnd room_nz fun _ _=>.bnd function_nz fun _ _=>funcs_nz F _ _) .ok
theorem move_nz{n i:Nat}:Nz (moveP l n i):=by unfold moveP;exact .ite (.bnd fields_nz fun _ _=>.bnd gA fun _ _=>.bnd wholes_nz fun _ _=>.bnd wholes_nz fun _ _=>.ok) .ok
theorem module_nz:Nz (gN l):=by
 unfold gN;exact .bnd gA fun _ _=>.bnd name_nz fun _ _=>.bnd gA fun _ _=>.bnd (uses_nz _ _ _) fun _ _=>.bnd (vars_nz _ _ _ _) fun _ _=>.bnd (funcs_nz _ _ _) fun _ _=>.bnd move_nz fun _ _=>.ite .ok (.stop VU)
end
theorem lexFrom_nz{s:bA}:∀(F i:Nat)(out:List Tok)(x:Int×Int),iE s F i out=.error x->x.2≠0
 |0,i,out,x,h=>by unfold iE at h;cases h
 |F+1,i,out,x,h=>by
  unfold iE at h;split at h
  ·cases h
  split at h
  ·rename_i e he;cases h;exact nextTok_err he
  exact lexFrom_nz F _ _ x h
theorem lexL_nz{s:bA}{x:Int×Int}(h:lexL s=.error x):x.2≠0:=by
 unfold lexL at h;split at h
 ·cases h;decide
 exact lexFrom_nz _ _ _ x h
end Go.Proofs.YtiionicikdnnpaaGreatDoor
