/- Texts of this seat, joined. -/
import Derived.Test.YtacgopankhpnbaaGreatDoorTQAO
import Derived.Test.YtacgopankhpnbaaGreatDoorTQAL
import Derived.Test.YtacgopankhpnbaaGreatDoorTQAP
import Derived.Test.YtacgopankhpnbaaGreatDoorTQAR
set_option maxHeartbeats 16000000
set_option maxRecDepth 100000
set_option linter.unusedVariables false
set_option linter.unusedSimpArgs false
namespace Go.Proofs.YtacgopankhpnbaaGreatDoor
open Go.RowKit
theorem runL_right{C:bA->Int×bA}{r:Rcp}{ck od nx:List Int}{p:List Dn×bA}(h:mZ C r ck od nx=.ok p):aP r=0:=by
 unfold mZ at h;split at h
 ·cases h
 rename_i h0;simpa using h0
theorem replays_law{C:bA->Int×bA}{r:Rcp}{ck od nx:List Int}{a:List Dn}{s:bA}(ha:mZ C r ck od nx=.ok (a,s)){k:Nat}{d:Dn}(hk:a[k]? =some d):
  ∃(i:Nat)(st:Stp),d.step=(i:Int)/\r.steps[i]? =some st/\d.saw.length=iC st/\d.out.size<=65536/\
   (bZ st=true->(∀BY BN,eX C st d.saw BY BN=.ok d.out)/\∀o,d.out≠o->nD C r (a.modify k (fun d=>⟨d.step,d.saw,o⟩))=if(bQ r (a.modify k (fun d=>⟨d.step,d.saw,o⟩))).isSome then some k else none):=by
 obtain⟨hR,F',hF,-⟩:=runL_ok ha;obtain⟨LJ,-⟩:=run_steps hR hF;have hm:=List.mem_of_getElem? hk;obtain⟨i,st,fs,v0,v1,p,q,h1,h2,h3⟩:=tr_mem LJ d hm;obtain⟨i',st',h1',LS,-,tI,hp⟩:=not_wrong ha d hm;have e:i'=i:=by rw[h1] at h1';exact(Int.ofNat_inj.1 h1').symm
 subst e;rw[h2] at LS;cases LS;obtain⟨sw,hs',CF⟩:=do_saw h3;obtain⟨hl,-⟩:=sawOf_at hs';refine⟨i',st,h1,h2,?_,tI,fun EQ=>⟨hp EQ,fun o ho=>bent_wrong ha hk h1 h2 EQ ho⟩⟩;unfold iC;by_cases h2:st.kind=2
 ·rw[if_pos h2] at CF ⊢;rw[CF];rfl
 rw[if_neg h2] at CF ⊢;rw[CF];exact hl
theorem dnCells_modify(o:bA):∀(M:List (Value×Dn))(k:Nat),(bN M).set (k*3+2) (.string o)=bN (M.modify k fun y=>(y.1,⟨y.2.step,y.2.saw,o⟩))
 |[],k=>by simp[bN]
 |x::M,0=>rfl
 |x::M,k+1=>by
  have:=dnCells_modify o M k;rw[show(k+1)*3+2=k*3+2+1+1+1 by omega,List.modify_succ_cons,show bN (x::M.modify k fun y=>(y.1,⟨y.2.step,y.2.saw,o⟩))=.int .i64 x.2.step::x.1:: .string x.2.out::bN (M.modify k fun y=>(y.1,⟨y.2.step,y.2.saw,o⟩)) from rfl,<-this];rfl
theorem ownsRow_set{w:World}{base:Nat}{e:TypeId}{size g n cap:Nat}{xs:List Value}(h:w.ownsRow base e size (.slice (some ⟨g,0,none⟩) n cap) n xs)(j:Nat)(u:Value):
  (w.setCell ⟨g,j,none⟩ u).ownsRow base e size (.slice (some ⟨g,0,none⟩) n cap) n (xs.set j u):=by
 rcases h with⟨h1,⟨e1,-⟩|⟨g1,cap1,cur,e1,hg,yY,r1,r2,r3,r4⟩⟩
 ·cases e1
 cases e1;refine⟨by rw[List.length_set];exact h1,.inr ⟨g,cap,cur.setIfInBounds j u,rfl,hg,aO yY u,r1,r2,by rw[Array.size_setIfInBounds];exact r3,?_⟩⟩;rw[Array.toList_setIfInBounds,List.take_set,r4]
theorem dns_bent{w:World}{base g cap k:Nat}{e:TypeId}{M:List (Value×Dn)}{o:bA}(h:w.ownsRow base e 3 (.slice (some ⟨g,0,none⟩) M.length cap) M.length (bN M))(ho:o.size<=140737488355328)
  (hz:∀y,y∈M->Strs (w.setCell ⟨g,k*3+2,none⟩ (.string o)) y.1 y.2.saw/\y.2.out.size<=140737488355328):
  Dns (w.setCell ⟨g,k*3+2,none⟩ (.string o)) (.slice (some ⟨g,0,none⟩) M.length cap) (M.modify k fun y=>(y.1,⟨y.2.step,y.2.saw,o⟩)):=by
 have h2:=ownsRow_set h (k*3+2) (.string o);rw[dnCells_modify] at h2;refine dns_of_owns (base:=base) (e:=e) (by rw[List.length_modify];exact h2) fun y hy=>?_;obtain⟨j,hj,rfl⟩:=List.getElem_of_mem hy;rw[List.length_modify] at hj;rw[List.getElem_modify];obtain⟨z1,z2⟩:=hz M[j] (List.getElem_mem hj);split
 ·exact⟨z1,ho⟩
 exact⟨z1,z2⟩
theorem bent_map(k:Nat)(o:bA)(M:List (Value×Dn)):(M.modify k fun y=>(y.1,(⟨y.2.step,y.2.saw,o⟩:Dn))).map (·.2)=(M.map (·.2)).modify k fun d=>⟨d.step,d.saw,o⟩:=by
 refine List.ext_getElem? fun j=>?_;rw[List.getElem?_map,List.getElem?_modify,List.getElem?_modify,List.getElem?_map]
 cases M[j]? with
 |none=>rfl
 |some y=>by_cases e:k=j<;>simp[e]
theorem bent_ne(o:bA):o≠o++⟨#[63]⟩:=fun e=>by
 have:=congrArg ByteArray.size e;rw[ByteArray.size_append] at this;have h1:(⟨#[63]⟩:bA).size=1:=rfl;omega
theorem replay_tells(C:bA->Int×bA)(r:Rcp)(L:List (Value×Stp))(vi vs vd vc vo vn:Value)(s:Stp)(i:Nat)(saw:List bA)(out:bA)(clock order next:List Int)(w:World)(h:dR r L vi vs w)(hw:nC clock order next vc vo vn w)(hG:dL w)
  (he:aP r=0) (hs:r.steps[i]? =some s) (hd:Strs w vd saw) (hl:saw.length=iC s) (hD:DoAll C s):
  Calls Tryz.prog 49 #[jD vi vs r.output,.agg #[.int .i64 i,vd,.string out],.agg #[vc,vo,vn]] w fun e w'=>∃t c,e=.returned (.tuple #[.string t,.int .i64 c])/\Hid (∀o,eX C s saw clock order=.ok o->c=0/\t=o)/\Below w.heap.size w w':=by
 refine(replay_good C r L vi vs vd vc vo vn s i saw out clock order next w h hw hG he hs hd hl hD).mono ?_;rintro e w' ⟨hb,hm⟩
 cases hr:eX C s saw clock order with
 |error c=>
  rw[hr] at hm;exact⟨_,_,hm,zh (fun o h=>aBx),hb⟩
 |ok t=>
  rw[hr] at hm;exact⟨_,_,hm,zh (fun o h=>by cases h;exact⟨rfl,rfl⟩),hb⟩
theorem pS:∀l:List (Value×Dn),(bN l).length=l.length*3
 |[]=>rfl
 |y::l=>by
  show(bN l).length+1+1+1=_;rw[pS l,List.length_cons];omega
theorem src_dns{w:World}{a:Option Addr}{c:Nat}{l:List (Value×Dn)}(h:Dns w (.slice a l.length c) l):Src w (.slice a l.length c) l.length 3 (bN l):=by
 obtain⟨a9,c9,e9,-,sM⟩:=dns_at h;cases e9;by_cases h0:l.length=0
 ·have:=List.eq_nil_of_length_eq_zero h0;subst this;exact .inl ⟨rfl,rfl,_,_,rfl⟩
 obtain⟨b,o,rfl⟩:∃b o,a=some ⟨b,o,none⟩:=by
  obtain⟨y,hy,-⟩:=getElem?_of_lt (show 0<l.length by omega);obtain⟨b,o,e,-⟩:=sM 0 y hy;exact⟨b,o,e⟩
 have key:∀j u,(bN l)[j]? =some u->w.cell? ⟨b,o+j,none⟩=some u/\u.oneCell'=true:=fun j u hu=>by
  have hj:j<l.length*3:=by have:=(Yb.1 hu).1;rwa [pS] at this
  obtain⟨y,hy,-⟩:=getElem?_of_lt (show j / 3<l.length by omega);obtain⟨d0,d1,d2⟩:=pT l _ y hy;obtain⟨b',o',e,c0,c1,c2,hS,-⟩:=sM _ y hy;cases e;obtain⟨sa,sc,es⟩:=bW hS;have hq:j % 3=0\/j % 3=1\/j % 3=2:=aAM;rcases hq with hq|hq|hq
  ·have e:j / 3*3=j:=aAM;rw[e,hu] at d0;cases d0;rw[e] at c0;exact⟨c0,rfl⟩
  ·have e:j / 3*3+1=j:=aAM;rw[e,hu] at d1;have d1:=Option.some.inj d1;subst d1;rw[Nat.add_assoc,e] at c1;exact⟨c1,by rw[es];rfl⟩
  have e:j / 3*3+2=j:=aAM;rw[e,hu] at d2;cases d2;rw[Nat.add_assoc,e] at c2;exact⟨c2,rfl⟩
 exact .inr ⟨aAM,_,c,rfl,pS l,fun j u hu=>by rw[Addr.add_lit];exact(key j u hu).1,fun u hu=>by obtain⟨j,hj⟩:=List.getElem?_of_mem hu;exact(key j u hj).2⟩
theorem owns_cell{w:World}{base:Nat}{e:TypeId}{size g n cap:Nat}{xs:List Value}(h:w.ownsRow base e size (.slice (some ⟨g,0,none⟩) n cap) n xs){j:Nat}{u:Value}(hj:j<n*size)(hu:xs[j]? =some u):w.cell? ⟨g,j,none⟩=some u/\w.frozen? ⟨g,j,none⟩=false:=by
 rcases h.2 with⟨e1,-⟩|⟨g1,cap1,cur,e1,hg,yY,r1,r2,r3,r4⟩
 ·cases e1
 cases e1;have:=congrArg (fun t:List Value=>t[j]?) r4;rw[List.getElem?_take,if_pos hj,hu] at this;have h2:cur[j]? =some u:=aBY;exact⟨by simp[World.cell?,yY,h2],by simp[World.frozen?,yY,h2]⟩
theorem replay_far(r:Rcp)(L:List (Value×Stp))(vi vs vc vo vn:Value)(clock order next:List Int)(w:World)(h:dR r L vi vs w)(hw:nC clock order next vc vo vn w)(hG:dL w)(he:aP r=0):
  Calls Tryz.prog 49 #[jD vi vs r.output,oBx34 L.length none 0 0 ⟨#[]⟩,.agg #[vc,vo,vn]] w fun e w'=>e=.returned (.tuple #[.string ⟨#[]⟩,.int .i64 1])/\Below w.heap.size w w':=by
 have HR:=zh h;have TF:L.length<=9223372036854775807:=aBH;obtain⟨⟨a1,c1,rfl⟩,⟨a2,c2,rfl⟩,⟨a3,c3,rfl⟩⟩:=hw.slices;obtain⟨ai,ci,av,cv,rfl,rfl⟩:=h.slices;have HB:=zh (BsW.first w (aY (.slice ai r.inputs.length ci) (.slice av L.length cv) r.output) (rK L.length none 0 0 ⟨#[]⟩) (kF (.slice a1 clock.length c1) (.slice a2 order.length c2) (.slice a3 next.length c3)));clear h hw hG;go_enter Tryz.func49,Tryz.ntmps49;go_wp2_with fail;generalize ((w.alloc (aY (.slice ai r.inputs.length ci) (.slice av L.length cv) r.output)).alloc (rK L.length none 0 0 ⟨#[]⟩)).alloc (kF (.slice a1 clock.length c1) (.slice a2 order.length c2) (.slice a3 next.length c3))=w0 at HB ⊢;obtain⟨r0,r1,r2⟩:=bD HB.out.r0;obtain⟨d0,d1,d2⟩:=bD HB.out.r1;have GU:=zh (rH r L _ _ w0.drew (HR.out.later (aB HB.out.below (aE w0))));rw[he] at GU;have JE:decide ((L.length:Int)<0)=false:=decide_eq_false aAM;have PI:decide ((L.length:Int)<=(L.length:Int))=true:=decide_eq_true (Int.le_refl _);refine wp_region_held_drew (S:=fun W=>Below w0.heap.size w0 W) aAN (Below.refl _ _).drew fun hS=>?_;refine zt 0 (oBx25 ai r.inputs.length ci av L.length cv r.output) rfl (fun W hW=>aBp) ?_;try simp only[zn]
 refine zr 1 rfl (fun K hK=>?_);try simp only[z1,z2,z3]
 go_simp;refine GU.out.mono ?_;rintro e w1 ⟨rfl,hb⟩;have wW:=zh (aB (aE w0) hb);clear hb;refine hK.out _ _ wW.out (fun hS=>?_);clear hK K;refine zq 2 (.bool false) rfl ?_;refine zq 3 (.bool false) rfl ?_;refine zq 4 (.pointer (some ⟨w.heap.size+1,0,none⟩)) rfl ?_;refine zt 5 (.int .i64 (L.length:Int)) rfl (fun W hW=>by have d0:=aC hW d0;go_simp) ?_;refine zq 6 (.bool false) rfl ?_;refine zq 7 (.bool false) rfl ?_;refine zq 8 (.bool false) rfl ?_;refine zq 9 (.pointer (some ⟨w.heap.size+1,0,none⟩)) rfl ?_;refine zt 10 (.int .i64 (L.length:Int)) rfl (fun W hW=>by have d0:=aC hW d0;go_simp) ?_;refine zq 11 (.pointer (some ⟨w.heap.size,1,none⟩)) rfl ?_;refine zt 12 (.slice av L.length cv) rfl (fun W hW=>by have r1:=aC hW r1;go_simp) ?_;refine zq 13 (.int .i64 (L.length:Int)) rfl ?_;refine zq 14 (.bool true) rfl ?_;refine zq 15 (.bool true) rfl ?_;refine zq 16 (.bool true) rfl ?_;refine zu 17 rfl ?_;refine zu 18 rfl ?_;refine zu 19 rfl ?_;refine zu 20 rfl ?_;refine zu 21 rfl ?_;refine zu 22 rfl ?_;refine zu 23 rfl ?_;refine zu 24 rfl ?_;refine zu 25 rfl ?_;refine zu 26 rfl ?_;refine zu 27 rfl ?_;refine zq 28 (.bool true) rfl ?_;try simp only[zn]
 refine wpAnyH_done aAN ?_ _;clear hS;go_wp2_with fail;go_ret2;exact⟨rfl,aB HB.out.below wW.out⟩
theorem YG{p:Prop}(h:p:=by
 go_wp2_with fail;go_ret
 exact⟨rfl,HB.out.below⟩):p:=h
theorem blameReplays_any(r:Rcp)(L:List (Value×Stp))(vi vs vc vo vn P6 PZ J2:Value)(ck od nx BY BN ME:List Int)(k0:Int)(w:World)(h:dR r L vi vs w)(h1:nC ck od nx vc vo vn w)(h2:nC BY BN ME P6 PZ J2 w)(hG:dL w)(LM:0<=k0)(BF:k0<=255):
  Calls Tryz.prog 13 #[jD vi vs r.output,.agg #[vc,vo,vn],.agg #[P6,PZ,J2],.int .u8 k0] w (OkBelow w):=by
 have HR:=zh h;have HV:=zh h1;have HW:=zh h2;have HG:=zh hG;obtain⟨⟨a1,c1,rfl⟩,⟨a2,c2,rfl⟩,⟨a3,c3,rfl⟩⟩:=h1.slices;obtain⟨⟨b1,d1,rfl⟩,⟨b2,d2,rfl⟩,⟨b3,d3,rfl⟩⟩:=h2.slices;obtain⟨ai,ci,av,cv,rfl,rfl⟩:=h.slices;have hlen:=h.len;have vB:=zh hlen;have TF:L.length<=9223372036854775807:=aBH;have hoz:=h.out;clear h h1 h2 hG hlen;have HB:=zh (BsW.first w (aY (.slice ai r.inputs.length ci) (.slice av L.length cv) r.output) (kF (.slice a1 ck.length c1) (.slice a2 od.length c2) (.slice a3 nx.length c3)) (kF (.slice b1 BY.length d1) (.slice b2 BN.length d2) (.slice b3 ME.length d3)));go_enter Tryz.func13,Tryz.ntmps13;go_wp2_with fail;refine(small35_any _ (HG.out.later HB.out.below)).mono ?_;rintro e w1 ⟨rfl,hb⟩
 replace HB:=zh (HB.out.later hb)
 clear hb;obtain⟨r0,r1,r2⟩:=bD HB.out.r0;obtain⟨v0,v1,v2⟩:=bD HB.out.r1;obtain⟨x0,x1,x2⟩:=bD HB.out.r2;go_wp2_with fail;refine(few35_any r L _ _ w1 (HR.out.later HB.out.below)).mono ?_;rintro e w2 ⟨q,rfl,hb⟩
 replace HB:=zh (HB.out.later hb)
 clear hb;clear r0 r1 r2 v0 v1 v2 x0 x1 x2
 cases q with
 |false=>
  exact YG
 |true=>
  obtain⟨r0,r1,r2⟩:=bD HB.out.r0;obtain⟨v0,v1,v2⟩:=bD HB.out.r1;obtain⟨x0,x1,x2⟩:=bD HB.out.r2;go_wp2_with fail;refine(nR _ _ _ _ _ _ _ _ _ w2).mono ?_;rintro e w3 ⟨q,rfl,hb⟩
  replace HB:=zh (HB.out.later hb)
  clear hb;clear r0 r1 r2 v0 v1 v2 x0 x1 x2
  cases q with
  |false=>
   exact YG
  |true=>
   obtain⟨r0,r1,r2⟩:=bD HB.out.r0;obtain⟨v0,v1,v2⟩:=bD HB.out.r1;obtain⟨x0,x1,x2⟩:=bD HB.out.r2;go_wp2_with fail;refine(nR _ _ _ _ _ _ _ _ _ w3).mono ?_;rintro e w4 ⟨q,rfl,hb⟩
   replace HB:=zh (HB.out.later hb)
   clear hb;clear r0 r1 r2 v0 v1 v2 x0 x1 x2
   cases q with
   |false=>
    exact YG
   |true=>
    obtain⟨r0,r1,r2⟩:=bD HB.out.r0;obtain⟨v0,v1,v2⟩:=bD HB.out.r1;obtain⟨x0,x1,x2⟩:=bD HB.out.r2;go_wp2_with fail;refine(qI r L _ _ _ _ _ ck od nx w4 (HR.out.later HB.out.below) (HV.out.later HB.out.below) (HG.out.later HB.out.below)).mono ?_;rintro e w5 ⟨xa,na,ca,sa,ea,rfl,JV,hb⟩
    replace HB:=zh (HB.out.later hb)
    clear hb;clear r0 r1 r2 v0 v1 v2 x0 x1 x2;by_cases wY:ea=0
    ·subst wY;obtain⟨outA,La,U3,hda,hma⟩:=JV.out.ok;subst hma;obtain⟨al,cl,e9,hll2,sM⟩:=dns_at hda;cases e9;have xF:=zh hda;have yT:=zh sM;have xT:=zh U3;clear JV U3 hda sM;by_cases hM:La.length=0
     ·rw[hM];exact YG
     have hM0:(La.length:Int)≠0:=aAM;(have hM1:((La.length:Int)==0)=false:=by rw[beq_eq_false_iff_ne];exact hM0);obtain⟨k,hk⟩:∃k:Nat,k=k0.toNat % La.length:=⟨_,rfl⟩;have Q6:k<La.length:=by rw[hk];exact Nat.mod_lt _ aAM
     have hkm:k0 % (La.length:Int)=(k:Int):=by
      obtain⟨q,rfl⟩:∃q:Nat,k0=(q:Int):=⟨k0.toNat,aAM⟩;rw[hk,Int.toNat_natCast];rfl
     obtain⟨r0,r1,r2⟩:=bD HB.out.r0;obtain⟨v0,v1,v2⟩:=bD HB.out.r1;obtain⟨x0,x1,x2⟩:=bD HB.out.r2;go_wp2_with fail;rw[hkm];obtain⟨y,hy,-⟩:=getElem?_of_lt Q6;obtain⟨i,st,VN,vO,hsaw,tI,E4⟩:=replays_law xT.out (k:=k) (d:=y.2) (by rw[List.getElem?_map,hy];rfl);obtain⟨bl,ol,rfl,p0,p1,p2,hS,hz⟩:=yT.out k y hy;rw[VN] at p0;obtain⟨yv,dstep,dsaw,dout⟩:=y;dsimp only at p0 p1 p2 hS hz VN hsaw tI E4;obtain⟨sa0,sc0,rfl⟩:=bW hS;(have hiL:i<L.length:=by have:=(Yb.1 vO).1;rw[vB.out] at this;exact this);have vA:¬(i:Int)<0:=aAM;have DD:¬(L.length:Int)<=(i:Int):=aAM;have JI:(0:Int)<=(i:Int):=aAM;have Q9:(i:Int)<(L.length:Int):=aAM;have CG:(0:Int)<=(k:Int):=aAM;have C9:(k:Int)<(La.length:Int):=aAM;have HY:=zh hy;have XG:=zh E4;have CU:=zh vO;have F5:=zh hsaw;have HDi:=zh VN;clear hy E4 vO hsaw VN hkm hk yT;(go_quiet(fail));generalize S7:World.drewN w5 _=w6;have wW:Hid (Below w5.heap.size w5 w6):=zh aCC;clear S7
     replace HB:=zh (HB.out.later wW.out)
     replace xF:=zh (xF.out.later wW.out)
     replace p0:=aC wW.out p0
     replace p1:=aC wW.out p1
     replace p2:=aC wW.out p2
     replace hS:=hS.later wW.out
     clear wW;clear r0 r1 r2 v0 v1 v2 x0 x1 x2;obtain⟨r0,r1,r2⟩:=bD HB.out.r0;obtain⟨v0,v1,v2⟩:=bD HB.out.r1;obtain⟨x0,x1,x2⟩:=bD HB.out.r2;go_wp2_with fail;have HSs:=zh hS;clear hS;refine wp_region_held_drew (S:=fun W=>Below w6.heap.size w6 W) aAN (Below.refl _ _).drew fun hS=>?_;refine zt 0 (oBx25 ai r.inputs.length ci av L.length cv r.output) rfl (fun W hW=>aBp) ?_;refine zq 1 (.slice (some ⟨bl,ol,none⟩) La.length ca) rfl ?_;refine zq 2 (.int .i64 (k:Int)) rfl ?_;refine zq 3 (.pointer (some ⟨bl,ol+k*3,none⟩)) rfl ?_;refine zt 4 (oBx34 (i:Int) sa0 dsaw.length sc0 dout) rfl (fun W hW=>aDc) ?_;refine zt 5 (mQ b1 BY.length d1 b2 BN.length d2 b3 ME.length d3) rfl (fun W hW=>by have x0:=aC hW x0;have x1:=aC hW x1;have x2:=aC hW x2;go_simp) ?_;(try simp only[zn]);refine zr 6 rfl (fun K hK=>?_);(try simp only[z1,z2,z3]);go_simp;have HD6:=zh (aE w6);have AC:=zh (HB.out.later HD6.out);refine(replay_tells bC r L _ _ _ _ _ _ st i dsaw dout BY BN ME w6.drew (HR.out.later AC.out.below) (HW.out.later AC.out.below) (HG.out.later AC.out.below) (runL_right xT.out) CU.out (HSs.out.later HD6.out) F5.out (rS st)).mono ?_;rintro e w7 ⟨t7,c7,rfl,D7,yL⟩;have wW:=zh (aB HD6.out yL);clear yL AC HD6;refine hK.out _ _ wW.out (fun hS=>?_);clear hK K;refine zq 7 (.tuple #[.string t7,.int .i64 c7]) rfl ?_;refine zq 8 (.string t7) rfl ?_;refine zq 9 (.int .i64 c7) rfl ?_;refine zq 10 (.string t7) rfl ?_;refine zq 11 (.int .i64 c7) rfl ?_;(try simp only[zn]);refine wpAnyH_done aAN ?_ _;clear hS
     replace HB:=zh (HB.out.later wW.out)
     replace xF:=zh (xF.out.later wW.out)
     replace p0:=aC wW.out p0
     replace p1:=aC wW.out p1
     replace p2:=aC wW.out p2
     replace HSs:=zh (HSs.out.later wW.out)
     clear wW;clear r0 r1 r2 v0 v1 v2 x0 x1 x2;obtain⟨r0,r1,r2⟩:=bD HB.out.r0;obtain⟨v0,v1,v2⟩:=bD HB.out.r1;obtain⟨x0,x1,x2⟩:=bD HB.out.r2;go_wp2_with fail;obtain⟨sl,cs,e,-,hats⟩:=stps_at (HR.out.later HB.out.below).stp;obtain⟨rfl,rfl⟩:av=sl/\cv=cs:=aAT;obtain⟨ys,DR,-⟩:=getElem?_of_lt hiL
     obtain rfl:ys.2=st:=by
      have:=CU.out;rw[<-HR.out.map,List.getElem?_map,DR] at this;exact Option.some.inj this
     obtain⟨bs,os,rfl,s0,s1,s2,s3,RJ,J7⟩:=hats i ys DR;have sK:=zh (fun W(hW:Below w7.heap.size w7 W)=>oE ys.2 ys.1 W (RJ.later hW) J7);obtain⟨ysv,ss⟩:=ys;dsimp only at s0 s1 s2 s3 RJ sK CU F5 XG D7;obtain⟨sb0,sd0,rfl⟩:=bW RJ;clear DR hats e RJ J7;refine wp_region_held_drew (S:=fun W=>Below w7.heap.size w7 W) aAN (Below.refl _ _).drew fun hS=>?_;refine zq 0 (.pointer (some ⟨w.heap.size,1,none⟩)) rfl ?_;refine zt 1 (.slice (some ⟨bs,os,none⟩) L.length cv) rfl (fun W hW=>by have r1:=aC hW r1;go_simp) ?_;refine zq 2 (.slice (some ⟨bl,ol,none⟩) La.length ca) rfl ?_;refine zq 3 (.int .i64 (k:Int)) rfl ?_;refine zq 4 (.pointer (some ⟨bl,ol+k*3,none⟩)) rfl ?_;refine zq 5 (.pointer (some ⟨bl,ol+k*3,none⟩)) rfl ?_;refine zt 6 (.int .i64 (i:Int)) rfl (fun W hW=>by have p0:=aC hW p0;go_simp) ?_;refine zq 7 (.pointer (some ⟨bs,os+i*4,none⟩)) rfl ?_;refine zt 8 (.agg #[.int .i64 ss.kind,.slice sb0 ss.src.length sd0,.string ss.out,.bool ss.sorted]) rfl (fun W hW=>by have s0:=aC hW s0;have s1:=aC hW s1;have s2:=aC hW s2;have s3:=aC hW s3;go_simp) ?_;(try simp only[zn]);refine zr 9 rfl (fun K hK=>?_);(try simp only[z1,z2,z3]);go_simp;refine(sK.out w7.drew (aE w7)).mono ?_;rintro e w8 ⟨rfl,vD⟩;have wW:=zh (aB (aE w7) vD);clear vD;refine hK.out _ _ wW.out (fun hS=>?_);clear hK K;refine zq 10 (.bool (!bZ ss)) rfl ?_;(try simp only[zn]);refine wpAnyH_done aAN ?_ _;clear hS
     cases DV:bZ ss with
     |false=>
      go_wp2_with fail;go_ret;exact⟨rfl,aB HB.out.below wW.out⟩
     |true=>
      obtain⟨QS,yU⟩:=XG.out DV;obtain⟨rfl,rfl⟩:=D7.out _ (QS BY BN);have CK:=zh yU;clear QS yU XG D7 DV
      replace HB:=zh (HB.out.later wW.out)
      replace xF:=zh (xF.out.later wW.out)
      replace p0:=aC wW.out p0
      replace p1:=aC wW.out p1
      replace p2:=aC wW.out p2
      clear wW;clear r0 r1 r2 v0 v1 v2 x0 x1 x2;obtain⟨r0,r1,r2⟩:=bD HB.out.r0;obtain⟨v0,v1,v2⟩:=bD HB.out.r1;obtain⟨x0,x1,x2⟩:=bD HB.out.r2
      have hLn:La.length<=60:=by
       obtain⟨F,X,px,hX,-⟩:=run_reads xT.out;have h2:=(runL_ok xT.out).1.few;unfold bQ at hX;split at hX
       ·cases hX
       rename_i hc;have:(La.map (·.2)).length=r.steps.length:=Classical.byContradiction fun h=>hc (.inr h);rw[List.length_map] at this;omega
      obtain⟨n0,JE,tM,sY,sX⟩:=info_parts dnInfo;have JL:=zh (aA w8 (.cells #[] 59));have HSr:=zh (src_dns (xF.out.later JL.out));have hg8:11<=w8.heap.size:=(HG.out.later HB.out.below).big;go_wp2_with(at_builtin;refine wpList_append_all rfl _ _ 54 rfl w8.heap.size 59 n0 (oBx34 0 none 0 0 ByteArray.empty) 3 48 Tryz.underlying54 JE tM sY sX rfl aAM w8.heap.size 0 0 [] aBm ⟨rfl,.inr ⟨w8.heap.size,0,#[],rfl,Nat.le_refl _,bY w8 _,Nat.le_refl _,aAY,rfl,rfl⟩⟩ (.slice (some ⟨bl,ol,none⟩) La.length ca) La.length (bN La) aBm HSr.out aAY aAM aAQ ?_);intro g' cap' w9 sB RA hg9;(try simp only[Nat.zero_add,List.nil_append] at sB);(try simp only[Nat.zero_add]);have wW:Hid (Below w8.heap.size w8 w9):=zh ⟨RA.os,RA.tape,RA.output,by have:=RA.size;simp at this;omega,fun j hj=>(RA.block j aA0 (fun e=>by cases e;omega)).trans (JL.out.block j hj)⟩;have HOw:=zh sB;have SG:=zh (sB.lt g' rfl);clear sB RA JL HSr JE tM sY sX;have OY:Hid (Below w8.heap.size w8 (w9.setCell ⟨g',k*3+2,none⟩ (.string (t7++⟨#[63]⟩)))):=zh (wW.out.setCell SG.out.1 _)
      replace HB:=zh (HB.out.later OY.out)
      have HDs:=zh (xF.out.later OY.out)
      replace xF:=HDs
      have JH:(La.modify k fun y=>(y.1,(⟨y.2.step,y.2.saw,t7++⟨#[63]⟩⟩:Dn))).length=La.length:=by rw[List.length_modify]
      have JY:Hid (Dns (w9.setCell ⟨g',k*3+2,none⟩ (.string (t7++⟨#[63]⟩))) (.slice (some ⟨g',0,none⟩) La.length cap') (La.modify k fun y=>(y.1,(⟨y.2.step,y.2.saw,t7++⟨#[63]⟩⟩:Dn)))):=zh (dns_bent HOw.out (by rw[ByteArray.size_append];have:(⟨#[63]⟩:bA).size=1:=rfl;omega) (fun y hy=>by
       obtain⟨j,hj⟩:=List.getElem?_of_mem hy;obtain⟨_,_,_,_,h9⟩:=dns_at HDs.out;obtain⟨_,_,_,_,_,_,FU,h11⟩:=h9 j y hj
       exact⟨FU,h11⟩))
      have HWn:Hid (nD bC r ((La.modify k fun y=>(y.1,(⟨y.2.step,y.2.saw,t7++⟨#[63]⟩⟩:Dn))).map (·.2))=if(bQ r ((La.modify k fun y=>(y.1,(⟨y.2.step,y.2.saw,t7++⟨#[63]⟩⟩:Dn))).map (·.2))).isSome then some k else none):=zh (by rw[bent_map];exact CK.out _ (bent_ne _));obtain⟨q2,qf⟩:=owns_cell HOw.out (j:=k*3+2) aAM (pT La k _ HY.out).2.2;dsimp only at q2;clear r0 r1 r2 v0 v1 v2 x0 x1 x2;obtain⟨r0,r1,r2⟩:=bD HB.out.r0;obtain⟨v0,v1,v2⟩:=bD HB.out.r1;obtain⟨x0,x1,x2⟩:=bD HB.out.r2;go_wp2_with fail;generalize (w9.setCell ⟨g',k*3+2,none⟩ (.string (t7++⟨#[63]⟩)))=tB at *;generalize hbn:(La.modify k fun y=>(y.1,(⟨y.2.step,y.2.saw,t7++⟨#[63]⟩⟩:Dn)))=Lb at *;clear q2 qf HOw wW OY HDs hbn;obtain⟨q,hq⟩:∃q,(bQ r (Lb.map (·.2))).isSome=q:=⟨_,rfl⟩
      obtain⟨nn,hnn,hnk⟩:∃nn:Int,fiV (nD bC r (Lb.map (·.2)))=.tuple #[.int .i64 nn,.bool q]/\(q=true->nn=(k:Int)):=by
       rw[HWn.out,hq];cases q
       ·exact⟨0,rfl,fun h=>aBx⟩
       exact⟨k,rfl,fun _=>rfl⟩
      have HNk:=zh hnk;have IV:=zh hnn;have HQ:=zh hq;clear hnk hnn hq HWn;refine(wrong_any bC r L Lb _ _ _ tB (HR.out.later HB.out.below) JY.out (HG.out.later HB.out.below) (fun s _ _=>rS s)).mono ?_;rintro e xK ⟨rfl,hb⟩;rw[IV.out]
      replace HB:=zh (HB.out.later hb)
      replace JY:=zh (JY.out.later hb)
      replace xF:=zh (xF.out.later hb)
      clear hb;clear r0 r1 r2 v0 v1 v2 x0 x1 x2;obtain⟨r0,r1,r2⟩:=bD HB.out.r0;obtain⟨v0,v1,v2⟩:=bD HB.out.r1;obtain⟨x0,x1,x2⟩:=bD HB.out.r2;go_wp2_with fail;refine(pO r L Lb _ _ _ xK (HR.out.later HB.out.below) JY.out).mono ?_;rintro e tG ⟨rfl,hb⟩;rw[HQ.out]
      replace HB:=zh (HB.out.later hb)
      replace xF:=zh (xF.out.later hb)
      clear hb;clear r0 r1 r2 v0 v1 v2 x0 x1 x2;obtain⟨r0,r1,r2⟩:=bD HB.out.r0;obtain⟨v0,v1,v2⟩:=bD HB.out.r1;obtain⟨x0,x1,x2⟩:=bD HB.out.r2;go_wp2_with fail;refine(replay_far r L _ _ _ _ _ BY BN ME tG (HR.out.later HB.out.below) (HW.out.later HB.out.below) (HG.out.later HB.out.below) (runL_right xT.out)).mono ?_;rintro e vL ⟨rfl,hb⟩
      replace HB:=zh (HB.out.later hb)
      replace xF:=zh (xF.out.later hb)
      clear hb;clear r0 r1 r2 v0 v1 v2 x0 x1 x2;clear p0 p1 p2;obtain⟨_,_,e9,_,sM⟩:=dns_at xF.out;obtain⟨bl',ol',e2,-,-,p2,-⟩:=sM k _ HY.out;cases e9;cases e2;dsimp only at p2;clear sM
      cases q with
      |false=>
       exact YG
      |true=>
       obtain rfl:=HNk.out rfl;exact YG
    have e0:(ea==0)=false:=aC3;(have e1:(ea != 0)=true:=by rw[bne_iff_ne];exact wY);clear wY;exact YG
end Go.Proofs.YtacgopankhpnbaaGreatDoor
