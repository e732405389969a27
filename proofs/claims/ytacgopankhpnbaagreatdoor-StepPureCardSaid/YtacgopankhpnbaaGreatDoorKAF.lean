/- Texts of this seat, joined. -/
import Derived.Test.YtacgopankhpnbaaGreatDoorKAE
set_option linter.unusedVariables false
set_option linter.unusedSimpArgs false
namespace Go.Proofs.YtacgopankhpnbaaGreatDoor
open Go.RowKit
def pN(N:Nat->Prop)(w:World)(f:Fnc)(cs:List Value):Prop:=∃vp k vf op n s m vn va,cs=[.string f.name,.bool f.pub,vp,.int .i64 k,vf,.int .i64 f.effects,.int .i64 op,.int .i64 n,.string s,.string m,vn,va]/\f.name.size<=8000/\
 aK 3 gP N w vp f.params/\jG N w f.result [.int .i64 k,vf]/\cE N w f.body [.int .i64 op,.int .i64 n,.string s,.string m,vn,va]
theorem cQ:eU pN:=fun _ _ _ _ f cs hm h=>by
 obtain⟨vp,k,vf,op,n,s,m,vn,va,h1,h2,h3,h4,h5⟩:=h;exact⟨vp,k,vf,op,n,s,m,vn,va,h1,h2,h3.moves bA hm vV,fL _ _ _ _ _ _ hm h4,aG _ _ _ _ _ _ hm h5⟩
def dX(S:Nat->Prop)(E:World->Prop):Prop:=∀w w',Off S w w'->E w->E w'
theorem dX.and{S:Nat->Prop}{E F:World->Prop}(h:dX S E)(k:dX S F):dX S fun w=>E w/\F w:=fun _ _ ho hE=>⟨h _ _ ho hE.1,k _ _ ho hE.2⟩
theorem dX.true{S:Nat->Prop}:dX S fun _=>True:=fun _ _ _ _=>trivial
theorem dX.row{α:Type}{k:Nat}{enc:(Nat->Prop)->World->α->List Value->Prop}(he:eU enc)(hk:0<k){S N:Nat->Prop}(hS:∀b,S b->¬N b){v:Value}{l:List α}:dX S fun w=>aK k enc N w v l:=
 fun _ _ ho h=>h.moves he (fun b hb _=>⟨hb,fun _ _ hv=>ho.cell (fun hs=>hS b hs hb) hv⟩) hk
theorem dX.enc{α:Type}{enc:(Nat->Prop)->World->α->List Value->Prop}(he:eU enc){S N:Nat->Prop}(hS:∀b,S b->¬N b){x:α}{cs:List Value}:dX S fun w=>enc N w x cs:=fun _ _ ho h=>he.off h ho hS
structure Mk (T:TypeId) (zero:Array Value) (p:Prs) (O S:Nat->Prop) (W:World) (b5:Nat) (cells:Array Value) (E:World->Prop) (q:Nat) (wr:World):Prop where
 off:Off O W wr
 res:wr.heap[W.heap.size]? =some (.cells zero T)
 loc:wr.heap[b5]? =some (.cells cells T)
 at_:p.At wr q
 enc:E wr
 st:dX (fun b=>S b\/b=b5) E
 hb5:W.heap.size<b5
 sO:∀b,S b->O b\/W.heap.size<b
 s5:¬S b5
 sR:¬S W.heap.size
 sP:S p.pb
section
variable {T:TypeId} {zero cells cells':Array Value} {p:Prs} {O S S':Nat->Prop} {W wr w':World} {b5 q j i0:Nat} {E F:World->Prop}
theorem Mk.next(h:Mk T zero p O S W b5 cells E q wr)(ho:Off S wr w')(ha:p.At w' j):Mk T zero p O S W b5 cells E j w':=
 ⟨Off.fresh ((h.off.or _).trans (ho.mono fun b hb=>(h.sO b hb).elim .inl fun e=>.inr (Nat.le_of_lt e))) (Nat.le_refl _),ho.heap h.sR h.res,ho.heap h.s5 h.loc,ha,h.st _ _ (ho.mono fun b hb=>.inl hb) h.enc,h.st,h.hb5,h.sO,h.s5,h.sR,h.sP⟩
theorem Mk.nextP(h:Mk T zero p O S W b5 cells E q wr)(ho:Off p.S wr w')(ha:p.At w' j):Mk T zero p O S W b5 cells E j w':=h.next (ho.mono fun b hb=>by have hb:b=p.pb:=hb;rw[hb];exact h.sP) ha
theorem Mk.below(h:Mk T zero p O S W b5 cells E q wr)(hb:Below wr.heap.size wr w'):Mk T zero p O S W b5 cells E q w':=h.next (Off.of_below hb) (h.at_.later hb)
theorem Mk.put(h:Mk T zero p O S W b5 cells E q wr)(hW:p.At W i0)(ho:Off (fun b=>b=b5) wr w')(hl:w'.heap[b5]? =some (.cells cells' T)):Mk T zero p O S W b5 cells' E q w':=by
 have h1:=h.hb5;exact⟨Off.fresh ((h.off.or _).trans (ho.mono fun b hb=>.inr (by have hb:b=b5:=hb;omega))) (Nat.le_refl _),ho.heap vT h.res,hl,hW.above h.at_ (ho.mono fun b hb=>by have hb:b=b5:=hb;omega),h.st _ _ (ho.mono fun b hb=>.inr hb) h.enc,h.st,h1,h.sO,h.s5,h.sR,h.sP⟩
theorem Mk.add(h:Mk T zero p O S W b5 cells E q wr)(hF:F wr)(hs:dX (fun b=>S b\/b=b5) F):Mk T zero p O S W b5 cells (fun w=>E w/\F w) q wr:=
 ⟨h.off,h.res,h.loc,h.at_,⟨h.enc,hF⟩,h.st.and hs,h.hb5,h.sO,h.s5,h.sR,h.sP⟩
theorem Mk.shrink(h:Mk T zero p O S W b5 cells E q wr)(hS:∀b,S' b->S b)(hp:S' p.pb):Mk T zero p O S' W b5 cells E q wr:=
 ⟨h.off,h.res,h.loc,h.at_,h.enc,fun w w' ho hE=>h.st w w' (ho.mono fun b hb=>hb.elim (fun e=>.inl (hS b e)) .inr) hE,h.hb5,fun b hb=>h.sO b (hS b hb),fun e=>h.s5 (hS _ e),fun e=>h.sR (hS _ e),hp⟩
theorem Mk.lt(h:Mk T zero p O S W b5 cells E q wr):b5<wr.heap.size:=(Array.getElem?_eq_some_iff.1 h.loc).1
end
theorem lR{w:World}{b:Nat}{x0 x1 x2 x3 x4 x5 x6 x7 x8 x9 x10 x11:Value}{t:TypeId}(h:w.heap[b]? =some (.cells #[x0,x1,x2,x3,x4,x5,x6,x7,x8,x9,x10,x11] t)):
  (w.cell? ⟨b,0,none⟩=some x0/\w.cell? ⟨b,1,none⟩=some x1/\w.cell? ⟨b,2,none⟩=some x2/\w.cell? ⟨b,3,none⟩=some x3/\w.cell? ⟨b,4,none⟩=some x4/\w.cell? ⟨b,5,none⟩=some x5/\w.cell? ⟨b,6,none⟩=some x6/\w.cell? ⟨b,7,none⟩=some x7/\w.cell? ⟨b,8,none⟩=some x8/\w.cell? ⟨b,9,none⟩=some x9/\w.cell? ⟨b,10,none⟩=some x10/\w.cell? ⟨b,11,none⟩=some x11)/\
  (w.frozen? ⟨b,0,none⟩=false/\w.frozen? ⟨b,1,none⟩=false/\w.frozen? ⟨b,2,none⟩=false/\w.frozen? ⟨b,3,none⟩=false/\w.frozen? ⟨b,4,none⟩=false/\w.frozen? ⟨b,5,none⟩=false/\w.frozen? ⟨b,6,none⟩=false/\w.frozen? ⟨b,7,none⟩=false/\w.frozen? ⟨b,8,none⟩=false/\w.frozen? ⟨b,9,none⟩=false/\w.frozen? ⟨b,10,none⟩=false/\w.frozen? ⟨b,11,none⟩=false):=
 ⟨⟨(bx h 0 rfl).1,(bx h 1 rfl).1,(bx h 2 rfl).1,(bx h 3 rfl).1,(bx h 4 rfl).1,(bx h 5 rfl).1,(bx h 6 rfl).1,(bx h 7 rfl).1,(bx h 8 rfl).1,(bx h 9 rfl).1,(bx h 10 rfl).1,(bx h 11 rfl).1⟩,(bx h 0 (u:=x0) rfl).2,(bx h 1 (u:=x1) rfl).2,(bx h 2 (u:=x2) rfl).2,(bx h 3 (u:=x3) rfl).2,(bx h 4 (u:=x4) rfl).2,(bx h 5 (u:=x5) rfl).2,(bx h 6 (u:=x6) rfl).2,(bx h 7 (u:=x7) rfl).2,(bx h 8 (u:=x8) rfl).2,(bx h 9 (u:=x9) rfl).2,(bx h 10 (u:=x10) rfl).2,(bx h 11 (u:=x11) rfl).2⟩
abbrev kW:Array Value:=#[.string ⟨#[]⟩,.bool false,.slice none 0 0,.int .i64 0,.slice none 0 0,.int .i64 0,.int .i64 0,.int .i64 0,.string ⟨#[]⟩,.string ⟨#[]⟩,.slice none 0 0,.slice none 0 0]
theorem stbl_S{p:Prs}{b5:Nat}{N:Nat->Prop}(h:∀b,N b->b≠p.pb/\b≠b5):∀b,(p.S b\/b=b5)->¬N b:=fun b hb hn=>hb.elim (fun e=>(h b hn).1 e) (fun e=>(h b hn).2 e)
def set12(w:World)(b:Nat)(x0 x1 x2 x3 x4 x5 x6 x7 x8 x9 x10 x11:Value):World:=
 (((((((((((w.setCell ⟨b,0,none⟩ x0).setCell ⟨b,1,none⟩ x1).setCell ⟨b,2,none⟩ x2).setCell ⟨b,3,none⟩ x3).setCell ⟨b,4,none⟩ x4).setCell ⟨b,5,none⟩ x5).setCell ⟨b,6,none⟩ x6).setCell ⟨b,7,none⟩ x7).setCell ⟨b,8,none⟩ x8).setCell ⟨b,9,none⟩ x9).setCell ⟨b,10,none⟩ x10).setCell ⟨b,11,none⟩ x11
theorem Off.one{w w':World}{b o:Nat}{v:Value}(h:Off (fun k=>k=b) w w'):Off (fun k=>k=b) w (w'.setCell ⟨b,o,none⟩ v):=h.trans (Off.setCell (S:=fun k=>k=b) _ rfl)
theorem set12_off(w:World)(b:Nat)(x0 x1 x2 x3 x4 x5 x6 x7 x8 x9 x10 x11:Value):Off (fun k=>k=b) w (set12 w b x0 x1 x2 x3 x4 x5 x6 x7 x8 x9 x10 x11):=by
 unfold set12;exact(Off.refl _ _).one.one.one.one.one.one.one.one.one.one.one.one
theorem dX.cells{S:Nat->Prop}{g n:Nat}{f:Nat->Value}(hS:¬S g):dX S fun W=>∀j,j<n->W.cell? ⟨g,0+j,none⟩=some (f j):=fun _ _ ho hw j hj=>ho.cell hS (hw j hj)
theorem dX.map{S:Nat->Prop}{km n:Nat}{m:ByteArray->Option Bool}(hS:¬S km):dX S fun w=>bD eZ dO w km n m:=fun _ _ ho h=>h.of_block (ho.block km h.lt hS)
theorem Mk.done{T:TypeId}{zero cells:Array Value}{p:Prs}{O S:Nat->Prop}{W wr w':World}{b5 q i0:Nat}{E:World->Prop}(h:Mk T zero p O S W b5 cells E q wr)(hW:p.At W i0)(ho:Off (fun b=>b=W.heap.size) wr w')(hE:dX (fun b=>b=W.heap.size) E):E w'/\p.At w' q/\Off O W w':=
 ⟨hE _ _ ho h.enc,hW.above h.at_ (ho.mono fun b hb=>by have hb:b=W.heap.size:=hb;omega),Off.fresh ((h.off.or _).trans (ho.mono fun b hb=>.inr (Nat.le_of_eq (Eq.symm hb)))) (Nat.le_refl _)⟩
end Go.Proofs.YtacgopankhpnbaaGreatDoor
namespace Go.Proofs.YtacgopankhpnbaaGreatDoor
set_option maxHeartbeats 8000000
set_option maxRecDepth 100000
open Go.RowKit
theorem fields_any(p:Prs)(most:Nat)(hmost:most<=8)(w:World)(i:Nat)(h:p.At w i):Calls Tryz.prog 142 #[.pointer (some ⟨p.pb,0,none⟩),.int .i64 (most:Int)] w
  (Ran p.S w (kS p.l most i) (RowV p 3 gP w i)):=by
 obtain⟨i0,hi0,hz0,hz1,hz2⟩:=info_parts fldInfo;have HW:=zh h;have hmm:=@run_makeMap Tryz.prog;have hlen:=h.len;have hg11:=h.glob.big;have HWt:=zh (dF p w i cO h);have HR:Hid (kS p.l most i=(dM p.l i cO).bnd fun _ j=>if isP p.l j lL then .ok ([],j+1) else eI p.l most (p.l.length+1) [] j):=zh rfl;clear h;go_enter Tryz.func142,Tryz.ntmps142;go_wp2_with(first|(go_at_call 141;refine(nP p w1 j lL ha1).mono ?_;rintro e w2 ⟨rfl,ha2,ho2⟩)|(go_at_call 131;refine HWt.out.mono ?_;rintro e w1 (⟨x,hx,rfl,ho1⟩|⟨⟨⟩,j,hx,⟨rfl,ha1⟩,ho1⟩)))
 ·exact vP
 ·exact uF
 ·rename_i hq;have hj:=(cX hx).1;rw[if_neg zY] at ha2;have HR2:=zh (HR.out.trans ((PR.bnd_ok hx).trans (if_neg zY)));have hz1:=ho1.size;have hz2':=ho2.size;have HLs:Hid (GrL 3 184 gP p w [] [] (.slice none 0 0) j (w2.alloc (.map #[] 0))):=zh ⟨(ho1.trans ho2).trans (Off.of_below (aA _ _)),Gro.first_at _ _ _ wQ,ha2.later (aA _ _)⟩;have HM0:Hid (bD eZ dO (w2.alloc (.map #[] 0)) w2.heap.size 0 (eK fun s=>([]:List Fld).any fun x=>decide (x.1=s))):=zh ((bD.made w2).ext fun _=>rfl);have hk11:11<=w2.heap.size:=vT;have hkw:w.heap.size<=w2.heap.size:=vT;have HJ0:=zh hj;clear hmm ho1 ho2 ha1 ha2 hx hq HWt HR hz1 hz2' hj;generalize w2.heap.size=km at *;go_loopw [5] (fun v wr=>∃(a:Option Addr)(c q F:Nat)(fs:List Fld)(css:List (List Value)),v=.slice a fs.length c/\Hid (GrL 3 184 gP p w fs css v q wr)/\Hid (bD eZ dO wr km fs.length (eK fun s=>fs.any fun x=>decide (x.1=s)))/\Hid (kS p.l most i=eI p.l most (F+1) fs q)/\Hid (p.l.length<=F+q/\i<=q/\fs.length<=most)) (fun _ wr=>p.l.length-posOf wr p.pb)
  case atStart=>exact⟨none,0,j,p.l.length,[],[],rfl,HLs,HM0,HR2,zh ⟨vT,by have:=HJ0.out;omega,Nat.zero_le _⟩⟩
  case round=>
   obtain⟨a,c,q,F,fs,css,rfl,HL,HM,HSp,HB⟩:=hrel;(rename World=>wr);have hq1:=HB.out.1;have hq2:=HB.out.2.1;(have hq3:fs.length<=8:=by have:=HB.out.2.2;omega);have hql:=HL.out.at_.lt
   cases hqn:dJ p.l q with
   |false=>
    as_aux_lemma=>
     go_wp2_with(first|(go_at_call 135;refine(nX p w5 q km fs.length _ HL5.out.at_ HM5.out hk11 vT).mono ?_;rintro e w6 (⟨x,hx,rfl,ho6⟩|⟨s,j6,hx,⟨rfl,ha6,hm6,hs6⟩,ho6⟩))|(go_at_call 185;refine(iP p wr q HL.out.at_).mono ?_;rintro e w5 ⟨rfl,hb5⟩;rw[hqn];have HL5:=zh (HL.out.next bA HW.out (Off.of_below hb5) (HL.out.at_.later hb5));have HM5:=zh (HM.out.later hb5)))
     ·exact⟨rfl,Ran.bad' (by have e:=(freshP_noname hqn).symm.trans hx;cases e;exact HSp.out.trans (pM hqn)) (off_S2 HL5.out.off ho6 hkw)⟩
     ·rw[freshP_noname hqn] at hx;cases hx
   |true=>
    as_aux_lemma=>
     go_wp2_with(first|(at_builtin;have O9:Off p.S w6 (((w7.setCell ⟨w6.heap.size,1,none⟩ (.int .i64 k)).setCell ⟨w6.heap.size,2,none⟩ (.slice sa sn sc)).alloc (.cells #[.string s,.int .i64 k,.slice sa sn sc] 184)):=Off.fresh (((Off.of_below (S:=p.S) (aA w6 (.cells #[.string s,.int .i64 0,.slice none 0 0] 184))).trans ho7).or w6.heap.size |>.trans (((Off.setCell (S:=fun b=>p.S b\/w6.heap.size<=b) w7 (.inr (Nat.le_refl _))).trans (Off.setCell (S:=fun b=>p.S b\/w6.heap.size<=b) _ (.inr (Nat.le_refl _)))).trans (Off.of_below (aA _ _)))) (Nat.le_refl _);have A9:=HL6.out.acc.stays bA (dK.of_off O9 fun b hb=>.inl xS);have hbig9:=A9.big;have hown9:=A9.own;refine wpList_append_lies _ rfl _ _ 126 rfl w.heap.size 184 i0 (.agg #[.string ByteArray.empty,.int .i64 0,.slice none 0 0]) 3 48 Tryz.underlying126 hi0 hz0 hz1 hz2 rfl vT (.slice a fs.length c) fs.length css.flatten xK (by simpa using hown9) ⟨w7.heap.size,0,none⟩ 1 1 [.string s,.int .i64 k,.slice sa sn sc] xK rfl (World.news_of_block (cs:=#[.string s,.int .i64 k,.slice sa sn sc]) (t:=184) (fr:=(0,0)) (by simpa using heap_alloc_new ((w7.setCell ⟨w6.heap.size,1,none⟩ (.int .i64 k)).setCell ⟨w6.heap.size,2,none⟩ (.slice sa sn sc)) (.cells #[.string s,.int .i64 k,.slice sa sn sc] 184))) wN vT wK vT (by simpa using hbig9) (w7.heap.size+1) vZ ?_)|(go_at_call 136;refine(typed_any p (w6.alloc (.cells #[.string s,.int .i64 0,.slice none 0 0] 184)) j6 (ha6.later (aA _ _))).mono ?_;rintro e w7 (⟨x2,hx2,rfl,ho7⟩|⟨t,j2,hx2,⟨k,sa,sn,sc,rfl,het,ha7,hlt7⟩,ho7⟩)<;>have hf7:=zh (ho7.heap (fun e=>zM) (heap_alloc_new w6 (.cells #[.string s,.int .i64 0,.slice none 0 0] 184)))<;>obtain⟨d0,d1,d2,e0,e1,e2⟩:=bxT3 hf7.out)|(go_at_call 135;refine(nX p w5 q km fs.length _ HL5.out.at_ HM5.out hk11 vT).mono ?_;rintro e w6 (⟨x,hx,rfl,ho6⟩|⟨s,j6,hx,⟨rfl,ha6,hm6,hs6⟩,ho6⟩)<;>first|(have HL6:=zh (HL5.out.fresh bA HW.out (dE.of HM5.out) hkw ho6 ha6))|skip)|(go_at_call 144;refine(fS p w5 q _ _ HL5.out.at_).mono ?_;rintro e w5' (⟨he5,rfl,rfl⟩|⟨he5,rfl,hb5'⟩))|(go_at_call 185;refine(iP p wr q HL.out.at_).mono ?_;rintro e w5 ⟨rfl,hb5⟩;rw[hqn];have HL5:=zh (HL.out.next bA HW.out (Off.of_below hb5) (HL.out.at_.later hb5));have HM5:=zh (HM.out.later hb5)))
     ·(have hlm:fs.length<most:=by simp at he5;omega);exact⟨rfl,Ran.bad' (HSp.out.trans ((kT hqn hlm).trans (PR.bnd_bad hx))) (off_S2 HL5.out.off ho6 hkw)⟩
     ·(have hlm:fs.length<most:=by simp at he5;omega);exact⟨rfl,Ran.bad' (HSp.out.trans ((kT hqn hlm).trans ((PR.bnd_ok hx).trans (PR.bnd_bad hx2)))) (HL6.out.off.trans ((Off.of_below (aA _ _)).trans ho7))⟩
     ·(have hlm:fs.length<most:=by simp at he5;omega);intro g' cap' w10 hown hgrow hat _;obtain⟨hL10,het10,hf10,o10⟩:=HL6.out.field HW.out ho7 ha7 het hs6 hown rfl hgrow hat;obtain⟨q0,q1,q2,r0,r1,r2⟩:=bxT3 hf10;have HL10:=zh hL10;have hm7:=map_off (ha6.later (aA _ _)) (hm6.later (aA w6 (.cells #[.string s,.int .i64 0,.slice none 0 0] 184))) ho7
      have HM10:=zh ((hm7.of_block (o10.block km hm7.lt (by
       rintro(e|e)
       ·have:=hm6.lt;omega
       ·exact HL6.out.acc.nemap (dE.of hm6) e))).ext fun z=>congrFun (any_push fs s t) z)
      have hj6:=qN hx;have HSp1:=zh (HSp.out.trans ((kT hqn hlm).trans ((PR.bnd_ok hx).trans (PR.bnd_ok hx2))));have HMr:=zh (more_any p w10 j2 _ t k _ lL hL10.at_ het10 (by have:=mO hx2;omega));have HJ:Hid (i<=j2):=zh vT;clear hown hgrow hat hL10 het10 hf10 o10 hm7 het ha7 ho7 hf7 O9 A9 hbig9 hown9 d0 d1 d2 e0 e1 e2 hx hx2 HL5 HM5 HL6 hm6 ha6 ho6;go_wp2_with(go_at_call 187;refine HMr.out.mono ?_;rintro e w12 (⟨x3,hx3,rfl,ho12⟩|⟨bb,j3,hx3,⟨rfl,ha12⟩,ho12⟩))
      ·exact⟨rfl,Ran.bad' (HSp1.out.trans (PR.bnd_bad hx3)) (HL10.out.off.trans ho12)⟩
      ·rename_i hbb;subst hbb;have hR:=HSp1.out.trans ((PR.bnd_ok hx3).trans (if_pos rfl));have hj3:=qK hx3;have HL12:=zh (HL10.out.next bA HW.out ho12 ha12);go_ret;exact Ran.good hR ⟨_,_,_,rfl,by simpa using HL12.out.acc.row bA,ha12,by have:=HJ.out;omega⟩ HL12.out.off
      ·rename_i hbb;subst hbb;have hR:=HSp1.out.trans ((PR.bnd_ok hx3).trans (if_neg vZ));have hj3:=qK hx3;have HL12:=zh (HL10.out.next bA HW.out ho12 ha12);have HM12:=zh (map_off HL10.out.at_ HM10.out ho12);have hlt12:=ha12.lt;have hjj:=HJ.out;obtain⟨F',hF'⟩:∃F',F=F'+1:=⟨F-1,vT⟩;have HR':=zh hR;have HLm:=zh hlm;clear hR hlm ha12 ho12 hx3;go_roundw
       case rel=>
        subst hF';exact⟨some ⟨g',0,none⟩,cap',j3,F',fs++[(s,t)],_,vZ,HL12,by simpa using HM12,HR',zh ⟨vT,vT,by have:=HLm.out;simp;omega⟩⟩
       case measure=>
        rw[HL12.out.at_.pos,HL.out.at_.pos];omega
     ·(have hlm:¬fs.length<most:=by simp at he5;omega);exact⟨rfl,Ran.bad (HSp.out.trans (fieldsFrom_full hqn hlm)) (HL5.out.off.trans (Off.of_below hb5'))⟩
set_option maxHeartbeats 16000000
theorem rJ{p:Prop}(h:p:=by
 refine hK.out _ _ trivial (fun hS=>?_);clear hK K;try simp only[zn]
 refine zt 4 (.int .i64 ((en:Int)+2 ^ kk)) rfl (fun W hW=>by go_simp;exact bits_or hlt hen) hS ?_;try simp only[zn]
 refine zt 5 (.pointer (some ⟨b5,5,none⟩)) rfl (fun W hW=>vW) hS ?_;try simp only[zn]
 refine zr 6 rfl (fun K hK=>?_);try simp only[z1,z2,z3]
 obtain⟨⟨c0,c1,c2,c3,c4,c5,c6,c7,c8,c9,c10,c11⟩,f0,f1,f2,f3,f4,f5,f6,f7,f8,f9,f10,f11⟩:=lR HS14.out.loc;go_simp;clear c0 c1 c2 c3 c4 c5 c6 c7 c8 c9 c10 c11 f0 f1 f2 f3 f4 f5 f6 f7 f8 f9 f10 f11;refine hK.out _ _ trivial (fun hS=>?_);clear hK K;try simp only[zn]
 refine wpAnyH_done vU ?_ _;clear hS;have HS15:Hid (Mk 179 kW p (p.S2 km) p.S w b5 #[.string nm,.bool pub,.slice pa pn pc,.int .i64 k,.slice sa sn sc,.int .i64 ((en+2 ^ kk:Nat):Int),.int .i64 0,.int .i64 0,.string ⟨#[]⟩,.string ⟨#[]⟩,.slice none 0 0,.slice none 0 0] (fun W=>(((True/\(fun W=>bD eZ dO W km (n+1) (eK fun z=>decide (z=nm)||aO z)) W)/\(fun W=>aK 3 gP (fun b=>w.heap.size<b/\b≠b5/\b≠km) W (.slice pa pn pc) ps) W)/\(fun W=>jG (fun b=>w.heap.size<b/\b≠b5/\b≠km) W t [.int .i64 k,.slice sa sn sc]) W)/\(fun W=>∀j,j<bY.length->W.cell? ⟨g,0+j,none⟩=some (.string (bY.getD j ByteArray.empty))) W) (q+1) (w14.setCell ⟨b5,5,none⟩ (.int .i64 ((en:Int)+2 ^ kk)))):=zh (HS14.out.put HW.out (Off.setCell (S:=fun b=>b=b5) w14 rfl) (by rw[aU HS14.out.loc,pow_cast];rfl));have HSp2:Hid (eO p.l gU 0 i10=eO p.l (gU.drop (kk+1)) ((en+2 ^ kk:Nat):Int) (q+1)):=zh (by rw[HSp.out,HStep.out,hq,HBit.out,if_pos rfl];rfl);have HJ2:Hid (i10<=q+1):=zh (by have:=HJ.out;omega);have HE2:Hid (en+2 ^ kk<2 ^ (kk+1)):=zh (by rw[Nat.pow_succ];omega);generalize w14.setCell ⟨b5,5,none⟩ (.int .i64 ((en:Int)+2 ^ kk))=w15 at *;go_wp2_with fail;go_roundw;case rel=>exact⟨kk+1,q+1,en+2 ^ kk,vT,wH,HE2,HS15,HSp2,HJ2⟩
 case measure=>simp[intOf];omega):p:=h
theorem tP{p:Prop}(h:p:=by
 exact Ran.good (HR20.out.trans (PR.bnd_ok hx21)) ⟨pa,pn,pc,k,sa,sn,sc,op,n1,s1,m1,a1,m2,qa,a2,m3,qb,rfl,cQ.wide ⟨_,_,_,_,_,_,_,_,_,rfl,hsz,hrow,hty,hbd⟩ (fun b hb _=>Nat.le_of_lt hb.1),hat,by have:=HIq.out;omega,hmap⟩ hoff):p:=h
theorem vQ{p:Prop}(h:p:=by
 exact⟨rfl,Ran.bad' (HR20.out.trans (PR.bnd_bad hx21)) (HS20.out.off.trans (ho21.mono fun _ h=>.inl h))⟩):p:=h
def FnV(p:Prs)(w:World)(km n:Nat)(aO:ByteArray->Bool)(i:Nat)(f:Fnc)(j:Nat)(e:Ending)(w':World):Prop:=
 ∃pa pn pc k sa sn sc op n1 s1 m1 a1 m2 c1 a2 m3 c2,e=.returned (.agg #[.string f.name,.bool f.pub,.slice pa pn pc,.int .i64 k,.slice sa sn sc,.int .i64 f.effects,.int .i64 op,.int .i64 n1,.string s1,.string m1,.slice a1 m2 c1,.slice a2 m3 c2])/\
  pN (bP w.heap.size) w' f [.string f.name,.bool f.pub,.slice pa pn pc,.int .i64 k,.slice sa sn sc,.int .i64 f.effects,.int .i64 op,.int .i64 n1,.string s1,.string m1,.slice a1 m2 c1,.slice a2 m3 c2]/\p.At w' j/\i<j/\bD eZ dO w' km (n+1) (eK fun z=>decide (z=f.name)||aO z)
theorem effectL_at{l:List Tok}{k:Nat}(hk:k<4){n:Int}{q:Nat}:eO l (gU.drop k) n q=if isP l q (bY.getD k ByteArray.empty) then eO l (gU.drop (k+1)) (n+dH (bY.getD k ByteArray.empty)) (q+1) else eO l (gU.drop (k+1)) n q:=by
 match k,hk with
 |0,_=>rfl
 |1,_=>rfl
 |2,_=>rfl
 |3,_=>rfl
section
variable {l:List Tok} {i j q:Nat} {fits:Bool} {en:Int}
theorem bang_no(h:isP l i qL=false):bangP l i fits=.ok ((0,fits),i):=by unfold bangP;rw[if_neg (by rw[h];simp)]
theorem bang_bad(h:isP l i qL=true){x:Int×Int}(he:nE l i fits qL=.error x):bangP l i fits=.error x:=by unfold bangP;rw[if_pos h,he];rfl
theorem bang_yes(h:isP l i qL=true)(he:nE l i fits qL=.ok ((),j))(hf:eO l gU 0 j=(en,q))(hn:¬en=0):bangP l i fits=.ok ((en,true),q):=by unfold bangP;rw[if_pos h,he];simp only[PR.bnd,hf];rw[if_pos hn]
theorem bang_zero(h:isP l i qL=true)(he:nE l i fits qL=.ok ((),j))(hf:eO l gU 0 j=(en,q))(hn:en=0):bangP l i fits=.error ((aH l q).pos,11):=by unfold bangP;rw[if_pos h,he];simp only[PR.bnd,hf];rw[if_neg (by simp[hn])];rfl
end
theorem bit_pow{k:Nat}(hk:k<4):dH (bY.getD k ByteArray.empty)=((2 ^ k:Nat):Int):=by
 match k,hk with
 |0,_=>rfl
 |1,_=>rfl
 |2,_=>rfl
 |3,_=>rfl
theorem pow_cast(en k:Nat):((en+2 ^ k:Nat):Int)=(en:Int)+2 ^ k:=vZ
theorem bits_or{k en:Nat}(hk:k<4)(he:en<2 ^ k):bits BinOp.or IntKind.i64 (en:Int) (2 ^ k)=(en:Int)+2 ^ k:=by
 match k,hk with
 |0,_=>match en,he with|0,_=>decide
 |1,_=>match en,he with|0,_=>decide|1,_=>decide
 |2,_=>match en,he with|0,_=>decide|1,_=>decide|2,_=>decide|3,_=>decide
 |3,_=>match en,he with|0,_=>decide|1,_=>decide|2,_=>decide|3,_=>decide|4,_=>decide|5,_=>decide|6,_=>decide|7,_=>decide
theorem function_any(p:Prs)(hX:ExpAll p)(w:World)(i km n:Nat)(aO:ByteArray->Bool)(h:p.At w i)(hm:bD eZ dO w km n (eK aO))(hk:11<=km)(hn:n<1000000):
  Calls Tryz.prog 140 #[.pointer (some ⟨p.pb,0,none⟩),.map (some km)] w (Ran (p.S2 km) w (nW p.l i aO) (FnV p w km n aO i)):=by
 have HW:=zh h;have HX:=zh hX;have HM0:=zh hm;have hlen:=h.len;have hkm:km<w.heap.size:=hm.lt;have hpb:=h.blt;have hnm:=(h.nemap (dE.of hm)).1;have hi1:i<=(if isP p.l i kPub=true then i+1 else i):=by split<;>omega
 have HR:Hid (nW p.l i aO=(dM p.l (if isP p.l i kPub=true then i+1 else i) kFn).bnd fun _ j=>(iQ p.l j aO).bnd fun name j2=>(kS p.l 6 j2).bnd fun ps j3=>(lG p.l j3).bnd fun t j4=>(bangP p.l j4 (decide (cF t<=4))).bnd fun ef j5=>
  (nE p.l j5 ef.2 kEq).bnd fun _ j6=>(nB p.l j6 lM).bnd fun e j7=>.ok (⟨name,isP p.l i kPub,ps,t,ef.1,e⟩,j7)):=zh rfl
 clear h hX hm;go_enter Tryz.func140,Tryz.ntmps140;go_wp2_with(go_at_call 141;refine(nP p (w.alloc (.cells kW 179)) i kPub (HW.out.later (aA _ _))).mono ?_;rintro e w2 ⟨rfl,ha2,ho2⟩);have hz2:=ho2.size;have hz1:(w.alloc (.cells kW 179)).heap.size=w.heap.size+1:=vZ;generalize (if isP p.l i kPub=true then i+1 else i)=i1 at *;generalize isP p.l i kPub=pub at *;have HL3:Hid (Mk 179 kW p (p.S2 km) (p.S2 km) w w2.heap.size #[.string ⟨#[]⟩,.bool pub,.slice none 0 0,.int .i64 0,.slice none 0 0,.int .i64 0,.int .i64 0,.int .i64 0,.string ⟨#[]⟩,.string ⟨#[]⟩,.slice none 0 0,.slice none 0 0] (fun _=>True) i1 (w2.alloc (.cells #[.string ⟨#[]⟩,.bool pub,.slice none 0 0,.int .i64 0,.slice none 0 0,.int .i64 0,.int .i64 0,.int .i64 0,.string ⟨#[]⟩,.string ⟨#[]⟩,.slice none 0 0,.slice none 0 0] 179))):=zh ⟨((Off.of_below (aA w (.cells kW 179))).trans ((ho2.mono fun _ hb=>.inl hb).trans (Off.of_below (aA w2 _)))),aD (aA w2 _) (ho2.heap (by show ¬w.heap.size=p.pb;omega) (heap_alloc_new w (.cells kW 179))),heap_alloc_new w2 _,ha2.later (aA w2 _),trivial,dX.true,vT,fun b hb=>.inl hb,fun e=>wP,fun e=>wP,.inl rfl⟩;have HM3:Hid (bD eZ dO (w2.alloc (.cells #[.string ⟨#[]⟩,.bool pub,.slice none 0 0,.int .i64 0,.slice none 0 0,.int .i64 0,.int .i64 0,.int .i64 0,.string ⟨#[]⟩,.string ⟨#[]⟩,.slice none 0 0,.slice none 0 0] 179)) km n (eK aO)):=zh ((map_off (HW.out.later (aA _ _)) (HM0.out.later (aA w (.cells kW 179))) ho2).later (aA w2 _));have hb5w:w.heap.size<w2.heap.size:=vT;clear ha2 ho2 HM0;generalize w2.heap.size=b5 at *;generalize w2.alloc (.cells #[.string ⟨#[]⟩,.bool pub,.slice none 0 0,.int .i64 0,.slice none 0 0,.int .i64 0,.int .i64 0,.int .i64 0,.string ⟨#[]⟩,.string ⟨#[]⟩,.slice none 0 0,.slice none 0 0] 179)=w3 at *;have hnb5:¬km=b5:=vT;have hnb6:¬b5=km:=vT;clear hz1 hz2;go_wp2_with(go_at_call 131;refine(dF p w3 i1 kFn HL3.out.at_).mono ?_;rintro e w4 (⟨x4,hx4,rfl,ho4⟩|⟨⟨⟩,i4,hx4,⟨rfl,ha4⟩,ho4⟩))
 ·exact⟨rfl,Ran.bad' (HR.out.trans (PR.bnd_bad hx4)) (HL3.out.off.trans (ho4.mono fun _ h=>.inl h))⟩
 have HL4:=zh (HL3.out.nextP ho4 ha4);have HM4:=zh (map_off HL3.out.at_ HM3.out ho4);have HR4:=zh (HR.out.trans (PR.bnd_ok hx4));have hi4:=(cX hx4).1;have HI4:Hid (i<i4):=zh vT;clear hx4 ho4 ha4 HL3 HM3 HR hi4 hi1;go_wp2_with(go_at_call 135;refine(nX p w4 i4 km n aO HL4.out.at_ HM4.out hk hn).mono ?_;rintro e w5 (⟨x5,hx5,rfl,ho5⟩|⟨nm,i5,hx5,⟨rfl,ha5,hm5,hsz⟩,ho5⟩)<;>first|(have HL5:=zh (HL4.out.next ho5 ha5);obtain⟨⟨c0,c1,c2,c3,c4,c5,c6,c7,c8,c9,c10,c11⟩,f0,f1,f2,f3,f4,f5,f6,f7,f8,f9,f10,f11⟩:=lR HL5.out.loc)|skip)
 ·exact⟨rfl,Ran.bad' (HR4.out.trans (PR.bnd_bad hx5)) (HL4.out.off.trans ho5)⟩
 have HR5:=zh (HR4.out.trans (PR.bnd_ok hx5));have hi5:=qN hx5;have HI5:Hid (i<i5):=zh (by have:=HI4.out;omega);clear c0 c1 c2 c3 c4 c5 c6 c7 c8 c9 c10 c11 f0 f1 f2 f3 f4 f5 f6 f7 f8 f9 f10 f11;have HS5:Hid (Mk 179 kW p (p.S2 km) p.S w b5 #[.string nm,.bool pub,.slice none 0 0,.int .i64 0,.slice none 0 0,.int .i64 0,.int .i64 0,.int .i64 0,.string ⟨#[]⟩,.string ⟨#[]⟩,.slice none 0 0,.slice none 0 0] (fun W=>True/\(fun W=>bD eZ dO W km (n+1) (eK fun z=>decide (z=nm)||aO z)) W) i5 (w5.setCell ⟨b5,0,none⟩ (.string nm))):=zh ((((HL5.out.put HW.out (cells':=#[.string nm,.bool pub,.slice none 0 0,.int .i64 0,.slice none 0 0,.int .i64 0,.int .i64 0,.int .i64 0,.string ⟨#[]⟩,.string ⟨#[]⟩,.slice none 0 0,.slice none 0 0]) (Off.setCell (S:=fun b=>b=b5) w5 rfl) (by rw[aU HL5.out.loc];rfl)).shrink (S':=p.S) (fun b hb=>.inl hb) rfl)).add (F:=(fun W=>bD eZ dO W km (n+1) (eK fun z=>decide (z=nm)||aO z))) (hm5.setCell hnb5 _) (dX.map (fun e=>Or.elim e hnm hnb5)));clear hx5 ho5 ha5 hm5 HL4 HM4 HR4 HL5 hi5 HI4;generalize w5.setCell ⟨b5,0,none⟩ (.string nm)=w5' at *;go_wp2_with(go_at_call 142;refine(fields_any p 6 vV w5' i5 HS5.out.at_).mono ?_;rintro e w6 (⟨x6,hx6,rfl,ho6⟩|⟨ps,i6,hx6,⟨pa,pn,pc,rfl,hps,ha6,hij6⟩,ho6⟩)<;>first|(have HL6:=zh (HS5.out.nextP ho6 ha6);obtain⟨⟨c0,c1,c2,c3,c4,c5,c6,c7,c8,c9,c10,c11⟩,f0,f1,f2,f3,f4,f5,f6,f7,f8,f9,f10,f11⟩:=lR HL6.out.loc)|skip)
 ·exact⟨rfl,Ran.bad' (HR5.out.trans (PR.bnd_bad hx6)) (HS5.out.off.trans (ho6.mono fun _ h=>.inl h))⟩
 have HR6:=zh (HR5.out.trans (PR.bnd_ok hx6));have HI6:Hid (i<i6):=zh (by have:=HI5.out;omega);clear c0 c1 c2 c3 c4 c5 c6 c7 c8 c9 c10 c11 f0 f1 f2 f3 f4 f5 f6 f7 f8 f9 f10 f11;have hF6:aK 3 gP (fun b=>w.heap.size<b/\b≠b5/\b≠km) w6 (.slice pa pn pc) ps:=hps.moves bA (fun b hb _=>⟨by have hb:w5'.heap.size<=b:=hb;have:=HS5.out.lt;exact⟨vT,vT,vT⟩,fun _ _ h=>h⟩) vV;have HS6:Hid (Mk 179 kW p (p.S2 km) p.S w b5 #[.string nm,.bool pub,.slice pa pn pc,.int .i64 0,.slice none 0 0,.int .i64 0,.int .i64 0,.int .i64 0,.string ⟨#[]⟩,.string ⟨#[]⟩,.slice none 0 0,.slice none 0 0] (fun W=>(True/\(fun W=>bD eZ dO W km (n+1) (eK fun z=>decide (z=nm)||aO z)) W)/\(fun W=>aK 3 gP (fun b=>w.heap.size<b/\b≠b5/\b≠km) W (.slice pa pn pc) ps) W) i6 (w6.setCell ⟨b5,2,none⟩ (.slice pa pn pc))):=zh ((HL6.out.add (F:=(fun W=>aK 3 gP (fun b=>w.heap.size<b/\b≠b5/\b≠km) W (.slice pa pn pc) ps)) hF6 (dX.row bA vV (stbl_S fun b hb=>⟨fun e=>by have:=hb.1;omega,hb.2.1⟩))).put HW.out (cells':=#[.string nm,.bool pub,.slice pa pn pc,.int .i64 0,.slice none 0 0,.int .i64 0,.int .i64 0,.int .i64 0,.string ⟨#[]⟩,.string ⟨#[]⟩,.slice none 0 0,.slice none 0 0]) (Off.setCell (S:=fun b=>b=b5) w6 rfl) (by rw[aU HL6.out.loc];rfl));clear hx6 ho6 ha6 hps hF6 HR5 HL6 HI5 hij6 HS5;generalize w6.setCell ⟨b5,2,none⟩ (.slice pa pn pc)=w6' at *;go_wp2_with(go_at_call 136;refine(typed_any p w6' i6 HS6.out.at_).mono ?_;rintro e w7 (⟨x7,hx7,rfl,ho7⟩|⟨t,i7,hx7,⟨k,sa,sn,sc,rfl,het,ha7,hlt7⟩,ho7⟩)<;>first|(have HL7:=zh (HS6.out.nextP ho7 ha7);obtain⟨⟨c0,c1,c2,c3,c4,c5,c6,c7,c8,c9,c10,c11⟩,f0,f1,f2,f3,f4,f5,f6,f7,f8,f9,f10,f11⟩:=lR HL7.out.loc)|skip)
 ·exact⟨rfl,Ran.bad' (HR6.out.trans (PR.bnd_bad hx7)) (HS6.out.off.trans (ho7.mono fun _ h=>.inl h))⟩
 have HR7:=zh (HR6.out.trans (PR.bnd_ok hx7));have HI7:Hid (i<i7):=zh (by have:=HI6.out;omega);have HLv:Hid (cF t<=9000000000000000000):=zh (by have:=mO hx7;omega);have hF7:jG (fun b=>w.heap.size<b/\b≠b5/\b≠km) w7 t [.int .i64 k,.slice sa sn sc]:=fL.wide het (fun b hb _=>by have hb:w6'.heap.size<=b:=hb;have:=HS6.out.lt;exact⟨vT,vT,vT⟩);clear c0 c1 c2 c3 c4 c5 c6 c7 c8 c9 c10 c11 f0 f1 f2 f3 f4 f5 f6 f7 f8 f9 f10 f11;have HS7:Hid (Mk 179 kW p (p.S2 km) p.S w b5 #[.string nm,.bool pub,.slice pa pn pc,.int .i64 k,.slice sa sn sc,.int .i64 0,.int .i64 0,.int .i64 0,.string ⟨#[]⟩,.string ⟨#[]⟩,.slice none 0 0,.slice none 0 0] (fun W=>((True/\(fun W=>bD eZ dO W km (n+1) (eK fun z=>decide (z=nm)||aO z)) W)/\(fun W=>aK 3 gP (fun b=>w.heap.size<b/\b≠b5/\b≠km) W (.slice pa pn pc) ps) W)/\(fun W=>jG (fun b=>w.heap.size<b/\b≠b5/\b≠km) W t [.int .i64 k,.slice sa sn sc]) W) i7 ((w7.setCell ⟨b5,3,none⟩ (.int .i64 k)).setCell ⟨b5,4,none⟩ (.slice sa sn sc))):=zh ((HL7.out.add (F:=(fun W=>jG (fun b=>w.heap.size<b/\b≠b5/\b≠km) W t [.int .i64 k,.slice sa sn sc])) hF7 (dX.enc fL (stbl_S fun b hb=>⟨fun e=>by have:=hb.1;omega,hb.2.1⟩))).put HW.out (cells':=#[.string nm,.bool pub,.slice pa pn pc,.int .i64 k,.slice sa sn sc,.int .i64 0,.int .i64 0,.int .i64 0,.string ⟨#[]⟩,.string ⟨#[]⟩,.slice none 0 0,.slice none 0 0]) ((Off.refl (fun b=>b=b5) w7).one.one) (by rw[aU (aU HL7.out.loc _) _];rfl));obtain⟨⟨c0,c1,c2,c3,c4,c5,c6,c7,c8,c9,c10,c11⟩,f0,f1,f2,f3,f4,f5,f6,f7,f8,f9,f10,f11⟩:=lR HL7.out.loc;clear hx7 ho7 ha7 het hF7 HR6 HI6 hlt7 HS6;go_wp2_with(go_at_call 138;refine(levels_any _ t _ k _ _ (Nat.le_refl _) HLv.out HS7.out.enc.2).mono ?_;rintro e w8 ⟨rfl,hb8⟩);clear c0 c1 c2 c3 c4 c5 c6 c7 c8 c9 c10 c11 f0 f1 f2 f3 f4 f5 f6 f7 f8 f9 f10 f11;have HS8:=zh (HS7.out.below hb8);have HD:Hid (decide ((cF t:Int)<=4)=decide (cF t<=4)):=zh xE;skip
 cases hb:isP p.l i7 qL with
 |false=>
  skip;go_wp2_with(go_at_call 133;refine(gC p w8 i7 qL HS8.out.at_).mono ?_;rintro e w9 ⟨rfl,hb9⟩;rw[hb]);have HS9:=zh (HS8.out.below hb9);have HIq:=HI7;have HRb:=zh (HR7.out.trans (PR.bnd_ok (bang_no hb)));go_wp2_with(go_at_call 137;refine(end_any p w9 i7 _ kEq HS9.out.at_).mono ?_;rintro e w20 (⟨x20,hx20,rfl,ho20⟩|⟨⟨⟩,i20,hx20,⟨rfl,ha20⟩,ho20⟩))
  ·rw[HD.out] at hx20;exact⟨rfl,Ran.bad' (HRb.out.trans (PR.bnd_bad hx20)) (HS9.out.off.trans (ho20.mono fun _ h=>.inl h))⟩
  rw[HD.out] at hx20;have HS20:=zh (HS9.out.nextP ho20 ha20);have HR20:=zh (HRb.out.trans (PR.bnd_ok hx20));have hi20:=endP_ok hx20;clear hx20 ho20 ha20;go_wp2_with(go_at_call 139;refine(nT p HX.out w20 i20 lM HS20.out.at_).mono ?_;rintro e w21 (⟨x21,hx21,rfl,ho21⟩|⟨x,i21,hx21,⟨⟨op,n1,s1,m1,a1,m2,qa,a2,m3,qb,rfl,hex⟩,ha21,hij21⟩,ho21⟩)<;>first|(have HS21:=zh (HS20.out.nextP ho21 ha21);obtain⟨⟨c0,c1,c2,c3,c4,c5,c6,c7,c8,c9,c10,c11⟩,f0,f1,f2,f3,f4,f5,f6,f7,f8,f9,f10,f11⟩:=lR HS21.out.loc;obtain⟨⟨r0,r1,r2,r3,r4,r5,r6,r7,r8,r9,r10,r11⟩,g0,g1,g2,g3,g4,g5,g6,g7,g8,g9,g10,g11⟩:=lR HS21.out.res)|skip)
  ·exact vQ
  have hF21:(fun W=>cE (fun b=>w.heap.size<b/\b≠b5/\b≠km) W x [.int .i64 op,.int .i64 n1,.string s1,.string m1,.slice a1 m2 qa,.slice a2 m3 qb]) w21:=aG.wide hex (fun b hb _=>AB);have HS22:Mk 179 kW p (p.S2 km) p.S w b5 #[.string nm,.bool pub,.slice pa pn pc,.int .i64 k,.slice sa sn sc,.int .i64 0,.int .i64 op,.int .i64 n1,.string s1,.string m1,.slice a1 m2 qa,.slice a2 m3 qb] (fun W=>(fun W=>((True/\(fun W=>bD eZ dO W km (n+1) (eK fun z=>decide (z=nm)||aO z)) W)/\(fun W=>aK 3 gP (fun b=>w.heap.size<b/\b≠b5/\b≠km) W (.slice pa pn pc) ps) W)/\(fun W=>jG (fun b=>w.heap.size<b/\b≠b5/\b≠km) W t [.int .i64 k,.slice sa sn sc]) W) W/\(fun W=>cE (fun b=>w.heap.size<b/\b≠b5/\b≠km) W x [.int .i64 op,.int .i64 n1,.string s1,.string m1,.slice a1 m2 qa,.slice a2 m3 qb]) W) i21 ((((((w21.setCell ⟨b5,6,none⟩ (.int .i64 op)).setCell ⟨b5,7,none⟩ (.int .i64 n1)).setCell ⟨b5,8,none⟩ (.string s1)).setCell ⟨b5,9,none⟩ (.string m1)).setCell ⟨b5,10,none⟩ (.slice a1 m2 qa)).setCell ⟨b5,11,none⟩ (.slice a2 m3 qb)):=(HS21.out.add (F:=(fun W=>cE (fun b=>w.heap.size<b/\b≠b5/\b≠km) W x [.int .i64 op,.int .i64 n1,.string s1,.string m1,.slice a1 m2 qa,.slice a2 m3 qb])) hF21 (dX.enc aG (stbl_S fun b hb=>⟨fun e=>by have:=hb.1;omega,hb.2.1⟩))).put HW.out ((Off.refl (fun b=>b=b5) w21).one.one.one.one.one.one) A7;have hNs:∀b,b=w.heap.size->¬(fun b=>w.heap.size<b/\b≠b5/\b≠km) b:=fun b hb hn=>by have:=hn.1;omega
  have hD:=HS22.done HW.out (set12_off _ w.heap.size (.string nm) (.bool pub) (.slice pa pn pc) (.int .i64 k) (.slice sa sn sc) (.int .i64 0) (.int .i64 op) (.int .i64 n1) (.string s1) (.string m1) (.slice a1 m2 qa) (.slice a2 m3 qb)) ((((dX.true.and (dX.map vT)).and (dX.row bA vV hNs)).and (dX.enc fL hNs)).and (dX.enc aG hNs));unfold set12 at hD;refine bodyPost_ret (v:=.agg #[.string nm,.bool pub,.slice pa pn pc,.int .i64 k,.slice sa sn sc,.int .i64 0,.int .i64 op,.int .i64 n1,.string s1,.string m1,.slice a1 m2 qa,.slice a2 m3 qb]) AH rfl ?_;obtain⟨⟨⟨⟨⟨-,hmap⟩,hrow⟩,hty⟩,hbd⟩,hat,hoff⟩:=hD;exact tP
 |true=>
  go_wp2_with(go_at_call 133;refine(gC p w8 i7 qL HS8.out.at_).mono ?_;rintro e w9 ⟨rfl,hb9⟩;rw[hb]);have HS9:=zh (HS8.out.below hb9);clear hb9 HS8;go_wp2_with(go_at_call 137;refine(end_any p w9 i7 _ qL HS9.out.at_).mono ?_;rintro e w10 (⟨x10,hx10,rfl,ho10⟩|⟨⟨⟩,i10,hx10,⟨rfl,ha10⟩,ho10⟩))
  ·rw[HD.out] at hx10;exact⟨rfl,Ran.bad' (HR7.out.trans (PR.bnd_bad (bang_bad hb hx10))) (HS9.out.off.trans (ho10.mono fun _ h=>.inl h))⟩
  rw[HD.out] at hx10;have HX10:=zh hx10;have HS10:=zh (HS9.out.nextP ho10 ha10);have hi10:=endP_ok hx10;have HI10:Hid (i<i10):=zh (by have:=HI7.out;omega);have HJ0:Hid (i7<i10):=zh vT;clear ha10 ho10 hx10 HS9 hi10;go_wp2_with(go_at_call 190;refine(fieldsEff w10 HS10.out.at_.spc).mono ?_;rintro e w11 ⟨rfl,rfl⟩);have hb510:=HS10.out.lt;have HS11:Hid (Mk 179 kW p (p.S2 km) p.S w b5 #[.string nm,.bool pub,.slice pa pn pc,.int .i64 k,.slice sa sn sc,.int .i64 0,.int .i64 0,.int .i64 0,.string ⟨#[]⟩,.string ⟨#[]⟩,.slice none 0 0,.slice none 0 0] (fun W=>(((True/\(fun W=>bD eZ dO W km (n+1) (eK fun z=>decide (z=nm)||aO z)) W)/\(fun W=>aK 3 gP (fun b=>w.heap.size<b/\b≠b5/\b≠km) W (.slice pa pn pc) ps) W)/\(fun W=>jG (fun b=>w.heap.size<b/\b≠b5/\b≠km) W t [.int .i64 k,.slice sa sn sc]) W)/\(fun W=>∀j,j<bY.length->W.cell? ⟨w10.heap.size,0+j,none⟩=some (.string (bY.getD j ByteArray.empty))) W) i10 (w10.alloc (.cells #[.string kFiles,.string kNet,.string kClock,.string kSecrets] 9))):=zh ((HS10.out.below (aA w10 (.cells (bY.map Value.string).toArray 9))).add (F:=(fun W=>∀j,j<bY.length->W.cell? ⟨w10.heap.size,0+j,none⟩=some (.string (bY.getD j ByteArray.empty)))) (effCells w10) (dX.cells (fun e=>Or.elim e (fun e=>by have e:w10.heap.size=p.pb:=e;omega) (fun e=>vT))));generalize w10.alloc (.cells #[.string kFiles,.string kNet,.string kClock,.string kSecrets] 9)=w11 at *;generalize w10.heap.size=g at *;clear HS10;go_loopw [35] (fun c wr=>∃(kk q en:Nat),kk<=4/\c=.int .i64 (kk:Int)/\Hid (en<2 ^ kk)/\Hid (Mk 179 kW p (p.S2 km) p.S w b5 #[.string nm,.bool pub,.slice pa pn pc,.int .i64 k,.slice sa sn sc,.int .i64 (en:Int),.int .i64 0,.int .i64 0,.string ⟨#[]⟩,.string ⟨#[]⟩,.slice none 0 0,.slice none 0 0] (fun W=>(((True/\(fun W=>bD eZ dO W km (n+1) (eK fun z=>decide (z=nm)||aO z)) W)/\(fun W=>aK 3 gP (fun b=>w.heap.size<b/\b≠b5/\b≠km) W (.slice pa pn pc) ps) W)/\(fun W=>jG (fun b=>w.heap.size<b/\b≠b5/\b≠km) W t [.int .i64 k,.slice sa sn sc]) W)/\(fun W=>∀j,j<bY.length->W.cell? ⟨g,0+j,none⟩=some (.string (bY.getD j ByteArray.empty))) W) q wr)/\Hid (eO p.l gU 0 i10=eO p.l (gU.drop kk) (en:Int) q)/\Hid (i10<=q)) (fun c _=>4-(intOf c).toNat)
  case atStart=>exact⟨0,i10,0,vT,rfl,zh vV,by simpa using HS11,zh rfl,zh (Nat.le_refl _)⟩
  case round=>
   obtain⟨kk,q,en,hk4,rfl,HEn,HS,HSp,HJ⟩:=hrel;(rename World=>wr);have hen0:=HEn.out;by_cases hlt:kk<4
   ·have hc:=HS.out.enc.2 kk hlt;rw[Nat.zero_add] at hc;have HStep:=zh (effectL_at (l:=p.l) (n:=(en:Int)) (q:=q) hlt);have HBit:=zh (bit_pow hlt);generalize bY.getD kk ByteArray.empty=word at hc HStep HBit
    cases hq:isP p.l q word with
    |true=>
     ·skip;have hen:=HEn.out;clear hen0;go_wp2_with(go_at_call 141;refine(fR p wr q word HS.out.at_ hq).mono ?_;rintro e w13 ⟨rfl,ha13,ho13⟩);have HS13:=zh (HS.out.nextP ho13 ha13);clear ha13 ho13 hc;refine wp_region_held_drew (S:=(fun _=>True)) vU trivial fun hS=>?_;refine zt 0 (.pointer (some ⟨b5,5,none⟩)) rfl (fun W hW=>vW) hS ?_;(try simp only[zn]);refine zt 2 (.string word) rfl (fun W hW=>vW) hS ?_;(try simp only[zn]);refine wpAnyH_ready (rs:=[1,3]) vU vZ ?_;refine AllReadyH.cons rfl (fun K hK=>?_) (AllReadyH.cons rfl (fun K hK=>?_) AllReadyH.nil)
      ·rw[if_pos vU];(try simp only[z1,z2,z3]);obtain⟨⟨c0,c1,c2,c3,c4,c5,c6,c7,c8,c9,c10,c11⟩,f0,f1,f2,f3,f4,f5,f6,f7,f8,f9,f10,f11⟩:=lR (HS13.out.below (aF _)).loc;go_simp;clear c0 c1 c2 c3 c4 c5 c6 c7 c8 c9 c10 c11 f0 f1 f2 f3 f4 f5 f6 f7 f8 f9 f10 f11;refine hK.out _ _ trivial (fun hS=>?_);clear hK K;(try simp only[zn]);refine zr 3 rfl (fun K hK=>?_);(try simp only[z1,z2,z3]);go_simp;refine(mG word w13.drew (HS13.out.below (aF _)).at_.spc).mono ?_;rintro e w14 ⟨rfl,hb14⟩;rw[HBit.out];have HS14:=zh ((HS13.out.below (aF _)).below hb14);exact rJ
      ·rw[if_pos vU];(try simp only[z1,z2,z3]);go_simp;refine(mG word w13.drew (HS13.out.below (aF _)).at_.spc).mono ?_;rintro e w14 ⟨rfl,hb14⟩;rw[HBit.out];have HS14:=zh ((HS13.out.below (aF _)).below hb14);refine hK.out _ _ trivial (fun hS=>?_);clear hK K;(try simp only[zn]);refine zr 1 rfl (fun K hK=>?_);(try simp only[z1,z2,z3]);obtain⟨⟨c0,c1,c2,c3,c4,c5,c6,c7,c8,c9,c10,c11⟩,f0,f1,f2,f3,f4,f5,f6,f7,f8,f9,f10,f11⟩:=lR HS14.out.loc;go_simp;clear c0 c1 c2 c3 c4 c5 c6 c7 c8 c9 c10 c11 f0 f1 f2 f3 f4 f5 f6 f7 f8 f9 f10 f11;exact rJ
    |false=>
     ·skip;go_wp2_with(go_at_call 141;refine(bE p wr q word HS.out.at_ hq).mono ?_;rintro e w13 ⟨rfl,ha13,ho13⟩);have HS13:=zh (HS.out.nextP ho13 ha13);have HSp2:Hid (eO p.l gU 0 i10=eO p.l (gU.drop (kk+1)) (en:Int) q):=zh (by rw[HSp.out,HStep.out,hq,if_neg vZ]);have HE2:Hid (en<2 ^ (kk+1)):=zh (by rw[Nat.pow_succ];omega);clear ha13 ho13 hc;go_roundw;(case rel=>exact⟨kk+1,q,en,vT,wH,HE2,HS13,HSp2,HJ⟩);case measure=>simp[intOf];omega
   ·have hk:kk=4:=vT;subst hk
    ·skip;have HEf:Hid (eO p.l gU 0 i10=((en:Int),q)):=zh HSp.out;obtain⟨⟨c0,c1,c2,c3,c4,c5,c6,c7,c8,c9,c10,c11⟩,f0,f1,f2,f3,f4,f5,f6,f7,f8,f9,f10,f11⟩:=lR HS.out.loc;go_wp2_with(go_at_call 144;refine(fS p wr q _ _ HS.out.at_).mono ?_;rintro e w16 (⟨he,rfl,rfl⟩|⟨he,rfl,hb16⟩))
     ·have HIq:Hid (i<q):=zh (by have:=HI10.out;have:=HJ.out;omega);have HRb:=zh (HR7.out.trans (PR.bnd_ok (bang_yes hb HX10.out HEf.out AI)));clear c0 c1 c2 c3 c4 c5 c6 c7 c8 c9 c10 c11 f0 f1 f2 f3 f4 f5 f6 f7 f8 f9 f10 f11;clear he;go_wp2_with(go_at_call 137;refine(end_any p wr q _ kEq HS.out.at_).mono ?_;rintro e w20 (⟨x20,hx20,rfl,ho20⟩|⟨⟨⟩,i20,hx20,⟨rfl,ha20⟩,ho20⟩))
      ·exact⟨rfl,Ran.bad' (HRb.out.trans (PR.bnd_bad hx20)) (HS.out.off.trans (ho20.mono fun _ h=>.inl h))⟩
      skip;have HS20:=zh (HS.out.nextP ho20 ha20);have HR20:=zh (HRb.out.trans (PR.bnd_ok hx20));have hi20:=endP_ok hx20;clear hx20 ho20 ha20;go_wp2_with(go_at_call 139;refine(nT p HX.out w20 i20 lM HS20.out.at_).mono ?_;rintro e w21 (⟨x21,hx21,rfl,ho21⟩|⟨x,i21,hx21,⟨⟨op,n1,s1,m1,a1,m2,qa,a2,m3,qb,rfl,hex⟩,ha21,hij21⟩,ho21⟩)<;>first|(have HS21:=zh (HS20.out.nextP ho21 ha21);obtain⟨⟨c0,c1,c2,c3,c4,c5,c6,c7,c8,c9,c10,c11⟩,f0,f1,f2,f3,f4,f5,f6,f7,f8,f9,f10,f11⟩:=lR HS21.out.loc;obtain⟨⟨r0,r1,r2,r3,r4,r5,r6,r7,r8,r9,r10,r11⟩,g0,g1,g2,g3,g4,g5,g6,g7,g8,g9,g10,g11⟩:=lR HS21.out.res)|skip)
      ·exact vQ
      have hF21:(fun W=>cE (fun b=>w.heap.size<b/\b≠b5/\b≠km) W x [.int .i64 op,.int .i64 n1,.string s1,.string m1,.slice a1 m2 qa,.slice a2 m3 qb]) w21:=aG.wide hex (fun b hb _=>AB);have HS22:Mk 179 kW p (p.S2 km) p.S w b5 #[.string nm,.bool pub,.slice pa pn pc,.int .i64 k,.slice sa sn sc,.int .i64 (en:Int),.int .i64 op,.int .i64 n1,.string s1,.string m1,.slice a1 m2 qa,.slice a2 m3 qb] (fun W=>(fun W=>(((True/\(fun W=>bD eZ dO W km (n+1) (eK fun z=>decide (z=nm)||aO z)) W)/\(fun W=>aK 3 gP (fun b=>w.heap.size<b/\b≠b5/\b≠km) W (.slice pa pn pc) ps) W)/\(fun W=>jG (fun b=>w.heap.size<b/\b≠b5/\b≠km) W t [.int .i64 k,.slice sa sn sc]) W)/\(fun W=>∀j,j<bY.length->W.cell? ⟨g,0+j,none⟩=some (.string (bY.getD j ByteArray.empty))) W) W/\(fun W=>cE (fun b=>w.heap.size<b/\b≠b5/\b≠km) W x [.int .i64 op,.int .i64 n1,.string s1,.string m1,.slice a1 m2 qa,.slice a2 m3 qb]) W) i21 ((((((w21.setCell ⟨b5,6,none⟩ (.int .i64 op)).setCell ⟨b5,7,none⟩ (.int .i64 n1)).setCell ⟨b5,8,none⟩ (.string s1)).setCell ⟨b5,9,none⟩ (.string m1)).setCell ⟨b5,10,none⟩ (.slice a1 m2 qa)).setCell ⟨b5,11,none⟩ (.slice a2 m3 qb)):=(HS21.out.add (F:=(fun W=>cE (fun b=>w.heap.size<b/\b≠b5/\b≠km) W x [.int .i64 op,.int .i64 n1,.string s1,.string m1,.slice a1 m2 qa,.slice a2 m3 qb])) hF21 (dX.enc aG (stbl_S fun b hb=>⟨fun e=>by have:=hb.1;omega,hb.2.1⟩))).put HW.out ((Off.refl (fun b=>b=b5) w21).one.one.one.one.one.one) A7;(have hNs:∀b,b=w.heap.size->¬(fun b=>w.heap.size<b/\b≠b5/\b≠km) b:=fun b hb hn=>by have:=hn.1;omega);have hD:=HS22.done HW.out (set12_off _ w.heap.size (.string nm) (.bool pub) (.slice pa pn pc) (.int .i64 k) (.slice sa sn sc) (.int .i64 (en:Int)) (.int .i64 op) (.int .i64 n1) (.string s1) (.string m1) (.slice a1 m2 qa) (.slice a2 m3 qb)) (((((dX.true.and (dX.map vT)).and (dX.row bA vV hNs)).and (dX.enc fL hNs)).and (dX.cells vT)).and (dX.enc aG hNs));unfold set12 at hD;refine bodyPost_ret (v:=.agg #[.string nm,.bool pub,.slice pa pn pc,.int .i64 k,.slice sa sn sc,.int .i64 (en:Int),.int .i64 op,.int .i64 n1,.string s1,.string m1,.slice a1 m2 qa,.slice a2 m3 qb]) AH rfl ?_;obtain⟨⟨⟨⟨⟨⟨-,hmap⟩,hrow⟩,hty⟩,-⟩,hbd⟩,hat,hoff⟩:=hD;exact tP
     ·have HRb:=HR7.out.trans (PR.bnd_bad (bang_zero hb HX10.out HEf.out AI));exact⟨rfl,Ran.bad HRb (HS.out.off.trans (Off.of_below hb16))⟩
end Go.Proofs.YtacgopankhpnbaaGreatDoor
namespace Go.Proofs.YtacgopankhpnbaaGreatDoor
set_option maxRecDepth 100000
open Go.RowKit
theorem catch_idle(a b:Nat)(w:World):CallsD Tryz.prog 130 #[.pointer (some ⟨a,0,none⟩),.pointer (some ⟨b,0,none⟩)] .returning w fun e u' w'=>e=.returned (.tuple #[])/\u'=.returning/\w'=w:=by
 refine callsD_of_wpS Tryz.func130 rfl fun c₀ cs hu=>?_;apply wpS_seq;apply wpS_region;simp[wpOpsS,go_sem,recoverD,hu,Tryz.ntmps130,Exit.thenS];refine wpS_of_wp ?_;simp only[Array.replicate_succ,Array.replicate_zero,List.push_toArray,List.append_toArray,List.nil_append,List.cons_append,List.setIfInBounds_toArray,List.set_cons_zero,List.set_cons_succ]
 go_wp2
 cases c₀;simp_all [bodyPostS,results,Tryz.results130]
theorem catch_fault(a b:Nat)(x:Int×Int)(older:List PanicEntry)(w:World)(ha:w.heap[a]? =some (.cells #[.int .i64 0] 3))(hb:w.heap[b]? =some (.cells #[.int .i64 0] 32)):
  CallsD Tryz.prog 130 #[.pointer (some ⟨a,0,none⟩),.pointer (some ⟨b,0,none⟩)] (.panicking ({v:=.iface 205 (.agg #[.int .i64 x.1,.int .i64 x.2]),recovered:=false}::older)) w fun e u' w'=>
   e=.returned (.tuple #[])/\u'=.panicking ({v:=.iface 205 (.agg #[.int .i64 x.1,.int .i64 x.2]),recovered:=true}::older)/\Off (fun k=>k=a\/k=b) w w'/\w'.heap[a]? =some (.cells #[.int .i64 x.1] 3)/\w'.heap[b]? =some (.cells #[.int .i64 x.2] 32):=by
 refine callsD_of_wpS Tryz.func130 rfl fun c₀ cs hu=>?_;apply wpS_seq;apply wpS_region;simp[wpOpsS,go_sem,recoverD,hu,Tryz.ntmps130,Exit.thenS];refine wpS_of_wp ?_;simp only[Array.replicate_succ,Array.replicate_zero,List.push_toArray,List.append_toArray,List.nil_append,List.cons_append,List.setIfInBounds_toArray,List.set_cons_zero,List.set_cons_succ];obtain⟨a0,a1⟩:=bx ha 0 (u:=.int .i64 0) rfl;obtain⟨b0,b1⟩:=bx hb 0 (u:=.int .i64 0) rfl;have hla:=(Array.getElem?_eq_some_iff.1 ha).1;have hlb:=(Array.getElem?_eq_some_iff.1 hb).1;have HT:∀(x1 x2:Int)(w:World),(Instr.typeAssert (.iface 205 (.agg #[.int .i64 x1,.int .i64 x2])) 20 205 true).run Tryz.prog w=.ok (.tuple #[.agg #[.int .i64 x1,.int .i64 x2],.bool true]) w:=fun x1 x2 w=>vU;have hab:a≠b:=by rintro rfl;rw[ha] at hb;cases hb
 go_wp2
 refine wp_region_held_drew (S:=(fun W=>W.heap[w.heap.size]? =some (.cells #[.int .i64 x.1,.int .i64 x.2] 205))) vU (by exact heap_alloc_new w _) fun hS=>?_;refine zt 0 (.pointer (some ⟨w.heap.size,0,none⟩)) rfl (fun W hW=>vW) hS ?_;try simp only[zn]
 refine zt 1 (.int .i64 x.1) rfl (fun W hW=>by obtain⟨k0,k1,-⟩:=bxT2 hW;go_simp) hS ?_;try simp only[zn]
 refine zt 2 (.pointer (some ⟨w.heap.size,1,none⟩)) rfl (fun W hW=>vW) hS ?_;try simp only[zn]
 refine zt 3 (.int .i64 x.2) rfl (fun W hW=>by obtain⟨k0,k1,-⟩:=bxT2 hW;go_simp) hS ?_;try simp only[zn]
 have hna:¬w.heap.size=a:=vT;have hnb:¬w.heap.size=b:=vT;refine zr 4 rfl (fun K hK=>?_);try simp only[z1,z2,z3]
 go_simp;refine hK.out _ _ (by have h:=heap_alloc_new (w.setCell ⟨a,0,none⟩ (.int .i64 x.1)) (.cells #[.int .i64 x.1,.int .i64 x.2] 205);rw[fK] at h;exact h) (fun hS=>?_);clear hK K;try simp only[zn]
 refine zr 5 rfl (fun K hK=>?_);try simp only[z1,z2,z3]
 go_simp;refine hK.out _ _ (by have h:=heap_alloc_new ((w.setCell ⟨a,0,none⟩ (.int .i64 x.1)).setCell ⟨b,0,none⟩ (.int .i64 x.2)) (.cells #[.int .i64 x.1,.int .i64 x.2] 205);rw[fK,fK] at h;exact h) (fun hS=>?_);clear hK K;try simp only[zn]
 refine wpAnyH_done vU ?_ _
 go_wp2
 simp[bodyPostS,results,Tryz.results130];have oa:Off (fun k=>k=a\/k=b) w ((w.setCell ⟨a,0,none⟩ (.int .i64 x.1)).setCell ⟨b,0,none⟩ (.int .i64 x.2)):=(Off.setCell (S:=fun k=>k=a\/k=b) w (.inl rfl)).trans (Off.setCell (S:=fun k=>k=a\/k=b) _ (.inr rfl));have ha2:((w.setCell ⟨a,0,none⟩ (.int .i64 x.1)).setCell ⟨b,0,none⟩ (.int .i64 x.2)).heap[a]? =some (.cells #[.int .i64 x.1] 3):=by rw[Below.heap_setCell _ _ _ _ (by show a≠b;exact hab),aU ha];rfl
 have hb2:((w.setCell ⟨a,0,none⟩ (.int .i64 x.1)).setCell ⟨b,0,none⟩ (.int .i64 x.2)).heap[b]? =some (.cells #[.int .i64 x.2] 32):=by rw[aU ((Below.heap_setCell _ _ _ _ (by show b≠a;exact fun e=>hab e.symm)).trans hb)];rfl
 exact⟨(oa.trans (Off.of_below (aA _ _))).drew,aD (aA _ _).drew ha2,aD (aA _ _).drew hb2⟩
end Go.Proofs.YtacgopankhpnbaaGreatDoor
namespace Go.Proofs.YtacgopankhpnbaaGreatDoor
def Nz{α:Type}(r:PR α):Prop:=∀x,r=.error x->x.2≠0
section
variable {l:List Tok} {α β:Type}
theorem Nz.ok{a:α}{j:Nat}:Nz (.ok (a,j):PR α):=fun x h=>yG
theorem Nz.stop{i:Nat}{e:Int}(he:e≠0):Nz (kQ l i e:PR α):=fun x h=>by unfold kQ at h;cases h;exact he
theorem Nz.bnd{m:PR α}{k:α->Nat->PR β}(h:Nz m)(hk:∀a j,Nz (k a j)):Nz (m.bnd k):=fun x hx=>by
 cases hm:m with
 |error y=>rw[hm] at hx;have hx:(.error y:PR β)=.error x:=hx;injection hx with e;rw[<-e];exact h y hm
 |ok r=>obtain⟨a,j⟩:=r;rw[hm] at hx;exact hk a j x hx
theorem Nz.ite{c:Prop}[Decidable c]{a b:PR α}(h1:Nz a)(h2:Nz b):Nz (if c then a else b):=by split<;>assumption
theorem gR{i:Nat}{s:ByteArray}:Nz (dM l i s):=by unfold dM;exact .ite .ok (.stop vV)
theorem end_nz{i:Nat}{f:Bool}{s:ByteArray}:Nz (nE l i f s):=by unfold nE;exact .ite (.ite .ok (.stop vV)) (.stop vV)
theorem name_nz{i:Nat}:Nz (gL l i):=by unfold gL;exact .ite .ok (.stop vV)
theorem fresh_nz{i:Nat}{k:ByteArray->Bool}:Nz (iQ l i k):=by unfold iQ;exact .ite (.ite (.stop vV) .ok) (.stop vV)
theorem later_nz{i:Nat}{t:ByteArray}{b:Bool}:Nz (gN l i t b):=by unfold gN;exact .ite (.ite (.stop vV) (.ite (.stop vV) .ok)) (.stop vV)
theorem room_nz{i a b:Nat}:Nz (iI l i a b):=by unfold iI;exact .ite .ok (.stop vV)
section
variable {rec:RecP} (hr:∀f i,Nz (rec f i))
include hr
omit hr in
theorem dots_nz:∀(F:Nat)(e:Xp)(i:Nat),Nz (pO l F e i)
 |0,e,i=>.ok
 |F+1,e,i=>by unfold pO;exact .ite (.bnd name_nz fun a j=>dots_nz F _ j) .ok
theorem ops_nz(form:Nat):∀(F own:Nat)(e:Xp)(i:Nat),Nz (opsP l rec form F own e i)
 |0,own,e,i=>.ok
 |F+1,own,e,i=>by
  unfold opsP;split
  ·exact .ok
  ·exact .ite .ok (.bnd (hr _ _) fun a j=>ops_nz form F _ _ j)
theorem operandsFrom_nz:∀(F:Nat)(out:List Xp)(i:Nat),Nz (cT l rec F out i)
 |0,out,i=>.ok
 |F+1,out,i=>by
  unfold cT;exact .bnd (.ite room_nz .ok) fun _ _=>.bnd (hr _ _) fun e j=>.ite (operandsFrom_nz F _ _) (.bnd gR fun _ _=>.ok)
theorem operands_nz{i:Nat}:Nz (kF l rec i):=by unfold kF;exact .bnd gR fun _ j=>.ite .ok (operandsFrom_nz hr _ _ _)
theorem recordFrom_nz:∀(F:Nat)(names:List ByteArray)(args:List Xp)(last:ByteArray)(i:Nat),Nz (dY l rec F names args last i)
 |0,_,_,_,_=>.ok
 |F+1,names,args,last,i=>by
  unfold dY;exact .bnd (.ite room_nz .ok) fun _ _=>.bnd later_nz fun s j=>.bnd gR fun _ j2=>.bnd (hr _ _) fun e j3=>.ite (recordFrom_nz F _ _ _ _) (.bnd gR fun _ _=>.ok)
theorem paren_nz{i:Nat}:Nz (parenP l rec i):=by unfold parenP;exact .bnd (hr _ _) fun e j=>.bnd gR fun _ _=>.ok
theorem primary_nz{i:Nat}:Nz (aY l rec i):=by
 unfold aY;refine .ite .ok (.ite .ok (.ite .ok (.ite (.bnd name_nz fun _ _=>.ok) (.ite (.bnd gR fun _ j=>.bnd (paren_nz hr) fun _ _=>.ok) (.ite ?_ (.ite (paren_nz hr) (.bnd name_nz fun s j=>?_)))))))
 ·unfold lX;exact .ite .ok (recordFrom_nz hr _ _ _ _ _)
 ·unfold callP;exact .ite (.bnd (operands_nz hr) fun _ _=>.ok) (.ite (.bnd name_nz fun _ _=>.bnd (operands_nz hr) fun _ _=>.ok) .ok)
theorem prefix_nz{form i:Nat}:Nz (cZ l rec form i):=by
 unfold cZ
 exact .ite (.bnd (hr _ _) fun _ _=>.bnd gR fun _ _=>.bnd (hr _ _) fun _ _=>.bnd gR fun _ _=>.bnd (hr _ _) fun _ _=>.ok)
  (.ite (.bnd name_nz fun _ _=>.bnd gR fun _ _=>.bnd (hr _ _) fun _ _=>.bnd gR fun _ _=>.bnd (hr _ _) fun _ _=>.ok)
  (.ite (.bnd name_nz fun _ _=>.bnd (hr _ _) fun _ _=>.ok) (.ite (.bnd (hr _ _) fun _ _=>.ok) (.bnd (primary_nz hr) fun _ _=>.ok))))
end
theorem exp_nz:∀(f form i:Nat),Nz (bZ l f form i)
 |0,form,i=>.stop vV
 |f+1,form,i=>by
  unfold bZ;exact .bnd (prefix_nz fun f' i'=>exp_nz f f' i') fun r j=>.bnd (.ite (dots_nz _ _ _) .ok) fun e k=>ops_nz (fun f' i'=>exp_nz f f' i') _ _ _ _ _
theorem more_nz{i:Nat}{t:Ty}{s:ByteArray}:Nz (moreP l i t s):=by unfold moreP;exact .ite (.bnd end_nz fun _ _=>.ok) (.bnd end_nz fun _ _=>.ok)
theorem typedFrom_nz{rec:Nat->PR Ty}(hr:∀i,Nz (rec i)):∀(F:Nat)(fs:List Fld)(i:Nat),Nz (fE l rec F fs i)
 |0,fs,i=>.ok
 |F+1,fs,i=>by
  unfold fE;exact .bnd (.ite room_nz .ok) fun _ _=>.bnd later_nz fun s j=>.bnd (hr _) fun t j2=>.bnd more_nz fun q j3=>.ite .ok (typedFrom_nz hr F _ _)
theorem typed_nz:∀(f i:Nat),Nz (gH l f i)
 |0,i=>.stop vV
 |f+1,i=>by
  unfold gH;exact .ite .ok (.ite .ok (.bnd gR fun _ j=>.ite .ok (typedFrom_nz (fun i=>typed_nz f i) _ _ _)))
theorem fieldsFrom_nz{most:Nat}:∀(F:Nat)(fs:List Fld)(i:Nat),Nz (eI l most F fs i)
 |0,fs,i=>.ok
 |F+1,fs,i=>by
  unfold eI;exact .bnd (.ite room_nz .ok) fun _ _=>.bnd fresh_nz fun s j=>.bnd (typed_nz _ _) fun t j2=>.bnd more_nz fun q j3=>.ite .ok (fieldsFrom_nz F _ _)
theorem fields_nz{most i:Nat}:Nz (kS l most i):=by unfold kS;exact .bnd gR fun _ j=>.ite .ok (fieldsFrom_nz _ _ _)
theorem whole_nz{i:Nat}{s:ByteArray}:Nz (nB l i s):=by unfold nB;exact .bnd (exp_nz _ _ _) fun _ _=>.bnd end_nz fun _ _=>.ok
theorem wholesFrom_nz{s:ByteArray}:∀(n:Nat)(out:List Xp)(i:Nat),Nz (jQ l s n out i)
 |0,out,i=>by unfold jQ;exact .bnd whole_nz fun _ _=>.ok
 |n+1,out,i=>by unfold jQ;exact .bnd whole_nz fun _ _=>wholesFrom_nz n _ _
theorem wholes_nz{n i:Nat}{s:ByteArray}:Nz (iU l n i s):=by
 cases n with
 |zero=>unfold iU;exact .bnd gR fun _ _=>.ok
 |succ n=>unfold iU;exact wholesFrom_nz _ _ _
theorem bang_nz{i:Nat}{f:Bool}:Nz (bangP l i f):=by unfold bangP;exact .ite (.bnd end_nz fun _ _=>.ite .ok (.stop vV)) .ok
theorem function_nz{i:Nat}{k:ByteArray->Bool}:Nz (nW l i k):=by
 unfold nW;exact .bnd gR fun _ _=>.bnd fresh_nz fun _ _=>.bnd fields_nz fun _ _=>.bnd (typed_nz _ _) fun _ _=>.bnd bang_nz fun _ _=>.bnd end_nz fun _ _=>.bnd whole_nz fun _ _=>.ok
theorem uses_nz:∀(F:Nat)(out:List ByteArray)(i:Nat),Nz (jC l F out i)
 |0,out,i=>.ok
 |F+1,out,i=>by unfold jC;exact .ite (.bnd room_nz fun _ _=>.bnd fresh_nz fun _ _=>.bnd gR fun _ _=>uses_nz F _ _) .ok
theorem vars_nz:∀(F:Nat)(vs:List Fld)(es:List Xp)(i:Nat),Nz (jR l F vs es i)
 |0,vs,es,i=>.ok
 |F+1,vs,es,i=>by unfold jR;exact .ite (.bnd room_nz fun _ _=>.bnd fresh_nz fun _ _=>.bnd (typed_nz _ _) fun _ _=>.bnd end_nz fun _ _=>.bnd whole_nz fun _ _=>vars_nz F _ _ _) .ok
theorem funcs_nz:∀(F:Nat)(fs:List Fnc)(i:Nat),Nz (hJ l F fs i)
 |0,fs,i=>.ok
 |F+1,fs,i=>by unfold hJ;exact .ite (.bnd room_nz fun _ _=>.bnd function_nz fun _ _=>funcs_nz F _ _) .ok
theorem move_nz{n i:Nat}:Nz (moveP l n i):=by unfold moveP;exact .ite (.bnd fields_nz fun _ _=>.bnd gR fun _ _=>.bnd wholes_nz fun _ _=>.bnd wholes_nz fun _ _=>.ok) .ok
theorem module_nz:Nz (iC l):=by
 unfold iC;exact .bnd gR fun _ _=>.bnd name_nz fun _ _=>.bnd gR fun _ _=>.bnd (uses_nz _ _ _) fun _ _=>.bnd (vars_nz _ _ _ _) fun _ _=>.bnd (funcs_nz _ _ _) fun _ _=>.bnd move_nz fun _ _=>.ite .ok (.stop vV)
end
theorem lexFrom_nz{s:ByteArray}:∀(F i:Nat)(out:List Tok)(x:Int×Int),iY s F i out=.error x->x.2≠0
 |0,i,out,x,h=>by unfold iY at h;cases h
 |F+1,i,out,x,h=>by
  unfold iY at h;split at h
  ·cases h
  ·split at h
   ·rename_i e he;cases h;exact nextTok_err he
   ·exact lexFrom_nz F _ _ x h
theorem lexL_nz{s:ByteArray}{x:Int×Int}(h:lexL s=.error x):x.2≠0:=by
 unfold lexL at h;split at h
 ·cases h;decide
 ·exact lexFrom_nz _ _ _ x h
end Go.Proofs.YtacgopankhpnbaaGreatDoor
