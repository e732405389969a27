/- Texts of this seat, joined. -/
import Derived.Test.YtacgopankhpnbaaGreatDoorKAN
set_option linter.unusedVariables false
set_option linter.unusedSimpArgs false
namespace Go.Proofs.YtacgopankhpnbaaGreatDoor
set_option maxHeartbeats 16000000
set_option maxRecDepth 100000
open Go.RowKit
theorem cexp_all:∀d,ExpAt d
 |0=>fun x B cb vars vv v c css names vns op n s m vn va w hr=>by simp[aZ] at hr
 |d+1=>by
  have HX:=cexp_all d;intro x B cb vars vv v c css names vns op n s m vn va w hr h hlen hnm hns he
  cases x with
  |mk op' n' s' m' ns args=>
   have he2:=he;rw[bF] at he2;obtain⟨v1,v2,e,-⟩:=he2;simp only[List.cons.injEq,Value.int.injEq,Value.string.injEq,and_true,true_and] at e;obtain⟨e1,e2,e3,e4,-,-⟩:=e;subst e1 e2 e3 e4;by_cases h0:op=0
   ·subst h0;exact exp_0 HX n s m ns args hr h hlen hnm hns he
   by_cases h1:op=1
   ·subst h1;exact exp_1 HX n s m ns args hr h hlen hnm hns he
   by_cases h2:op=2
   ·subst h2;exact exp_2 HX n s m ns args hr h hlen hnm hns he
   by_cases h17:op=17
   ·subst h17;exact exp_17 HX n s m ns args hr h hlen hnm hns he
   by_cases h8:op=8
   ·subst h8;exact exp_8 HX n s m ns args hr h hlen hnm hns he
   by_cases h9:op=9
   ·subst h9;exact exp_9 HX n s m ns args hr h hlen hnm hns he
   by_cases h11:op=11
   ·subst h11;exact exp_11 HX n s m ns args hr h hlen hnm hns he
   by_cases h12:op=12
   ·subst h12;exact exp_12 HX n s m ns args hr h hlen hnm hns he
   exact exp_else HX op ⟨h0,h1,h2,h17,h8,h9,h11,h12⟩ n s m ns args hr h hlen hnm hns he
theorem rightFuncs_all:∀{l:List Fnc}{aO:List ByteArray},eH l aO=true->∀f∈l,pG f=true/\aT f.name=true
 |[],_,_,f,h=>yG
 |x::r,aO,h,f,hf=>by
  rw[eH] at h;split at h
  ·cases h
  ·rename_i hh;simp only[Bool.or_eq_true,not_or,Bool.not_eq_true',Bool.not_eq_true,Bool.not_eq_false] at hh;rcases List.mem_cons.1 hf with rfl|hf
   ·refine⟨?_,?_⟩
    ·cases hr:pG f with
     |true=>rfl
     |false=>rw[hr] at hh;simp at hh
    ·cases hr:aT f.name with
     |true=>rfl
     |false=>rw[hr] at hh;simp at hh
   ·exact rightFuncs_all h f hf
theorem rightM_parts{m:Mdl}(h:rightM m=true):m.vars.length<=8/\m.funcs.length<=30/\∀f∈m.funcs,f.params.length<=6/\aZ 12 f.body=true/\aT f.name=true:=by
 unfold rightM at h;simp only[Bool.and_eq_true,decide_eq_true_eq] at h;obtain⟨⟨⟨⟨⟨⟨⟨⟨⟨⟨-,h2⟩,-⟩,-⟩,h5⟩,h6⟩,-⟩,-⟩,-⟩,-⟩,-⟩:=h;unfold eD at h6;simp only[Bool.and_eq_true,decide_eq_true_eq] at h6;refine⟨h6.2,h5,fun f hf=>?_⟩;obtain⟨h7,h8⟩:=rightFuncs_all h2 f hf;unfold pG eD at h7;simp only[Bool.and_eq_true,decide_eq_true_eq] at h7;exact⟨h7.1.1.1.2,h7.1.2,h8⟩
theorem compile_any(m:Mdl)(N:Nat->Prop)(vu vv vi vf vo vw vb:Value)(w:World)(hg:bV w)(hM:encM N w m [.string m.name,vu,vv,vi,vf,.bool m.moves,vo,vw,vb]):
  Calls Tryz.prog 86 #[.agg #[.string m.name,vu,vv,vi,vf,.bool m.moves,vo,vw,vb]] w fun e w'=>∃v,e=.returned v/\aK 4 encCod (bP w.heap.size) w' v (jZ m)/\Below w.heap.size w w':=by
 obtain⟨x1,x2,x3,x4,x5,x6,x7,hMe,hn,hu,hv,hi,hf,ho,hw,hb⟩:=hM;cases hMe;have HB1:=zh (aA w (.cells #[.string m.name,vu,vv,vi,vf,.bool m.moves,vo,vw,vb] 132));have HRt:=zh (modRight_any m N vu vv vi vf vo vw vb _ (hg.later HB1.out) (hu.moves aV (bX.later HB1.out) vV) (hv.moves bA (bX.later HB1.out) vV) (hi.moves aG (bX.later HB1.out) vV) (hf.moves cQ (bX.later HB1.out) vV) (ho.moves bA (bX.later HB1.out) vV) (hw.moves aG (bX.later HB1.out) vV) (hb.moves aG (bX.later HB1.out) vV) hn);have HVR:=zh hv;obtain⟨au,cu,rfl,-⟩:=hu.at;obtain⟨av,cv,rfl,lv1,lv2,-⟩:=hv.at;obtain⟨ai,ci,rfl,-⟩:=hi.at;obtain⟨af,cf,rfl,lf1,lf2,hcf⟩:=hf.at;obtain⟨ao,co,rfl,-⟩:=ho.at;obtain⟨aw,cw,rfl,-⟩:=hw.at;obtain⟨ab,cb0,rfl,-⟩:=hb.at;have HCF:=zh hcf;have HG:=zh (fun W(hb:Below w.heap.size w W)=>hg.later hb);have h11:=hg.big;generalize m.uses.length=nu at *;generalize m.init.length=ni at *;generalize m.old.length=no at *;generalize m.forward.length=nw at *;generalize m.back.length=nb at *;have HBx:=zh (heap_alloc_new w (.cells #[.string m.name,.slice au nu cu,.slice av m.vars.length cv,.slice ai ni ci,.slice af m.funcs.length cf,.bool m.moves,.slice ao no co,.slice aw nw cw,.slice ab nb cb0] 132));clear hu hi hf ho hw hb hcf hv hg
 cases hrm:rightM m with
 |false=>
  rw[hrm] at HRt;have HE:Hid (jZ m=[]):=zh (by unfold jZ;rw[hrm];rfl);clear hrm;go_enter Tryz.func86,Tryz.ntmps86;go_wp2_with(go_at_call 113;refine HRt.out.mono ?_;rintro e w1 ⟨rfl,hb1⟩);go_ret;exact⟨_,rfl,by rw[HE.out];exact aK.nil _ _ _ _,aB HB1.out hb1⟩
 |true=>
  rw[hrm] at HRt;have HE:Hid (jZ m=m.funcs.map (compF (m.vars.map (·.1)))):=zh (by unfold jZ;rw[hrm];rfl);obtain⟨hv8,hf30,HPt⟩:=rightM_parts hrm;have HP:=zh HPt;obtain⟨i0,hi0,hz0,hz1,hz2⟩:=info_parts codInfo;obtain⟨i1,hi1,hy0,hy1,hy2⟩:=info_parts strInfo;clear hrm HPt;go_enter Tryz.func86,Tryz.ntmps86;go_wp2_with(go_at_call 113;refine HRt.out.mono ?_;rintro e w1 ⟨rfl,hb1⟩;obtain⟨⟨s0,s1,s2,s3,s4,s5,s6,s7,s8⟩,-⟩:=bx9 (aD hb1 HBx.out);have HBa:=zh (aB HB1.out hb1);have HBx1:=zh (aD hb1 HBx.out));clear s0 s1 s2 s3 s4 s5 s6 s7 s8;have hw1:=HBa.out.size;go_loopw [3,16] (fun ov iv wr=>∃(q:Nat)(css:List (List Value)),q<=m.funcs.length/\iv=.int .i64 (q:Int)/\Hid (Gro 4 168 encCod w1.heap.size ((m.funcs.take q).map (compF (m.vars.map (·.1)))) css ov wr)/\Hid (Below w1.heap.size w1 wr)) (fun _ iv _=>m.funcs.length-(intOf iv).toNat)
  case atStart=>exact⟨0,[],Nat.zero_le _,rfl,zh (Gro.first_at _ _ _ (Nat.le_refl _)),zh (Below.refl _ _)⟩
  case round=>
   obtain⟨q,css,hq,rfl,HGr,HB⟩:=hrel;(rename World=>wr);have HBr:=zh (aB HBa.out HB.out);have hwr:=HBr.out.size;obtain⟨⟨t0,t1,t2,t3,t4,t5,t6,t7,t8⟩,-⟩:=bx9 (aD HB.out HBx1.out);by_cases hlt:q<m.funcs.length
   ·obtain⟨f,hx,hmem⟩:=getElem?_of_lt hlt;obtain⟨b,o,rfl,hNb,cs,hen,-,hj⟩:=HCF.out q f hx;obtain⟨vp,kd,vr,op,n,sx,mx,vn,va,rfl,hsz0,hp,ht,he⟩:=hen;obtain⟨hp6,hbody,hsn⟩:=HP.out f hmem;obtain⟨ap,cp,rfl,lp1,lp2,hcp⟩:=hp.at;have HCP:=zh hcp;have HEX:=zh he;obtain⟨ar,lr,cr,rfl⟩:=encT_slice ht;obtain⟨⟨an,ln,cn,rfl⟩,aa,la,ca,rfl⟩:=lQ he;have HBD:=zh hbody;have c0:wr.cell? ⟨b,o+q*12,none⟩=some (.string f.name):=aC HBr.out (hj 0 _ rfl);have c1:=aC HBr.out (hj 1 _ rfl);have c2:=aC HBr.out (hj 2 _ rfl);have c3:=aC HBr.out (hj 3 _ rfl);have c4:=aC HBr.out (hj 4 _ rfl);have c5:=aC HBr.out (hj 5 _ rfl);have c6:=aC HBr.out (hj 6 _ rfl);have c7:=aC HBr.out (hj 7 _ rfl);have c8:=aC HBr.out (hj 8 _ rfl);have c9:=aC HBr.out (hj 9 _ rfl);have c10:=aC HBr.out (hj 10 _ rfl);have c11:=aC HBr.out (hj 11 _ rfl);have hblt:b<w.heap.size:=dC (hj 0 _ rfl);have HFx:=zh (heap_alloc_new wr (.cells #[.string f.name,.bool f.pub,.slice ap f.params.length cp,.int .i64 kd,.slice ar lr cr,.int .i64 f.effects,.int .i64 op,.int .i64 n,.string sx,.string mx,.slice an ln cn,.slice aa la ca] 179));have HCx:=zh (heap_alloc_new (wr.alloc (.cells #[.string f.name,.bool f.pub,.slice ap f.params.length cp,.int .i64 kd,.slice ar lr cr,.int .i64 f.effects,.int .i64 op,.int .i64 n,.string sx,.string mx,.slice an ln cn,.slice aa la ca] 179)) (.cells #[.slice av m.vars.length cv,.slice none 0 0,.int .i64 (f.params.length:Int)] 182));have hw2:((wr.alloc (.cells #[.string f.name,.bool f.pub,.slice ap f.params.length cp,.int .i64 kd,.slice ar lr cr,.int .i64 f.effects,.int .i64 op,.int .i64 n,.string sx,.string mx,.slice an ln cn,.slice aa la ca] 179)).alloc (.cells #[.slice av m.vars.length cv,.slice none 0 0,.int .i64 (f.params.length:Int)] 182)).heap.size=wr.heap.size+2:=vZ;have HB2:=zh (aB (aA wr (.cells #[.string f.name,.bool f.pub,.slice ap f.params.length cp,.int .i64 kd,.slice ar lr cr,.int .i64 f.effects,.int .i64 op,.int .i64 n,.string sx,.string mx,.slice an ln cn,.slice aa la ca] 179)) (aA (wr.alloc (.cells #[.string f.name,.bool f.pub,.slice ap f.params.length cp,.int .i64 kd,.slice ar lr cr,.int .i64 f.effects,.int .i64 op,.int .i64 n,.string sx,.string mx,.slice an ln cn,.slice aa la ca] 179)) (.cells #[.slice av m.vars.length cv,.slice none 0 0,.int .i64 (f.params.length:Int)] 182)));have hx12:=(lR (aD (aA (wr.alloc (.cells #[.string f.name,.bool f.pub,.slice ap f.params.length cp,.int .i64 kd,.slice ar lr cr,.int .i64 f.effects,.int .i64 op,.int .i64 n,.string sx,.string mx,.slice an ln cn,.slice aa la ca] 179)) (.cells #[.slice av m.vars.length cv,.slice none 0 0,.int .i64 (f.params.length:Int)] 182)) HFx.out)).1;obtain⟨⟨g0,g1,g2,g3,g4,g5,g6,g7,g8,g9,g10,g11⟩,-⟩:=lR HFx.out;obtain⟨⟨m0,m1,m2,m3,m4,m5,m6,m7,m8⟩,-⟩:=bx9 (aD (aA wr (.cells #[.string f.name,.bool f.pub,.slice ap f.params.length cp,.int .i64 kd,.slice ar lr cr,.int .i64 f.effects,.int .i64 op,.int .i64 n,.string sx,.string mx,.slice an ln cn,.slice aa la ca] 179)) (aD HB.out HBx1.out));have HTk:Hid ((m.funcs.take (q+1)).map (compF (m.vars.map (·.1)))=(m.funcs.take q).map (compF (m.vars.map (·.1)))++[compF (m.vars.map (·.1)) f]):=zh (by rw[List.take_add_one,hx];simp);clear hj hx hp ht he hcp hmem hbody;go_wp2_with fail;clear c0 c1 c2 c3 c4 c5 c6 c7 c8 c9 c10 c11 t0 t1 t2 t3 t4 t5 t6 t7 t8 g0 g1 g2 g3 g4 g5 g6 g7 g8 g9 g10 g11 m0 m1 m2 m3 m4 m5 m6 m7 m8;(go_loopw [7,30] (fun nv iv wz=>∃(z:Nat)(css7:List (List Value)),z<=f.params.length/\iv=.int .i64 (z:Int)/\Hid (Gro 1 9 bM (wr.heap.size+2) ((f.params.take z).map (·.1)) css7 nv wz)/\Hid (Below ((wr.alloc (.cells #[.string f.name,.bool f.pub,.slice ap f.params.length cp,.int .i64 kd,.slice ar lr cr,.int .i64 f.effects,.int .i64 op,.int .i64 n,.string sx,.string mx,.slice an ln cn,.slice aa la ca] 179)).alloc (.cells #[.slice av m.vars.length cv,.slice none 0 0,.int .i64 (f.params.length:Int)] 182)).heap.size ((wr.alloc (.cells #[.string f.name,.bool f.pub,.slice ap f.params.length cp,.int .i64 kd,.slice ar lr cr,.int .i64 f.effects,.int .i64 op,.int .i64 n,.string sx,.string mx,.slice an ln cn,.slice aa la ca] 179)).alloc (.cells #[.slice av m.vars.length cv,.slice none 0 0,.int .i64 (f.params.length:Int)] 182)) wz)) (fun _ iv _=>f.params.length-(intOf iv).toNat));case atStart=>exact⟨0,[],Nat.zero_le _,rfl,zh (Gro.first_at _ _ _ (by rw[hw2];exact Nat.le_refl _)),zh (Below.refl _ _)⟩
    case round=>
     obtain⟨z,css7,hz,rfl,HG7,HBz⟩:=hrel;(rename World=>wz);have HBz2:=zh (aB HB2.out HBz.out);have HBz0:=zh (aB HBr.out HBz2.out);have hwz:=HBz.out.size;rw[hw2] at hwz;obtain⟨⟨e0,e1,e2,e3,e4,e5,e6,e7,e8,e9,e10,e11⟩,-⟩:=lR (aD (aB (aA (wr.alloc (.cells #[.string f.name,.bool f.pub,.slice ap f.params.length cp,.int .i64 kd,.slice ar lr cr,.int .i64 f.effects,.int .i64 op,.int .i64 n,.string sx,.string mx,.slice an ln cn,.slice aa la ca] 179)) (.cells #[.slice av m.vars.length cv,.slice none 0 0,.int .i64 (f.params.length:Int)] 182)) HBz.out) HFx.out);by_cases hlz:z<f.params.length
     ·obtain⟨x,hx,-⟩:=getElem?_of_lt hlz;obtain⟨b9,o9,rfl,-,cs9,hen9,-,hj9⟩:=HCP.out z x hx;obtain⟨nm,ty⟩:=x;obtain⟨ct,rfl,hsz,hty⟩:=hen9
      cases ty with
      |mk kd9 fs9=>
       rw[iE] at hty;obtain⟨vf9,rfl,hr9⟩:=hty;obtain⟨a9,c9,rfl,-⟩:=hr9.at;have d0:wz.cell? ⟨b9,o9+z*3,none⟩=some (.string nm):=aC HBz0.out (hj9 0 _ rfl);have d1:=aC HBz0.out (hj9 1 _ rfl);have d2:=aC HBz0.out (hj9 2 _ rfl);have HT7:Hid ((f.params.take (z+1)).map (·.1)=(f.params.take z).map (·.1)++[nm]):=zh (by rw[List.take_add_one,hx];simp);have hl7:((f.params.take z).map (·.1)).length=z:=by rw[List.length_map,List.length_take];omega
       have hfo:∃q8 q9,u7=.slice q8 z q9:=by
        rcases HG7.out.val with⟨h1,h2⟩|⟨g,cap,h1,-⟩
        ·exact⟨none,0,by rw[h1];rw[h2] at hl7;simp at hl7;rw[<-hl7]⟩
        ·exact⟨_,_,by rw[h1,hl7]⟩
       obtain⟨q8,q9,rfl⟩:=hfo;clear hj9 hx hr9;generalize fs9.length=k9 at *;have hb9:=aB (aA wz (.cells #[.string nm,.int .i64 kd9,.slice a9 k9 c9] 184)) (aA _ (.cells #[.string nm] 9));have HG9:=zh (HG7.out.later aV hb9);have hown9:=HG9.out.own;rw[hl7] at hown9;have hbig9:=HG9.out.big;have HB9:=zh hb9;clear hb9;go_wp2_with(at_builtin;refine wpList_append_lies _ rfl _ _ 22 rfl (wr.heap.size+2) 9 i1 (.string ByteArray.empty) 1 16 Tryz.underlying22 hi1 hy0 hy1 hy2 rfl vT (.slice q8 z q9) z css7.flatten xK hown9 ⟨wz.heap.size+1,0,none⟩ 1 1 [.string nm] xK rfl (World.news_of_block (cs:=#[.string nm]) (t:=9) (fr:=(0,0)) (by simpa using heap_alloc_new (wz.alloc (.cells #[.string nm,.int .i64 kd9,.slice a9 k9 c9] 184)) (.cells #[.string nm] 9))) wN vT wK vT hbig9 (wz.heap.size+2) vZ ?_);intro g7 cap7 w9 hown hgrow hat _;have hadd:=HG9.out.added aV (x:=nm) ⟨rfl,vT⟩ rfl (by rw[hl7];exact hown) hgrow zL;rw[hl7,<-HT7.out] at hadd;have HB10:=zh ((aB HBz.out HB9.out).grown hgrow (by have:=(aB HBz.out HB9.out).size;exact this) (fun k hk=>by have h:=(HG9.out.lt k hk).1;rw[hw2];exact h));clear hown hgrow hat hown9;go_wp2_with fail;go_roundw;(case rel=>exact⟨z+1,_,vT,wH,zh hadd,HB10⟩);case measure=>simp[intOf];omega
     ·have hz':f.params.take z=f.params:=List.take_of_length_le vT;rw[hz'] at HG7;(have hl7:(f.params.map (·.1)).length=f.params.length:=by rw[List.length_map]);have hcb:∀b,b<w.heap.size->gX (wr.heap.size+1) (.slice none 0 0) b:=fun b hb=>⟨vT,by intro e;cases e⟩;have HROW:Hid (aK 1 bM (gX (wr.heap.size+1) (.slice none 0 0)) wz u7 (f.params.map (·.1))):=zh ((HG7.out.row aV).moves aV (fun b hb hlt=>⟨⟨by have:wr.heap.size+2<=b:=hb;omega,by intro e;cases e⟩,fun _ _ h=>h⟩) vV);have HXE:=zh (aG _ _ (gX (wr.heap.size+1) (.slice none 0 0)) wz _ _ (fun b hb hlt=>⟨hcb b hlt,fun _ _ h=>aC HBz0.out h⟩) HEX.out);(have hbx0:wz.heap[wr.heap.size+1]? =some (.cells #[.slice av m.vars.length cv,.slice none 0 0,.int .i64 (f.params.length:Int)] 182):=by have h:=aD HBz.out HCx.out;simpa using h);have HCP0:Hid (Cp (wr.heap.size+2) (wr.heap.size+1) m.vars (.slice av m.vars.length cv) ⟨[],f.params.length⟩ [] (.slice none 0 0) wz):=zh ⟨hbx0,Gro.first_at _ _ _ hwz,HVR.out.moves bA (fun b hb hlt=>⟨hcb b hlt,fun _ _ h=>aC HBz0.out h⟩) vV,vT,vT,vT,HG.out _ HBz0.out⟩;have HFz:Hid (wz.heap[wr.heap.size]? =some (.cells #[.string f.name,.bool f.pub,.slice ap f.params.length cp,.int .i64 kd,.slice ar lr cr,.int .i64 f.effects,.int .i64 op,.int .i64 n,.string sx,.string mx,.slice an ln cn,.slice aa la ca] 179)/\gX (wr.heap.size+1) (.slice none 0 0) wr.heap.size):=zh ⟨aD (aB (aA (wr.alloc (.cells #[.string f.name,.bool f.pub,.slice ap f.params.length cp,.int .i64 kd,.slice ar lr cr,.int .i64 f.effects,.int .i64 op,.int .i64 n,.string sx,.string mx,.slice an ln cn,.slice aa la ca] 179)) (.cells #[.slice av m.vars.length cv,.slice none 0 0,.int .i64 (f.params.length:Int)] 182)) HBz.out) HFx.out,vT,by intro e;cases e⟩;have HQ:=zh (cexp_all 12 f.body _ _ m.vars _ _ ⟨[],f.params.length⟩ [] (f.params.map (·.1)) u7 op n sx mx _ _ wz HBD.out HCP0.out (by rw[lenB_12];show 0+9817068105<=_;omega) vT HROW.out HXE.out)
      have hlen8:(bH (m.vars.map (·.1)) 12 (f.params.map (·.1)) f.body ⟨[],f.params.length⟩).code.length<=100000000000:=by
       have h:=hZ (m.vars.map (·.1)) 12 (f.params.map (·.1)) f.body ⟨[],f.params.length⟩ HBD.out;rw[lenB_12] at h;have h0:(⟨[],f.params.length⟩:Cmp).code.length=0:=rfl;omega
      have HCE:Hid (compF (m.vars.map (·.1)) f=⟨f.name,f.params.length,((bH (m.vars.map (·.1)) 12 (f.params.map (·.1)) f.body ⟨[],f.params.length⟩).put (ins 18 0)).locals,((bH (m.vars.map (·.1)) 12 (f.params.map (·.1)) f.body ⟨[],f.params.length⟩).put (ins 18 0)).code⟩):=zh rfl;generalize bH (m.vars.map (·.1)) 12 (f.params.map (·.1)) f.body ⟨[],f.params.length⟩=c8 at HQ HCE hlen8;clear hbx0;go_wp2_with(go_at_call 114;refine HQ.out.mono ?_;rintro e w8 ⟨css8,v8,rfl,hc8,hx8⟩);have HP8:=zh (nJ (ins 18 0) (.slice none 0 0) hc8 hlen8 (jX _ _ 18 0 vV vV));have HX8:=zh hx8;clear hc8 hx8 HQ e0 e1 e2 e3 e4 e5 e6 e7 e8 e9 e10 e11;go_wp2_with(go_at_call 115;refine HP8.out.mono ?_;rintro e w9 ⟨css9,v9,rfl,hc9,hx9⟩);have HX9:=zh (HX8.out.trans hx9)
      have hbelow:Below wr.heap.size wr w9:=Off.below (B:=wr.heap.size) (aB HB2.out HBz.out) HX9.out.off (fun k hk=>by
       rcases hk with h|h
       ·omega
       ·simp[Value.ownBlock] at h) vT
      have HF9:Hid (w9.heap[wr.heap.size]? =some (.cells #[.string f.name,.bool f.pub,.slice ap f.params.length cp,.int .i64 kd,.slice ar lr cr,.int .i64 f.effects,.int .i64 op,.int .i64 n,.string sx,.string mx,.slice an ln cn,.slice aa la ca] 179)):=zh (HX9.out.off.heap (fun hk=>by
       rcases hk with h|h
       ·omega
       ·simp[Value.ownBlock] at h) HFz.out.1)
      generalize c8.put (ins 18 0)=c9 at hc9 HCE;have hrow9:=hc9.gro.row hU;obtain⟨a9,k9,rfl,-⟩:=hrow9.at;have HRow9:=zh hrow9;have HC9:=zh hc9.box;have HGr9:=zh (HGr.out.later nZ hbelow);have HB9x:=zh (aB HB.out hbelow);have hs9:=hbelow.size;have hlt9:wr.heap.size+1<w9.heap.size:=(Array.getElem?_eq_some_iff.1 hc9.box).1;clear hbelow hc9 hx9 hrow9;have hl3:((m.funcs.take q).map (compF (m.vars.map (·.1)))).length=q:=by rw[List.length_map,List.length_take];omega
      have hfo3:∃q3 q4,u3=.slice q3 q q4:=by
       rcases HGr9.out.val with⟨h1,h2⟩|⟨g,cap,h1,-⟩
       ·exact⟨none,0,by rw[h1];rw[h2] at hl3;simp at hl3;rw[<-hl3]⟩
       ·exact⟨_,_,by rw[h1,hl3]⟩
      obtain⟨q3,q4,rfl⟩:=hfo3;have HH:=zh (HGr9.out.later nZ (aF (w9)));have hb16:Below w9.heap.size w9 (w9.drew.alloc (.cells #[.string f.name,.int .i64 (f.params.length:Int),.int .i64 (c9.locals:Int),.slice a9 c9.code.length k9] 168)):=aB (aF w9) (aA w9.drew (.cells #[.string f.name,.int .i64 (f.params.length:Int),.int .i64 (c9.locals:Int),.slice a9 c9.code.length k9] 168));have HG16:=zh (HGr9.out.later nZ hb16);have HB16:=zh (aB HB9x.out hb16);have hown16:=HG16.out.own;rw[hl3] at hown16;have hbig16:=HG16.out.big
      have HEn:Hid (encCod (mK w1.heap.size (.slice q3 q q4)) (w9.drew.alloc (.cells #[.string f.name,.int .i64 (f.params.length:Int),.int .i64 (c9.locals:Int),.slice a9 c9.code.length k9] 168)) (compF (m.vars.map (·.1)) f) [.string f.name,.int .i64 (f.params.length:Int),.int .i64 (c9.locals:Int),.slice a9 c9.code.length k9]):=zh (by
       rw[HCE.out]
       refine⟨_,rfl,hsz0,HRow9.out.moves hU (fun b hb hlt=>⟨⟨by have:wr.heap.size+2<=b:=hb;have:=HGr.out.big;omega,fun e=>by
        have:wr.heap.size+2<=b:=hb;have:=(HGr.out.lt b e).2
        omega⟩,fun _ _ h=>aC hb16 h⟩) vV⟩)
      have HSa:Hid ((w9.drew.alloc (.cells #[.string f.name,.int .i64 (f.params.length:Int),.int .i64 (c9.locals:Int),.slice a9 c9.code.length k9] 168)).heap[wr.heap.size]? =some (.cells #[.string f.name,.bool f.pub,.slice ap f.params.length cp,.int .i64 kd,.slice ar lr cr,.int .i64 f.effects,.int .i64 op,.int .i64 n,.string sx,.string mx,.slice an ln cn,.slice aa la ca] 179)/\(w9.drew.alloc (.cells #[.string f.name,.int .i64 (f.params.length:Int),.int .i64 (c9.locals:Int),.slice a9 c9.code.length k9] 168)).heap[wr.heap.size+1]? =some (.cells #[.slice av m.vars.length cv,.slice a9 c9.code.length k9,.int .i64 (c9.locals:Int)] 182)):=zh ⟨aD hb16 HF9.out,aD hb16 HC9.out⟩;clear hb16;have HT16:Hid ((m.funcs.take (q+1)).map (compF (m.vars.map (·.1)))=(m.funcs.take q).map (compF (m.vars.map (·.1)))++[compF (m.vars.map (·.1)) f]):=HTk;refine wp_region_held_drew (S:=fun W=>W.heap[wr.heap.size]? =some (.cells #[.string f.name,.bool f.pub,.slice ap f.params.length cp,.int .i64 kd,.slice ar lr cr,.int .i64 f.effects,.int .i64 op,.int .i64 n,.string sx,.string mx,.slice an ln cn,.slice aa la ca] 179)/\W.heap[wr.heap.size+1]? =some (.cells #[.slice av m.vars.length cv,.slice a9 c9.code.length k9,.int .i64 (c9.locals:Int)] 182)) vU ⟨HF9.out,HC9.out⟩ fun hS=>?_;refine zt 0 (.slice q3 q q4) rfl (fun W hW=>vW) hS ?_;(try simp only[zn]);refine zt 1 (.pointer (some ⟨wr.heap.size,0,none⟩)) rfl (fun W hW=>vW) hS ?_;(try simp only[zn]);refine zt 2 (.string f.name) rfl (fun W hW=>AT) hS ?_;(try simp only[zn]);refine zt 3 (.pointer (some ⟨wr.heap.size,2,none⟩)) rfl (fun W hW=>vW) hS ?_;(try simp only[zn]);refine zt 4 (.slice ap f.params.length cp) rfl (fun W hW=>AT) hS ?_;(try simp only[zn]);refine zt 5 (.int .i64 (f.params.length:Int)) rfl (fun W hW=>vW) hS ?_;(try simp only[zn]);refine zt 6 (.pointer (some ⟨wr.heap.size+1,0,none⟩)) rfl (fun W hW=>vW) hS ?_;(try simp only[zn]);refine zt 7 (.pointer (some ⟨wr.heap.size+1,0,none⟩)) rfl (fun W hW=>vW) hS ?_;(try simp only[zn]);refine zt 8 (.pointer (some ⟨wr.heap.size+1,2,none⟩)) rfl (fun W hW=>vW) hS ?_;(try simp only[zn]);refine zt 9 (.int .i64 (c9.locals:Int)) rfl (fun W hW=>by obtain⟨⟨z0,z1,z2⟩,-⟩:=bx3 hW.2;go_simp) hS ?_;(try simp only[zn]);refine zt 10 (.pointer (some ⟨wr.heap.size+1,0,none⟩)) rfl (fun W hW=>vW) hS ?_;(try simp only[zn]);refine zt 11 (.pointer (some ⟨wr.heap.size+1,0,none⟩)) rfl (fun W hW=>vW) hS ?_;(try simp only[zn]);refine zt 12 (.pointer (some ⟨wr.heap.size+1,1,none⟩)) rfl (fun W hW=>vW) hS ?_;(try simp only[zn]);refine zt 13 (.slice a9 c9.code.length k9) rfl (fun W hW=>by obtain⟨⟨z0,z1,z2⟩,-⟩:=bx3 hW.2;go_simp) hS ?_;(try simp only[zn]);refine zt 14 (.agg #[.string f.name,.int .i64 (f.params.length:Int),.int .i64 (c9.locals:Int),.slice a9 c9.code.length k9]) rfl (fun W hW=>vW) hS ?_;(try simp only[zn]);refine zr 15 rfl (fun K hK=>?_);(try simp only[z1,z2,z3]);go_simp;refine hK.out _ _ HSa.out (fun hS=>?_);clear hK K;(try simp only[zn]);refine wpAnyH_ready (rs:=[16]) vU vZ ?_;refine AllReadyH.cons rfl (fun K hK=>?_) AllReadyH.nil;refine step_append_lies (w9.drew.alloc (.cells #[.string f.name,.int .i64 (f.params.length:Int),.int .i64 (c9.locals:Int),.slice a9 c9.code.length k9] 168)) rfl _ _ 136 rfl w1.heap.size 168 i0 (.agg #[.string ByteArray.empty,.int .i64 0,.int .i64 0,.slice none 0 0]) 4 56 Tryz.underlying136 hi0 hz0 hz1 hz2 rfl vT (.slice q3 q q4) q css.flatten xK hown16 ⟨w9.heap.size,0,none⟩ 1 1 [.string f.name,.int .i64 (f.params.length:Int),.int .i64 (c9.locals:Int),.slice a9 c9.code.length k9] xK rfl (World.news_of_block (cs:=#[.string f.name,.int .i64 (f.params.length:Int),.int .i64 (c9.locals:Int),.slice a9 c9.code.length k9]) (t:=168) (fr:=(0,0)) (by simpa using heap_alloc_new w9.drew (.cells #[.string f.name,.int .i64 (f.params.length:Int),.int .i64 (c9.locals:Int),.slice a9 c9.code.length k9] 168))) wN vT wK vT hbig16 (w9.heap.size+1) vZ ?_;intro g3 cap3 w17 hown hgrow hat hg17;have hadd:=HG16.out.added nZ HEn.out rfl (by rw[hl3];exact hown) hgrow zL;rw[hl3,<-HT16.out] at hadd;have HG17:=zh hadd;have HB17:=zh (HB16.out.grown hgrow (by have:=HB16.out.size;exact this) (fun k hk=>(HG16.out.lt k hk).1));have HS17:Hid (w17.heap[wr.heap.size]? =some (.cells #[.string f.name,.bool f.pub,.slice ap f.params.length cp,.int .i64 kd,.slice ar lr cr,.int .i64 f.effects,.int .i64 op,.int .i64 n,.string sx,.string mx,.slice an ln cn,.slice aa la ca] 179)/\w17.heap[wr.heap.size+1]? =some (.cells #[.slice av m.vars.length cv,.slice a9 c9.code.length k9,.int .i64 (c9.locals:Int)] 182)):=zh ⟨by rw[hgrow.block _ (Array.getElem?_eq_some_iff.1 HSa.out.1).1 (fun e=>by have:=(HGr.out.lt _ e.symm).2;omega)];exact HSa.out.1,by rw[hgrow.block _ (Array.getElem?_eq_some_iff.1 HSa.out.2).1 (fun e=>by have:=(HGr.out.lt _ e.symm).2;omega)];exact HSa.out.2⟩;clear hown hgrow hat hg17 hadd hown16;refine hK.out _ _ HS17.out (fun hS=>?_);clear hK K;(try simp only[zn]);refine zt 17 (.slice (some ⟨g3,0,none⟩) (q+1) cap3) rfl (fun W hW=>vW) hS ?_;(try simp only[zn]);refine wpAnyH_done vU ?_ _;clear hS;go_wp2_with fail;go_roundw;(case rel=>exact⟨q+1,_,vT,wH,HG17,HB17⟩);case measure=>simp[intOf];omega
   ·have hq':m.funcs.take q=m.funcs:=List.take_of_length_le vT;rw[hq'] at HGr;have hval:=HGr.out.val;go_wp2_with fail;go_ret;exact⟨_,rfl,by rw[HE.out];exact(HGr.out.row nZ).moves nZ (fun b hb hlt=>⟨Nat.le_trans hw1 hb,fun _ _ h=>h⟩) vV,HBr.out⟩
end Go.Proofs.YtacgopankhpnbaaGreatDoor
namespace Go.Proofs.YtacgopankhpnbaaGreatDoor
set_option maxHeartbeats 2000000
theorem choice_loc{yes no:Cmp->Cmp}{M:Nat}(hy:∀c,c.locals<=M->(yes c).locals<=M)(hn:∀c,c.locals<=M->(no c).locals<=M)(c:Cmp)(h:c.locals<=M):(iF yes no c).locals<=M:=hn _ (hy _ h)
theorem fold_loc{f:Cmp->Xp->Cmp}{M:Nat}(hf:∀c x,c.locals<=M->(f c x).locals<=M):∀(args:List Xp)(c:Cmp),c.locals<=M->(args.foldl f c).locals<=M
 |[],_,h=>h
 |x::args,c,h=>fold_loc hf args (f c x) (hf c x h)
theorem compX_loc(vars:List ByteArray):∀(d:Nat)(names:List ByteArray)(x:Xp)(c:Cmp)(M:Nat),c.locals<=M->names.length+d<=M->(bH vars d names x c).locals<=M
 |0,_,_,c,M,h,_=>by simpa[bH] using h
 |d+1,names,.mk op n s m ns args,c,M,h,hM=>by
  have ih:∀(names:List ByteArray)(x:Xp)(c:Cmp),names.length+d<=M->c.locals<=M->(bH vars d names x c).locals<=M:=fun names x c hn h=>compX_loc vars d names x c M h hn;have ihn:∀(x:Xp)(c:Cmp),c.locals<=M->(bH vars d names x c).locals<=M:=fun x c=>ih names x c vT;rw[fV];generalize bH vars d=F at ih ihn ⊢;split
  ·exact h
  split
  ·exact h
  split
  ·exact h
  split
  ·exact h
  split
  ·split
   ·rename_i x y;exact choice_loc (yes:=F names y) (no:=fun c=>c.put (ins 1 0)) (fun c h=>ihn y c h) (fun c h=>h) _ (ihn x c h)
   ·exact h
  split
  ·split
   ·rename_i x y;exact choice_loc (yes:=fun c=>c.put (ins 1 1)) (no:=F names y) (fun c h=>h) (fun c h=>ihn y c h) _ (ihn x c h)
   ·exact h
  split
  ·split
   ·rename_i x y z;exact choice_loc (yes:=F names y) (no:=F names z) (fun c h=>ihn y c h) (fun c h=>ihn z c h) _ (ihn x c h)
   ·exact h
  split
  ·split
   ·rename_i x y;exact ih (names++[s]) y _ (by rw[List.length_append,List.length_singleton];omega) (Nat.max_le.2 ⟨ihn x c h,vT⟩)
   ·exact h
  ·exact fold_loc (f:=fun c x=>F names x c) (fun c x h=>ihn x c h) args c h
theorem mF(m:Mdl):(jZ m).length<=30/\∀c∈jZ m,CodSmall c:=by
 unfold jZ
 cases hr:rightM m with
 |false=>exact⟨vZ,fun c hc=>by simp at hc⟩
 |true=>
  rw[if_pos rfl];obtain⟨h8,h30,hp⟩:=rightM_parts hr;refine⟨by rw[List.length_map];exact h30,fun c hc=>?_⟩;obtain⟨f,hf,rfl⟩:=List.mem_map.1 hc;obtain⟨h6,hb,-⟩:=hp f hf;have h1:=hZ (m.vars.map (·.1)) 12 (f.params.map (·.1)) f.body ⟨[],f.params.length⟩ hb;rw[lenB_12] at h1;have h2:=compX_loc (m.vars.map (·.1)) 12 (f.params.map (·.1)) f.body ⟨[],f.params.length⟩ 1000 (by show f.params.length<=1000;omega) (by rw[List.length_map];omega);refine⟨?_,by show f.params.length<=_;omega,?_⟩
  ·show((bH (m.vars.map (·.1)) 12 (f.params.map (·.1)) f.body ⟨[],f.params.length⟩).put (ins 18 0)).code.length<=_;rw[Cmp.put_len];have h0:(⟨[],f.params.length⟩:Cmp).code.length=0:=rfl;omega
  ·show(bH (m.vars.map (·.1)) 12 (f.params.map (·.1)) f.body ⟨[],f.params.length⟩).locals<=_;omega
end Go.Proofs.YtacgopankhpnbaaGreatDoor
namespace Go.Proofs.YtacgopankhpnbaaGreatDoor
set_option maxHeartbeats 4000000
set_option maxRecDepth 100000
open Go.RowKit
theorem listC_size{l:List Cod}{N:Nat->Prop}{v:Value}{w:World}(hr:aK 4 encCod N w v l)(hsm:∀c∈l,CodSmall c)(hl:l.length<=30):(listC l).size<=140737488355328:=by
 have hf:=row_fit hr hsm;unfold listC;split
 ·rename_i h;have h1:=cods_len l (fun c hc=>⟨hf c hc,List.all_eq_true.1 h c hc⟩);have h2:l.length*1750000000100<=30*1750000000100:=Nat.mul_le_mul_right _ hl;rw[size_toArray];omega
 ·decide
theorem parseL_nz{s:ByteArray}{x:Int×Int}(h:oJ s=.error x):x.2≠0:=by
 unfold oJ at h;split at h
 ·rename_i y hy;cases h;exact lexL_nz hy
 ·rename_i l hl;split at h
  ·rename_i y hy;cases h;exact module_nz _ hy
  ·cases h
theorem write_compile(b:Nat)(text:ByteArray)(vs clk ord nxt:Value)(u0 u1:Int)(vf:Value)(tn:ByteArray)(sorted:Bool)(w:World)(hG:bV w)(hs:Sbx w b vs clk ord nxt u0 u1)(hsaw:Strs w vs [text])
  (hf:∃a n c,vf=.slice a n c) (ht:text.size<=1000000):
  Calls Tryz.prog 52 #[.pointer (some ⟨b,0,none⟩),.agg #[.int .i64 5,vf,.string tn,.bool sorted]] w fun e w'=>
   e=.returned (.tuple #[.string (bJ text).2,.int .i64 (bJ text).1])/\Sbx w' b vs clk ord nxt u0 u1/\bU b w w'/\(bJ text).2.size<=140737488355328:=by
 obtain⟨a,n,c,rfl⟩:=hf;have c0:=hs.cell 0;have hbl:=hs.lt;simp only[List.getElem?_toArray,List.getElem?_cons_zero] at c0;have HS:=zh hs;clear hs;rcases hsaw.cases with⟨h,-⟩|⟨bl,o,c1,rfl,h0,h1,h2,hb,hc⟩
 ·cases h
 have c2:=(hc 0 text rfl).1;simp only[Nat.add_zero,List.length_cons,List.length_nil,Nat.zero_add] at c2 c0 h1 ⊢;have hb2:bl<w.heap.size:=hb;have HP:=zh (fun W(hb:Below w.heap.size w W)=>parse_any text W vT (hG.later hb) (hG.later hb).signs (hG.later hb).spc);have HG:=zh (fun W(hb:Below w.heap.size w W)=>hG.later hb);clear hsaw hc hG hb;go_enter Tryz.func52,Tryz.ntmps52;go_wp2_with fail;refine(HP.out _ (aA _ _)).mono ?_;rintro e w1 ⟨hpv,hb1⟩;have HB1:=zh (aB (aA _ _) hb1);clear hb1
 cases hp:oJ text with
 |error x=>
  rw[hp] at hpv;have e1:e=.returned (.tuple #[.agg eA,.int .i64 x.1,.int .i64 x.2]):=hpv;subst e1;have HF:Hid (bJ text=(x.2,noB)):=zh (by unfold bJ;rw[hp]);have e0:(x.2==0)=false:=by rw[beq_eq_false_iff_ne];exact parseL_nz hp
  clear hp hpv;dsimp only[eA];go_wp2_with fail;go_ret2;rw[HF.out];exact⟨rfl,HS.out.later (aB HB1.out (aA _ _)),bU.of_below (aB HB1.out (aA _ _)),(show noB.size<=140737488355328 from vV)⟩
 |ok m=>
  rw[hp] at hpv;obtain⟨au,nu,du,av,nv,dv,ai,ni,di,af,nf,df,ao,no,do_,aw,nw,dw,ab,nb,db,rfl,hM⟩:=hpv;have HF:Hid (bJ text=(0,listC (jZ m))):=zh (by unfold bJ;rw[hp]);clear hp;have HB2:=zh (aB HB1.out (aA w1 (.cells #[.string m.name,.slice au nu du,.slice av nv dv,.slice ai ni di,.slice af nf df,.bool m.moves,.slice ao no do_,.slice aw nw dw,.slice ab nb db] 132)));have HC:=zh (compile_any m _ _ _ _ _ _ _ _ _ (HG.out _ HB2.out) (encM_ok _ _ _ _ _ _ (bX.later (aA w1 (.cells #[.string m.name,.slice au nu du,.slice av nv dv,.slice ai ni di,.slice af nf df,.bool m.moves,.slice ao no do_,.slice aw nw dw,.slice ab nb db] 132))) hM));have HX:=zh (heap_alloc_new w1 (.cells #[.string m.name,.slice au nu du,.slice av nv dv,.slice ai ni di,.slice af nf df,.bool m.moves,.slice ao no do_,.slice aw nw dw,.slice ab nb db] 132));obtain⟨⟨x0,x1,x2,x3,x4,x5,x6,x7,x8⟩,-⟩:=bx9 HX.out;clear hM;go_wp2_with(go_at_call 86;refine HC.out.mono ?_;rintro e w2 ⟨v,rfl,hrow,hb2⟩);have HB3:=zh (aB HB2.out hb2);have HL:=zh (list_any (jZ m) _ v w2 (HG.out _ HB3.out) hrow (mF m).1 (mF m).2);have HSz:=zh (listC_size hrow (mF m).2 (mF m).1);obtain⟨a9,c9,rfl,-⟩:=hrow.at;clear hrow hb2;go_wp2_with(go_at_call 85;refine HL.out.mono ?_;rintro e w3 ⟨rfl,hb3⟩);go_ret2;rw[HF.out];exact⟨rfl,HS.out.later (aB HB3.out hb3),bU.of_below (aB HB3.out hb3),HSz.out⟩
theorem do_far5(s:Stp)(files:List Fil)(clock order:List Int)(vf vl vc vo vn:Value)(u0 u1:Int)(w:World)(h:DoIn s files clock order vf vl vc vo vn u0 u1 w)(h5:s.kind=5):
  Calls Tryz.prog 17 (kK s vf vl vc vo vn u0 u1) w (DoFar w s files u0 u1 (aX bJ s files clock order u0 u1)):=by
 by_cases hbad:aP s=false\/aR files=false\/min u0 u1<0
 ·have e:aX bJ s files clock order u0 u1=.error 1:=by
   unfold aX;rw[if_pos];rcases hbad with h|h|h<;>simp[h]
  rw[e];refine(do_arg s files clock order vf vl vc vo vn u0 u1 w h hbad).mono ?_;exact uI
 ·have hr1:aP s=true:=AX;have hr2:aR files=true:=AE;have hmin:¬min u0 u1<0:=fun hh=>hbad (.inr (.inr hh))
  have e0:aX bJ s files clock order u0 u1=if(aI files s.out).isSome then .error 5 else if 60<=files.length then .error 6
    else match eT files s.src with|none=>.error 4|some saw=>if(bJ (saw.headD ByteArray.empty)).1≠0 then .error (bJ (saw.headD ByteArray.empty)).1
     else if 65536<(bJ (saw.headD ByteArray.empty)).2.size then .error 6 else .ok ((bJ (saw.headD ByteArray.empty)).2,saw,u0,u1):=by
   unfold aX;rw[if_neg (by simp[hr1,hr2,decide_eq_false hmin])];split
   ·rfl
   ·split
    ·rfl
    ·cases eT files s.src with
     |none=>rfl
     |some saw=>simp only[h5,if_true]
  rw[e0]
  cases hf:aI files s.out with
  |some t=>
   simp only[Option.isSome_some,if_true];refine(do_twice s files clock order vf vl vc vo vn u0 u1 w h hr1 hr2 hmin t hf).mono ?_;exact uI
  |none=>
   simp only[Option.isSome_none,Bool.false_eq_true,if_false];by_cases hfull:60<=files.length
   ·rw[if_pos hfull];refine(do_full s files clock order vf vl vc vo vn u0 u1 w h hr1 hr2 hmin hf hfull).mono ?_;exact uI
   ·rw[if_neg hfull]
    refine do_main s files clock order vf vl vc vo vn u0 u1 w h hr1 hr2 hmin hf hfull _ (fun hs W' hW=>?_)
     (fun saw text err saw' a b=>err=(bJ (saw.headD ByteArray.empty)).1/\text=(bJ (saw.headD ByteArray.empty)).2/\saw'=saw/\a=u0/\b=u1/\text.size<=140737488355328) (fun saw hs bx vs W hWI=>?_) (fun saw hs text err saw' a b hP=>?_)
    ·rw[hs];exact⟨hW,rfl⟩
    ·have hone:∃t,saw=[t]:=by
      obtain⟨hn,hout,hl,hk⟩:=dS hWI.hright;have h1:=hWI.hlen;have h2:saw.length=1:=vT;exact List.length_eq_one_iff.1 h2
     obtain⟨t,rfl⟩:=hone;have ht:=hWI.htexts t vZ;(have hvf:∃a n c,vf=.slice a n c:=by obtain⟨a,c,hv,-⟩:=hWI.hsrc;exact⟨a,_,c,hv⟩);rw[h5];refine(write_compile bx t vs vc vo vn u0 u1 vf s.out s.sorted W hWI.hglob hWI.hsbx hWI.hsaw.1 hvf vT).mono ?_;rintro e w' ⟨rfl,h1,h2,h3⟩;exact⟨vs,_,_,[t],_,_,rfl,h1,hWI.hsaw.only h2,h2,rfl,rfl,rfl,rfl,rfl,h3⟩
    ·obtain⟨rfl,rfl,rfl,rfl,rfl,hsz⟩:=hP;rw[hs];simp only;refine⟨hsz,fun hne W' hW=>?_,fun he hbig W' hW=>?_,fun he hbig W' vfl vsaw hW h1 h2 h3 h4=>?_⟩
     ·rw[if_pos hne];exact⟨hW,rfl⟩
     ·rw[if_neg (fun hn=>hn he),if_pos hbig];exact⟨hW,rfl⟩
     ·rw[if_neg (fun hn=>hn he),if_neg hbig];exact⟨hW,vfl,vsaw,rfl,h1,h2,h3,h4⟩
theorem qO(s:Stp):DoAll bJ s:=by
 by_cases h5:s.kind=5
 ·exact fun files clock order vf vl vc vo vn u0 u1 w h=>do_far5 s files clock order vf vl vc vo vn u0 u1 w h h5
 ·exact doAll_plain h5
end Go.Proofs.YtacgopankhpnbaaGreatDoor
