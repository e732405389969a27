/- Texts of this seat, joined. -/
import Derived.Test.YtacgopankhpnbaaGreatDoorSAM
set_option maxHeartbeats 16000000
set_option maxRecDepth 100000
set_option linter.unusedVariables false
set_option linter.unusedSimpArgs false
namespace Go.Proofs.YtacgopankhpnbaaGreatDoor
open Go.RowKit
theorem list_any(l:List Cod)(N:Nat->Prop)(v:Value)(w:World)(hg:dH w)(hr:aK 4 encCod N w v l)(hl:l.length<=30)(hsm:∀c∈l,CodSmall c):
  Calls Tryz.prog 85 #[v] w fun e w'=>e=.returned (.string (listC l))/\Below w.heap.size w w':=by
 have HFt:=zh (row_fit hr hsm);obtain⟨a,cl,rfl,l1,l2,qO⟩:=hr.at;have HC:=zh qO;have HG:=zh (fun W(hb:Below w.heap.size w W)=>hg.later hb);have HMv:=zh (fun W(hb:Below w.heap.size w W)=>bM.later (N:=N) hb);have h11:=hg.big;clear qO hg hr hsm;go_enter Tryz.func85,Tryz.ntmps85;go_wp2_with fail;go_loopw [10] (fun iv wr=>∃q:Nat,q<=l.length/\iv=.int .i64 (q:Int)/\Hid (Lib.IsBuilder 147 5 w.heap.size w.heap.size (Lib.byteCells ((l.take q).flatMap codL)) wr)/\Hid (Below w.heap.size w wr)/\Hid (∀c∈l.take q,dE c=true)) (fun iv _=>l.length-(intOf iv).toNat)
 case atStart=>exact⟨0,Nat.zero_le _,rfl,zh (Lib.fresh_isBuilder 147 5 w),zh (aA w _),zh (fun c hc=>by simp at hc)⟩
 case round=>
  obtain⟨q,hq,rfl,wA,HB,HR⟩:=hrel;rename World=>wr
  have hwr:=HB.out.size;have rZ:w.heap.size<wr.heap.size:=by rcases wA.out with h|h<;>exact cU h.cell0
  by_cases pT:q<l.length
  ·obtain⟨c,hx,tU⟩:=getElem?_of_lt pT;obtain⟨b,o,rfl,xF,cs,⟨vc,rfl,hzn,LI⟩,-,hj⟩:=HC.out q c hx;have hft:=HFt.out c tU;obtain⟨ac,cc,rfl,lc1,lc2,hcr⟩:=LI.at;have HCR:=zh hcr;have c0:wr.cell? ⟨b,o+q*4,none⟩=some (.string c.name):=aC HB.out (hj 0 _ rfl);have c1:=aC HB.out (hj 1 _ rfl);have c2:=aC HB.out (hj 2 _ rfl);have c3:=aC HB.out (hj 3 _ rfl);have rT:=zh (heap_alloc_new wr (.cells #[.string c.name,.int .i64 (c.params:Int),.int .i64 (c.locals:Int),.slice ac c.code.length cc] 168));have qM:=zh (aB HB.out (aA wr (.cells #[.string c.name,.int .i64 (c.params:Int),.int .i64 (c.locals:Int),.slice ac c.code.length cc] 168)));have F6:=zh (cright_any c ac cc N (wr.alloc (.cells #[.string c.name,.int .i64 (c.params:Int),.int .i64 (c.locals:Int),.slice ac c.code.length cc] 168)) (HG.out _ qM.out) hzn (LI.moves fZ (HMv.out _ qM.out) VI) (by have:=hft.1;omega));have HX:=zh hx;have HM:=zh tU;have HFc:=zh hft;have hp1:=hft.2.1;have hp2:=hft.2.2.1;clear hj hx tU hcr LI hft
   cases PI:dE c with
   |false=>
    have HF:Hid (listC l=noB):=zh (by
     unfold listC;rw[if_neg];intro h;have:=List.all_eq_true.1 h c HM.out
     rw[PI] at this;cases this)
    rw[PI] at F6;clear PI;go_wp2_with(go_at_call 111;refine F6.out.mono ?_;rintro e w5 ⟨rfl,hb5⟩);go_ret;exact⟨mG WG,aB qM.out hb5⟩
   |true=>
    obtain⟨sT,hp6,LX⟩:=rightC_parts PI
    have uA:Hid (∀d∈l.take (q+1),dE d=true):=zh (fun d hd=>by
     rw[List.take_add_one,HX.out,Option.toList,List.mem_append,List.mem_singleton] at hd;rcases hd with hd|rfl
     ·exact HR.out d hd
     ·exact PI)
    have hpre:=cods_len (l.take q) (fun d hd=>⟨HFt.out d (List.mem_of_mem_take hd),HR.out d hd⟩);have hpre2:((l.take q).flatMap codL).length<=30*1750000000100:=Nat.le_trans hpre (Nat.mul_le_mul_right _ (by rw[List.length_take];omega));have N0:=head_len HFc.out sT;have GD:=zh LX;have HLn:=zh (lines_len (c:=c) c.code (fun i hi=>⟨LX i hi,(HFc.out.2.2.2 i hi).1,(HFc.out.2.2.2 i hi).2⟩));have tG:=zh (flat_take (f:=codL) HX.out);rw[PI] at F6;clear PI LX hpre sT;generalize hpr:(l.take q).flatMap codL=pre at *;have HPr:=zh hpr;clear hpr;go_wp2_with(go_at_call 111;refine F6.out.mono ?_;rintro e w5 ⟨rfl,hb5⟩;have OX:=zh (aB qM.out hb5);have OK:=zh (aF hb5 rT.out);have HBd5:=zh (eZ (eZ wA.out (aA wr (.cells #[.string c.name,.int .i64 (c.params:Int),.int .i64 (c.locals:Int),.slice ac c.code.length cc] 168))) hb5));clear c0 c1 c2 c3 F6 wA HR;have HI1:=zh (fun W(h:Below w.heap.size w W)=>Tryz.strconv_Itoa (c.params:Int) VG VG W (HG.out _ h).pow10);have GA:=zh (fun W(h:Below w.heap.size w W)=>Tryz.strconv_Itoa (c.locals:Int) VG VG W (HG.out _ h).pow10);have hil1:=Lib.itoa_length_le (c.params:Int) VG VG;have hil2:=Lib.itoa_length_le (c.locals:Int) VG VG;have HTx:Hid ((((((⟨#[102,117,110,99,32]⟩++c.name)++⟨#[32]⟩)++⟨(Lib.itoa (c.params:Int)).toArray⟩)++⟨#[32]⟩)++⟨(Lib.itoa (c.locals:Int)).toArray⟩)++⟨#[10]⟩=bs (headL c)):=zh (iU (by simp[app_data,mk_data,bs_data,headL,itoaB]));generalize B8:Lib.itoa (c.params:Int)=it1 at *;generalize GO:Lib.itoa (c.locals:Int)=it2 at *;clear B8 GO;have hw5:=OX.out.size;refine wp_region_held_drew (S:=fun W=>W.heap[wr.heap.size]? =some (.cells #[.string c.name,.int .i64 (c.params:Int),.int .i64 (c.locals:Int),.slice ac c.code.length cc] 168)/\Below w.heap.size w W) VH ⟨OK.out,Below.drew OX.out⟩ fun hS=>?_;refine zt 0 (.pointer (some ⟨wr.heap.size,0,none⟩)) rfl (fun W hW=>V2) hS ?_;(try simp only[zn]);refine zt 1 (.string c.name) rfl (fun W hW=>X6) hS ?_;(try simp only[zn]);refine zt 2 (.string (⟨#[102,117,110,99,32]⟩++c.name)) rfl (fun W hW=>V2) hS ?_;(try simp only[zn]);refine zt 3 (.string ((⟨#[102,117,110,99,32]⟩++c.name)++⟨#[32]⟩)) rfl (fun W hW=>V2) hS ?_;(try simp only[zn]);refine zt 4 (.pointer (some ⟨wr.heap.size,1,none⟩)) rfl (fun W hW=>V2) hS ?_;(try simp only[zn]);refine zt 5 (.int .i64 (c.params:Int)) rfl (fun W hW=>X6) hS ?_;(try simp only[zn]);refine zt 9 (.pointer (some ⟨wr.heap.size,2,none⟩)) rfl (fun W hW=>V2) hS ?_;(try simp only[zn]);refine zt 10 (.int .i64 (c.locals:Int)) rfl (fun W hW=>X6) hS ?_;(try simp only[zn]);refine zr 6 rfl (fun K hK=>?_);(try simp only[z1,z2,z3]);go_simp;refine(HI1.out w5.drew (Below.drew OX.out)).mono ?_;rintro e wi6 ⟨rfl,ki,osi,rfl⟩;have I0:=Lib.below_grow _ w5.drew (Nat.le_refl _) ki osi;generalize Sort.grow (World.drewN w5.drew ki) osi=wi6 at I0 ⊢;have A3:=zh (aB (Below.drew OX.out) I0);have MI:=zh (aF I0 (show w5.drew.heap[wr.heap.size]? =some (.cells #[.string c.name,.int .i64 (c.params:Int),.int .i64 (c.locals:Int),.slice ac c.code.length cc] 168) from OK.out));have HBd6:=zh (eZ (eZ HBd5.out (aE _)) I0);clear I0;refine hK.out _ _ ⟨MI.out,A3.out⟩ (fun hS=>?_);clear hK K;(try simp only[zn]);refine zt 7 (.string (((⟨#[102,117,110,99,32]⟩++c.name)++⟨#[32]⟩)++⟨it1.toArray⟩)) rfl (fun W hW=>V2) hS ?_;(try simp only[zn]);refine zt 8 (.string ((((⟨#[102,117,110,99,32]⟩++c.name)++⟨#[32]⟩)++⟨it1.toArray⟩)++⟨#[32]⟩)) rfl (fun W hW=>V2) hS ?_;(try simp only[zn]);refine zr 11 rfl (fun K hK=>?_);(try simp only[z1,z2,z3]);go_simp;refine(GA.out wi6 A3.out).mono ?_;rintro e wi7 ⟨rfl,ki,osi,rfl⟩;have I0:=Lib.below_grow _ wi6 (Nat.le_refl _) ki osi;generalize Sort.grow (World.drewN wi6 ki) osi=wi7 at I0 ⊢;have xO:=zh (aB A3.out I0);have GT:=zh (aF I0 MI.out);have HBd7:=zh (eZ HBd6.out I0);clear I0;refine hK.out _ _ ⟨GT.out,xO.out⟩ (fun hS=>?_);clear hK K;(try simp only[zn]);refine zt 12 (.string (((((⟨#[102,117,110,99,32]⟩++c.name)++⟨#[32]⟩)++⟨it1.toArray⟩)++⟨#[32]⟩)++⟨it2.toArray⟩)) rfl (fun W hW=>V2) hS ?_;(try simp only[zn]);refine zt 13 (.string ((((((⟨#[102,117,110,99,32]⟩++c.name)++⟨#[32]⟩)++⟨it1.toArray⟩)++⟨#[32]⟩)++⟨it2.toArray⟩)++⟨#[10]⟩)) rfl (fun W hW=>V2) hS ?_;(try simp only[zn]);refine zr 14 rfl (fun K hK=>?_);(try simp only[z1,z2,z3]);go_simp;(try rw[HTx.out]);have hw7:=xO.out.size;refine(writeString_k w.heap.size w.heap.size _ (bs (headL c)) _ HBd7.out (by rw[Lib.byteCells_length,oE];omega) hw7).mono ?_;rintro e w8 ⟨rfl,OA,sC,hk8⟩;have zH:=zh (xO.out.trans sC);have HX8:=zh (hk8 _ _ GT.out (by intro e;have:=Option.some.inj e;omega) (by intro c fz e;cases e));have HBd8:Hid (Lib.BuilderAt 147 5 w.heap.size w.heap.size (.pointer (some ⟨w.heap.size,0,none⟩)) (Lib.byteCells (pre++headL c)) w8):=zh (by rw[Lib.byteCells_append];exact OA);clear OA sC hk8;refine hK.out _ _ ⟨HX8.out,zH.out⟩ (fun hS=>?_);clear hK K;(try simp only[zn]);refine wpAnyH_done VH ?_ _;clear hS;have sC:=zH.out.size;obtain⟨t0,t1,t2,t3⟩:=bx4 HX8.out;go_wp2_with fail;(go_loopw [35] (fun iv wz=>∃z:Nat,z<=c.code.length/\iv=.int .i64 (z:Int)/\Hid (Lib.IsBuilder 147 5 w.heap.size w.heap.size (Lib.byteCells (pre++headL c++(c.code.take z).flatMap gP)) wz)/\Hid (Below w.heap.size w wz)) (fun iv _=>c.code.length-(intOf iv).toNat));case atStart=>exact⟨0,Nat.zero_le _,rfl,zh (by rw[List.take_zero,List.flatMap_nil,List.append_nil];exact .inr HBd8.out),zH⟩
    case round=>
     obtain⟨z,hz,rfl,qV,sA⟩:=hrel;(rename World=>wz);have PA:=sA.out.size;by_cases IJ:z<c.code.length
     ·obtain⟨x,hx,tU⟩:=getElem?_of_lt IJ;obtain⟨b9,o9,rfl,-,cs9,⟨vn,rfl,KE,hzm,GN,QQ,QP⟩,-,hj⟩:=HCR.out z x hx;obtain⟨an,cn,rfl,-,-,-⟩:=GN.at;have d0:wz.cell? ⟨b9,o9+z*5,none⟩=some (.int .i64 x.op):=aC sA.out (hj 0 _ rfl);have d1:=aC sA.out (hj 1 _ rfl);have d2:=aC sA.out (hj 2 _ rfl);have d3:=aC sA.out (hj 3 _ rfl);have d4:=aC sA.out (hj 4 _ rfl);have E9:=zh (aB sA.out (aA wz (.cells #[.int .i64 x.op,.int .i64 x.a,.string x.s,.string x.m,.slice an x.names.length cn] 171)));obtain⟨ho0,pV⟩:=formed_op (GD.out x tU);have NQ:=line_any x an cn N (wz.alloc (.cells #[.int .i64 x.op,.int .i64 x.a,.string x.s,.string x.m,.slice an x.names.length cn] 171)) (HG.out _ E9.out) ho0 pV QQ QP KE hzm (GN.moves aQ (HMv.out _ E9.out) VI) (by have:=formed_names (GD.out x tU);omega);unfold iP at NQ;have HLN:=zh NQ;have vC:=zh (flat_take (f:=gP) hx)
      have qX:(pre++headL c++(c.code.take z).flatMap gP).length+(gP x).length<=140737488355328:=by
       have h1:=lines_pre (c:=c) (z+1);rw[vC.out,List.length_append] at h1;have h2:=HLn.out;have h3:c.code.length*175<=10000000000*175:=Nat.mul_le_mul_right _ HFc.out.1;rw[List.length_append,List.length_append];omega
      have RF:=zh qX;clear NQ hx tU hj GN KE hzm qX ho0 pV QQ QP;go_wp2_with(go_at_call 112;refine HLN.out.mono ?_;rintro e qJ ⟨rfl,yZ⟩;have GH:=zh (aB E9.out yZ);have HBz10:=zh (eZ (eZ qV.out (aA wz (.cells #[.int .i64 x.op,.int .i64 x.a,.string x.s,.string x.m,.slice an x.names.length cn] 171))) yZ));have hw10:=GH.out.size;have HWS:=zh (writeString_k w.heap.size w.heap.size _ (bs (gP x)) _ HBz10.out (by rw[Lib.byteCells_length,oE];exact RF.out) hw10);go_wp2_with(go_at_call 100;refine HWS.out.mono ?_;rintro e vK ⟨rfl,hB11,hb11,-⟩);have sS:=zh (GH.out.trans hb11);have qW:=zh hB11;clear hB11 hb11 HWS d0 d1 d2 d3 d4;go_roundw;(case rel=>first|exact⟨z+1,VG,VT,zh (.inr VK),sS⟩|exact⟨_,_,_,_,_,⟨z+1,VG,VT,zh (.inr VK),sS⟩,rfl⟩|exact⟨_,_,_,_,_,_,⟨z+1,VG,VT,zh (.inr VK),sS⟩,rfl⟩|exact⟨_,_,_,_,_,_,_,⟨z+1,VG,VT,zh (.inr VK),sS⟩,rfl⟩|exact⟨_,_,_,_,_,_,_,_,⟨z+1,VG,VT,zh (.inr VK),sS⟩,rfl⟩|exact⟨_,_,_,_,_,_,_,_,_,⟨z+1,VG,VT,zh (.inr VK),sS⟩,rfl⟩|exact⟨_,_,_,_,_,_,_,_,_,_,⟨z+1,VG,VT,zh (.inr VK),sS⟩,rfl⟩|exact⟨_,_,_,_,_,_,_,_,_,_,_,⟨z+1,VG,VT,zh (.inr VK),sS⟩,rfl⟩|exact⟨_,_,_,_,_,_,_,_,_,_,_,_,⟨z+1,VG,VT,zh (.inr VK),sS⟩,rfl⟩|exact⟨_,_,_,_,_,_,_,_,_,_,_,_,_,⟨z+1,VG,VT,zh (.inr VK),sS⟩,rfl⟩|exact⟨_,_,_,_,_,_,_,_,_,_,_,_,_,_,⟨z+1,VG,VT,zh (.inr VK),sS⟩,rfl⟩|exact⟨_,_,_,_,_,_,_,_,_,_,_,_,_,_,_,⟨z+1,VG,VT,zh (.inr VK),sS⟩,rfl⟩|exact⟨_,_,_,_,_,_,_,_,_,_,_,_,_,_,_,_,⟨z+1,VG,VT,zh (.inr VK),sS⟩,rfl⟩|exact⟨_,_,_,_,_,_,_,_,_,_,_,_,_,_,_,_,_,⟨z+1,VG,VT,zh (.inr VK),sS⟩,rfl⟩|exact⟨_,_,_,_,_,_,_,_,_,_,_,_,_,_,_,_,_,_,⟨z+1,VG,VT,zh (.inr VK),sS⟩,rfl⟩|exact⟨_,_,_,_,_,_,_,_,_,_,_,_,_,_,_,_,_,_,_,⟨z+1,VG,VT,zh (.inr VK),sS⟩,rfl⟩|exact⟨_,_,_,_,_,_,_,_,_,_,_,_,_,_,_,_,_,_,_,_,⟨z+1,VG,VT,zh (.inr VK),sS⟩,rfl⟩|exact⟨_,_,_,_,_,_,_,_,_,_,_,_,_,_,_,_,_,_,_,_,_,⟨z+1,VG,VT,zh (.inr VK),sS⟩,rfl⟩|exact⟨_,_,_,_,_,_,_,_,_,_,_,_,_,_,_,_,_,_,_,_,_,_,⟨z+1,VG,VT,zh (.inr VK),sS⟩,rfl⟩|exact⟨_,_,_,_,_,_,_,_,_,_,_,_,_,_,_,_,_,_,_,_,_,_,_,⟨z+1,VG,VT,zh (.inr VK),sS⟩,rfl⟩|exact⟨_,_,_,_,_,_,_,_,_,_,_,_,_,_,_,_,_,_,_,_,_,_,_,_,⟨z+1,VG,VT,zh (.inr VK),sS⟩,rfl⟩|exact⟨_,_,_,_,_,_,_,_,_,_,_,_,_,_,_,_,_,_,_,_,_,_,_,_,_,⟨z+1,VG,VT,zh (.inr VK),sS⟩,rfl⟩|exact⟨_,_,_,_,_,_,_,_,_,_,_,_,_,_,_,_,_,_,_,_,_,_,_,_,_,_,⟨z+1,VG,VT,zh (.inr VK),sS⟩,rfl⟩|exact⟨_,_,_,_,_,_,_,_,_,_,_,_,_,_,_,_,_,_,_,_,_,_,_,_,_,_,_,⟨z+1,VG,VT,zh (.inr VK),sS⟩,rfl⟩|exact⟨_,_,_,_,_,_,_,_,_,_,_,_,_,_,_,_,_,_,_,_,_,_,_,_,_,_,_,_,⟨z+1,VG,VT,zh (.inr VK),sS⟩,rfl⟩|exact⟨_,_,_,_,_,_,_,_,_,_,_,_,_,_,_,_,_,_,_,_,_,_,_,_,_,_,_,_,_,⟨z+1,VG,VT,zh (.inr VK),sS⟩,rfl⟩);case measure=>simp[intOf];omega
     ·have NG:c.code.take z=c.code:=List.take_of_length_le VG;rw[NG] at qV;clear NG;go_wp2_with fail;go_roundw;(case rel=>first|exact⟨q+1,VG,VT,zh VN,sA,uA⟩|exact⟨_,_,_,_,_,⟨q+1,VG,VT,zh VN,sA,uA⟩,rfl⟩|exact⟨_,_,_,_,_,_,⟨q+1,VG,VT,zh VN,sA,uA⟩,rfl⟩|exact⟨_,_,_,_,_,_,_,⟨q+1,VG,VT,zh VN,sA,uA⟩,rfl⟩|exact⟨_,_,_,_,_,_,_,_,⟨q+1,VG,VT,zh VN,sA,uA⟩,rfl⟩|exact⟨_,_,_,_,_,_,_,_,_,⟨q+1,VG,VT,zh VN,sA,uA⟩,rfl⟩|exact⟨_,_,_,_,_,_,_,_,_,_,⟨q+1,VG,VT,zh VN,sA,uA⟩,rfl⟩|exact⟨_,_,_,_,_,_,_,_,_,_,_,⟨q+1,VG,VT,zh VN,sA,uA⟩,rfl⟩|exact⟨_,_,_,_,_,_,_,_,_,_,_,_,⟨q+1,VG,VT,zh VN,sA,uA⟩,rfl⟩|exact⟨_,_,_,_,_,_,_,_,_,_,_,_,_,⟨q+1,VG,VT,zh VN,sA,uA⟩,rfl⟩|exact⟨_,_,_,_,_,_,_,_,_,_,_,_,_,_,⟨q+1,VG,VT,zh VN,sA,uA⟩,rfl⟩|exact⟨_,_,_,_,_,_,_,_,_,_,_,_,_,_,_,⟨q+1,VG,VT,zh VN,sA,uA⟩,rfl⟩|exact⟨_,_,_,_,_,_,_,_,_,_,_,_,_,_,_,_,⟨q+1,VG,VT,zh VN,sA,uA⟩,rfl⟩|exact⟨_,_,_,_,_,_,_,_,_,_,_,_,_,_,_,_,_,⟨q+1,VG,VT,zh VN,sA,uA⟩,rfl⟩|exact⟨_,_,_,_,_,_,_,_,_,_,_,_,_,_,_,_,_,_,⟨q+1,VG,VT,zh VN,sA,uA⟩,rfl⟩|exact⟨_,_,_,_,_,_,_,_,_,_,_,_,_,_,_,_,_,_,_,⟨q+1,VG,VT,zh VN,sA,uA⟩,rfl⟩|exact⟨_,_,_,_,_,_,_,_,_,_,_,_,_,_,_,_,_,_,_,_,⟨q+1,VG,VT,zh VN,sA,uA⟩,rfl⟩|exact⟨_,_,_,_,_,_,_,_,_,_,_,_,_,_,_,_,_,_,_,_,_,⟨q+1,VG,VT,zh VN,sA,uA⟩,rfl⟩|exact⟨_,_,_,_,_,_,_,_,_,_,_,_,_,_,_,_,_,_,_,_,_,_,⟨q+1,VG,VT,zh VN,sA,uA⟩,rfl⟩|exact⟨_,_,_,_,_,_,_,_,_,_,_,_,_,_,_,_,_,_,_,_,_,_,_,⟨q+1,VG,VT,zh VN,sA,uA⟩,rfl⟩|exact⟨_,_,_,_,_,_,_,_,_,_,_,_,_,_,_,_,_,_,_,_,_,_,_,_,⟨q+1,VG,VT,zh VN,sA,uA⟩,rfl⟩|exact⟨_,_,_,_,_,_,_,_,_,_,_,_,_,_,_,_,_,_,_,_,_,_,_,_,_,⟨q+1,VG,VT,zh VN,sA,uA⟩,rfl⟩|exact⟨_,_,_,_,_,_,_,_,_,_,_,_,_,_,_,_,_,_,_,_,_,_,_,_,_,_,⟨q+1,VG,VT,zh VN,sA,uA⟩,rfl⟩|exact⟨_,_,_,_,_,_,_,_,_,_,_,_,_,_,_,_,_,_,_,_,_,_,_,_,_,_,_,⟨q+1,VG,VT,zh VN,sA,uA⟩,rfl⟩|exact⟨_,_,_,_,_,_,_,_,_,_,_,_,_,_,_,_,_,_,_,_,_,_,_,_,_,_,_,_,⟨q+1,VG,VT,zh VN,sA,uA⟩,rfl⟩|exact⟨_,_,_,_,_,_,_,_,_,_,_,_,_,_,_,_,_,_,_,_,_,_,_,_,_,_,_,_,_,⟨q+1,VG,VT,zh VN,sA,uA⟩,rfl⟩);case measure=>simp[intOf];omega
  ·have wY:l.take q=l:=List.take_of_length_le VG;rw[wY] at wA HR
   have HF:Hid (listC l=⟨(l.flatMap codL).toArray⟩):=zh (by
    unfold listC
    rw[if_pos (List.all_eq_true.2 HR.out)])
   clear HR wY;go_wp2_with(go_at_call 101;refine(Tryz.Builder_String_any w.heap.size w.heap.size _ _ wA.out hwr).mono ?_;rintro e w' ⟨rfl,qU⟩);go_ret;exact⟨mG HF.out.symm,HB.out.trans qU⟩
theorem lastIdx_ge(s:ByteArray):∀(l:List ByteArray),-1<=dP l s/\dP l s<l.length
 |[]=>by simp[dP]
 |x::r=>by
  have:=lastIdx_ge s r;rw[dP,List.length_cons];split
  ·omega
  ·split<;>omega
theorem lastIdx_off(s:ByteArray):∀(l:List ByteArray)(k:Nat),0<=dP (l.drop k) s->dP l s=dP (l.drop k) s+k
 |l,0,_=>VL
 |[],k+1,h=>by simp[dP] at h
 |x::r,k+1,h=>by
  rw[List.drop_succ_cons] at h ⊢;have:=lastIdx_off s r k h;rw[dP,if_pos VG,this];omega
theorem lastIdx_hit{s x:ByteArray}{l:List ByteArray}{k:Nat}(hx:l[k]? =some x)(h:dP (l.drop (k+1)) s= -1)(he:x=s):dP l s=k:=by
 obtain⟨hk,hv⟩:=List.getElem?_eq_some_iff.1 hx;have e:dP (l.drop k) s=0:=by rw[List.drop_eq_getElem_cons hk,dP,h,hv,if_neg VG,if_pos he]
 have:=lastIdx_off s l k VG;omega
theorem lastIdx_miss{s x:ByteArray}{l:List ByteArray}{k:Nat}(hx:l[k]? =some x)(h:dP (l.drop (k+1)) s= -1)(he:x≠s):dP (l.drop k) s= -1:=by
 obtain⟨hk,hv⟩:=List.getElem?_eq_some_iff.1 hx;rw[List.drop_eq_getElem_cons hk,dP,h,hv,if_neg VG,if_neg he]
theorem clast_any(l:List ByteArray)(s:ByteArray)(v:Value)(w:World)(hl:l.length<=1000000)(hv:Strs w v l):
  Calls Tryz.prog 153 #[v,.string s] w fun e w'=>e=.returned (.int .i64 (dP l s))/\w=w':=by
 rcases hv.cases with⟨rfl,a,c,rfl⟩|⟨b,o,c,rfl,h0,h1,h2,hb,hc⟩
 ·clear hv;go_enter Tryz.func153,Tryz.ntmps153;go_wp2_with fail;go_loop [5] (fun i=>i=.int .i64 (-1)) (fun _=>0)
  case atStart=>rfl
  case round=>
   subst hrel;exact U9
 ·clear hv;have HC:=zh hc;clear hc;go_enter Tryz.func153,Tryz.ntmps153;go_wp2_with fail;go_loop [5] (fun i=>∃k:Nat,k<=l.length/\i=.int .i64 ((k:Int)-1)/\Hid (dP (l.drop k) s= -1)) (fun i=>(intOf i+1).toNat)
  case atStart=>exact⟨l.length,Nat.le_refl _,rfl,zh (by rw[List.drop_length];rfl)⟩
  case round=>
   obtain⟨k,hk,rfl,HL⟩:=hrel
   cases k with
   |zero=>
    have HF:Hid (dP l s= -1):=HL;go_wp2_with fail;go_ret;exact⟨eW HF.out.symm,rfl⟩
   |succ k=>
    obtain⟨x,hx,-⟩:=getElem?_of_lt (show k<l.length by omega);have qZ:=(HC.out k x hx).1;have e1:((k+1:Nat):Int)-1=(k:Int):=VG;rw[e1];by_cases he:x=s
    ·(have he':(x.toList==s.toList)=true:=by rw[cE];exact decide_eq_true he);have HF:=zh (lastIdx_hit hx HL.out he);clear he hx HC;go_wp2_with fail;go_ret;exact⟨eW HF.out.symm,rfl⟩
    ·(have he':(x.toList==s.toList)=false:=by rw[cE];exact decide_eq_false he);have HF:=zh (lastIdx_miss hx HL.out he);clear he hx HC;go_wp2_with fail
     go_round
     (case rel=>exact⟨k,VG,VT,HF⟩);case measure=>simp[intOf]
theorem enters_variable1:∀args w,(callFunc 200 args).run Tryz.prog w=.ok (.enter 200 args) w:=enters_of Tryz.func200 VH rfl
theorem variable1_any(s n:ByteArray)(k:Int)(a:Option Addr)(m c b:Nat)(w:World)(hb:w.cell? ⟨b,0,none⟩=some (.string s)):
  Calls Tryz.prog 200 #[.agg #[.string n,.int .i64 k,.slice a m c],.pointer (some ⟨b,0,none⟩)] w fun e w'=>e=.returned (.bool (decide (n=s)))/\Below w.heap.size w w':=by
 have pT:=cU hb;go_enter Tryz.func200,Tryz.ntmps200;go_wp2_with fail;go_ret;exact⟨aD (cE _ _),aA _ _⟩
theorem varIdx_eq(l:List Fld)(s:ByteArray):jD (l.map (·.1)) s=lF (fun f:Fld=>decide (f.1=s)) l:=by
 unfold jD lF;rw[List.findIdx?_map];rfl
def TestsFld(g:FuncId)(cap:Array Value)(p:ByteArray->Bool)(w:World):Prop:=
 ∀(n:ByteArray)(k:Int)(a:Option Addr)(m c:Nat)W,Below w.heap.size w W->Calls Tryz.prog g (#[.agg #[.string n,.int .i64 k,.slice a m c]]++cap) W fun e W'=>e=.returned (.bool (p n))/\Below W.heap.size W W'
theorem indexFunc_fld(g:FuncId)(cap:Array Value)(p:ByteArray->Bool)(l:List Fld)(N:Nat->Prop)(v:Value)(w:World)(hv:aK 3 fR N w v l)
  (eg:∀args w,(callFunc g args).run Tryz.prog w=.ok (.enter g args) w) (hp:TestsFld g cap p w):
  Calls Tryz.prog 199 #[v,.func (.func g) #[] cap] w fun e w'=>e=.returned (.int .i64 (lF (fun f:Fld=>p f.1) l))/\Below w.heap.size w w':=by
 have HP:=zh hp;clear hp;rcases hv.cases VI with⟨rfl,a,c,rfl⟩|⟨b,o,c,rfl,h0,h1,h2,hb,hN,hc⟩
 ·clear hv;go_enter Tryz.func199,Tryz.ntmps199;exact TE
 ·clear hv;have HC:=zh hc;clear hc;go_enter Tryz.func199,Tryz.ntmps199;go_wp2_with fail;go_loopw [8] (fun i wr=>∃k:Nat,k<=l.length/\i=.int .i64 k/\Hid (∀x,x∈l.take k->p x.1=false)/\Hid (Below w.heap.size w wr)) (fun i _=>l.length-(intOf i).toNat)
  case atStart=>exact⟨0,Nat.zero_le _,rfl,zh VL,zh (Below.refl _ _)⟩
  case round=>
   obtain⟨k,hk,rfl,HN,HB⟩:=hrel;(rename World=>wr);by_cases pT:k<l.length
   ·obtain⟨x,hx,ET⟩:=getElem?_of_lt pT;obtain⟨cs,tI,-,hj⟩:=HC.out k x hx;obtain⟨nm,t⟩:=x;obtain⟨ct,rfl,qX,FD⟩:=tI
    cases t with
    |mk kd fs=>
     rw[gE] at FD;obtain⟨vf,rfl,uW⟩:=FD;obtain⟨a1,OG,rfl,-⟩:=uW;have c0:wr.cell? ⟨b,o+k*3,none⟩=some (.string nm):=aC HB.out (hj 0 _ rfl);have c1:=aC HB.out (hj 1 _ rfl);have c2:=aC HB.out (hj 2 _ rfl);have HX:=zh hx;have qG:=zh (HP.out nm kd a1 fs.length OG _ HB.out);clear hj hx ET HC;generalize fs.length=ln at *
     cases hq:p nm with
     |true=>
      rw[hq] at qG;have HQ:=zh hq;clear hq;go_wp2_with(go_at_fn g;refine(qG.out).mono ?_;rintro e w' ⟨rfl,qU⟩);go_ret;exact⟨eW (idxOf_some (p:=fun f:Fld=>p f.1) (nZ HX.out HQ.out HN.out)).symm,aB HB.out qU⟩
     |false=>
      rw[hq] at qG;have HQ:=zh hq;clear hq;go_wp2_with(go_at_fn g;refine(qG.out).mono ?_;rintro e w' ⟨rfl,qU⟩);go_roundw;(case rel=>exact⟨k+1,VG,VT,zh (take_no (p:=fun f:Fld=>p f.1) HX.out HQ.out HN.out),zh (aB HB.out qU)⟩);case measure=>simp[intOf];omega
   ·go_wp2_with fail;go_ret;exact⟨eW (idxOf_none (p:=fun f:Fld=>p f.1) (mO VG HN.out)).symm,HB.out⟩
theorem variable_any(cb:Nat)(vars:List Fld)(N:Nat->Prop)(vv:Value)(u1 u2:Value)(s:ByteArray)(w:World)(D0:w.heap[cb]? =some (.cells #[vv,u1,u2] 182))(hv:aK 3 fR N w vv vars):
  Calls Tryz.prog 154 #[.pointer (some ⟨cb,0,none⟩),.string s] w fun e w'=>e=.returned (.int .i64 (jD (vars.map (·.1)) s))/\Below w.heap.size w w':=by
 have IR:∀W,Below w.heap.size w W->W.heap[w.heap.size]? =some (.cells #[.string s] 9)->Calls Tryz.prog 199 #[vv,.func (.func 200) #[] #[.pointer (some ⟨w.heap.size,0,none⟩)]] W
   fun e w'=>e=.returned (.int .i64 (jD (vars.map (·.1)) s))/\Below W.heap.size W w':=fun W hb hW=>by
  rw[varIdx_eq];refine indexFunc_fld _ _ (fun n=>decide (n=s)) vars N vv W (hv.moves aV (bM.later hb) VI) enters_variable1 (fun n k a m c W' qU=>?_);have h0:W.cell? ⟨w.heap.size,0,none⟩=some (.string s):=by simp[World.cell?,hW]
  exact variable1_any s n k a m c w.heap.size W' (aC qU h0)
 have HI:=zh IR;clear IR;generalize jD (vars.map (·.1)) s=r at HI ⊢;obtain⟨a,c,rfl,-⟩:=hv;generalize vars.length=n at *;obtain⟨⟨b0,b1,b2⟩,-⟩:=bx3 D0;have pT:=cU b0;clear D0;go_enter Tryz.func154,Tryz.ntmps154;go_wp2_with(go_at_call 199;refine(HI.out _ (aA _ _) (aN _ _)).mono ?_;rintro e w' ⟨rfl,qU⟩);go_ret;exact⟨rfl,aB (aA _ _) qU⟩
theorem SJ{p:Prop}(h:p:=by
 try simp only[z1,z2,z3]
 go_simp;refine hK.out _ _ F7.out (fun hS=>?_);clear hK K;try simp only[zn]
 refine wpAnyH_ready (rs:=[7]) VH VL ?_;refine AllReadyH.cons rfl (fun K hK=>?_) AllReadyH.nil;refine step_append_lies ((w.alloc (.cells #[.int .i64 i.op,.int .i64 i.a,.string i.s,.string i.m,.slice an i.names.length cn] 171)).drew.alloc (.cells #[.int .i64 i.op,.int .i64 i.a,.string i.s,.string i.m,.slice an i.names.length cn] 171)) rfl _ _ 166 rfl B 171 i0 (.agg #[.int .i64 0,.int .i64 0,.string ByteArray.empty,.string ByteArray.empty,.slice none 0 0]) 5 72 Tryz.underlying166 tF rS qI qH rfl VG (.slice a n cp) n css.flatten WF wZ.out ⟨w.heap.size+1,0,none⟩ 1 1 [.int .i64 i.op,.int .i64 i.a,.string i.s,.string i.m,.slice an i.names.length cn] WF rfl (World.news_of_block (cs:=#[.int .i64 i.op,.int .i64 i.a,.string i.s,.string i.m,.slice an i.names.length cn]) (t:=171) (fr:=(0,0)) (by simpa using heap_alloc_new (w.alloc (.cells #[.int .i64 i.op,.int .i64 i.a,.string i.s,.string i.m,.slice an i.names.length cn] 171)).drew (.cells #[.int .i64 i.op,.int .i64 i.a,.string i.s,.string i.m,.slice an i.names.length cn] 171))) VX VG VR VG VZ (w.heap.size+2) VL ?_;intro g cap w3 wD pO qA KN;have DL:=zh (F7.out.trans ((Off.of_grown pO).mono fun b hb=>.inr hb));obtain⟨q0,q1,q2⟩:=HH.out.push qM.out GA.out rfl (by rw[HN.out];exact wD) pO XT;rw[HN.out] at q1 q2;have Q1:=zh q1;have Q2:=zh q2;obtain⟨⟨p0,p1,p2⟩,r0,r1,r2⟩:=bx3 q0;clear q0 q1 q2 wD pO qA b0 b1 b2 f0 f1 f2 wZ qM GA;refine hK.out _ _ DL.out (fun hS=>?_);clear hK K;try simp only[zn]
 refine zt 8 (.pointer (some ⟨cb,0,none⟩)) rfl (fun W hW=>VM) hS ?_;try simp only[zn]
 refine zt 9 (.pointer (some ⟨cb,1,none⟩)) rfl (fun W hW=>VM) hS ?_;try simp only[zn]
 refine zr 10 rfl (fun K hK=>?_);try simp only[z1,z2,z3]
 go_simp;refine hK.out _ _ (DL.out.trans (Off.setCell (S:=inC cb _) w3 (.inl rfl))) (fun hS=>?_);clear hK K;try simp only[zn]
 refine wpAnyH_done VH ?_ _;clear hS;have pz:(w3.setCell ⟨cb,1,none⟩ (.slice (some ⟨g,0,none⟩) (n+1) cap)).cell? ⟨cb,1,none⟩=some (.slice (some ⟨g,0,none⟩) (n+1) cap):=(bx3 Q1.out.box).1.2.1;generalize w3.setCell ⟨cb,1,none⟩ (.slice (some ⟨g,0,none⟩) (n+1) cap)=w4 at *;go_wp2_with fail;go_ret
 exact⟨_,_,VT,Q1.out,Q2.out⟩):p:=h
theorem Off.of_grown{v:Value}{w w':World}(h:w.grownBy w' v.ownBlock):Off (fun b=>v.ownBlock=some b) w w':=⟨h.os,h.tape,h.output,h.size,fun k hk hn=>h.block k hk (fun e=>hn e.symm)⟩
theorem Cp.push{B cb:Nat}{vars:List Fld}{vv v:Value}{c:Cmp}{css:List (List Value)}{w w2 w3:World}{i:Ins}{news:List Value}{g cap:Nat}(h:Cp B cb vars vv c css v w)(hb:Below w.heap.size w w2)
  (hi:nI (lC B v) w2 i news) (hn5:news.length=5) (pP:w3.ownsRow B 171 5 (.slice (some ⟨g,0,none⟩) (c.code.length+1) cap) (c.code.length+1) (css.flatten++news)) (pO:w2.grownBy w3 v.ownBlock) (qA:v.ownBlock=some g\/g=w2.heap.size):
  w3.heap[cb]? =some (.cells #[vv,v,.int .i64 (c.locals:Int)] 182)/\Cp B cb vars vv (c.put i) (css++[news]) (.slice (some ⟨g,0,none⟩) (c.code.length+1) cap) (w3.setCell ⟨cb,1,none⟩ (.slice (some ⟨g,0,none⟩) (c.code.length+1) cap))/\
   Ext cb v w (.slice (some ⟨g,0,none⟩) (c.code.length+1) cap) (w3.setCell ⟨cb,1,none⟩ (.slice (some ⟨g,0,none⟩) (c.code.length+1) cap)):=by
 have h2:=h.later hb;have hcb:=h.hcb;have pY:=Off.of_grown pO;have pQ:¬v.ownBlock=some cb:=fun e=>by have:=(h.own cb e).1;omega
 have N7:=pY.heap pQ h2.box;have KN:=h2.gro.added fZ hi hn5 pP pO qA
 have hx:Ext cb v w (.slice (some ⟨g,0,none⟩) (c.code.length+1) cap) (w3.setCell ⟨cb,1,none⟩ (.slice (some ⟨g,0,none⟩) (c.code.length+1) cap)):=by
  refine⟨(Off.of_below hb).trans ((pY.mono fun b hb=>.inr hb).trans (Off.setCell (S:=inC cb v) w3 (.inl rfl))),fun b pR=>?_⟩;have e:g=b:=by simpa[Value.ownBlock] using pR
  subst e;rcases qA with h1|h1
  ·exact .inl h1
  ·have:=hb.size;exact .inr VG
 refine⟨N7,h.put hx ?_ (KN.stays fZ (cZ.of_off (Off.setCell (S:=fun b=>b=cb) w3 rfl) fun b hb=>.inl (by have hb:b=cb:=hb;omega))),hx⟩;rw[aO N7];rfl
theorem Cp.form{B cb:Nat}{vars:List Fld}{vv v:Value}{c:Cmp}{css:List (List Value)}{w:World}(h:Cp B cb vars vv c css v w):∃a cp,v=.slice a c.code.length cp:=by
 rcases h.gro.val with⟨rfl,h0⟩|⟨g,cap,rfl,-⟩
 ·exact⟨none,0,by rw[h0];rfl⟩
 ·exact⟨_,_,rfl⟩
theorem mH{B cb:Nat}{vars:List Fld}{vv v:Value}{c:Cmp}{css:List (List Value)}{w:World}(i:Ins)(vn:Value)(h:Cp B cb vars vv c css v w)(hlen:c.code.length<=100000000000)
  (hi:nI (lC B v) w i [.int .i64 i.op,.int .i64 i.a,.string i.s,.string i.m,vn]):
  Calls Tryz.prog 115 #[.pointer (some ⟨cb,0,none⟩),.agg #[.int .i64 i.op,.int .i64 i.a,.string i.s,.string i.m,vn]] w fun e w'=>∃css' v',e=.returned (.int .i64 (c.code.length:Int))/\Cp B cb vars vv (c.put i) css' v' w'/\Ext cb v w v' w':=by
 obtain⟨i0,tF,rS,qI,qH⟩:=info_parts insInfo;have HH:=zh h;have HI:=zh hi;obtain⟨vn',hvn,-,-,GN,-⟩:=hi;cases hvn;obtain⟨an,cn,rfl,-⟩:=GN;have hcb:=h.hcb;have pT:=h.lt;have qK:=h.size_le;obtain⟨a,cp,rfl⟩:=h.form;have pS:=(aA w (.cells #[.int .i64 i.op,.int .i64 i.a,.string i.s,.string i.m,.slice an i.names.length cn] 171)).drew;have pR:=aB pS (aA (w.alloc (.cells #[.int .i64 i.op,.int .i64 i.a,.string i.s,.string i.m,.slice an i.names.length cn] 171)).drew (.cells #[.int .i64 i.op,.int .i64 i.a,.string i.s,.string i.m,.slice an i.names.length cn] 171));have wZ:=zh (h.later pR).gro.own;have qM:=zh pR;have GA:=zh (fZ _ _ _ _ _ _ (bM.later pR) HI.out);have AE:∃a0 c0,vv=.slice a0 vars.length c0:=by obtain⟨a0,c0,e,-⟩:=h.row;exact⟨a0,c0,e⟩
 obtain⟨a0,c0,rfl⟩:=AE;obtain⟨⟨b0,b1,b2⟩,f0,f1,f2⟩:=bx3 (h.later pS).box;have hix:=(bx5 (show(w.alloc (.cells #[.int .i64 i.op,.int .i64 i.a,.string i.s,.string i.m,.slice an i.names.length cn] 171)).heap[w.heap.size]? =some (.cells #[.int .i64 i.op,.int .i64 i.a,.string i.s,.string i.m,.slice an i.names.length cn] 171) from heap_alloc_new w (.cells #[.int .i64 i.op,.int .i64 i.a,.string i.s,.string i.m,.slice an i.names.length cn] 171))).1;obtain⟨x0,x1,x2,x3,x4⟩:=hix
 have IE:¬inC cb (.slice a c.code.length cp) w.heap.size:=fun e=>by
  rcases e with e|e
  ·omega
  ·have:=(h.own _ e).2;omega
 have RY:Hid (Off (inC cb (.slice a c.code.length cp)) (w.alloc (.cells #[.int .i64 i.op,.int .i64 i.a,.string i.s,.string i.m,.slice an i.names.length cn] 171)) (w.alloc (.cells #[.int .i64 i.op,.int .i64 i.a,.string i.s,.string i.m,.slice an i.names.length cn] 171)).drew):=zh (Off.refl _ _).drew;have F7:Hid (Off (inC cb (.slice a c.code.length cp)) (w.alloc (.cells #[.int .i64 i.op,.int .i64 i.a,.string i.s,.string i.m,.slice an i.names.length cn] 171)) ((w.alloc (.cells #[.int .i64 i.op,.int .i64 i.a,.string i.s,.string i.m,.slice an i.names.length cn] 171)).drew.alloc (.cells #[.int .i64 i.op,.int .i64 i.a,.string i.s,.string i.m,.slice an i.names.length cn] 171))):=zh (RY.out.trans (Off.of_below (aA _ _)));clear pS pR h;generalize NQ:c.code.length=n at *;have HN:=zh NQ;clear NQ;go_enter Tryz.func115,Tryz.ntmps115;go_wp2_with fail;refine wp_region_held_drew (S:=fun W=>Off (inC cb (.slice a n cp)) (w.alloc (.cells #[.int .i64 i.op,.int .i64 i.a,.string i.s,.string i.m,.slice an i.names.length cn] 171)) W) VH RY.out fun hS=>?_;refine zt 0 (.pointer (some ⟨cb,0,none⟩)) rfl (fun W hW=>VM) hS ?_;try simp only[zn]
 refine zt 1 (.pointer (some ⟨cb,0,none⟩)) rfl (fun W hW=>VM) hS ?_;try simp only[zn]
 refine zt 2 (.pointer (some ⟨cb,0,none⟩)) rfl (fun W hW=>VM) hS ?_;try simp only[zn]
 refine zt 3 (.pointer (some ⟨cb,1,none⟩)) rfl (fun W hW=>VM) hS ?_;try simp only[zn]
 refine zt 5 (.agg #[.int .i64 i.op,.int .i64 i.a,.string i.s,.string i.m,.slice an i.names.length cn]) rfl (fun W hW=>by have y0:=Off.cell hW IE x0;have y1:=Off.cell hW IE x1;have y2:=Off.cell hW IE x2;have y3:=Off.cell hW IE x3;have y4:=Off.cell hW IE x4;go_simp) hS ?_;try simp only[zn]
 refine wpAnyH_ready (rs:=[4,6]) VH VL ?_;refine AllReadyH.cons rfl (fun K hK=>?_) (AllReadyH.cons rfl (fun K hK=>?_) AllReadyH.nil)
 ·skip;rw[if_pos VH];try simp only[z1,z2,z3]
  go_simp;refine hK.out _ _ hS (fun hS=>?_);clear hK K;try simp only[zn]
  refine zr 6 rfl (fun K hK=>?_);exact SJ
 ·skip;rw[if_pos VH];try simp only[z1,z2,z3]
  go_simp;refine hK.out _ _ F7.out (fun hS=>?_);clear hK K;try simp only[zn]
  have hlt1:cb<w.heap.size+1:=VG;have b1w:w.cell? ⟨cb,1,none⟩=some (.slice a n cp):=(bx3 HH.out.box).1.2.1;refine zr 4 rfl (fun K hK=>?_);exact SJ
theorem SW{p:Prop}(h:p:=by
 repeat(first|exact Below.refl _ _|refine Below.drew ?_|refine Below.alloc ?_ WV _|refine Below.setCell ?_ WV _)):p:=h
theorem UW{p:Prop}(h:p:=by
 exact qB.below (aB HB.out qQ.out) (fun k hk=>by have hk:k=w.heap.size+1:=hk;omega) (by have:=(aB HB.out qQ.out).size;exact this)):p:=h
theorem rowS_of_owns{w:World}{B:Nat}{v:Value}{l:List ByteArray}(h:w.ownsRow B 9 1 v l.length (l.map Value.string))(hb:B<=w.heap.size)(hs:∀x,x∈l->x.size<=140737488355328):aK 1 cK (bD B) w v l:=by
 have hf:(l.map fun x=>[Value.string x]).flatten=l.map Value.string:=by
  clear h hb hs
  induction l with
  |nil=>rfl
  |cons x l ih=>simp[ih]
 refine Gro.row (T:=9) (css:=l.map fun x=>[Value.string x]) aQ ⟨by rw[hf];exact h,VL,fun c hc=>?_,fun i x c hx hc=>?_,hb⟩
 ·obtain⟨x,-,rfl⟩:=List.mem_map.1 hc;rfl
 ·rw[List.getElem?_map,hx] at hc;cases hc;exact⟨rfl,hs x (List.mem_of_getElem? hx)⟩
theorem clones_any(l:List ByteArray)(v:Value)(w:World)(hl:l.length<=1000000)(hv:Strs w v l):
  Calls Tryz.prog 156 #[v] w fun e w'=>∃v',e=.returned v'/\w'.ownsRow w.heap.size 9 1 v' l.length (l.map Value.string)/\Below w.heap.size w w':=by
 rcases hv.cases with⟨rfl,a,c,rfl⟩|⟨b,o,c,rfl,h0,h1,h2,hb,hc⟩
 ·cases a with
  |none=>exact(Tryz.slices_Clone_string_nil 0 c w).mono fun e w' h=>⟨_,h.1,by rw[h.2];exact World.ownsRow_nil _ _ _ _,by rw[h.2];exact Below.refl _ _⟩
  |some a=>exact(Tryz.slices_Clone_string_zero a c w).mono fun e w' h=>by obtain⟨v',h1,h2,-,h3⟩:=h;exact⟨v',h1,h2,h3⟩
 ·refine(Tryz.slices_Clone_string b o l.length c l w (Nat.le_refl _) VG (fun j hj=>?_)).mono fun e w' h=>by obtain⟨v',h1,h2,-,h3⟩:=h;exact⟨v',h1,by simpa using h2,h3⟩
  rw[(hc j _ (List.getElem?_eq_getElem hj)).1,List.getD_eq_getElem?_getD,List.getElem?_eq_getElem hj];rfl
def cG(cb:Nat)(vars:List ByteArray)(x:Xp)(op n:Int)(s m:ByteArray)(vn va:Value)(w:World):Prop:=
 Calls Tryz.prog 158 #[.pointer (some ⟨cb,0,none⟩),.agg #[.int .i64 op,.int .i64 n,.string s,.string m,vn,va]] w fun e w'=>∃a k c,e=.returned (.agg #[.int .i64 (fH vars x).op,.int .i64 (fH vars x).a,.string (fH vars x).s,.string (fH vars x).m,.slice a k c])/\
  nI (bD w.heap.size) w' (fH vars x) [.int .i64 (fH vars x).op,.int .i64 (fH vars x).a,.string (fH vars x).s,.string (fH vars x).m,.slice a k c]/\Below w.heap.size w w'
theorem eV{N:Nat->Prop}{w:World}{op a:Int}{s m:ByteArray}(hs:s.size<=8000)(hm:m.size<=8000)(h0: -1<=a)(h1:a<=1099511627776):nI N w ⟨op,a,s,m,[]⟩ [.int .i64 op,.int .i64 a,.string s,.string m,.slice none 0 0]:=⟨_,rfl,hs,hm,aK.nil _ _ _ _,h0,h1⟩
theorem dR:noB.size<=8000:=VI
theorem varIdx_range(l:List ByteArray)(s:ByteArray): -1<=jD l s/\jD l s<=l.length:=by
 unfold jD
 cases h:l.findIdx? (fun x=>decide (x=s)) with
 |none=>simp only;omega
 |some k=>
  have:=(List.findIdx?_eq_some_iff_getElem.1 h).1;simp only;omega
theorem plain_3(cb:Nat)(vars:List ByteArray)(n:Int)(s m:ByteArray)(names:List ByteArray)(args:List Xp)(a1:Option Addr)(n1 c1:Nat)(a2:Option Addr)(c2:Nat)(w:World)(hs:s.size<=8000)(hm:m.size<=8000)(hl:args.length<=1000):
  cG cb vars (.mk 3 n s m names args) 3 n s m (.slice a1 n1 c1) (.slice a2 args.length c2) w:=by
 unfold cG;rw[show fH vars (.mk 3 n s m names args)=ins 4 0 from rfl];dsimp only[ins];go_enter Tryz.func158,Tryz.ntmps158;go_wp2_with fail;refine bodyPost_ret (v:=.agg #[.int .i64 4,.int .i64 0,.string noB,.string noB,.slice none 0 0]) V6 rfl ⟨none,0,0,rfl,eV dR dR VG VG,?_⟩;exact SW
theorem plain_4(cb:Nat)(vars:List ByteArray)(n:Int)(s m:ByteArray)(names:List ByteArray)(args:List Xp)(a1:Option Addr)(n1 c1:Nat)(a2:Option Addr)(c2:Nat)(w:World)(hs:s.size<=8000)(hm:m.size<=8000)(hl:args.length<=1000):
  cG cb vars (.mk 4 n s m names args) 4 n s m (.slice a1 n1 c1) (.slice a2 args.length c2) w:=by
 unfold cG;rw[show fH vars (.mk 4 n s m names args)=ins 5 0 from rfl];dsimp only[ins];go_enter Tryz.func158,Tryz.ntmps158;go_wp2_with fail;refine bodyPost_ret (v:=.agg #[.int .i64 5,.int .i64 0,.string noB,.string noB,.slice none 0 0]) V6 rfl ⟨none,0,0,rfl,eV dR dR VG VG,?_⟩;exact SW
theorem plain_5(cb:Nat)(vars:List ByteArray)(n:Int)(s m:ByteArray)(names:List ByteArray)(args:List Xp)(a1:Option Addr)(n1 c1:Nat)(a2:Option Addr)(c2:Nat)(w:World)(hs:s.size<=8000)(hm:m.size<=8000)(hl:args.length<=1000):
  cG cb vars (.mk 5 n s m names args) 5 n s m (.slice a1 n1 c1) (.slice a2 args.length c2) w:=by
 unfold cG;rw[show fH vars (.mk 5 n s m names args)=ins 6 0 from rfl];dsimp only[ins];go_enter Tryz.func158,Tryz.ntmps158;go_wp2_with fail;refine bodyPost_ret (v:=.agg #[.int .i64 6,.int .i64 0,.string noB,.string noB,.slice none 0 0]) V6 rfl ⟨none,0,0,rfl,eV dR dR VG VG,?_⟩;exact SW
theorem plain_6(cb:Nat)(vars:List ByteArray)(n:Int)(s m:ByteArray)(names:List ByteArray)(args:List Xp)(a1:Option Addr)(n1 c1:Nat)(a2:Option Addr)(c2:Nat)(w:World)(hs:s.size<=8000)(hm:m.size<=8000)(hl:args.length<=1000):
  cG cb vars (.mk 6 n s m names args) 6 n s m (.slice a1 n1 c1) (.slice a2 args.length c2) w:=by
 unfold cG;rw[show fH vars (.mk 6 n s m names args)=ins 7 0 from rfl];dsimp only[ins];go_enter Tryz.func158,Tryz.ntmps158;go_wp2_with fail;refine bodyPost_ret (v:=.agg #[.int .i64 7,.int .i64 0,.string noB,.string noB,.slice none 0 0]) V6 rfl ⟨none,0,0,rfl,eV dR dR VG VG,?_⟩;exact SW
theorem plain_7(cb:Nat)(vars:List ByteArray)(n:Int)(s m:ByteArray)(names:List ByteArray)(args:List Xp)(a1:Option Addr)(n1 c1:Nat)(a2:Option Addr)(c2:Nat)(w:World)(hs:s.size<=8000)(hm:m.size<=8000)(hl:args.length<=1000):
  cG cb vars (.mk 7 n s m names args) 7 n s m (.slice a1 n1 c1) (.slice a2 args.length c2) w:=by
 unfold cG;rw[show fH vars (.mk 7 n s m names args)=ins 8 0 from rfl];dsimp only[ins];go_enter Tryz.func158,Tryz.ntmps158;go_wp2_with fail;refine bodyPost_ret (v:=.agg #[.int .i64 8,.int .i64 0,.string noB,.string noB,.slice none 0 0]) V6 rfl ⟨none,0,0,rfl,eV dR dR VG VG,?_⟩;exact SW
theorem plain_10(cb:Nat)(vars:List ByteArray)(n:Int)(s m:ByteArray)(names:List ByteArray)(args:List Xp)(a1:Option Addr)(n1 c1:Nat)(a2:Option Addr)(c2:Nat)(w:World)(hs:s.size<=8000)(hm:m.size<=8000)(hl:args.length<=1000):
  cG cb vars (.mk 10 n s m names args) 10 n s m (.slice a1 n1 c1) (.slice a2 args.length c2) w:=by
 unfold cG;rw[show fH vars (.mk 10 n s m names args)=ins 9 0 from rfl];dsimp only[ins];go_enter Tryz.func158,Tryz.ntmps158;go_wp2_with fail;refine bodyPost_ret (v:=.agg #[.int .i64 9,.int .i64 0,.string noB,.string noB,.slice none 0 0]) V6 rfl ⟨none,0,0,rfl,eV dR dR VG VG,?_⟩;exact SW
theorem plain_14(cb:Nat)(vars:List ByteArray)(n:Int)(s m:ByteArray)(names:List ByteArray)(args:List Xp)(a1:Option Addr)(n1 c1:Nat)(a2:Option Addr)(c2:Nat)(w:World)(hs:s.size<=8000)(hm:m.size<=8000)(hl:args.length<=1000):
  cG cb vars (.mk 14 n s m names args) 14 n s m (.slice a1 n1 c1) (.slice a2 args.length c2) w:=by
 unfold cG;rw[show fH vars (.mk 14 n s m names args)=⟨13,0,s,noB,[]⟩ from rfl];dsimp only[ins];go_enter Tryz.func158,Tryz.ntmps158;go_wp2_with fail;refine bodyPost_ret (v:=.agg #[.int .i64 13,.int .i64 0,.string s,.string noB,.slice none 0 0]) V6 rfl ⟨none,0,0,rfl,eV hs dR VG VG,?_⟩;exact SW
theorem plain_15(cb:Nat)(vars:List ByteArray)(n:Int)(s m:ByteArray)(names:List ByteArray)(args:List Xp)(a1:Option Addr)(n1 c1:Nat)(a2:Option Addr)(c2:Nat)(w:World)(hs:s.size<=8000)(hm:m.size<=8000)(hl:args.length<=1000):
  cG cb vars (.mk 15 n s m names args) 15 n s m (.slice a1 n1 c1) (.slice a2 args.length c2) w:=by
 unfold cG;rw[show fH vars (.mk 15 n s m names args)=⟨14,args.length,s,m,[]⟩ from rfl];dsimp only[ins];go_enter Tryz.func158,Tryz.ntmps158;go_wp2_with fail;refine bodyPost_ret (v:=.agg #[.int .i64 14,.int .i64 (args.length:Int),.string s,.string m,.slice none 0 0]) V6 rfl ⟨none,0,0,rfl,eV hs hm VG VG,?_⟩;exact SW
theorem plain_16(cb:Nat)(vars:List ByteArray)(n:Int)(s m:ByteArray)(names:List ByteArray)(args:List Xp)(a1:Option Addr)(n1 c1:Nat)(a2:Option Addr)(c2:Nat)(w:World)(hs:s.size<=8000)(hm:m.size<=8000)(hl:args.length<=1000)(h0:0<=n)(h8:n<=8):
  cG cb vars (.mk 16 n s m names args) 16 n s m (.slice a1 n1 c1) (.slice a2 args.length c2) w:=by
 unfold cG;rw[show fH vars (.mk 16 n s m names args)=ins 15 n from rfl];dsimp only[ins];go_enter Tryz.func158,Tryz.ntmps158;go_wp2_with fail;refine bodyPost_ret (v:=.agg #[.int .i64 15,.int .i64 n,.string noB,.string noB,.slice none 0 0]) V6 rfl ⟨none,0,0,rfl,eV dR dR VG VG,?_⟩;exact SW
theorem plain_13(cb:Nat)(vars:List ByteArray)(n:Int)(s m:ByteArray)(names:List ByteArray)(args:List Xp)(vn:Value)(a2:Option Addr)(n2 c2:Nat)(w:World)(hl:names.length<=1000000)(hn:Strs w vn names):
  cG cb vars (.mk 13 n s m names args) 13 n s m vn (.slice a2 n2 c2) w:=by
 unfold cG;rw[show fH vars (.mk 13 n s m names args)=⟨12,0,noB,noB,names⟩ from rfl];dsimp only;have qX:∀x,x∈names->x.size<=140737488355328:=fun x hx=>lI hn hx;obtain⟨a1,c1,rfl⟩:=gI hn;have hb:=aB (aA w (.cells #[.int .i64 13,.int .i64 n,.string s,.string m,.slice a1 names.length c1,.slice a2 n2 c2] 177)) (aA (w.alloc (.cells #[.int .i64 13,.int .i64 n,.string s,.string m,.slice a1 names.length c1,.slice a2 n2 c2] 177)) (.cells #[.int .i64 0,.int .i64 0,.string noB,.string noB,.slice none 0 0] 171));have HC:=zh (clones_any names _ _ hl (hn.later hb));have JP:=zh (heap_alloc_new (w.alloc (.cells #[.int .i64 13,.int .i64 n,.string s,.string m,.slice a1 names.length c1,.slice a2 n2 c2] 177)) (.cells #[.int .i64 0,.int .i64 0,.string noB,.string noB,.slice none 0 0] 171));have hr0:(w.alloc (.cells #[.int .i64 13,.int .i64 n,.string s,.string m,.slice a1 names.length c1,.slice a2 n2 c2] 177)).heap.size=w.heap.size+1:=VL;rw[hr0] at JP;have hws:=hb.size;have HB:=zh hb;clear hn hb;go_enter Tryz.func158,Tryz.ntmps158;go_wp2_with(go_at_call 156;refine HC.out.mono ?_;rintro e w1 ⟨v1,rfl,pP,pS⟩;have qO:=zh (rowS_of_owns pP pS.size qX);obtain⟨a3,c3,e3,-⟩:=qO.out;subst e3;have qQ:=zh pS;obtain⟨⟨p0,p1,p2,p3,p4⟩,f0,f1,f2,f3,f4⟩:=bx5 (aF pS JP.out);clear pP pS);have hs5:=setI5_heap (aF qQ.out JP.out) (.int .i64 12) (.int .i64 0) (.string noB) (.string noB) (.slice a3 names.length c3);have qB:=setI5_off w1 (w.heap.size+1) (.int .i64 12) (.int .i64 0) (.string noB) (.string noB) (.slice a3 names.length c3);obtain⟨⟨k0,k1,k2,k3,k4⟩,-⟩:=bx5 hs5;unfold setI5 at k0 k1 k2 k3 k4 qB;refine bodyPost_ret (v:=.agg #[.int .i64 12,.int .i64 0,.string noB,.string noB,.slice a3 names.length c3]) (by simp[results,Tryz.results158,go_sem,k0,k1,k2,k3,k4]) rfl ⟨a3,names.length,c3,rfl,⟨_,rfl,dR,dR,?_,(by decide:(-1:Int)<=0),(by decide:(0:Int)<=1099511627776)⟩,?_⟩
 ·refine qO.out.moves aQ (fun b hb _=>?_) VI;have hb:((w.alloc (.cells #[.int .i64 13,.int .i64 n,.string s,.string m,.slice a1 names.length c1,.slice a2 n2 c2] 177)).alloc (.cells #[.int .i64 0,.int .i64 0,.string noB,.string noB,.slice none 0 0] 171)).heap.size<=b:=hb;simp at hb;exact⟨by show w.heap.size<=b;omega,fun o u hu=>qB.cell (fun e=>VG) hu⟩
 ·exact UW
theorem plain_18{B cb:Nat}{vars:List Fld}{vv v:Value}{c:Cmp}{css:List (List Value)}(n:Int)(s m:ByteArray)(names:List ByteArray)(args:List Xp)(a1:Option Addr)(n1 c1:Nat)(a2:Option Addr)(n2 c2:Nat)(w:World)(h:Cp B cb vars vv c css v w):
  cG cb (vars.map (·.1)) (.mk 18 n s m names args) 18 n s m (.slice a1 n1 c1) (.slice a2 n2 c2) w:=by
 unfold cG;rw[show fH (vars.map (·.1)) (.mk 18 n s m names args)=ins 17 (jD (vars.map (·.1)) s) from rfl];dsimp only[ins];have hb:=aB (aA w (.cells #[.int .i64 18,.int .i64 n,.string s,.string m,.slice a1 n1 c1,.slice a2 n2 c2] 177)) (aA (w.alloc (.cells #[.int .i64 18,.int .i64 n,.string s,.string m,.slice a1 n1 c1,.slice a2 n2 c2] 177)) (.cells #[.int .i64 0,.int .i64 0,.string noB,.string noB,.slice none 0 0] 171));have h2:=h.later hb;have HV:=zh (variable_any cb vars _ vv _ _ s _ h2.box h2.row);have NI:=varIdx_range (vars.map (·.1)) s;rw[List.length_map] at NI;have hnv:=h.nv;generalize jD (vars.map (·.1)) s=r at HV NI ⊢;have JP:=zh (heap_alloc_new (w.alloc (.cells #[.int .i64 18,.int .i64 n,.string s,.string m,.slice a1 n1 c1,.slice a2 n2 c2] 177)) (.cells #[.int .i64 0,.int .i64 0,.string noB,.string noB,.slice none 0 0] 171));have hr0:(w.alloc (.cells #[.int .i64 18,.int .i64 n,.string s,.string m,.slice a1 n1 c1,.slice a2 n2 c2] 177)).heap.size=w.heap.size+1:=VL;rw[hr0] at JP;have hws:=hb.size;have HB:=zh hb;clear h h2 hb;go_enter Tryz.func158,Tryz.ntmps158;go_wp2_with(go_at_call 154;refine HV.out.mono ?_;rintro e w1 ⟨rfl,pS⟩;have qQ:=zh pS;obtain⟨⟨p0,p1,p2,p3,p4⟩,f0,f1,f2,f3,f4⟩:=bx5 (aF pS JP.out);clear pS);have hs5:=setI5_heap (aF qQ.out JP.out) (.int .i64 17) (.int .i64 r) (.string noB) (.string noB) (.slice none 0 0);have qB:=setI5_off w1 (w.heap.size+1) (.int .i64 17) (.int .i64 r) (.string noB) (.string noB) (.slice none 0 0);obtain⟨⟨k0,k1,k2,k3,k4⟩,-⟩:=bx5 hs5;unfold setI5 at k0 k1 k2 k3 k4 qB;refine bodyPost_ret (v:=.agg #[.int .i64 17,.int .i64 r,.string noB,.string noB,.slice none 0 0]) (by simp[results,Tryz.results158,go_sem,k0,k1,k2,k3,k4]) rfl ⟨none,0,0,rfl,eV dR dR VG VG,?_⟩;exact UW
end Go.Proofs.YtacgopankhpnbaaGreatDoor
