/- Texts of this seat, joined. -/
import Derived.Test.YtacgopankhpnbaaGreatDoorSAQ
set_option maxHeartbeats 4000000
set_option maxRecDepth 100000
set_option linter.unusedVariables false
set_option linter.unusedSimpArgs false
namespace Go.Proofs.YtacgopankhpnbaaGreatDoor
open Go.RowKit
theorem listC_size{l:List Cod}{N:Nat->Prop}{v:Value}{w:World}(hr:aK 4 encCod N w v l)(hsm:∀c∈l,CodSmall c)(hl:l.length<=30):(listC l).size<=140737488355328:=by
 have hf:=row_fit hr hsm;unfold listC;split
 ·rename_i h;have h1:=cods_len l (fun c hc=>⟨hf c hc,List.all_eq_true.1 h c hc⟩);have h2:l.length*1750000000100<=30*1750000000100:=Nat.mul_le_mul_right _ hl;rw[size_toArray];omega
 ·decide
theorem parseL_nz{s:ByteArray}{x:Int×Int}(h:nC s=.error x):x.2≠0:=by
 unfold nC at h;split at h
 ·rename_i y hy;cases h;exact lexL_nz hy
 ·rename_i l hl;split at h
  ·rename_i y hy;cases h;exact module_nz _ hy
  ·cases h
theorem write_compile(b:Nat)(text:ByteArray)(vs clk ord nxt:Value)(u0 u1:Int)(vf:Value)(tn:ByteArray)(sorted:Bool)(w:World)(hG:dH w)(hs:Sbx w b vs clk ord nxt u0 u1)(hsaw:Strs w vs [text])
  (hf:∃a n c,vf=.slice a n c) (ht:text.size<=1000000):
  Calls Tryz.prog 52 #[.pointer (some ⟨b,0,none⟩),.agg #[.int .i64 5,vf,.string tn,.bool sorted]] w fun e w'=>
   e=.returned (.tuple #[.string (bP text).2,.int .i64 (bP text).1])/\Sbx w' b vs clk ord nxt u0 u1/\bL b w w'/\(bP text).2.size<=140737488355328:=by
 obtain⟨a,n,c,rfl⟩:=hf;have c0:=hs.cell 0;have rZ:=hs.lt;simp only[List.getElem?_toArray,List.getElem?_cons_zero] at c0;have HS:=zh hs;clear hs;rcases hsaw.cases with⟨h,-⟩|⟨bl,o,c1,rfl,h0,h1,h2,hb,hc⟩
 ·cases h
 have c2:=(hc 0 text rfl).1;simp only[Nat.add_zero,List.length_cons,List.length_nil,Nat.zero_add] at c2 c0 h1 ⊢;have pR:bl<w.heap.size:=hb;have HP:=zh (fun W(hb:Below w.heap.size w W)=>parse_any text W VG (hG.later hb) (hG.later hb).signs (hG.later hb).spc);have HG:=zh (fun W(hb:Below w.heap.size w W)=>hG.later hb);clear hsaw hc hG hb;go_enter Tryz.func52,Tryz.ntmps52;go_wp2_with fail;refine(HP.out _ (aA _ _)).mono ?_;rintro e w1 ⟨hpv,pS⟩;have qQ:=zh (aB (aA _ _) pS);clear pS
 cases hp:nC text with
 |error x=>
  rw[hp] at hpv;have e1:e=.returned (.tuple #[.agg dN,.int .i64 x.1,.int .i64 x.2]):=hpv;subst e1;have HF:Hid (bP text=(x.2,noB)):=zh (by unfold bP;rw[hp]);have e0:(x.2==0)=false:=by rw[beq_eq_false_iff_ne];exact parseL_nz hp
  clear hp hpv;dsimp only[dN];go_wp2_with fail;go_ret2;rw[HF.out];exact⟨rfl,HS.out.later (aB qQ.out (aA _ _)),bL.of_below (aB qQ.out (aA _ _)),(show noB.size<=140737488355328 from VI)⟩
 |ok m=>
  rw[hp] at hpv;obtain⟨au,nu,du,av,nv,dv,ai,ni,di,af,nf,df,ao,no,do_,aw,nw,dw,ab,nb,db,rfl,hM⟩:=hpv;have HF:Hid (bP text=(0,listC (jH m))):=zh (by unfold bP;rw[hp]);clear hp;have qM:=zh (aB qQ.out (aA w1 (.cells #[.string m.name,.slice au nu du,.slice av nv dv,.slice ai ni di,.slice af nf df,.bool m.moves,.slice ao no do_,.slice aw nw dw,.slice ab nb db] 132)));have HC:=zh (compile_any m _ _ _ _ _ _ _ _ _ (HG.out _ qM.out) (encM_ok _ _ _ _ _ _ (bM.later (aA w1 (.cells #[.string m.name,.slice au nu du,.slice av nv dv,.slice ai ni di,.slice af nf df,.bool m.moves,.slice ao no do_,.slice aw nw dw,.slice ab nb db] 132))) hM));have HX:=zh (heap_alloc_new w1 (.cells #[.string m.name,.slice au nu du,.slice av nv dv,.slice ai ni di,.slice af nf df,.bool m.moves,.slice ao no do_,.slice aw nw dw,.slice ab nb db] 132));obtain⟨⟨x0,x1,x2,x3,x4,x5,x6,x7,x8⟩,-⟩:=bx9 HX.out;clear hM;go_wp2_with(go_at_call 86;refine HC.out.mono ?_;rintro e w2 ⟨v,rfl,qO,pR⟩);have vJ:=zh (aB qM.out pR);have HL:=zh (list_any (jH m) _ v w2 (HG.out _ vJ.out) qO (kY m).1 (kY m).2);have RF:=zh (listC_size qO (kY m).2 (kY m).1);obtain⟨a9,c9,rfl,-⟩:=qO.at;clear qO pR;go_wp2_with(go_at_call 85;refine HL.out.mono ?_;rintro e w3 ⟨rfl,rD⟩);go_ret2;rw[HF.out];exact⟨rfl,HS.out.later (aB vJ.out rD),bL.of_below (aB vJ.out rD),RF.out⟩
theorem do_far5(s:Stp)(files:List Fil)(clock order:List Int)(vf vl vc vo vn:Value)(u0 u1:Int)(w:World)(h:DoIn s files clock order vf vl vc vo vn u0 u1 w)(h5:s.kind=5):
  Calls Tryz.prog 17 (nJ s vf vl vc vo vn u0 u1) w (DoFar w s files u0 u1 (cW bP s files clock order u0 u1)):=by
 by_cases rH:aM s=false\/aR files=false\/min u0 u1<0
 ·have e:cW bP s files clock order u0 u1=.error 1:=by
   unfold cW;rw[if_pos];rcases rH with h|h|h<;>simp[h]
  rw[e];refine(do_arg s files clock order vf vl vc vo vn u0 u1 w h rH).mono ?_;exact UH
 ·have uW:aM s=true:=Y8;have uV:aR files=true:=YB;have wF:¬min u0 u1<0:=fun hh=>rH (.inr (.inr hh))
  have e0:cW bP s files clock order u0 u1=if(aJ files s.out).isSome then .error 5 else if 60<=files.length then .error 6
    else match fC files s.src with|none=>.error 4|some saw=>if(bP (saw.headD ByteArray.empty)).1≠0 then .error (bP (saw.headD ByteArray.empty)).1
     else if 65536<(bP (saw.headD ByteArray.empty)).2.size then .error 6 else .ok ((bP (saw.headD ByteArray.empty)).2,saw,u0,u1):=by
   unfold cW;rw[if_neg (by simp[uW,uV,decide_eq_false wF])];split
   ·rfl
   ·split
    ·rfl
    ·cases fC files s.src with
     |none=>rfl
     |some saw=>simp only[h5,if_true]
  rw[e0]
  cases hf:aJ files s.out with
  |some t=>
   simp only[Option.isSome_some,if_true];refine(do_twice s files clock order vf vl vc vo vn u0 u1 w h uW uV wF t hf).mono ?_;exact UH
  |none=>
   simp only[Option.isSome_none,Bool.false_eq_true,if_false];by_cases uX:60<=files.length
   ·rw[if_pos uX];refine(do_full s files clock order vf vl vc vo vn u0 u1 w h uW uV wF hf uX).mono ?_;exact UH
   ·rw[if_neg uX]
    refine do_main s files clock order vf vl vc vo vn u0 u1 w h uW uV wF hf uX _ (fun hs W' hW=>?_)
     (fun saw text err saw' a b=>err=(bP (saw.headD ByteArray.empty)).1/\text=(bP (saw.headD ByteArray.empty)).2/\saw'=saw/\a=u0/\b=u1/\text.size<=140737488355328) (fun saw hs bx vs W FX=>?_) (fun saw hs text err saw' a b hP=>?_)
    ·rw[hs];exact⟨hW,rfl⟩
    ·have H6:∃t,saw=[t]:=by
      obtain⟨hn,hout,hl,hk⟩:=dS FX.hright;have h1:=FX.hlen;have h2:saw.length=1:=VG;exact List.length_eq_one_iff.1 h2
     obtain⟨t,rfl⟩:=H6;have ht:=FX.htexts t VL;(have hvf:∃a n c,vf=.slice a n c:=by obtain⟨a,c,hv,-⟩:=FX.hsrc;exact⟨a,_,c,hv⟩);rw[h5];refine(write_compile bx t vs vc vo vn u0 u1 vf s.out s.sorted W FX.hglob FX.hsbx FX.hsaw.1 hvf VG).mono ?_;rintro e w' ⟨rfl,h1,h2,h3⟩;exact⟨vs,_,_,[t],_,_,rfl,h1,FX.hsaw.only h2,h2,rfl,rfl,rfl,rfl,rfl,h3⟩
    ·obtain⟨rfl,rfl,rfl,rfl,rfl,qX⟩:=hP;rw[hs];simp only;refine⟨qX,fun pQ W' hW=>?_,fun he qK W' hW=>?_,fun he qK W' vfl vsaw hW h1 h2 h3 h4=>?_⟩
     ·rw[if_pos pQ];exact⟨hW,rfl⟩
     ·rw[if_neg (fun hn=>hn he),if_pos qK];exact⟨hW,rfl⟩
     ·rw[if_neg (fun hn=>hn he),if_neg qK];exact⟨hW,vfl,vsaw,rfl,h1,h2,h3,h4⟩
theorem doAll_any(s:Stp):DoAll bP s:=by
 by_cases h5:s.kind=5
 ·exact fun files clock order vf vl vc vo vn u0 u1 w h=>do_far5 s files clock order vf vl vc vo vn u0 u1 w h h5
 ·exact doAll_plain h5
end Go.Proofs.YtacgopankhpnbaaGreatDoor
