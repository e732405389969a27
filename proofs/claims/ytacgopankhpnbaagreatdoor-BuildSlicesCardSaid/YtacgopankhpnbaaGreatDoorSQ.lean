/- Texts of this seat, joined. -/
import Derived.Test.YtacgopankhpnbaaGreatDoorZr
import Derived.Test.YtacgopankhpnbaaGreatDoorSO
import Derived.Deep.AppendLies
set_option maxHeartbeats 2000000
set_option maxRecDepth 100000
set_option linter.unusedVariables false
set_option linter.unusedSimpArgs false
namespace Go.Proofs.YtacgopankhpnbaaGreatDoor
open Go.RowKit
structure DoLoop (w W0 wr:World) (bx k:Nat) (files:List Fil) (kind:Int) (src:List ByteArray) (vf:Value) (out:ByteArray) (sorted:Bool) (vc vo vn vs:Value) (u0 u1:Int) (saw:List ByteArray):Prop where
 boxes:gH w wr kind vf out sorted vc vo vn u0 u1
 sbx:Sbx wr bx vs vc vo vn u0 u1
 own:wr.ownsRow (bx+1) 9 1 vs saw.length (saw.map Value.string)
 only:bL bx W0 wr
 found:(src.take k).map (aJ files)=saw.map some
theorem found_snoc{files:List Fil}{src saw:List ByteArray}{k:Nat}{x t:ByteArray}(hx:src[k]? =some x)(ht:aJ files x=some t)(h:(src.take k).map (aJ files)=saw.map some):
  (src.take (k+1)).map (aJ files)=(saw++[t]).map some:=by
 rw[List.take_add_one,hx];simp[h,ht]
theorem sawOf_some{files:List Fil}:∀{src saw:List ByteArray},src.map (aJ files)=saw.map some->fC files src=some saw
 |[],[],_=>rfl
 |[],_::_,h=>W9
 |_::_,[],h=>W9
 |x::r,t::l,h=>by
  simp at h;rw[fC,h.1,sawOf_some h.2]
theorem sawOf_none{files:List Fil}{x:ByteArray}:∀{src:List ByteArray},x∈src->aJ files x=none->fC files src=none
 |y::r,h,hn=>by
  rw[fC];rcases List.mem_cons.1 h with rfl|h
  ·rw[hn]
  ·rw[sawOf_none h hn];cases aJ files y<;>rfl
theorem findFile_mem{files:List Fil}{x t:ByteArray}(h:aJ files x=some t):∃f,f∈files/\f.text=t:=by
 unfold aJ at h;rw[Option.map_eq_some_iff] at h;obtain⟨f,hf,rfl⟩:=h;exact⟨f,List.mem_of_find?_eq_some hf,rfl⟩
theorem rightFrom_text:∀{l:List Fil}{aI:List ByteArray},dC l aI=true->∀f,f∈l->f.text.size<=65536
 |[],_,_,_,h=>YD
 |g::r,aI,h,f,hf=>by
  rw[dC] at h;split at h
  ·cases h
  ·rename_i hh;rcases List.mem_cons.1 hf with rfl|hf
   ·simp at hh;exact hh.2
   ·exact rightFrom_text h f hf
theorem rightFiles_text{l:List Fil}(h:aR l=true):∀f,f∈l->f.text.size<=65536:=by
 simp[aR] at h;exact rightFrom_text h.1
theorem cell_set{w:World}{b b' o o':Nat}{v x:Value}(pQ:b≠b')(h:w.cell? ⟨b,o,none⟩=some x):(w.setCell ⟨b',o',none⟩ v).cell? ⟨b,o,none⟩=some x:=
 (World.cell?_of_block (w:=w) (Below.heap_setCell _ _ _ _ pQ)).trans h
def Apart(a b:Nat):Prop:=a≠b
theorem Apart.of{a b:Nat}(h:a≠b):Apart a b:=h
theorem cell_set2{w:World}{b b' o o' o'':Nat}{v v' x:Value}(pQ:Apart b b')(h:w.cell? ⟨b,o,none⟩=some x):((w.setCell ⟨b',o',none⟩ v).setCell ⟨b',o'',none⟩ v').cell? ⟨b,o,none⟩=some x:=cell_set pQ (cell_set pQ h)
theorem cell_set2a{w:World}{b o o' o'':Nat}{v v' x:Value}(h:w.cell? ⟨b,o,none⟩=some x):((w.setCell ⟨b+1+1+1,o',none⟩ v).setCell ⟨b+1+1+1,o'',none⟩ v').cell? ⟨b,o,none⟩=some x:=cell_set2 (Apart.of VG) h
theorem cell_set2b{w:World}{b b' o o' o'':Nat}{v v' x:Value}(pT:b'<b)(h:w.cell? ⟨b,o,none⟩=some x):((w.setCell ⟨b',o',none⟩ v).setCell ⟨b',o'',none⟩ v').cell? ⟨b,o,none⟩=some x:=cell_set2 (Apart.of VG) h
theorem res_cells'{w:World}{b:Nat}{u v x y:Value}(h0:w.cell? ⟨b,0,none⟩=some x)(h1:w.cell? ⟨b,1,none⟩=some y):
  ((w.setCell ⟨b,0,none⟩ u).setCell ⟨b,1,none⟩ v).cell? ⟨b,0,none⟩=some u/\((w.setCell ⟨b,0,none⟩ u).setCell ⟨b,1,none⟩ v).cell? ⟨b,1,none⟩=some v:=res_cells h0 h1
theorem block_grown{w4 w5 w6:World}{e:TypeId}{size n:Nat}{v:Value}{xs:List Value}{o:Obj}(hb:Below w4.heap.size w4 w5)(hO:w5.ownsRow w4.heap.size e size v n xs)(hg:(w5.alloc o).grownBy w6 v.ownBlock){j:Nat}(hj:j<w4.heap.size):w6.heap[j]? =w4.heap[j]? :=by
 have h5:=hb.size;rw[hg.block j VZ (fun e=>by have:=(hO.lt j e.symm).1;omega),Below.heap_alloc _ _ _ VG];exact hb.block j hj
theorem lO{w4 w5 w6:World}{e:TypeId}{size n:Nat}{v:Value}{xs:List Value}{o:Obj}(hb:Below w4.heap.size w4 w5)(hO:w5.ownsRow w4.heap.size e size v n xs)(hg:(w5.alloc o).grownBy w6 v.ownBlock){b j:Nat}{x:Value}(h:w4.cell? ⟨b,j,none⟩=some x):w6.cell? ⟨b,j,none⟩=some x:=
 (World.cell?_of_block (w:=w4) (block_grown hb hO hg (cU h))).trans h
theorem frozen_grown{w4 w5 w6:World}{e:TypeId}{size n:Nat}{v:Value}{xs:List Value}{o:Obj}(hb:Below w4.heap.size w4 w5)(hO:w5.ownsRow w4.heap.size e size v n xs)(hg:(w5.alloc o).grownBy w6 v.ownBlock){b j:Nat}{x:Value}(h:w4.cell? ⟨b,j,none⟩=some x)(hf:w4.frozen? ⟨b,j,none⟩=false):w6.frozen? ⟨b,j,none⟩=false:=
 (World.frozen?_of_block (w:=w4) (block_grown hb hO hg (cU h))).trans hf
theorem below_grown{w4 w5 w6:World}{e:TypeId}{size n:Nat}{v:Value}{xs:List Value}{o:Obj}(hb:Below w4.heap.size w4 w5)(hO:w5.ownsRow w4.heap.size e size v n xs)(hg:(w5.alloc o).grownBy w6 v.ownBlock):Below w4.heap.size w4 w6:=
 ⟨hg.os.trans hb.os,hg.tape.trans hb.tape,hg.output.trans hb.output,by have h1:=hb.size;have h2:=hg.size;simp at h2;omega,fun _ hj=>block_grown hb hO hg hj⟩
theorem below_grown'{w4 w5 w6:World}{e:TypeId}{size n:Nat}{v:Value}{xs:List Value}(hb:Below w4.heap.size w4 w5)(hO:w5.ownsRow (w4.heap.size+1) e size v n xs)(hg:w5.grownBy w6 v.ownBlock):Below w4.heap.size w4 w6:=
 ⟨hg.os.trans hb.os,hg.tape.trans hb.tape,hg.output.trans hb.output,Nat.le_trans hb.size hg.size,fun j hj=>by
  have h5:=hb.size;rw[hg.block j VG (fun e=>by have:=(hO.lt j e.symm).1;omega)]
  exact hb.block j hj⟩
theorem cloned_late{w4 w5:World}{o:Obj}{e:TypeId}{size n:Nat}{v:Value}{xs:List Value}(pP:w5.ownsRow (w4.alloc o).drew.heap.size e size v n xs)(hb:Below (w4.alloc o).drew.heap.size (w4.alloc o).drew w5):
  Below w4.heap.size w4 w5/\w5.heap[w4.heap.size]? =some o/\w5.ownsRow (w4.heap.size+1) e size v n xs:=by
 have hz:(w4.alloc o).drew.heap.size=w4.heap.size+1:=by show(w4.alloc o).heap.size=_;simp
 rw[hz] at pP hb;exact⟨(aA w4 o).drew.trans (hb.mono VG),(hb.block _ VG).trans (aN w4 o),pP⟩
theorem frozen_later{w w':World}(hb:Below w.heap.size w w'){b o:Nat}{v:Value}(h:w.cell? ⟨b,o,none⟩=some v)(hf:w.frozen? ⟨b,o,none⟩=false):w'.frozen? ⟨b,o,none⟩=false:=
 (hb.frozen (p:=⟨b,o,none⟩) (cU h)).trans hf
theorem ownsRow_base{w:World}{base base':Nat}{e:TypeId}{size:Nat}{v:Value}{n:Nat}{xs:List Value}(h:w.ownsRow base e size v n xs)(hb:base'<=base):w.ownsRow base' e size v n xs:=by
 obtain⟨h1,h2⟩:=h;refine⟨h1,?_⟩;rcases h2 with h2|⟨g,cap,cur,hv,hg,r⟩
 ·exact .inl h2
 ·exact .inr ⟨g,cap,cur,hv,Nat.le_trans hb hg,r⟩
theorem fils_of_owns{w:World}{base:Nat}{e:TypeId}{v:Value}{l:List Fil}(h:w.ownsRow base e 2 v l.length (cI l))(hz:∀f,f∈l->f.name.size<=140737488355328/\f.text.size<=140737488355328):iB w v l:=by
 rcases h.2 with⟨rfl,h0⟩|⟨g,cap,cur,rfl,hg,yO,r1,r2,r3,r4⟩
 ·exact TO
 ·refine⟨_,cap,rfl,r1,r2,fun _=>⟨g,0,rfl,fun i f hf=>⟨[.string f.name,.string f.text],⟨rfl,hz f (List.mem_of_getElem? hf)⟩,rfl,fun j u hu=>?_⟩⟩⟩;have hi:i<l.length:=(List.getElem?_eq_some_iff.1 hf).1;obtain⟨c1,c2⟩:=filCells_at l i f hf;rw[<-r4,List.getElem?_take,if_pos VG] at c1;rw[<-r4,List.getElem?_take,if_pos VG] at c2
  match j,hu with
  |0,hu=>cases hu;simp only[World.cell?,yO];simpa using c1
  |1,hu=>cases hu;simp only[World.cell?,yO];simpa using c2
theorem fils_size{w:World}{v:Value}{l:List Fil}(h:iB w v l){f:Fil}(hf:f∈l):f.name.size<=140737488355328/\f.text.size<=140737488355328:=by
 rcases h.cases with⟨rfl,-⟩|⟨b,o,c,-,-,-,-,-,hc⟩
 ·cases hf
 ·obtain⟨i,hi⟩:=List.getElem?_of_mem hf;exact(hc i f hi).2.2
theorem filCells_snoc(l:List Fil)(f:Fil):cI l++[.string f.name,.string f.text]=cI (l++[f]):=by simp[cI]
theorem strs_only{b:Nat}{w w':World}{v:Value}{l:List ByteArray}(h:Strs w v l)(ho:bL b w w')(hb:∀a n c,v=.slice (some a) n c->l≠[]->a.block≠b):Strs w' v l:=by
 obtain⟨a,c,hv,h1,h2,h3⟩:=h;refine⟨a,c,hv,h1,h2,fun pQ=>?_⟩;obtain⟨b',o',ha,hc⟩:=h3 pQ;refine⟨b',o',ha,fun i x' hx=>?_⟩;obtain⟨cs,e,hl,hj⟩:=hc i x' hx;exact⟨cs,e,hl,fun j u hu=>ho.cell (hb ⟨b',o',none⟩ l.length c (by rw[hv,ha]) pQ) (hj j u hu)⟩
theorem ints_off{w:World}{v:Value}{l:List Int}(h:gN w v l){b:Nat}(hb:w.heap.size<=b):∀a n c,v=.slice (some a) n c->l≠[]->a.block≠b:=by
 intro a n c e pQ;rcases h.cases with⟨h0,-⟩|⟨bl,o,c',he,-,-,-,pT,-⟩
 ·exact absurd h0 pQ
 ·rw[e] at he;cases he;simp;omega
theorem saw_text{files:List Fil}{src saw:List ByteArray}{k:Nat}(h:(src.take k).map (aJ files)=saw.map some)(ht:∀f,f∈files->f.text.size<=65536):∀x,x∈saw->x.size<=65536:=by
 intro x hx;have:some x∈saw.map some:=List.mem_map_of_mem hx;rw[<-h] at this;obtain⟨y,-,hy⟩:=List.mem_map.1 this;obtain⟨f,hf,rfl⟩:=findFile_mem hy;exact ht f hf
def FarFrom(w:World)(v:Value):Prop:=∀a n c,v=.slice (some a) n c->w.heap.size<=a.block
theorem do_main(s:Stp)(files:List Fil)(clock order:List Int)(vf vl vc vo vn:Value)(u0 u1:Int)(w:World)(h:DoIn s files clock order vf vl vc vo vn u0 u1 w)
  (uW:aM s=true) (uV:aR files=true) (wF:¬min u0 u1<0) (ht:aJ files s.out=none) (uX:¬60<=files.length) (R:Ending->World->Prop)
  (BW:fC files s.src=none->∀W',Below w.heap.size w W'->R (.returned (doErr u0 u1 4)) W')
  (WP:List ByteArray->ByteArray->Int->List ByteArray->Int->Int->Prop)
  (hwrite:∀saw,fC files s.src=some saw->∀bx vs W,WriteIn s saw clock order bx vs vc vo vn vf u0 u1 W->Calls Tryz.prog 52 #[.pointer (some ⟨bx,0,none⟩),.agg #[.int .i64 s.kind,vf,.string s.out,.bool s.sorted]] W fun e w'=>
   ∃vs' text err saw' a b,e=.returned (.tuple #[.string text,.int .i64 err])/\Sbx w' bx vs' vc vo vn a b/\StrsOff bx w' vs' saw'/\bL bx W w'/\WP saw text err saw' a b)
  (wU:∀saw,fC files s.src=some saw->∀text err saw' a b,WP saw text err saw' a b->text.size<=140737488355328/\(err≠0->∀W',Below w.heap.size w W'->R (.returned (doErr u0 u1 err)) W')/\
   (err=0->65536<text.size->∀W',Below w.heap.size w W'->R (.returned (doErr u0 u1 6)) W')/\
   (err=0->¬65536<text.size->∀W' vfl vsaw,Below w.heap.size w W'->iB W' vfl (eK s files text)->Strs W' vsaw saw'->FarFrom w vfl->(saw'≠[]->FarFrom w vsaw)->R (.returned (.tuple #[vfl,vsaw,.agg #[.int .i64 a,.int .i64 b],.int .i64 0])) W')):
  Calls Tryz.prog 17 (nJ s vf vl vc vo vn u0 u1) w R:=by
 have HT:=zh (show jX files s.out=.tuple #[.string ByteArray.empty,.bool false] by unfold jX;rw[ht]);clear ht;have HRT:=zh (rightFiles_text uV);have C3:=zh uW;have E7:=zh BW;clear BW;have HWr:=zh hwrite;clear hwrite;have OU:=zh wU;clear wU;obtain⟨i0,hi,rS,qI,qH⟩:=info_parts strInfo;have hminb:decide (min u0 u1<0)=false:=decide_eq_false wF;obtain⟨⟨a1,c1,e1⟩,⟨a2,c2,e2⟩,⟨a3,n3,c3,e3⟩,⟨a4,n4,c4,e4⟩,⟨a5,n5,c5,e5⟩⟩:=mD h
 have HR:Hid (∀W,Below w.heap.size w W->Calls Tryz.prog 24 #[.agg #[.int .i64 s.kind,vf,.string s.out,.bool s.sorted]] W fun e w'=>e=.returned (.bool true)/\Below W.heap.size W w'):=
  zh fun W hb=>uW▸iR s vf W (h.hsrc.later hb) h.hout
 have HF:Hid (∀W,Below w.heap.size w W->Calls Tryz.prog 51 #[vl] W fun e w'=>e=.returned (.bool true)/\Below W.heap.size W w'):=
  zh fun W hb=>uV▸gV files vl W (h.hfil.later hb)
 have J7:Hid (∀W x,Below w.heap.size w W->Calls Tryz.prog 21 #[vl,.string x] W fun e w'=>e=.returned (jX files x)/\Below W.heap.size W w'):=
  zh fun W x hb=>find_any files vl x W (h.hfil.later hb)
 have yJ:=zh h;obtain⟨kind,src,out,sorted⟩:=s;have hu0:=h.hu0;have hu1:=h.hu1;clear h;simp only at e1;subst e1 e2 e3 e4 e5;unfold nJ;simp only at HR HF ⊢;have qT:=gH.made w kind (.slice a1 src.length c1) out sorted (.slice a3 n3 c3) (.slice a4 n4 c4) (.slice a5 n5 c5) u0 u1;have sG:=zh qT;clear qT uW uV;simp only at HT E7 HWr OU;go_enter Tryz.func17,Tryz.ntmps17;go_wp2_with fail;refine(HR.out _ sG.out.below).mono ?_;rintro e w1 ⟨rfl,pS⟩;have qQ:=zh (sG.out.later pS);clear sG pS;go_wp2_with fail;refine(HF.out _ qQ.out.below).mono ?_;rintro e w2 ⟨rfl,pR⟩;have qM:=zh (qQ.out.later pR);clear qQ pR;obtain⟨s0,s1,s2,s3,y0,y1,y2,x0,x1,r0,r1,f0,f1⟩:=qM.out.cells;go_wp2_with fail;refine(J7.out _ _ qM.out.below).mono ?_;rw[HT.out];rintro e w3 ⟨rfl,rD⟩;have vJ:=zh (qM.out.later rD);clear qM rD s0 s1 s2 s3 y0 y1 y2 x0 x1 r0 r1 f0 f1;obtain⟨s0,s1,s2,s3,y0,y1,y2,x0,x1,r0,r1,f0,f1⟩:=vJ.out.cells;have hsl:=(dS C3.out).2.2.1;simp only at hsl;have g0:=gS vJ.out.bs;have g1:=gS vJ.out.bw;have g2:=gS vJ.out.bu;have g3:=gS vJ.out.br;have hfullb:decide (60<=(files.length:Int))=false:=decide_eq_false VG;go_wp2_with fail
 have hW0:DoLoop w (w3.alloc (.cells #[.slice none 0 0,.slice a3 n3 c3,.slice a4 n4 c4,.slice a5 n5 c5,.int .i64 u0,.int .i64 u1] 87)) (w3.alloc (.cells #[.slice none 0 0,.slice a3 n3 c3,.slice a4 n4 c4,.slice a5 n5 c5,.int .i64 u0,.int .i64 u1] 87)) w3.heap.size 0 files kind src (.slice a1 src.length c1) out sorted (.slice a3 n3 c3) (.slice a4 n4 c4) (.slice a5 n5 c5) (.slice none 0 0) u0 u1 []:=
  ⟨vJ.out.later (aA _ _),aN _ _,World.ownsRow_nil _ _ _ _,bL.refl _ _,rfl⟩
 have IW:w.heap.size+1+1+1<w3.heap.size:=g3;have L5:(w3.alloc (.cells #[.slice none 0 0,.slice a3 n3 c3,.slice a4 n4 c4,.slice a5 n5 c5,.int .i64 u0,.int .i64 u1] 87)).heap.size=w3.heap.size+1:=VL;clear s0 s1 s2 s3 y0 y1 y2 x0 x1 r0 r1 f0 f1 g0 g1 g2 g3 vJ HR HF HT;generalize w3.alloc (.cells #[.slice none 0 0,.slice a3 n3 c3,.slice a4 n4 c4,.slice a5 n5 c5,.int .i64 u0,.int .i64 u1] 87)=W0 at hW0 L5 ⊢;generalize w3.heap.size=bx at hW0 L5 IW ⊢;have HW0:=zh hW0;clear hW0;have HWs:=zh L5;clear L5;go_loopw [58] (fun i wr=>∃(k:Nat)(vs:Value)(saw:List ByteArray),k<=src.length/\i=.int .i64 k/\DoLoop w W0 wr bx k files kind src (.slice a1 src.length c1) out sorted (.slice a3 n3 c3) (.slice a4 n4 c4) (.slice a5 n5 c5) vs u0 u1 saw) (fun i _=>src.length-(intOf i).toNat)
 case atStart=>exact⟨0,_,[],Nat.zero_le _,rfl,HW0.out⟩
 case round=>
  clear HW0;obtain⟨k,vs,saw,hk,rfl,hL⟩:=hrel;have HL:=zh hL;obtain⟨hB,hS,hO,hOn,hFo⟩:=hL;have HO:=zh hO;have GD:=zh hFo;obtain⟨s0,s1,s2,s3,y0,y1,y2,x0,x1,r0,r1,f0,f1⟩:=hB.cells;have c0:=hS.cell 0;have q0:=hS.frozen 0;simp only[List.getElem?_toArray,List.getElem?_cons_zero] at c0;have sA:=zh hB.below;have hlw:=hB.below.size;have rZ:=hS.lt;have HB:=zh hB;have HS:=zh hS;clear hB hS hO hFo;by_cases pT:k<src.length
  ·rcases yJ.out.hsrc.cases with⟨h0,-⟩|⟨bl,ol,cl,he,-,-,-,-,tJ⟩
   ·simp only at h0;rw[h0] at pT;simp at pT
   ·simp only at he tJ;(injection he with CD xY N4);subst CD N4;obtain⟨x,hx,BN⟩:=getElem?_of_lt pT;have qZ:=aC sA.out (tJ k x hx).1;have HX:=zh hx;clear tJ hx xY
    cases hf:aJ files x with
    |none=>
     have R7:=zh (show jX files x=.tuple #[.string ByteArray.empty,.bool false] by unfold jX;rw[hf]);have HFN:=zh (sawOf_none BN hf);clear hf BN;go_wp2_with fail;refine(J7.out _ _ sA.out).mono ?_;rw[R7.out];rintro e w4 ⟨rfl,vG⟩;clear s0 s1 s2 s3 y0 y1 y2 x0 x1 r0 r1 f0 f1 c0 q0;have vI:=zh (HB.out.later vG);obtain⟨s0,s1,s2,s3,y0,y1,y2,x0,x1,r0,r1,f0,f1⟩:=vI.out.cells;go_wp2_with fail;(go_region);go_wp2_with fail;exact vI.out.err rfl rfl rfl rfl rfl (E7.out HFN.out)
    |some t=>
     have R7:=zh (show jX files x=.tuple #[.string t,.bool true] by unfold jX;rw[hf]);have HFs:=zh (found_snoc HX.out hf GD.out);clear hf BN;go_wp2_with fail;refine(J7.out _ _ sA.out).mono ?_;rw[R7.out];rintro e w4 ⟨rfl,vG⟩;have hbl4:=vG.size;have MQ:=zh (HS.out.later vG);have E6:=zh (HO.out.kept (row:=none) ⟨vG.os,vG.tape,vG.output,vG.size,fun k hk _=>vG.block k hk⟩ (Classical.em _));have vI:=zh (HB.out.later vG);have HOn4:=zh (hOn.trans (bL.of_below vG));(have EW:saw.length=k:=by have:=congrArg List.length GD.out;simp at this;omega);have hsl2:saw.length<=60:=VG;clear EW s0 s1 s2 s3 y0 y1 y2 x0 x1 r0 r1 f0 f1 c0 q0 vG qZ HS HO HB hOn;have kk4:=MQ.out.cell 0;have q4:=MQ.out.frozen 0;simp only[List.getElem?_toArray,List.getElem?_cons_zero] at kk4;have hbl4':bx<w4.heap.size:=MQ.out.lt;go_wp2_with(at_builtin;refine wpList_append_own _ rfl _ _ 22 rfl (bx+1) 9 i0 (.string ByteArray.empty) 1 16 Tryz.underlying22 hi rS qI qH rfl VI _ _ _ rfl (E6.out.alloc _) ⟨w4.heap.size,0,none⟩ 1 1 [.string t] rfl rfl (cell_one_new _ _ _) VX VR VG VZ ?_);intro v' w5 uD pO _;(have xT:w4.heap.size+1<=w5.heap.size:=by have:=pO.size;simpa using this);have qO:∀j,vs.ownBlock=some j->bx+1<=j:=fun j e=>(E6.out.lt j e).1
     have IX:∀j,j<w4.heap.size->j<=bx->w5.heap[j]? =w4.heap[j]? :=fun j hj hjb=>by
      rw[pO.block j VZ (fun e=>by have:=qO j e.symm;omega),Below.heap_alloc _ _ _ hj]
     have F5:=zh (MQ.out.of_block (IX bx hbl4' (Nat.le_refl _)));have kk5:=F5.out.cell 0;have q5:=F5.out.frozen 0;simp only[List.getElem?_toArray,List.getElem?_cons_zero] at kk5;obtain⟨g',cap',rfl⟩:=ownsRow_succ uD;have sX:=zh uD;have hg5:=(uD.lt g' rfl).1;have HG5:=zh pO;have HBk:=zh IX;clear uD pO IX qO;go_wp2_with fail;go_roundw
     case rel=>
      refine⟨k+1,.slice (some ⟨g',0,none⟩) (saw.length+1) cap',saw++[t],VG,VT,?_⟩;have IV:=gS vI.out.br
      have hOn5:bL bx W0 (w5.setCell ⟨bx,0,none⟩ (.slice (some ⟨g',0,none⟩) (saw.length+1) cap')):=by
       refine bL.trans ?_ (bL.setCell w5);have hw:=HWs.out;have h1:=HOn4.out;refine⟨HG5.out.os.trans h1.os,HG5.out.tape.trans h1.tape,HG5.out.output.trans h1.output,by have:=h1.size;omega,fun j hj pQ=>?_⟩;rw[HBk.out j (by have:=h1.size;omega) VG];exact h1.block j hj pQ
      refine⟨⟨?_,?_,?_,?_,?_⟩,F5.out.saw0 _,?_,hOn5,HFs.out⟩
      ·rw[Below.heap_setCell _ _ _ _ VZ,HBk.out _ VG VG];exact vI.out.bs
      ·rw[Below.heap_setCell _ _ _ _ VZ,HBk.out _ VG VG];exact vI.out.bw
      ·rw[Below.heap_setCell _ _ _ _ VZ,HBk.out _ VG VG];exact vI.out.bu
      ·rw[Below.heap_setCell _ _ _ _ VZ,HBk.out _ VG VG];exact vI.out.br
      ·have hb:=vI.out.below;refine(Below.setCell ⟨HG5.out.os.trans hb.os,HG5.out.tape.trans hb.tape,HG5.out.output.trans hb.output,by have:=hb.size;omega,fun j hj=>?_⟩ VZ _);rw[HBk.out j VG VG];exact hb.block j hj
      ·have:=ownsRow_setCell_below sX.out (a:=⟨bx,0,none⟩) VL (.slice (some ⟨g',0,none⟩) (saw.length+1) cap');simpa using this
     case measure=>simp[intOf];omega
  ·have yX:k=src.length:=VG;have HFa:=zh (sawOf_some (src:=src) (saw:=saw) (by have:=GD.out;rwa [List.take_of_length_le VG] at this));(have EW:saw.length=src.length:=by have:=congrArg List.length GD.out;simp at this;omega);have hbxw:∀{v:Value}{j:Nat},j<w.heap.size->j≠bx:=fun h e=>VG
   have FX:WriteIn ⟨kind,src,out,sorted⟩ saw clock order bx vs (.slice a3 n3 c3) (.slice a4 n4 c4) (.slice a5 n5 c5) (.slice a1 src.length c1) u0 u1 wr:=by
    have hD:=yJ.out;have hx:=HRT.out;refine⟨hD.hglob.later sA.out,by have:=hD.hglob.big;omega,HS.out,⟨strs_of_owns HO.out (fun x K9=>?_),fun a n c e _=>?_⟩,⟨hD.hclk.later sA.out,ints_off hD.hclk VG⟩,⟨hD.hord.later sA.out,ints_off hD.hord VG⟩,hD.hsrc.later sA.out,C3.out,fun x K9=>?_,EW,⟨VG,hu0.2⟩,⟨VG,hu1.2⟩,hD.hcwf,hD.howf⟩
    ·have:=saw_text GD.out hx x K9;omega
    ·have:=owns_block HO.out (Nat.le_refl _) a n c e;omega
    ·exact saw_text GD.out hx x K9
   have HWc:=zh (HWr.out saw HFa.out bx vs wr FX);have HEe:=zh (OU.out saw HFa.out);clear FX EW HWr OU E7 J7 yX hbxw;go_wp2_with fail;refine HWc.out.mono ?_;rintro e w4 ⟨vs',text,err,saw',ua,ub,rfl,hS4,xK,hO4,hP⟩;obtain⟨ht47,CD,xY,N4⟩:=HEe.out text err saw' ua ub hP;have HE1:=zh CD;have yK:=zh xY;have HE3:=zh N4;have vI:=zh (HB.out.only hO4 IW);have MQ:=zh hS4;have HT4:=zh xK;clear s0 s1 s2 s3 y0 y1 y2 x0 x1 r0 r1 f0 f1 c0 q0 CD xY N4 hS4 xK hO4 hP HEe HWc HB HS;obtain⟨s0,s1,s2,s3,y0,y1,y2,x0,x1,r0,r1,f0,f1⟩:=vI.out.cells;by_cases IT:err=0
   ·subst IT;by_cases qK:65536<text.size
    ·go_wp2_with fail;(go_region);go_wp2_with fail;exact vI.out.err rfl rfl rfl rfl rfl (yK.out trivial qK)
    ·obtain⟨m0,LP,qT,xB,PN⟩:=info_parts filInfo;have v0:w4.cell? ⟨bx,0,none⟩=some vs':=MQ.out.cell 0;have v4:w4.cell? ⟨bx,4,none⟩=some (.int .i64 ua):=MQ.out.cell 4;have v5:w4.cell? ⟨bx,5,none⟩=some (.int .i64 ub):=MQ.out.cell 5;have hb4w:=vI.out.below;have HFl:=zh (yJ.out.hfil.later hb4w);have HFA:Hid (iB (w4.alloc (.cells #[.string out,.string text] 40)).drew (.slice a2 files.length c2) files):=zh (HFl.out.later (aA w4 _).drew);have hbx4:bx<w4.heap.size:=MQ.out.lt;have BH:Hid (∀W,iB W (.slice a2 files.length c2) files->Calls Tryz.prog 53 #[.slice a2 files.length c2] W fun e w'=>∃v',e=.returned v'/\w'.ownsRow W.heap.size 40 2 v' files.length (cI files)/\Below W.heap.size W w'):=zh fun W hW=>clone_any files _ W hW VG;have N2:files.length<=60:=VG;(obtain⟨va,vnn,vcc,hvs'⟩:∃a n c,vs'=.slice a n c:=by obtain⟨a,c,e,-⟩:=HT4.out.1;exact⟨a,_,c,e⟩);subst hvs';clear HE1 yK s0 s1 s3 y0 y1 y2 x0 x1 hb4w;go_wp2_with fail
     go_region_held3 (fun W=>W.cell? ⟨w.heap.size,2,none⟩=some (.string out)/\W.cell? ⟨bx,0,none⟩=some (.slice va vnn vcc)/\W.cell? ⟨bx,4,none⟩=some (.int .i64 ua)/\W.cell? ⟨bx,5,none⟩=some (.int .i64 ub))
      (first|exact⟨l0,l1,l2,l3⟩|exact⟨aC (aA _ _) j0,aC (aA _ _) j1,aC (aA _ _) j2,aC (aA _ _) j3⟩|exact⟨j0,j1,j2,j3⟩|exact⟨s2,v0,v4,v5⟩|(refine⟨cell_set2a ?_,cell_set2b IW ?_,cell_set2b IW ?_,cell_set2b IW ?_⟩<;>assumption)|go_keep)
      (first|(go_at_call 53;refine(BH.out _ (by exact HFl.out)).mono ?_;rintro e w5 ⟨vcl,rfl,uD,hb5⟩;have vB:Below w4.heap.size w4 w5:=(Below.refl _ w4).drew.trans hb5;have j0:=aC vB s2;have j1:=aC vB v0;have j2:=aC vB v4;have j3:=aC vB v5;have sX:=zh uD;have wA:=zh vB;clear uD hb5 vB)|(have _g:=sX;show(if _ then _ else _);go_must (refine step_append_lies (w5.alloc (.cells #[.string out,.string text] 40)) ?y1 (.tmp 100) (.tmp 105) 25 ?y2 w4.heap.size 40 m0 (.agg #[.string ByteArray.empty,.string ByteArray.empty]) 2 32 Tryz.underlying25 LP qT xB PN ?y8 ?y6 vcl files.length (cI files) ?y3 ?z1 ⟨w5.heap.size,0,none⟩ 1 1 [.string out,.string text] ?y4 ?y5 ?z2 ?z3 ?y7 ?z4 ?z5 ?z6 (w5.heap.size+1) ?z7 ?z8);go_must (case y1=>rfl);go_must (case y2=>rfl);go_must (case y8=>rfl);go_must (case y3=>rfl);go_must (case y4=>rfl);go_must (case y5=>rfl);go_must (case y6=>omega);go_must (case y7=>omega);go_must (case z1=>exact sX.out.alloc _);go_must (case z2=>exact World.news_of_block (cs:=#[.string out,.string text]) (t:=40) (fr:=(0,0)) (heap_alloc_new w5 _));go_must (case z3=>simp[Value.oneCell']);go_must (case z4=>(unfold maxLen;omega));go_must (case z5=>omega);go_must (case z6=>(have:=wA.out.size;simp;omega));go_must (case z7=>simp);go_must (intro gg cap w6 qR pO qA hlt6);go_must (have l0:=lO wA.out sX.out pO s2);go_must (have l1:=lO wA.out sX.out pO v0);go_must (have l2:=lO wA.out sX.out pO v4);go_must (have l3:=lO wA.out sX.out pO v5);go_must (have l4:=lO wA.out sX.out pO r0);go_must (have l5:=lO wA.out sX.out pO r1);go_must (have l6:=frozen_grown wA.out sX.out pO r0 f0);go_must (have l7:=frozen_grown wA.out sX.out pO r1 f1);have yS:=zh qR;have M7:=zh (below_grown wA.out sX.out pO);clear qR pO qA)|(go_at_call 53;show Calls _ _ _ (World.drew (World.alloc w4 (.cells #[.string out,.string text] 40))) _;go_must (refine(BH.out _ (HFA.out)).mono ?_);go_must (rintro e w5 ⟨vcl,rfl,uD,hb5⟩);go_must (obtain⟨vB,HNB',OS⟩:=cloned_late uD hb5);go_must (have j0:=aC vB s2);go_must (have j1:=aC vB v0);go_must (have j2:=aC vB v4);go_must (have j3:=aC vB v5);have HNB:=zh HNB';have RT:=zh OS;have wA:=zh vB;clear uD hb5 vB HNB' OS)|(have _g:=RT;show(if _ then _ else _);go_must (refine step_append_lies w5 ?x1 (.tmp 100) (.tmp 105) 25 ?x2 (w4.heap.size+1) 40 m0 (.agg #[.string ByteArray.empty,.string ByteArray.empty]) 2 32 Tryz.underlying25 LP qT xB PN ?x8 ?x6 vcl files.length (cI files) ?x3 ?x9 ⟨w4.heap.size,0,none⟩ 1 1 [.string out,.string text] ?x4 ?x5 ?t2 ?t3 ?x7 ?t4 ?t5 ?t6 w5.heap.size ?t7 ?t8);go_must (case x1=>rfl);go_must (case x2=>rfl);go_must (case x8=>rfl);go_must (case x3=>rfl);go_must (case x4=>rfl);go_must (case x5=>rfl);go_must (case x6=>omega);go_must (case x7=>omega);go_must (case x9=>exact RT.out);go_must (case t2=>exact World.news_of_block (cs:=#[.string out,.string text]) (t:=40) (fr:=(0,0)) HNB.out);go_must (case t3=>simp[Value.oneCell']);go_must (case t4=>(unfold maxLen;omega));go_must (case t5=>omega);go_must (case t6=>(have:=gS HNB.out;omega));go_must (case t7=>rfl);go_must (intro gg cap w6 qR pO qA hlt6);go_must (have tA:=below_grown' wA.out RT.out pO);go_must (have l0:=aC tA s2);go_must (have l1:=aC tA v0);go_must (have l2:=aC tA v4);go_must (have l3:=aC tA v5);go_must (have l4:=aC tA r0);go_must (have l5:=aC tA r1);go_must (have l6:=frozen_later tA r0 f0);go_must (have l7:=frozen_later tA r1 f1);have yS:=zh (ownsRow_base qR (Nat.le_succ _));have M7:=zh tA;clear qR pO qA tA))
     all_goals
      go_wp2_with fail;have hr:=res_cells' (w:=w6) (b:=w.heap.size+1+1+1) (u:=.int .i64 ua) (v:=.int .i64 ub) l4 l5;refine bodyPost_ret (v:=.tuple #[.slice (some ⟨gg,0,none⟩) (files.length+1) cap,.slice va vnn vcc,.agg #[.int .i64 ua,.int .i64 ub],.int .i64 0]) (by simp[results,Tryz.results17,go_sem,hr.1,hr.2]) rfl ?_;have tA:=M7.out;have P8:=(yS.out.lt gg rfl).1;have IV:=gS vI.out.br;have LE:Below w4.heap.size w4 w6:=tA;have hbw4:=vI.out.below.size;have hbxw:=IW;refine HE3.out trivial VG _ _ _ ?_ ?_ ?_ (fun a n c e=>by cases e;exact Nat.le_trans hbw4 P8) (fun pQ a n c e=>by have:=HT4.out.2 a n c e pQ;omega)
      ·exact((vI.out.below.trans (tA.mono (by have:=vI.out.below.size;omega))).setCell VZ _).setCell VZ _
      ·have pP:=ownsRow_setCell_below (ownsRow_setCell_below yS.out (a:=⟨w.heap.size+1+1+1,0,none⟩) VZ (.int .i64 ua)) (a:=⟨w.heap.size+1+1+1,1,none⟩) VZ (.int .i64 ub);rw[filCells_snoc files ⟨out,text⟩] at pP;refine fils_of_owns (l:=eK ⟨kind,src,out,sorted⟩ files text) (by simpa[eK] using pP) (fun f hf=>?_);simp only[eK,List.mem_append,List.mem_singleton] at hf;rcases hf with hf|rfl
       ·exact fils_size HFl.out hf
       ·exact⟨yJ.out.hout,ht47⟩
      ·have h4:=HT4.out.1.later LE;exact strs_only h4 ((bL.setCell _).trans (bL.setCell _)) (fun a n c e pQ=>by have:=HT4.out.2 a n c e pQ;omega)
   ·have FV:(err==0)=false:=beq_eq_false_iff_ne.2 IT;(have pS:(err != 0)=true:=by rw[bne_iff_ne];exact IT);have HEr:=zh IT;clear IT;go_wp2_with fail;(go_region);go_wp2_with fail;exact vI.out.err rfl rfl rfl rfl rfl (HE1.out HEr.out)
theorem UH{p:Prop}(h:p:=by
 rintro e w' ⟨rfl,hb⟩
 exact⟨hb,rfl⟩):p:=h
def DoFar(w:World)(s:Stp)(files:List Fil)(u0 u1:Int)(r:DoRes)(e:Ending)(w':World):Prop:=
 Below w.heap.size w w'/\match r with
  | .error c=>e=.returned (doErr u0 u1 c)
  | .ok (text,saw,a,b)=>∃vfl vsaw,e=.returned (.tuple #[vfl,vsaw,.agg #[.int .i64 a,.int .i64 b],.int .i64 0])/\iB w' vfl (eK s files text)/\Strs w' vsaw saw/\FarFrom w vfl/\(saw≠[]->FarFrom w vsaw)
theorem sawOf_texts{files:List Fil}(ht:∀f,f∈files->f.text.size<=65536):∀{src saw:List ByteArray},fC files src=some saw->(∀x,x∈saw->x.size<=65536)/\saw.length=src.length
 |[],saw,h=>by cases h;simp
 |y::r,saw,h=>by
  rw[fC] at h;split at h
  ·rename_i t l hf hr;cases h;obtain⟨h1,h2⟩:=sawOf_texts ht hr;refine⟨fun x hx=>?_,by simp[h2]⟩;rcases List.mem_cons.1 hx with rfl|hx
   ·obtain⟨f,LX,rfl⟩:=findFile_mem hf;exact ht f LX
   ·exact h1 x hx
  ·cases h
theorem size_toArray(l:List UInt8):(⟨l.toArray⟩:ByteArray).size=l.length:=by show l.toArray.size=_;simp
theorem writeStep_size{s:Stp}{saw:List ByteArray}{clock order:List Int}{u0 u1:Int}(hr:aM s=true)(ht:∀x,x∈saw->x.size<=65536)(hl:saw.length=s.src.length)(hc:∀x,x∈clock->(Lit.int .i64 x).wf=true):
  (bG s saw clock order u0 u1).1.size<=140737488355328:=by
 obtain⟨hn,hout,hlen,hk⟩:=dS hr;have qX:∀x,x∈s.src->x.size<=20:=fun x hx=>isName_size (hn x hx)
 have N0:(saw.headD ByteArray.empty).size<=65536:=by
  cases saw with
  |nil=>decide
  |cons x l=>exact ht x VL
 unfold bG;split
 ·have:=join_length saw 65536 ht;show(⟨(Lib.join _ []).toArray⟩:ByteArray).size<=_;rw[size_toArray];refine Nat.le_trans this ?_;have:saw.length*65536<=60*65536:=Nat.mul_le_mul VG (Nat.le_refl _);omega
 ·split
  ·show(⟨(iK _).toArray⟩:ByteArray).size<=_;rw[size_toArray];exact oP _ N0
  ·split
   ·show((_++_)++_:ByteArray).size<=_
    have NH:(Lit.int .i64 (clock.getD u0.toNat 0)).wf=true:=by
     rw[List.getD_eq_getElem?_getD]
     cases hh:clock[u0.toNat]? with
     |none=>rfl
     |some y=>exact hc y (List.mem_of_getElem? hh)
    obtain⟨b0,b1⟩:=i64_bounds NH;have:=wireInt_size _ b0 b1;rw[ByteArray.size_append,ByteArray.size_append];have h1:(⟨#[10]⟩:ByteArray).size=1:=rfl;omega
   ·split
    ·show(⟨(iK _).toArray⟩:ByteArray).size<=_;rw[size_toArray];have:=kT (fB s.src) 20 (fun x hx=>qX x (kL hx));rw[eQ] at this;omega
    ·show(⟨(iK _).toArray⟩:ByteArray).size<=_;rw[size_toArray];have h1:=kT (eB order s.src.length u1.toNat (fB s.src)) 20 (fun x hx=>qX x (kL (nW hx)));have h2:=nB order s.src.length u1.toNat (fB s.src);have h3:(eB order s.src.length u1.toNat (fB s.src)).length*(20+1)<=60*21:=Nat.mul_le_mul VG VG;omega
theorem do_far(C:ByteArray->Int×ByteArray)(s:Stp)(files:List Fil)(clock order:List Int)(vf vl vc vo vn:Value)(u0 u1:Int)(w:World)(h:DoIn s files clock order vf vl vc vo vn u0 u1 w)(h5:s.kind≠5):
  Calls Tryz.prog 17 (nJ s vf vl vc vo vn u0 u1) w (DoFar w s files u0 u1 (cW C s files clock order u0 u1)):=by
 by_cases rH:aM s=false\/aR files=false\/min u0 u1<0
 ·have e:cW C s files clock order u0 u1=.error 1:=by
   unfold cW;rw[if_pos];rcases rH with h|h|h<;>simp[h]
  rw[e];refine(do_arg s files clock order vf vl vc vo vn u0 u1 w h rH).mono ?_;exact UH
 ·have uW:aM s=true:=Y8;have uV:aR files=true:=YB;have wF:¬min u0 u1<0:=fun hh=>rH (.inr (.inr hh))
  have e0:cW C s files clock order u0 u1=if(aJ files s.out).isSome then .error 5 else if 60<=files.length then .error 6
    else match fC files s.src with|none=>.error 4|some saw=>if 65536<(bG s saw clock order u0 u1).1.size then .error 6 else .ok (bG s saw clock order u0 u1):=by
   unfold cW;rw[if_neg (by simp[uW,uV,decide_eq_false wF])];split
   ·rfl
   ·split
    ·rfl
    ·cases fC files s.src with
     |none=>rfl
     |some saw=>simp only
  rw[e0]
  cases hf:aJ files s.out with
  |some t=>
   simp only[Option.isSome_some,if_true];refine(do_twice s files clock order vf vl vc vo vn u0 u1 w h uW uV wF t hf).mono ?_;exact UH
  |none=>
   simp only[Option.isSome_none,Bool.false_eq_true,if_false];by_cases uX:60<=files.length
   ·rw[if_pos uX];refine(do_full s files clock order vf vl vc vo vn u0 u1 w h uW uV wF hf uX).mono ?_;exact UH
   ·rw[if_neg uX]
    refine do_main s files clock order vf vl vc vo vn u0 u1 w h uW uV wF hf uX _ (fun hs W' hW=>?_)
     (fun saw text err saw' a b=>err=0/\(text,saw',a,b)=bG s saw clock order u0 u1) (fun saw hs bx vs W FX=>?_) (fun saw hs text err saw' a b hP=>?_)
    ·rw[hs];exact⟨hW,rfl⟩
    ·refine(write_any s saw clock order bx vs vc vo vn vf u0 u1 W FX h5).mono ?_;rintro e w' ⟨vs',rfl,h1,h2,h3⟩;exact⟨vs',_,0,_,_,_,rfl,h1,h2,h3,rfl,rfl⟩
    ·obtain⟨rfl,hw⟩:=hP;obtain⟨ht,hl⟩:=sawOf_texts (rightFiles_text uV) hs;have qX:=writeStep_size (order:=order) (u0:=u0) (u1:=u1) uW ht hl h.hcwf;rw[hs];simp only;rw[<-hw] at qX ⊢;refine⟨qX,fun h=>absurd rfl h,fun _ qK W' hW=>?_,fun _ qK W' vfl vsaw hW h1 h2 h3 h4=>?_⟩
     ·rw[if_pos qK];exact⟨hW,rfl⟩
     ·rw[if_neg qK];exact⟨hW,vfl,vsaw,rfl,h1,h2,h3,h4⟩
end Go.Proofs.YtacgopankhpnbaaGreatDoor
