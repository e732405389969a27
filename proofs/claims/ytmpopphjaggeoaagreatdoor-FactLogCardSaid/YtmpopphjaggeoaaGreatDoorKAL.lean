/- Texts of this seat, joined. -/
import Derived.Test.YtmpopphjaggeoaaGreatDoorKAK
import Derived.Lib.SmallJoins
set_option maxHeartbeats 16000000
set_option maxRecDepth 100000
set_option linter.unusedVariables false
set_option linter.unusedSimpArgs false
set_option linter.constructorNameAsVariable false
namespace Go.Proofs.YtmpopphjaggeoaaGreatDoor
open Go.RowKit Go.Shelf
theorem BD{p:Prop}(h:p:=by
 go_wp2_with fail;go_at_call 96;refine(HF.out _ kH.out).mono ?_;rintro v w4 ⟨rfl,ho,h4⟩;have HO:=zh ho;have sL:=zh h4;clear ho h4;go_wp2_with fail;go_ret
 exact⟨HO.out,aQ (by rw[HP.out]),by rw[HP.out];exact sL.out⟩):p:=h
def ErrV(w:World):Prop:=(∃t p,w.var? Tryz.prog "strconv.ErrSyntax" =some #[.iface t p])/\∃t p,w.var? Tryz.prog "strconv.ErrRange" =some #[.iface t p]
theorem var_later{w w':World}{n:String}{cs:Array Value}(hb:Below w.heap.size w w')(h:w.var? Tryz.prog n=some cs):w'.var? Tryz.prog n=some cs:=by
 unfold World.var? at *
 cases hg:Tryz.prog.globalNamed n with
 |none=>simp[hg] at h
 |some g=>
  simp only[hg,Option.bind_some] at h ⊢
  have jM:g<w.heap.size:=by
   rcases Nat.lt_or_ge g w.heap.size with h'|h'
   ·exact h'
   rw[Array.getElem?_eq_none h'] at h;simp at h
  rw[hb.block g jM];exact h
theorem ErrV.later{w w':World}(h:ErrV w)(hb:Below w.heap.size w w'):ErrV w':=by
 obtain⟨⟨t,p,h1⟩,t',p',h2⟩:=h;exact⟨⟨t,p,var_later hb h1⟩,t',p',var_later hb h2⟩
def fT(s:bA):Option Int:=match Lib.atoiAll s.data.toList with| .ok n=>some n|_=>none
def AtoiQ(s:bA)(w:World)(e:Ending)(w':World):Prop:=∃(v:Int)(ev:Value),e=.returned (.tuple #[.int .i64 v,ev])/\(∀n,fT s=some n->v=n/\ev=.nilIface)/\(fT s=none->∃t b,ev=.iface t (.pointer (some ⟨b,0,none⟩)))/\Below w.heap.size w w'
theorem bytesW_below(w:World)(t:TypeId)(l:bA):Below w.heap.size w (Lib.bytesWorld w t l):=by
 exact Joins.below_bytesWorld _ _ _ _ (Nat.le_refl _)
theorem atoi_any(s:bA)(hs:s.size<=1000000)(w:World)(hE:ErrV w):Calls Tryz.prog 150 #[.string s] w fun e w'=>AtoiQ s w e w':=by
 obtain⟨⟨t,p,h1⟩,t',p',h2⟩:=hE
 cases h:Lib.atoiAll s.data.toList with
 |ok n=>
  refine(Tryz.strconv_Atoi_ok s CR n h w).mono ?_;rintro e w' ⟨rfl,hw⟩;have ha:fT s=some n:=by unfold fT;rw[h]
  refine⟨n,_,rfl,fun m hm=>?_,fun hn=>?_,?_⟩
  ·rw[ha] at hm;exact⟨Option.some.inj hm,rfl⟩
  ·rw[ha] at hn;cases hn
  rcases hw with rfl|⟨l,rfl⟩
  ·exact Below.refl _ _
  exact bytesW_below _ _ _
 |range=>
  refine(Tryz.strconv_Atoi_range_var s CR h t' p' w h2).mono ?_;rintro e w' ⟨N,rfl,-,-,hb⟩;have ha:fT s=none:=by unfold fT;rw[h]
  exact⟨_,_,rfl,fun m hm=>(by rw[ha] at hm;cases hm),fun _=>⟨_,_,rfl⟩,hb⟩
 |_=>
  refine(Tryz.strconv_Atoi_syntax_var s CR h t p w h1).mono ?_;rintro e w' ⟨N,rfl,-,-,hb⟩;have ha:fT s=none:=by unfold fT;rw[h]
  exact⟨0,_,rfl,fun m hm=>(by rw[ha] at hm;cases hm),fun _=>⟨_,_,rfl⟩,hb⟩
def eO(b:Nat)(s:bA)(bad:Bool)(w:World):Prop:=w.heap[b]? =some (.cells #[.string s,.bool bad] 143)
def iI(s:bA):bA:=s.extract 0 (min (s.size:Int) 21).toNat
def atR(e:UInt8)(s:bA):Int:=Lib.indexByte (iI s).data.toList e
def digR(e:UInt8)(s:bA):bA:=(iI s).extract 0 (atR e s).toNat
def numR(e:UInt8)(least:Int)(s:bA):Option (Int×bA):=
 if atR e s<0 then none
 else match fT (digR e s) with
  |none=>none
  |some n=>if bs (Lib.itoa n)=digR e s/\least<=n then some (n,s.extract ((atR e s).toNat+1) s.size) else none
def aZ(e:UInt8)(least:Int)(st:bA×Bool):Int×(bA×Bool):=match numR e least st.1 with
 |none=>(0,(noB,true))
 |some (n,r)=>(n,(r,st.2))
structure NumQ (b:Nat) (e:UInt8) (least:Int) (st:bA×Bool) (w:World) (v:Ending) (w':World):Prop where
 off:Off (fun k=>k=b) w w'
 val:v=.returned (.int .i64 (aZ e least st).1)
 at_:eO b (aZ e least st).2.1 (aZ e least st).2.2 w'
theorem rd_set0{b:Nat}{s:bA}{bad:Bool}{w:World}(h:eO b s bad w)(r:bA):
  eO b r bad (w.setCell ⟨b,0,none⟩ (.string r))/\Off (fun k=>k=b) w (w.setCell ⟨b,0,none⟩ (.string r)):=
 ⟨by unfold eO at *;refine(aG h 0 _).trans ?_;simp only[List.setIfInBounds_toArray,List.set_cons_zero,List.set_cons_succ],Off.setCell (S:=fun k=>k=b) w rfl⟩
theorem rd_set2{b:Nat}{s:bA}{bad:Bool}{w:World}(h:eO b s bad w)(r:bA)(q:Bool):
  eO b r q ((w.setCell ⟨b,0,none⟩ (.string r)).setCell ⟨b,1,none⟩ (.bool q))/\Off (fun k=>k=b) w ((w.setCell ⟨b,0,none⟩ (.string r)).setCell ⟨b,1,none⟩ (.bool q)):=
 ⟨by have h1:=(rd_set0 h r).1;unfold eO at *;refine(aG h1 1 _).trans ?_;simp only[List.setIfInBounds_toArray,List.set_cons_zero,List.set_cons_succ],(rd_set0 h r).2.trans (Off.setCell (S:=fun k=>k=b) _ rfl)⟩
theorem eO.later{b:Nat}{s:bA}{bad:Bool}{w w':World}(h:eO b s bad w)(hb:Below w.heap.size w w'):eO b s bad w':=aC hb h
theorem fail_any(b:Nat)(s:bA)(bad:Bool)(w:World)(h:eO b s bad w):
  Calls Tryz.prog 96 #[.pointer (some ⟨b,0,none⟩)] w fun e w'=>e=.returned (.tuple #[])/\Off (fun k=>k=b) w w'/\eO b noB true w':=by
 obtain⟨x0,y0⟩:=aH h 0 rfl;obtain⟨x1,y1⟩:=aH h 1 rfl;have HE:=zh (rd_set2 h noB true);clear h;go_enter Tryz.func96,Tryz.ntmps96;go_wp2_with fail;go_end0;exact⟨rfl,HE.out.2,HE.out.1⟩
theorem headR_size(s:bA):(iI s).size=min s.size 21:=by unfold iI;rw[ByteArray.size_extract];omega
theorem idx_lt(c:UInt8):∀l:List UInt8,Lib.indexByte l c<(l.length:Int)
 |[]=>by simp[Lib.indexByte]
 |b::l=>by
  have ih:=idx_lt c l;unfold Lib.indexByte;rw[List.length_cons];split
  ·omega
  split
  ·omega
  omega
theorem atoi_int{l:List UInt8}{n:Int}(h:Lib.atoiAll l=.ok n):aO n:=by
 unfold Lib.atoiAll at h;split at h
 ·cases h
 dsimp only at h;split at h
 ·cases h
 ·cases h
 split at h
 ·cases h
 split at h
 ·cases h
 injection h with h
 unfold aO;split at h<;>omega
theorem atoiO_int(s:bA):∀n,fT s=some n->aO n:=fun n h=>by
 unfold fT at h;split at h
 ·rename_i m hm;cases h;exact atoi_int hm
 cases h
theorem atR_lt(e:UInt8)(s:bA)(h:¬atR e s<0):∃k:Nat,atR e s=(k:Int)/\k<(iI s).size/\k<s.size/\k<21:=by
 have h1:=headR_size s;have h2:(iI s).data.toList.length=(iI s).size:=EW;have h3:=idx_lt e (iI s).data.toList;have h4:atR e s=Lib.indexByte (iI s).data.toList e:=rfl
 have h5:atR e s<((iI s).data.toList.length:Int):=by
  rw[h4];exact h3
 refine⟨(atR e s).toNat,CR,CR,CR,CR⟩
theorem byte_back(e:UInt8):((e.toNat:Int)).toNat.toUInt8=e:=C0
theorem rnumber_any(b:Nat)(e:UInt8)(least:Int)(s:bA)(bad:Bool)(w:World)(hG:bC w)(hE:ErrV w)(h:eO b s bad w)(hs:s.size<=140737488355328)(hl:aO least):
  Calls Tryz.prog 95 #[.pointer (some ⟨b,0,none⟩),.int .u8 (e.toNat:Int),.int .i64 least] w fun v w'=>NumQ b e least (s,bad) w v w':=by
 obtain⟨x0,y0⟩:=aH h 0 rfl;have HH:=zh h;have xC:Hid (∀W,Calls Tryz.prog 149 #[.string (iI s),.int .u8 (e.toNat:Int)] W fun v w'=>v=.returned (.int .i64 (atR e s))/\w'=W):=zh (fun W=>(Tryz.strings_IndexByte (iI s) (e.toNat:Int) W).mono fun v w' h=>⟨by rw[h.1,byte_back];rfl,h.2⟩);have sT:Below w.heap.size w w.drew:=(Below.refl _ _).drew;have hhz:=headR_size s;have HF:Hid (∀W,Below w.heap.size w W->Calls Tryz.prog 96 #[.pointer (some ⟨b,0,none⟩)] W fun e w'=>e=.returned (.tuple #[])/\Off (fun k=>k=b) w w'/\eO b noB true w'):=zh (fun W hb=>(fail_any b s bad W (HH.out.later hb)).mono fun e w' ⟨h1,h2,h3⟩=>⟨h1,(Ba hb).trans h2,h3⟩);by_cases rL:atR e s<0
 ·have HP:Hid (aZ e least (s,bad)=(0,(noB,true))):=zh (by unfold aZ numR;rw[if_pos rL]);clear h hG hE;generalize mM:atR e s=at_ at *;clear mM;go_enter Tryz.func95,Tryz.ntmps95;go_wp2_with fail;refine wp_region_held_drew (S:=fun W=>Below w.heap.size w W) CQ ((Below.refl _ _).drew) fun hS=>?_;refine zq 0 (.pointer (some ⟨b,0,none⟩)) rfl ?_;refine zq 1 (.pointer (some ⟨b,0,none⟩)) rfl ?_;refine zq 2 (.pointer (some ⟨b,0,none⟩)) rfl ?_;refine zt 3 (.string s) rfl (fun W hW=>EZ) ?_;refine zq 4 (.pointer (some ⟨b,0,none⟩)) rfl ?_;refine zq 5 (.pointer (some ⟨b,0,none⟩)) rfl ?_;refine zq 6 (.pointer (some ⟨b,0,none⟩)) rfl ?_;refine zt 7 (.string s) rfl (fun W hW=>EZ) ?_;refine zq 8 (.int .i64 (s.size:Int)) rfl ?_;refine zq 9 (.int .i64 (min (s.size:Int) 21)) rfl ?_;refine zt 10 (.string (s.extract 0 (min (s.size:Int) 21).toNat)) rfl (fun W hW=>EA) ?_;refine zq 11 (.string (s.extract 0 (min (s.size:Int) 21).toNat)) rfl ?_;try simp only[zn]
  refine wpAnyH_done CQ ?_ _;go_wp2_with fail;go_at_call 149;refine(xC.out _).mono ?_;rintro v w1 ⟨rfl,rfl⟩;go_wp2_with fail;go_at_call 96;refine(HF.out _ sT).mono ?_;rintro v w2 ⟨rfl,ho,h2⟩;have HO:=zh ho;have oL:=zh h2;clear ho h2;go_wp2_with fail;go_ret;exact⟨HO.out,aQ (by rw[HP.out]),by rw[HP.out];exact oL.out⟩
 obtain⟨k,hk,qH,sQ,hk3⟩:=atR_lt e s rL;rw[hk] at xC;have hdz:(digR e s).size<=21:=by unfold digR;rw[ByteArray.size_extract];omega
 have HD:Hid (digR e s=(iI s).extract 0 k):=zh (by unfold digR;rw[hk];rfl)
 have HAt:Hid (∀W,Below w.heap.size w W->Calls Tryz.prog 150 #[.string ((s.extract 0 (min (s.size:Int) 21).toNat).extract 0 k)] W fun v w'=>AtoiQ (digR e s) W v w'):=zh (fun W hb=>by
  have h9:=atoi_any (digR e s) CR W (hE.later hb);rw[HD.out] at h9 ⊢
  exact h9)
 have HPn:Hid (fT (digR e s)=none->aZ e least (s,bad)=(0,(noB,true))):=zh (fun h9=>by unfold aZ numR;rw[if_neg rL,h9]);have HPs:Hid (∀n,fT (digR e s)=some n->(bs (Lib.itoa n)=digR e s/\least<=n)->aZ e least (s,bad)=(n,(s.extract (k+1) s.size,bad))):=zh (fun n h9 h8=>by unfold aZ numR;rw[if_neg rL,h9,hk];simp only[if_pos h8,Int.toNat_natCast]);have HPx:Hid (∀n,fT (digR e s)=some n->¬(bs (Lib.itoa n)=digR e s/\least<=n)->aZ e least (s,bad)=(0,(noB,true))):=zh (fun n h9 h8=>by unfold aZ numR;rw[if_neg rL,h9];simp only[if_neg h8]);have HAr:Hid (∀n,fT (digR e s)=some n->aO n):=zh (atoiO_int (digR e s));have HIt:=zh (fun(n:Int)(hn:aO n)W(hW:Below w.heap.size w W)=>Tryz.strconv_Itoa n hn.1 hn.2 W (hG.later hW).pow10);clear h hG hE rL;generalize hdg:digR e s=dg at *;clear hdg;generalize atR e s=at_ at *;clear hk;go_enter Tryz.func95,Tryz.ntmps95;go_wp2_with fail;refine wp_region_held_drew (S:=fun W=>Below w.heap.size w W) CQ ((Below.refl _ _).drew) fun hS=>?_;refine zq 0 (.pointer (some ⟨b,0,none⟩)) rfl ?_;refine zq 1 (.pointer (some ⟨b,0,none⟩)) rfl ?_;refine zq 2 (.pointer (some ⟨b,0,none⟩)) rfl ?_;refine zt 3 (.string s) rfl (fun W hW=>EZ) ?_;refine zq 4 (.pointer (some ⟨b,0,none⟩)) rfl ?_;refine zq 5 (.pointer (some ⟨b,0,none⟩)) rfl ?_;refine zq 6 (.pointer (some ⟨b,0,none⟩)) rfl ?_;refine zt 7 (.string s) rfl (fun W hW=>EZ) ?_;refine zq 8 (.int .i64 (s.size:Int)) rfl ?_;refine zq 9 (.int .i64 (min (s.size:Int) 21)) rfl ?_;refine zt 10 (.string (s.extract 0 (min (s.size:Int) 21).toNat)) rfl (fun W hW=>EA) ?_;refine zq 11 (.string (s.extract 0 (min (s.size:Int) 21).toNat)) rfl ?_;try simp only[zn]
 refine wpAnyH_done CQ ?_ _;go_wp2_with fail;go_at_call 149;refine(xC.out _).mono ?_;rintro v w1 ⟨rfl,rfl⟩;go_wp2_with fail;go_at_call 150;refine(HAt.out _ sT).mono ?_;rintro v w2 ⟨n,ev,rfl,xK,xO,jP⟩;have jF:=zh (aA sT jP);have HS:=zh xK;have rB:=zh xO;clear xK xO jP
 cases wO:fT dg with
 |none=>
  obtain⟨te,be,rfl⟩:=rB.out wO;have HP:=zh (HPn.out wO);clear rB HS wO HPn HPs HPx HAr HIt HAt;go_wp2_with fail;refine wp_region_held_drew (S:=fun W=>Below w2.heap.size w2 W) CQ ((Below.refl _ _).drew) fun hS=>?_;refine zq 0 (.iface te (.pointer (some ⟨be,0,none⟩))) rfl ?_;refine zq 1 (.bool true) rfl ?_;refine zq 2 (.bool true) rfl ?_;refine zu 3 rfl ?_;refine zu 5 rfl ?_;refine zu 6 rfl ?_;refine zu 7 rfl ?_;refine zu 4 rfl ?_;refine zu 8 rfl ?_;refine zq 9 (.bool true) rfl ?_;refine zq 10 (.bool true) rfl ?_;refine zu 11 rfl ?_;refine zu 12 rfl ?_;refine zu 13 rfl ?_;refine zq 14 (.bool true) rfl ?_;try simp only[zn]
  refine wpAnyH_done CQ ?_ _;have kH:Hid (Below w.heap.size w w2.drew):=zh jF.out.drew;exact BD
 |some m=>
  obtain⟨rfl,rfl⟩:=HS.out m wO;have HIm:=zh (HIt.out n (HAr.out n wO) w2.drew jF.out.drew);have hni:=HAr.out n wO;have hil:=Lib.itoa_length_le n hni.1 hni.2;have HPs2:=zh (HPs.out n wO);have AH:=zh (HPx.out n wO);clear rB HS wO HPn HPs HPx HAr HIt HAt;unfold aO at hni hl;go_wp2_with fail;refine wp_region_held_drew (S:=fun W=>Below w2.heap.size w2 W) CQ ((Below.refl _ _).drew) fun hS=>?_;refine zq 0 (.nilIface) rfl ?_;refine zq 1 (.bool false) rfl ?_;refine zq 2 (.bool false) rfl ?_;refine zq 3 (.int .i64 n) rfl ?_;refine zq 5 (.string (s.extract 0 (min (s.size:Int) 21).toNat)) rfl ?_;refine zq 6 (.int .i64 (k:Int)) rfl ?_;refine zt 7 (.string ((s.extract 0 (min (s.size:Int) 21).toNat).extract 0 k)) rfl (fun W hW=>by have h21:(s.extract 0 (min (s.size:Int) 21).toNat).size=min s.size 21:=headR_size s;have h22:¬(min s.size 21<k):=CR;go_simp) ?_;try simp only[zn]
  refine zr 4 rfl (fun K hK=>?_);try simp only[z1,z2,z3]
  go_simp;refine HIm.out.mono ?_;rintro v w3 ⟨rfl,q9,os,rfl⟩;have kX:=Lib.below_grow _ w2.drew (Nat.le_refl _) q9 os;generalize Sort.grow (w2.drew.drewN q9) os=w3 at *;have hbs:bs (Lib.itoa n)=(⟨(Lib.itoa n).toArray⟩:bA):=rfl;rw[hbs] at HPs2 AH;clear hbs;generalize (⟨(Lib.itoa n).toArray⟩:bA)=it at *;have pV:Below w2.heap.size w2 w3:=aA (Below.refl _ _).drew kX;refine hK.out _ _ pV (fun hS=>?_);clear hK K kX;try simp only[zn]
  have HHd:Hid (((s.extract 0 (min (s.size:Int) 21).toNat).extract 0 k)=dg):=zh (by rw[HD.out];rfl);by_cases hq:it=dg
  ·(have qK:(it.toList==((s.extract 0 (min (s.size:Int) 21).toNat).extract 0 k).toList)=true:=by rw[beq_iff_eq];rw[show it=((s.extract 0 (min (s.size:Int) 21).toNat).extract 0 k) from by rw[HHd.out];exact hq]);have HQ:=zh hq;clear hq;by_cases hle:least<=n
   ·have HP:=zh (HPs2.out ⟨HQ.out,hle⟩);have jM:¬n<least:=CR;refine zq 8 (.bool false) rfl ?_;refine zq 9 (.bool false) rfl ?_;refine zq 10 (.bool false) rfl ?_;refine zq 11 (.int .i64 n) rfl ?_;refine zq 12 (.int .i64 least) rfl ?_;refine zq 13 (.bool false) rfl ?_;refine zq 14 (.bool false) rfl ?_;(try simp only[zn]);refine wpAnyH_done CQ ?_ _;have kH:=zh (aA jF.out pV);have HH3:=zh (HH.out.later kH.out);obtain⟨x1,y1⟩:=aH HH3.out 0 rfl;have oF:=zh (rd_set0 HH3.out (s.extract (k+1) s.size));(have rJ:IntKind.i64.wrap ((k:Int)+1)=(k:Int)+1:=by rw[IntKind.wrap_i64];omega);go_wp2_with fail;go_ret;exact⟨(Ba kH.out).trans oF.out.2,aQ (by rw[HP.out]),by rw[HP.out];exact oF.out.1⟩
   have HP:=zh (AH.out (fun h9=>hle h9.2));have jM:n<least:=CR;refine zq 8 (.bool false) rfl ?_;refine zq 9 (.bool false) rfl ?_;refine zq 10 (.bool false) rfl ?_;refine zq 11 (.int .i64 n) rfl ?_;refine zq 12 (.int .i64 least) rfl ?_;refine zq 13 (.bool true) rfl ?_;refine zq 14 (.bool true) rfl ?_;(try simp only[zn]);refine wpAnyH_done CQ ?_ _;have kH:=zh (aA jF.out pV);exact BD
  have qK:(it.toList==((s.extract 0 (min (s.size:Int) 21).toNat).extract 0 k).toList)=false:=cO (fun h9=>hq (h9.trans HHd.out));have HP:=zh (AH.out (fun h9=>hq h9.1));refine zq 8 (.bool true) rfl ?_;refine zq 9 (.bool true) rfl ?_;refine zq 10 (.bool true) rfl ?_;refine zu 11 rfl ?_;refine zu 12 rfl ?_;refine zu 13 rfl ?_;refine zq 14 (.bool true) rfl ?_;try simp only[zn]
  refine wpAnyH_done CQ ?_ _;have kH:=zh (aA jF.out pV);exact BD
theorem A7{p:Prop}(h:p:=by
 unfold numsQ at hq;rw[hc] at hq;dsimp only at hq;have qB:=zh hq;clear hq hc he HQ;go_wp2_with fail;go_at_call 97;refine HC.out.mono ?_;rintro e w8 ⟨ho,rfl,h8⟩;have uO:=zh (HW.out.trans ho);have HR8:=zh h8;have HG8:=zh (HG.out.stays bH (cJ.of_off ho (fun k hk=>.inl (by rw[hk];exact tA))));clear x1 y1;obtain⟨x1,y1⟩:=aH h8 1 rfl;clear ho h8 HC
 cases b7 with
 |true=>
  have hq:=qB.out;rw[if_pos rfl] at hq;cases hq;go_wp2_with fail;go_ret;exact⟨uO.out,HR8.out,_,rfl,aK.nil _ _ _ _⟩
 |false=>
  have hq:=qB.out;rw[if_neg CX] at hq;cases hq;go_wp2_with fail;go_ret
  exact⟨uO.out,HR8.out,_,rfl,HG8.out.row bH⟩):p:=h
theorem BR{p:Prop}(h:p:=by
 go_wp2_with fail;go_at_call 95;refine HN.out.mono ?_;rintro v w1 ⟨ho,rfl,h1⟩;have HO:=zh ho;have H1:=zh h1;clear ho h1;go_wp2_with fail;go_ret
 exact⟨HO.out,rfl,H1.out⟩):p:=h
structure RdQ (b:Nat) (r:bA) (bd:Bool) (v:Value) (w:World) (e:Ending) (w':World):Prop where
 off:Off (fun k=>k=b) w w'
 val:e=.returned v
 at_:eO b r bd w'
theorem fR{α:Type}(x:α):∃q,x=q:=⟨x,rfl⟩
theorem dA{e:UInt8}{least n:Int}{s r:bA}{bad bd:Bool}(hl:aO least)(hq:aZ e least (s,bad)=(n,(r,bd))):
  aO n/\r.size<=s.size/\(bd=false->bad=false/\r.size+1<=s.size/\least<=n)/\(least=0->0<=n):=by
 unfold aZ at hq;split at hq
 ·cases hq;exact⟨C2,Nat.zero_le _,fun h=>D3,fun _=>Int.le_refl _⟩
 rename_i n' r' hm;cases hq;unfold numR at hm;dsimp only at hm;split at hm
 ·cases hm
 rename_i rL;obtain⟨k,hk,qH,sQ,hk3⟩:=atR_lt e s rL;split at hm
 ·cases hm
 rename_i x hx;split at hm
 ·rename_i hc;cases hm;have hz:(s.extract ((atR e s).toNat+1) s.size).size+1<=s.size:=by rw[ByteArray.size_extract,hk];omega
  exact⟨atoiO_int _ _ hx,CR,fun h=>⟨h,hz,hc.2⟩,fun h=>by rw[h] at hc;exact hc.2⟩
 cases hm
theorem rnumber_eq(b:Nat)(e:UInt8)(least:Int)(s:bA)(bad:Bool)(w:World){n:Int}{r:bA}{bd:Bool}(hG:bC w)(hE:ErrV w)(h:eO b s bad w)(hs:s.size<=140737488355328)(hl:aO least)(hq:aZ e least (s,bad)=(n,(r,bd))):
  Calls Tryz.prog 95 #[.pointer (some ⟨b,0,none⟩),.int .u8 (e.toNat:Int),.int .i64 least] w fun v w'=>RdQ b r bd (.int .i64 n) w v w':=
 (rnumber_any b e least s bad w hG hE h hs hl).mono fun v w' h=>⟨h.off,by rw[h.val,hq],by have h9:=h.at_;rw[hq] at h9;exact h9⟩
theorem eU(b:Nat)(s:bA)(bad:Bool)(w:World){n:Int}{r:bA}{bd:Bool}(hG:bC w)(hE:ErrV w)(h:eO b s bad w)(hs:s.size<=140737488355328)(hq:aZ 59 0 (s,bad)=(n,(r,bd))):
  Calls Tryz.prog 48 #[.pointer (some ⟨b,0,none⟩)] w fun e w'=>RdQ b r bd (.int .i64 n) w e w':=by
 have HN:=zh (rnumber_eq b 59 0 s bad w hG hE h hs C2 hq);clear hG hE h hq;go_enter Tryz.func48,Tryz.ntmps48;exact BR
theorem rint_any(b:Nat)(s:bA)(bad:Bool)(w:World){n:Int}{r:bA}{bd:Bool}(hG:bC w)(hE:ErrV w)(h:eO b s bad w)(hs:s.size<=140737488355328)(hq:aZ 59 (-9223372036854775808) (s,bad)=(n,(r,bd))):
  Calls Tryz.prog 108 #[.pointer (some ⟨b,0,none⟩)] w fun e w'=>RdQ b r bd (.int .i64 n) w e w':=by
 have HN:=zh (rnumber_eq b 59 (-9223372036854775808) s bad w hG hE h hs C2 hq);clear hG hE h hq;go_enter Tryz.func108,Tryz.ntmps108;exact BR
def dF(c:UInt8)(st:bA×Bool):bA×Bool:=if Lib.hasPrefix st.1.data.toList [c]=true then(⟨(Lib.trimPrefix st.1.data.toList [c]).toArray⟩,st.2) else(noB,true)
theorem closeP_size{c:UInt8}{s r:bA}{bad bd:Bool}(hq:dF c (s,bad)=(r,bd)):r.size<=s.size/\(bd=false->bad=false):=by
 unfold dF at hq;split at hq
 ·cases hq;refine⟨?_,fun h=>h⟩;show(Lib.trimPrefix s.data.toList [c]).length<=s.size;have h2:s.data.toList.length=s.size:=EW;unfold Lib.trimPrefix;split;all_goals first|(rw[List.length_drop];exact Nat.le_trans (Nat.sub_le _ _) (Nat.le_of_eq h2))|exact Nat.le_of_eq h2
 cases hq;exact⟨Nat.zero_le _,fun h=>D3⟩
theorem rclose_any(c:UInt8)(b:Nat)(s:bA)(bad:Bool)(w:World){r:bA}{bd:Bool}(h:eO b s bad w)(hq:dF c (s,bad)=(r,bd)):
  Calls Tryz.prog 97 #[.pointer (some ⟨b,0,none⟩),.string ⟨#[c]⟩] w fun e w'=>RdQ b r bd (.tuple #[]) w e w':=by
 obtain⟨x0,y0⟩:=aH h 0 rfl;have HC:=zh (fun W=>Tryz.strings_CutPrefix s ⟨#[c]⟩ W);have HS:=zh (rd_set0 h (⟨(Lib.trimPrefix s.data.toList [c]).toArray⟩:bA));have HF:=zh (fail_any b _ bad _ HS.out.1);unfold dF at hq;dsimp only at hq;clear h;have hd:(⟨#[c]⟩:bA).data.toList=[c]:=rfl;rw[hd] at HC;clear hd;generalize (⟨(Lib.trimPrefix s.data.toList [c]).toArray⟩:bA)=tr at *;generalize Lib.hasPrefix s.data.toList [c]=ok at *;go_enter Tryz.func97,Tryz.ntmps97;go_wp2_with fail;go_at_call 151;refine(HC.out _).mono ?_;rintro e w1 ⟨rfl,rfl⟩
 cases ok with
 |true=>
  rw[if_pos rfl] at hq;cases hq;go_wp2_with fail;go_end0;exact⟨HS.out.2,rfl,HS.out.1⟩
 |false=>
  rw[if_neg CX] at hq;cases hq;go_wp2_with fail;go_at_call 96;refine HF.out.mono ?_;rintro e w2 ⟨rfl,ho,h2⟩;have HO:=zh ho;have H2:=zh h2;clear ho h2;go_wp2_with fail;go_end0;exact⟨HS.out.2.trans HO.out,rfl,H2.out⟩
def textQ(n:Int)(r:bA)(bd:Bool):bA×(bA×Bool):=
 if(r.size:Int)<n then(noB,(noB,true))
 else if(dF 44 (r.extract n.toNat r.size,bd)).2=true then(noB,dF 44 (r.extract n.toNat r.size,bd))
 else(r.extract 0 n.toNat,dF 44 (r.extract n.toNat r.size,bd))
def fU(st:bA×Bool):bA×(bA×Bool):=textQ (aZ 58 0 st).1 (aZ 58 0 st).2.1 (aZ 58 0 st).2.2
theorem gI{s t r:bA}{bad bd:Bool}(hq:fU (s,bad)=(t,(r,bd))):t.size<=s.size/\r.size<=s.size:=by
 obtain⟨⟨n,r1,b1⟩,h1⟩:=fR (aZ 58 0 (s,bad));have h2:=(dA C2 h1).2.1;unfold fU at hq;rw[h1] at hq;unfold textQ at hq;dsimp only at hq;split at hq
 ·cases hq;exact⟨Nat.zero_le _,Nat.zero_le _⟩
 obtain⟨⟨r2,b2⟩,h3⟩:=fR (dF 44 (r1.extract n.toNat r1.size,b1));have h4:=(closeP_size h3).1;have h5:(r1.extract n.toNat r1.size).size<=r1.size:=by rw[ByteArray.size_extract];omega
 have h6:(r1.extract 0 n.toNat).size<=r1.size:=by rw[ByteArray.size_extract];omega
 rw[h3] at hq;split at hq
 ·cases hq;exact⟨Nat.zero_le _,CR⟩
 cases hq;exact⟨CR,CR⟩
theorem iB(b:Nat)(s:bA)(bad:Bool)(w:World){t r3:bA}{b3:Bool}(hG:bC w)(hE:ErrV w)(h:eO b s bad w)(hs:s.size<=140737488355328)(hq:fU (s,bad)=(t,(r3,b3))):
  Calls Tryz.prog 47 #[.pointer (some ⟨b,0,none⟩)] w fun e w'=>RdQ b r3 b3 (.string t) w e w':=by
 obtain⟨⟨n,r,bd⟩,qL⟩:=fR (aZ 58 0 (s,bad));have HN:=zh (rnumber_eq b 58 0 s bad w hG hE h hs C2 qL);have wJ:=dA C2 qL;have h0:=wJ.2.2.2 rfl;have hi:=wJ.1;have hz:=wJ.2.1;unfold fU at hq;rw[qL] at hq;unfold textQ at hq;dsimp only at hq;clear hG hE h wJ qL;obtain⟨m,rfl⟩:∃m:Nat,n=(m:Int):=⟨n.toNat,CR⟩;rw[Int.toNat_natCast] at hq;unfold aO at hi;have HQ:=zh hq;clear hq;go_enter Tryz.func47,Tryz.ntmps47;go_wp2_with fail;go_at_call 95;refine HN.out.mono ?_;rintro v w1 ⟨ho,rfl,h1⟩;have HO:=zh ho;have H1:=zh h1;obtain⟨x0,y0⟩:=aH h1 0 rfl;clear ho h1 HN;by_cases hn:(r.size:Int)<(m:Int)
 ·have hq:=HQ.out;rw[if_pos hn] at hq;cases hq;have HF:=zh (fail_any b r bd w1 H1.out);clear HQ;go_wp2_with fail;go_at_call 96;refine HF.out.mono ?_;rintro e w2 ⟨rfl,ho,h2⟩;have oT:=zh (HO.out.trans ho);have H2:=zh h2;clear ho h2;go_wp2_with fail;go_ret;exact⟨oT.out,rfl,H2.out⟩
 have HS:=zh (rd_set0 H1.out (r.extract m r.size));obtain⟨⟨r4,b4⟩,qK⟩:=fR (dF 44 (r.extract m r.size,bd));have HC:=zh (rclose_any 44 b (r.extract m r.size) bd _ HS.out.1 qK);have hq:=HQ.out;rw[if_neg hn,qK] at hq;dsimp only at hq;clear HQ qK;have HQ:=zh hq;clear hq;go_wp2_with fail;go_at_call 97;refine HC.out.mono ?_;rintro e w2 ⟨ho,rfl,h2⟩;have oT:=zh ((HO.out.trans HS.out.2).trans ho);have H2:=zh h2;obtain⟨x1,y1⟩:=aH h2 1 rfl;clear ho h2 HC HS x0 y0
 cases b4 with
 |true=>
  have hq:=HQ.out;rw[if_pos rfl] at hq;cases hq;go_wp2_with fail;go_ret;exact⟨oT.out,rfl,H2.out⟩
 |false=>
  have hq:=HQ.out;rw[if_neg CX] at hq;cases hq;go_wp2_with fail;go_ret;exact⟨oT.out,rfl,H2.out⟩
def dD:Nat->List Int->bA×Bool->List Int×(bA×Bool)
 |0,acc,st=>(acc,st)
 |k+1,acc,st=>if st.2=true then(acc,st) else dD k (acc++[(aZ 59 (-9223372036854775808) st).1]) (aZ 59 (-9223372036854775808) st).2
def numsQ(q:List Int×(bA×Bool)):List Int×(bA×Bool):=if(dF 93 q.2).2=true then([],dF 93 q.2) else(q.1,dF 93 q.2)
def numsP(st:bA×Bool):List Int×(bA×Bool):=numsQ (dD (aZ 91 0 st).1.toNat [] (aZ 91 0 st).2)
theorem offGrown{S:Nat->Prop}{u w w':World}{row:Option Nat}(h:Off S u w)(hg:w.grownBy w' row)(hr:∀b,row=some b->u.heap.size<=b):Off S u w':=
 ⟨hg.os.trans h.os,hg.tape.trans h.tape,hg.output.trans h.output,Nat.le_trans h.size hg.size,fun k hk hn=>(hg.block k (Nat.lt_of_lt_of_le hk h.size) (fun e=>by have:=hr k e.symm;omega)).trans (h.block k hk hn)⟩
theorem Off.setNew{S:Nat->Prop}{u w:World}{b o:Nat}{v:Value}(h:Off S u w)(hb:u.heap.size<=b):Off S u (w.setCell ⟨b,o,none⟩ v):=
 ⟨h.os,h.tape,h.output,by simpa[World.setCell] using h.size,fun k hk hn=>(heap_setCell_other _ _ _ _ (by show k≠b;omega)).trans (h.block k hk hn)⟩
theorem rd_other{b k o:Nat}{r:bA}{bd:Bool}{v:Value}{w:World}(h:eO b r bd w)(hk:b≠k):eO b r bd (w.setCell ⟨k,o,none⟩ v):=(heap_setCell_other _ _ _ _ hk).trans h
structure RdB (u:World) (b:Nat) (w:World):Prop where
 below:Below u.heap.size u w
 glob:bC u
 err:ErrV u
 le:u.heap.size<=b
theorem RdB.off{u w w':World}{b:Nat}(h:RdB u b w)(ho:Off (fun k=>k=b) w w'):RdB u b w':=⟨Off.below h.below ho (fun k hk=>by rw[hk];exact h.le) h.below.size,h.glob,h.err,h.le⟩
theorem RdB.later{u w w':World}{b:Nat}(h:RdB u b w)(hb:Below w.heap.size w w'):RdB u b w':=h.off (Ba hb)
theorem RdB.G{u w:World}{b:Nat}(h:RdB u b w):bC w:=h.glob.later h.below
theorem RdB.E{u w:World}{b:Nat}(h:RdB u b w):ErrV w:=h.err.later h.below
structure ItQ (b:Nat) (l:List Int) (r:bA) (bd:Bool) (w:World) (e:Ending) (w':World):Prop where
 off:Off (fun k=>k=b) w w'
 at_:eO b r bd w'
 val:∃v,e=.returned v/\aK 1 cQ (cP w.heap.size) w' v l
theorem ritems_any(u:World)(b:Nat)(s:bA)(bad:Bool)(w:World){l:List Int}{r3:bA}{b3:Bool}(hu:RdB u b w)(h:eO b s bad w)(hs:s.size<=1000000)(hq:numsP (s,bad)=(l,(r3,b3))):
  Calls Tryz.prog 107 #[.pointer (some ⟨b,0,none⟩),.func (.func 108) #[.pointer (some ⟨b,0,none⟩)] #[]] w fun e w'=>ItQ b l r3 b3 w e w':=by
 obtain⟨⟨n,r,bd⟩,qL⟩:=fR (aZ 91 0 (s,bad));have HN:=zh (rnumber_eq b 91 0 s bad w hu.G hu.E h CR C2 qL);have wJ:=dA C2 qL;have h0:=wJ.2.2.2 rfl;have hi:=wJ.1;have hz:=wJ.2.1;have tA:b<w.heap.size:=(Array.getElem?_eq_some_iff.1 h).1;have HI:Hid (∀W r bd n' r' bd',Off (fun k=>k=b) w W->eO b r bd W->r.size<=1000000->aZ 59 (-9223372036854775808) (r,bd)=(n',(r',bd'))->Calls Tryz.prog 108 #[.pointer (some ⟨b,0,none⟩)] W fun e w'=>RdQ b r' bd' (.int .i64 n') W e w'):=zh (fun W r bd n' r' bd' ho hr hz hq=>rint_any b r bd W (hu.off ho).G (hu.off ho).E hr CR hq);obtain⟨i0,oN,pY,lF,nO⟩:=info_parts intInfo;unfold numsP at hq;rw[qL] at hq;dsimp only at hq;have HQ:=zh hq;clear hu h wJ qL hq;unfold aO at hi;go_enter Tryz.func107,Tryz.ntmps107;go_wp2_with fail;go_at_call 95;refine HN.out.mono ?_;rintro v w1 ⟨ho,rfl,h1⟩;have HO:=zh ho;have H1:=zh h1;clear ho h1 HN;go_wp2_with fail;go_loopw [5,6] (fun v5 v6 wr=>∃(acc:List Int)(css:List (List Value))(st:bA×Bool)(k:Int),v6=.int .i64 k/\0<=k/\k<=9223372036854775807/\Hid (dD k.toNat acc st=dD n.toNat [] (r,bd))/\acc.length+st.1.size+(if st.2=true then 0 else 1)<=1000001/\Hid (Off (fun k=>k=b) w wr)/\Hid (eO b st.1 st.2 wr)/\Hid (Gro 1 3 cQ w.heap.size acc css v5 wr)) (fun _ v6 _=>(intOf v6).toNat)
 case atStart=>exact⟨[],[],(r,bd),n,rfl,h0,hi.2,zh rfl,by simp only[List.length_nil];split<;>omega,HO,H1,zh ((Gro.first 1 3 cQ w).stays bH (cJ.of_off HO.out (fun k hk=>.inl (by rw[hk];exact tA))))⟩
 case round=>
  obtain⟨acc,css,⟨r4,b4⟩,k,rfl,nN,qH,HE,kU,HW,HR,HG⟩:=hrel;rename World=>wr
  dsimp only at kU HR;obtain⟨x1,y1⟩:=aH HR.out 1 rfl;by_cases hk:0<k
  ·cases b4 with
   |true=>
    have hq:=HQ.out
    have he:dD k.toNat acc (r4,true)=(acc,(r4,true)):=by
     obtain⟨m,hm⟩:∃m,k.toNat=m+1:=⟨k.toNat-1,CR⟩;rw[hm];unfold dD;rw[if_pos rfl]
    rw[<-HE.out,he] at hq;obtain⟨⟨r7,b7⟩,hc⟩:=fR (dF 93 (r4,true));have HC:=zh (rclose_any 93 b r4 true wr HR.out hc);exact A7
   |false=>
    obtain⟨⟨n5,r5,b5⟩,vM⟩:=fR (aZ 59 (-9223372036854775808) (r4,false));have hnp5:=dA C2 vM;(have hlen5:acc.length+r4.size+1<=1000001:=by simpa using kU);have HI5:=zh (HI.out wr r4 false n5 r5 b5 HW.out HR.out CR vM)
    have he:dD (k-1).toNat (acc++[n5]) (r5,b5)=dD n.toNat [] (r,bd):=by
     rw[<-HE.out];obtain⟨m,hm⟩:∃m,k.toNat=m+1:=⟨k.toNat-1,CR⟩;rw[hm,show(k-1).toNat=m by omega]
     conv=>rhs;unfold dD
     rw[if_neg C0,vM]
    have HE5:=zh he;clear he;(have rJ:IntKind.i64.wrap (k-1)=k-1:=by rw[IntKind.wrap_i64];omega);go_wp2_with fail;go_at_call 108;refine HI5.out.mono ?_;rintro e w5 ⟨ho,rfl,h5⟩;have HW5:=zh (HW.out.trans ho);have sX:=zh h5;have HG5:=zh (HG.out.stays bH (cJ.of_off ho (fun k hk=>.inl (by rw[hk];exact tA))));have kS:=HG5.out.big;clear ho h5 x1 y1;have HG6:=zh (HG5.out.later bH (aB w5 (.cells #[.int .i64 n5] 3)));go_wp2_with(at_builtin;refine wpList_append_lies _ rfl _ _ 35 rfl w.heap.size 3 i0 (.int .i64 0) 1 8 Tryz.underlying35 oN pY lF nO rfl CR _ acc.length css.flatten D4 HG6.out.own ⟨w5.heap.size,0,none⟩ 1 1 [.int .i64 n5] D4 rfl (World.news_of_block (cs:=#[.int .i64 n5]) (t:=3) (fr:=(0,0)) (bY w5 _)) DR CR DO CR (Nat.le_trans kS (aB w5 _).size) (w5.heap.size+1) C0 ?_);intro g cap w6 jY iP mM _;have jZ:=zh (HG6.out.added bH (x:=n5) rfl rfl jY iP EE);have HW6:=zh (offGrown (HW5.out.trans (Ba (aB w5 _))) iP (fun b hb=>(HG6.out.lt b hb).1));have uS:Hid (eO b r5 b5 w6):=zh ((iP.block b (Nat.lt_of_lt_of_le (Array.getElem?_eq_some_iff.1 sX.out).1 (aB w5 _).size) (fun e=>by have:=(HG6.out.lt b e.symm).1;omega)).trans (aC (aB w5 _) sX.out));clear jY iP mM HG5 HG6;go_wp2_with fail;go_roundw;(case rel=>exact⟨acc++[n5],css++[[.int .i64 n5]],(r5,b5),k-1,FC,CR,CR,HE5,by rw[List.length_append,List.length_singleton];cases b5<;>simp<;>first|omega|(have:=(hnp5.2.2.1 rfl).2.1;omega),HW6,uS,jZ⟩);case measure=>simp[intOf];omega
  have sQ:k=0:=CR;subst sQ;have hq:=HQ.out;have he:dD (0:Int).toNat acc (r4,b4)=(acc,(r4,b4)):=rfl;rw[<-HE.out,he] at hq;obtain⟨⟨r7,b7⟩,hc⟩:=fR (dF 93 (r4,b4));have HC:=zh (rclose_any 93 b r4 b4 wr HR.out hc);exact A7
theorem rnums_any(u:World)(b:Nat)(s:bA)(bad:Bool)(w:World){l:List Int}{r3:bA}{b3:Bool}(hu:RdB u b w)(h:eO b s bad w)(hs:s.size<=1000000)(hq:numsP (s,bad)=(l,(r3,b3))):
  Calls Tryz.prog 53 #[.pointer (some ⟨b,0,none⟩)] w fun e w'=>ItQ b l r3 b3 w e w':=by
 have HI:=zh (ritems_any u b s bad w hu h hs hq);have hmf:∀(fn:Fn)(first cap:Array Value)(w:World),(Instr.makeFunc fn first cap).run Tryz.prog w=.ok (.func fn first cap) w:=fun _ _ _ _=>rfl;clear hu h hq;go_enter Tryz.func53,Tryz.ntmps53;go_wp2_with fail;go_at_call 107;refine HI.out.mono ?_;rintro e w1 ⟨ho,h1,v,rfl,hr⟩;have HO:=zh ho;have H1:=zh h1;have HR:=zh hr;clear ho h1 hr;go_wp2_with fail;go_ret;exact⟨HO.out,H1.out,_,rfl,HR.out⟩
theorem ropen_any(s:bA)(w:World):
  Calls Tryz.prog 46 #[.string s] w fun e w'=>e=.returned (.pointer (some ⟨w.heap.size,0,none⟩))/\Below w.heap.size w w'/\eO w.heap.size s false w':=by
 go_enter Tryz.func46,Tryz.ntmps46;go_wp2_with fail;go_ret;exact⟨rfl,aB _ _,bY w _⟩
def verP(st:bA×Bool):Ver×(bA×Bool):=
 (⟨(aZ 59 0 st).1,(aZ 59 0 (aZ 59 0 st).2).1,(aZ 59 0 (aZ 59 0 (aZ 59 0 st).2).2).1⟩,(aZ 59 0 (aZ 59 0 (aZ 59 0 st).2).2).2)
theorem rver_any(u:World)(b:Nat)(s:bA)(bad:Bool)(w:World){v:Ver}{r3:bA}{b3:Bool}(hu:RdB u b w)(h:eO b s bad w)(hs:s.size<=1000000)(hq:verP (s,bad)=(v,(r3,b3))):
  Calls Tryz.prog 52 #[.pointer (some ⟨b,0,none⟩)] w fun e w'=>RdQ b r3 b3 (.agg #[.int .i64 v.a,.int .i64 v.b,.int .i64 v.c]) w e w'/\r3.size<=s.size:=by
 obtain⟨⟨n1,r1,b1⟩,h1⟩:=fR (aZ 59 0 (s,bad));obtain⟨⟨n2,r2,b2⟩,h2⟩:=fR (aZ 59 0 (r1,b1));obtain⟨⟨n3,r4,b4⟩,h3⟩:=fR (aZ 59 0 (r2,b2));have z1:=(dA C2 h1).2.1;have z2:=(dA C2 h2).2.1;have z3:=(dA C2 h3).2.1;unfold verP at hq;rw[h1] at hq;dsimp only at hq;rw[h2] at hq;dsimp only at hq;rw[h3] at hq;dsimp only at hq;cases hq;have tA:b<w.heap.size:=(Array.getElem?_eq_some_iff.1 h).1;have jD:=zh (aB w (.cells #[.int .i64 0,.int .i64 0,.int .i64 0] 23));have HX0:=zh (bY w (.cells #[.int .i64 0,.int .i64 0,.int .i64 0] 23));have yW:=hu.later jD.out;have lJ:=zh (eU b s bad _ yW.G yW.E (h.later jD.out) CR h1);have nX:Hid (∀W,Off (fun k=>k=b) (w.alloc (.cells #[.int .i64 0,.int .i64 0,.int .i64 0] 23)) W->eO b r1 b1 W->Calls Tryz.prog 48 #[.pointer (some ⟨b,0,none⟩)] W fun e w'=>RdQ b r2 b2 (.int .i64 n2) W e w'):=zh (fun W ho hr=>eU b r1 b1 W (yW.off ho).G (yW.off ho).E hr CR h2);have HN3:Hid (∀W,Off (fun k=>k=b) (w.alloc (.cells #[.int .i64 0,.int .i64 0,.int .i64 0] 23)) W->eO b r2 b2 W->Calls Tryz.prog 48 #[.pointer (some ⟨b,0,none⟩)] W fun e w'=>RdQ b r3 b3 (.int .i64 n3) W e w'):=zh (fun W ho hr=>eU b r2 b2 W (yW.off ho).G (yW.off ho).E hr CR h3);have hz:(w.alloc (.cells #[.int .i64 0,.int .i64 0,.int .i64 0] 23)).heap.size=w.heap.size+1:=C0;clear hu h h1 h2 h3 yW;go_enter Tryz.func52,Tryz.ntmps52;go_wp2_with fail;generalize w.alloc (.cells #[.int .i64 0,.int .i64 0,.int .i64 0] 23)=W0 at *;go_at_call 48;refine lJ.out.mono ?_;rintro e w1 ⟨ho,rfl,a1⟩;have lP:=zh ho;have A1:=zh a1;clear ho a1;go_wp2_with fail;go_at_call 48;refine(nX.out _ lP.out A1.out).mono ?_;rintro e w2 ⟨ho,rfl,a2⟩;have oT:=zh (lP.out.trans ho);have A2:=zh a2;clear ho a2;go_wp2_with fail;go_at_call 48;refine(HN3.out _ oT.out A2.out).mono ?_;rintro e w3 ⟨ho,rfl,a3⟩;have tJ:=zh (oT.out.trans ho);have A3:=zh a3;have hx3:=tJ.out.heap (show ¬w.heap.size=b by omega) HX0.out;obtain⟨⟨x0,x1,x2⟩,y0,y1,y2⟩:=bx3 hx3;clear ho a3;have HE:=zh (aG (aG (aG hx3 0 (.int .i64 n1)) 1 (.int .i64 n2)) 2 (.int .i64 n3));have hof:=(((Ba (S:=fun k=>k=b) jD.out).trans tJ.out).setNew (o:=0) (v:=.int .i64 n1) (Nat.le_refl w.heap.size)).setNew (o:=1) (v:=.int .i64 n2) (Nat.le_refl w.heap.size);have HOF:=zh (hof.setNew (o:=2) (v:=.int .i64 n3) (Nat.le_refl w.heap.size));have HAT:=zh (rd_other (rd_other (rd_other A3.out (show b≠w.heap.size by omega) (o:=0) (v:=.int .i64 n1)) (show b≠w.heap.size by omega) (o:=1) (v:=.int .i64 n2)) (show b≠w.heap.size by omega) (o:=2) (v:=.int .i64 n3));clear hx3 hof;go_wp2_with fail;refine bodyPost_ret (v:=.agg #[.int .i64 n1,.int .i64 n2,.int .i64 n3]) (results_cell_row (p:=2) rfl _ _ w.heap.size 23 #[.int .i64 n1,.int .i64 n2,.int .i64 n3] (0,0) _ rfl HE.out Tryz.underlying23 rfl CQ) rfl ?_;exact⟨⟨HOF.out,rfl,HAT.out⟩,CR⟩
end Go.Proofs.YtmpopphjaggeoaaGreatDoor
