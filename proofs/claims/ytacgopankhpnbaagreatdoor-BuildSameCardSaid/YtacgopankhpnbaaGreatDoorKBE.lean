/- Texts of this seat, joined. -/
import Derived.Test.YtacgopankhpnbaaGreatDoorKBC
import Derived.Test.YtacgopankhpnbaaGreatDoorLpA
import Derived.Test.YtacgopankhpnbaaGreatDoorKAO
set_option linter.unusedVariables false
set_option linter.unusedSimpArgs false
namespace Go.Proofs.YtacgopankhpnbaaGreatDoor
set_option maxHeartbeats 4000000
set_option maxRecDepth 100000
open Go.RowKit
theorem tW{p:Prop}(h:p:=by
 have hh:=h;obtain⟨a,c,hv,h1,h2,-⟩:=hh;refine⟨a,c,hv,vT,fun i y hy=>?_⟩;rcases h.cases with⟨rfl,-⟩|⟨b,o,c',e,-,-,-,-,hc⟩
 ·simp at hy
 ·rw[hv] at e;cases e
  exact⟨b,o,rfl,hc i y hy⟩):p:=h
theorem dns_at{w:World}{v:Value}{l:List (Value×Dn)}(h:Dns w v l):∃a c,v=.slice a l.length c/\l.length<=9223372036854775807/\∀i y,l[i]? =some y->∃b o,a=some ⟨b,o,none⟩/\w.cell? ⟨b,o+i*3,none⟩=some (.int .i64 y.2.step)/\w.cell? ⟨b,o+i*3+1,none⟩=some y.1/\w.cell? ⟨b,o+i*3+2,none⟩=some (.string y.2.out)/\Strs w y.1 y.2.saw/\y.2.out.size<=140737488355328:=by
 exact tW
theorem stps_at{w:World}{v:Value}{l:List (Value×Stp)}(h:oY w v l):∃a c,v=.slice a l.length c/\l.length<=9223372036854775807/\∀i y,l[i]? =some y->∃b o,a=some ⟨b,o,none⟩/\w.cell? ⟨b,o+i*4,none⟩=some (.int .i64 y.2.kind)/\w.cell? ⟨b,o+i*4+1,none⟩=some y.1/\w.cell? ⟨b,o+i*4+2,none⟩=some (.string y.2.out)/\w.cell? ⟨b,o+i*4+3,none⟩=some (.bool y.2.sorted)/\Strs w y.1 y.2.src/\y.2.out.size<=140737488355328:=by
 exact tW
theorem ints_at{w:World}{v:Value}{l:List Int}(h:gZ w v l):∃a c,v=.slice a l.length c/\l.length<=9223372036854775807/\∀i x,l[i]? =some x->∃b o,a=some ⟨b,o,none⟩/\w.cell? ⟨b,o+i,none⟩=some (.int .i64 x):=by
 have hh:=h;obtain⟨a,c,hv,h1,h2,-⟩:=hh;refine⟨a,c,hv,vT,fun i x hx=>?_⟩;rcases h.cases with⟨rfl,-⟩|⟨b,o,c',e,-,-,-,-,hc⟩
 ·simp at hx
 ·rw[hv] at e;cases e;exact⟨b,o,rfl,hc i x hx⟩
theorem doStep_nz{C:ByteArray->Int×ByteArray}{s:Stp}{files:List Fil}{ck od:List Int}{u0 u1 c:Int}(h:aX C s files ck od u0 u1=.error c):c≠0:=by
 rcases doStep_cases C s files u0 u1 with⟨d,hd,e⟩|⟨saw,-,-,-,⟨-,e⟩|⟨-,e⟩⟩
 ·rw[e] at h;cases h;exact hd
 ·rw[e] at h;cases h
 ·rw[e] at h;split at h
  ·cases h;decide
  ·cases h
theorem runFrom_nz{C:ByteArray->Int×ByteArray}{steps:List Stp}{ck od nx:List Int}{c:Int}:∀(f:Nat)(done:Nat->Bool)(out:List Dn)(files:List Fil)(u0 u1:Int),gS C steps ck od nx f done out files u0 u1=.error c->c≠0
 |0,_,_,_,_,_,h=>by rw[gS] at h;cases h
 |f+1,done,out,files,u0,u1,h=>by
  rw[gS] at h;split at h
  ·cases h
  ·split at h
   ·cases h
   ·split at h
    ·rename_i e he;cases h;exact doStep_nz he
    ·exact runFrom_nz f _ _ _ _ _ h
theorem runL_nz{C:ByteArray->Int×ByteArray}{r:Rcp}{ck od nx:List Int}{c:Int}(h:pR C r ck od nx=.error c):c≠0:=by
 unfold pR at h;split at h
 ·rename_i h0;cases h;exact h0
 ·split at h
  ·rename_i e he;cases h;exact runFrom_nz _ _ _ _ _ _ he
  ·cases h
def RunIs(res:Except Int (List Dn×ByteArray))(va:Value)(sa:ByteArray)(ea:Int)(w:World):Prop:=
 (∃c,res=.error c/\ea=c/\c≠0/\va=.slice none 0 0/\sa=⟨#[]⟩)\/(∃out L,res=.ok (out,sa)/\ea=0/\Dns w va L/\L.map (·.2)=out)
theorem RunIs.ok{res:Except Int (List Dn×ByteArray)}{va:Value}{sa:ByteArray}{w:World}(h:RunIs res va sa 0 w):∃out L,res=.ok (out,sa)/\Dns w va L/\L.map (·.2)=out:=by
 rcases h with⟨c,-,e,hc,-⟩|⟨out,L,h1,-,h3,h4⟩
 ·exact absurd e.symm hc
 ·exact⟨out,L,h1,h3,h4⟩
theorem RunIs.bad{res:Except Int (List Dn×ByteArray)}{va:Value}{sa:ByteArray}{ea:Int}{w:World}(h:RunIs res va sa ea w)(he:ea≠0):res=.error ea/\va=.slice none 0 0/\sa=⟨#[]⟩:=by
 rcases h with⟨c,h1,rfl,hc,h2,h3⟩|⟨out,L,h1,h2,-⟩
 ·exact⟨h1,h2,h3⟩
 ·exact absurd h2 he
def RunSays(w:World)(res:Except Int (List Dn×ByteArray))(e:Ending)(w':World):Prop:=∃a n c sa ea,e=.returned (.tuple #[.slice a n c,.string sa,.int .i64 ea])/\Hid (RunIs res (.slice a n c) sa ea w')/\Below w.heap.size w w'
theorem pF(r:Rcp)(L:List (Value×Stp))(vi vs vc vo vn:Value)(ck od nx:List Int)(w:World)(h:fZ r L vi vs w)(hw:oX ck od nx vc vo vn w)(hG:bV w):
  Calls Tryz.prog 29 #[nD vi vs r.output,.agg #[vc,vo,vn]] w (RunSays w (pR bJ r ck od nx)):=by
 have key:Calls Tryz.prog 29 #[nD vi vs r.output,.agg #[vc,vo,vn]] w (RunPost w (pR bJ r ck od nx)):=by
  by_cases he:bC r=0
  ·exact run_good bJ r L vi vs vc vo vn ck od nx w h hw hG (fun s _=>qO s) he
  ·exact run_bad bJ r L vi vs vc vo vn ck od nx w h hw he
 refine key.mono ?_;rintro e w' ⟨hb,hm⟩
 cases hr:pR bJ r ck od nx with
 |error c=>
  rw[hr] at hm;exact⟨_,_,_,_,_,hm,zh (.inl ⟨c,rfl,rfl,runL_nz hr,rfl,rfl⟩),hb⟩
 |ok p=>
  obtain⟨out,text⟩:=p;rw[hr] at hm;obtain⟨v,M,he,hD,hM⟩:=hm;obtain⟨a,c,rfl⟩:=dns_slice hD;exact⟨_,_,_,_,_,he,zh (.inr ⟨out,M,rfl,rfl,hD,hM⟩),hb⟩
theorem sameOne_same(st:Int)(out:ByteArray)(l:List ByteArray)(va vb:Value)(w:World)(ha:Strs w va l)(hb:Strs w vb l):
  Calls Tryz.prog 32 #[.agg #[.int .i64 st,va,.string out],.agg #[.int .i64 st,vb,.string out]] w fun e w'=>e=.returned (.bool true)/\Below w.heap.size w w':=by
 obtain⟨a1,c1,rfl,hl,h1⟩:=iV ha;obtain⟨a2,c2,rfl,-,h2⟩:=iV hb;have H1:=zh h1;have H2:=zh h2;clear ha hb h1 h2;have HB:=zh (aB (aA w (.cells #[.int .i64 st,.slice a1 l.length c1,.string out] 59)) (aA (w.alloc (.cells #[.int .i64 st,.slice a1 l.length c1,.string out] 59)) (.cells #[.int .i64 st,.slice a2 l.length c2,.string out] 59)));have HX:=zh (aD (aA (w.alloc (.cells #[.int .i64 st,.slice a1 l.length c1,.string out] 59)) (.cells #[.int .i64 st,.slice a2 l.length c2,.string out] 59)) (heap_alloc_new w (.cells #[.int .i64 st,.slice a1 l.length c1,.string out] 59)));have HY:=heap_alloc_new (w.alloc (.cells #[.int .i64 st,.slice a1 l.length c1,.string out] 59)) (.cells #[.int .i64 st,.slice a2 l.length c2,.string out] 59);rw[show(w.alloc (.cells #[.int .i64 st,.slice a1 l.length c1,.string out] 59)).heap.size=w.heap.size+1 by simp] at HY;have HY:=zh HY;go_enter Tryz.func32,Tryz.ntmps32;go_wp2_with fail;go_loopw [5] (fun iv wr=>∃q:Nat,q<=l.length/\iv=.int .i64 (q:Int)/\Hid (Below ((w.alloc (.cells #[.int .i64 st,.slice a1 l.length c1,.string out] 59)).alloc (.cells #[.int .i64 st,.slice a2 l.length c2,.string out] 59)).heap.size ((w.alloc (.cells #[.int .i64 st,.slice a1 l.length c1,.string out] 59)).alloc (.cells #[.int .i64 st,.slice a2 l.length c2,.string out] 59)) wr)) (fun iv _=>l.length-(intOf iv).toNat)
 case atStart=>exact⟨0,Nat.zero_le _,rfl,zh (Below.refl _ _)⟩
 case round=>
  obtain⟨q,hq,rfl,HBr⟩:=hrel;rename World=>wr
  obtain⟨⟨x0,x1,x2⟩,-⟩:=bx3 (aD HBr.out HX.out);obtain⟨⟨y0,y1,y2⟩,-⟩:=bx3 (aD HBr.out HY.out);by_cases hlt:q<l.length
  ·obtain⟨x,hx,-⟩:=getElem?_of_lt hlt;obtain⟨b,o,rfl,p0,hz⟩:=H1.out q x hx;obtain⟨b2,o2,rfl,p2,-⟩:=H2.out q x hx;have p0:=aC HBr.out (aC HB.out p0);have p2:=aC HBr.out (aC HB.out p2);clear hx;go_wp2_with fail;(go_quiet(fail));go_wp2_with fail;go_roundw;(case rel=>exact⟨q+1,vT,wH,zh (aJ HBr.out _)⟩);case measure=>simp[intOf];omega
  ·go_wp2_with fail;go_ret;exact⟨rfl,aB HB.out HBr.out⟩
def OkBelow(w:World)(e:Ending)(w':World):Prop:=e=.returned (.bool true)/\Below w.heap.size w w'
end Go.Proofs.YtacgopankhpnbaaGreatDoor
