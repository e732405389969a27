/- Joined. -/
import Derived.Test.YtacgopankhpnbaaGreatDoorTQAX
import Derived.Test.YtacgopankhpnbaaGreatDoorTQY
set_option maxHeartbeats 4000000
set_option maxRecDepth 100000
set_option linter.unusedVariables false
set_option linter.unusedSimpArgs false
namespace Go.Proofs.YtacgopankhpnbaaGreatDoor
open Go.RowKit
def pN(steps:List Stp)(i:Nat):Bool:=match steps[i]? with
 |some s=> !bZ s
 |none=>true
theorem pure1_any(r:Rcp)(L:List (Value×Stp))(vi vs:Value)(pr i:Nat)(w:World)(h:dR r L vi vs w)(hb:w.heap[pr]? =some (aY vi vs r.output))(hi:i<L.length):
  Calls Tryz.prog 62 #[.int .i64 i,.pointer (some ⟨pr,0,none⟩)] w fun e w'=>e=.returned (.bool (pN r.steps i))/\Below w.heap.size w w':=by
 obtain⟨y,hy,-⟩:=getElem?_of_lt hi;have hs:r.steps[i]? =some y.2:=by rw[<-h.map,List.getElem?_map,hy];rfl
 have HP:=zh (show pN r.steps i= !bZ y.2 by unfold pN;rw[hs]);rw[HP.out];obtain⟨r0,r1,r2⟩:=bD hb;rcases h.stp.cases with⟨e,-⟩|⟨b,o,c,rfl,-,NM,tU,-,hc⟩
 ·subst e;simp at hi
 obtain⟨s0,s1,s2,s3,hsrc,GP⟩:=hc i y hy;have HC:=zh (oE y.2 y.1 w hsrc GP);generalize bZ y.2=q at HC ⊢;obtain⟨a,cc,hv⟩:=bW hsrc;obtain⟨yv,kind,src,out,sorted⟩:=y;simp only at s0 s1 s2 s3 HC hv;subst hv;clear h hb hy hs HP hc hsrc GP;go_enter Tryz.func62,Tryz.ntmps62;go_wp2_with fail;refine HC.out.mono ?_;rintro e w1 ⟨rfl,hb⟩;have HB:=zh hb;clear hb;go_wp2_with fail;go_ret;exact⟨rfl,HB.out⟩
theorem enters_pure1:∀args w,(callFunc 62 args).run Tryz.prog w=.ok (.enter 62 args) w:=enters_of Tryz.func62 aAN rfl
theorem sliceL_lt{r:Rcp}{i:Nat}(h:i∈eI r):i<r.steps.length:=by
 unfold eI at h;split at h
 ·cases h
 unfold pB at h;exact List.mem_range.1 (List.mem_filter.1 h).1
theorem pure_any(r:Rcp)(L:List (Value×Stp))(vi vs:Value)(w:World)(h:dR r L vi vs w):
  Calls Tryz.prog 28 #[jD vi vs r.output] w fun e w'=>e=.returned (.bool (pureL r))/\Below w.heap.size w w':=by
 by_cases he:¬aP r=0
 ·refine(pure_bad r L vi vs w h he).mono ?_;rw[show pureL r=false by unfold pureL;rw[decide_eq_false he];rfl];exact fun _ _ h=>h
 replace he:=Classical.not_not.1 he
 have HR:=zh (rH r L vi vs _ (h.later (aA w (aY vi vs r.output))));have HP:=zh (show pureL r= !(eI r).any (pN r.steps) by unfold pureL;rw[decide_eq_true he];rfl);rw[HP.out];have xX:=zh h;have D9:Hid (∀W,Below w.heap.size w W->Calls Tryz.prog 30 #[jD vi vs r.output] W (gI (eI r) W)):=zh fun W hb=>slice_any r L vi vs W (xX.out.later hb)
 have HCf:Hid (∀v W,Below w.heap.size w W->W.heap[w.heap.size]? =some (aY vi vs r.output)->hJ W v (aU (eI r))->Calls Tryz.prog 61 #[v,.func (.func 62) #[] #[.pointer (some ⟨w.heap.size,0,none⟩)]] W fun e w'=>e=.returned (.bool ((eI r).any (pN r.steps)))/\Below W.heap.size W w'):=
  zh fun v W hb NO hI=>pU 62 #[.pointer (some ⟨w.heap.size,0,none⟩)] (pN r.steps) (eI r) v W hI enters_pure1 (fun x hx W' tO=>
   pure1_any r L vi vs w.heap.size x W' (xX.out.later (aB hb tO)) (aD tO NO) (by rw[<-xX.out.len];exact sliceL_lt hx))
 have sH:=zh (aA w (aY vi vs r.output));have uV:=zh (aH w (aY vi vs r.output));obtain⟨ai,ci,av,cv,rfl,rfl⟩:=h.slices;rw[he] at HR;generalize (eI r).any (pN r.steps)=q at HCf ⊢;clear h he HP;go_enter Tryz.func28,Tryz.ntmps28;go_wp2_with fail;refine HR.out.mono ?_;rintro e w2 ⟨rfl,hb⟩;obtain⟨r0,r1,r2⟩:=bD (aD hb uV.out);have sW:=zh (aB sH.out hb);have HBx2:=zh (aD hb uV.out);clear hb HR;go_wp2_with fail;refine(D9.out _ sW.out).mono ?_;rintro e w3 ⟨v,rfl,hI,-,hb⟩;have HC:=zh (HCf.out v w3 (aB sW.out hb) (aD hb HBx2.out) hI);have wL:=zh (aB sW.out hb);clear hI hb r0 r1 r2;go_wp2_with fail;refine HC.out.mono ?_;rintro e w4 ⟨rfl,hb⟩;have xJ:=zh (aB wL.out hb);clear hb;go_wp2_with fail;go_ret;exact⟨rfl,xJ.out⟩
theorem ZU{p:Prop}(h:p:=by
 go_wp2_with fail;go_ret
 exact⟨_,rfl,Below.refl _ _⟩):p:=h
theorem fewDone_any(Ld:List (Value×Dn))(vl:Value)(w:World)(h:Dns w vl Ld):
  Calls Tryz.prog 38 #[vl] w (AnyBool w):=by
 obtain⟨al,cl,rfl⟩:=fB h;have HL:=zh h;have hlen:Ld.length<=9223372036854775807:=by obtain⟨a,c,hv,h1,h2,-⟩:=h;omega
 clear h;go_enter Tryz.func38,Tryz.ntmps38;go_wp2_with fail;go_loop [3] (fun i=>∃k:Nat,k<=Ld.length/\i=.int .i64 k) (fun i=>Ld.length-(intOf i).toNat)
 case atStart=>exact⟨0,Nat.zero_le _,rfl⟩
 case round=>
  obtain⟨k,hk,rfl⟩:=hrel;by_cases sE:k<Ld.length/\k<15
  ·obtain⟨sE,h15⟩:=sE;obtain⟨y,hy,-⟩:=getElem?_of_lt sE;rcases HL.out.cases with⟨e,-⟩|⟨b,o,c,e,-,-,-,-,hc⟩
   ·exact aAy
   obtain⟨rfl,rfl⟩:al=some ⟨b,o,none⟩/\cl=c:=aAT;obtain⟨d0,d1,d2,dstr,-⟩:=hc k y hy;obtain⟨yv,step,saw,out⟩:=y;simp only at d0 d1 d2 dstr;obtain⟨sa,sc,rfl⟩:=bW dstr;have IN:=zh dstr;(have PE:saw.length<=9223372036854775807:=by obtain⟨a,c,hv,h1,h2,-⟩:=dstr;omega);have LM:(0:Int)<=(k:Int):=aAM;have BF:(k:Int)<(Ld.length:Int):=aAM;clear hc e hy dstr;by_cases h6:(6:Int)<(saw.length:Int)
   ·exact ZU
   by_cases h2:(2000:Int)<(out.size:Int)
   ·exact ZU
   go_wp2_with fail;(go_loop [4] (fun i=>∃j:Nat,j<=saw.length/\i=.int .i64 j) (fun i=>saw.length-(intOf i).toNat));case atStart=>exact⟨0,Nat.zero_le _,rfl⟩
   case round=>
    obtain⟨j,hj,rfl⟩:=hrel;by_cases AS:j<saw.length
    ·obtain⟨t,ht,-⟩:=getElem?_of_lt AS;rcases IN.out.cases with⟨e,-⟩|⟨b',o',c',e,-,-,-,-,FH⟩
     ·rw[e] at AS;simp at AS
     obtain⟨rfl,rfl⟩:sa=some ⟨b',o',none⟩/\sc=c':=aAT;obtain⟨t0,-⟩:=FH j t ht;clear FH e ht;by_cases h3:(2000:Int)<(t.size:Int)
     ·exact ZU
     go_wp2_with fail
     go_round
     (case rel=>exact⟨j+1,aAM,aAV⟩);case measure=>simp[intOf];omega
    obtain rfl:j=saw.length:=aAM;go_wp2_with fail
    go_round
    (case rel=>exact⟨k+1,aAM,aAV⟩);case measure=>simp[intOf];omega
  by_cases h6:k<Ld.length
  ·have h7:¬k<15:=fun h=>sE ⟨h6,h⟩;clear sE;exact ZU
  clear sE;exact ZU
end Go.Proofs.YtacgopankhpnbaaGreatDoor
