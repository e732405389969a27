/- -/
import Derived.Test.YtacgopankhpnbaaGreatDoorTQAE
set_option maxHeartbeats 32000000
set_option maxRecDepth 100000
set_option linter.unusedVariables false
set_option linter.unusedSimpArgs false
namespace Go.Proofs.YtacgopankhpnbaaGreatDoor
open Go.RowKit
abbrev Qa:=@beq_eq_false_iff_ne
abbrev Qb:=@decide_eq_false
abbrev Qc:=@List.getD_eq_getElem?_getD
abbrev Qd:=@List.drop_eq_getElem_cons
theorem X2{p:Prop}(h:p:=by
 go_enter Tryz.func193,Tryz.ntmps193;go_wp2_with fail;go_quiet(fail)
 go_wp2_with(go_at_call 147;refine(HS.out _ (aN (aB (aA _ _) (aA _ _)) _)).mono ?_;rintro e w2 ⟨rfl,rfl⟩);go_ret
 exact⟨aF aBa,aN (aB (aA _ _) (aA _ _)) _⟩):p:=h
theorem YB{p:Prop}(h:p:=by
 go_enter Tryz.func193,Tryz.ntmps193;go_wp2_with fail;go_quiet(fail)
 go_wp2_with(go_at_call 223;refine(HA.out _ (aN (aB (aA _ _) (aA _ _)) _)).mono ?_;rintro e w2 ⟨rfl,sD⟩;have EK:=zh (aB (aN yN _) sD);obtain⟨⟨t0,t1,t2,t3,t4⟩,-⟩:=bx5 (aD sD HBI.out));go_ret
 exact⟨aF aBa,EK.out⟩):p:=h
theorem YE{p:Prop}(h:p:=by
 go_ret
 exact⟨aF aBa,aN (aB (aA _ _) (aA _ _)) _⟩):p:=h
theorem formed_15(c:Cod)(a:Int)(s m:bA)(names:List bA)(ac:Option Addr)(cc:Nat)(an:Option Addr)(cn:Nat)(N:Nat->Prop)(w:World)(hg:dL w)(hs:s.size<=8000)(hm:m.size<=8000)(hn:aL 1 cZ N w (.slice an names.length cn) names):
  cF c ⟨15,a,s,m,names⟩ (.slice ac c.code.length cc) (.slice an names.length cn) w:=by
 unfold cF;dsimp only;have HR:Hid (cE c ⟨15,a,s,m,names⟩=((decide (a=1)||decide (a=2)||decide (a=4)||decide (a=8))&&decide (s=noB)&&decide (m=noB)&&decide (names.length=0))):=zh rfl;have yN:=aB (aA w (gY c.name (c.params:Int) (c.locals:Int) ac c.code.length cc)) (aA _ (dY 15 a s m an names.length cn));rw[Bool.or_assoc,Bool.or_assoc] at HR;clear hg hn;by_cases h1:a=1
 focus
  subst h1;simp only[decide_true,Bool.true_or,Bool.or_true,Bool.true_and] at HR;by_cases uC:s=noB
  focus
   subst uC;simp only[decide_true,Bool.true_and,Bool.and_true] at HR;by_cases tJ:m=noB
   focus
    subst tJ;simp only[decide_true,Bool.true_and,Bool.and_true] at HR;by_cases uQ:names.length=0
    focus
     rw[decide_eq_true uQ] at HR;rw[uQ]
    rotate_right
    focus
     have yQ:((names.length:Int)==0)=false:=aAW;rw[Qb uQ] at HR
   rotate_right
   focus
    have zQ:(m.toList==[])=false:=aA2;rw[Qb tJ] at HR
  rotate_right
  focus
   have xG:(s.toList==[])=false:=aA7;rw[Qb uC] at HR
 rotate_right
 focus
  have g1:(a==1)=false:=aB0;rw[Qb h1] at HR;by_cases h2:a=2
  focus
   subst h2;simp only[decide_true,Bool.true_or,Bool.or_true,Bool.true_and] at HR;by_cases uC:s=noB
   focus
    subst uC;simp only[decide_true,Bool.true_and,Bool.and_true] at HR;by_cases tJ:m=noB
    focus
     subst tJ;simp only[decide_true,Bool.true_and,Bool.and_true] at HR;by_cases uQ:names.length=0
     focus
      rw[decide_eq_true uQ] at HR;rw[uQ]
     rotate_right
     focus
      have yQ:((names.length:Int)==0)=false:=aAW;rw[Qb uQ] at HR
    rotate_right
    focus
     have zQ:(m.toList==[])=false:=aA2;rw[Qb tJ] at HR
   rotate_right
   focus
    have xG:(s.toList==[])=false:=aA7;rw[Qb uC] at HR
  rotate_right
  focus
   (have g2:(a==2)=false:=by rw[Qa];exact h2);rw[Qb h2] at HR;by_cases h4:a=4
   focus
    subst h4;simp only[decide_true,Bool.true_or,Bool.or_true,Bool.true_and] at HR;by_cases uC:s=noB
    focus
     subst uC;simp only[decide_true,Bool.true_and,Bool.and_true] at HR;by_cases tJ:m=noB
     focus
      subst tJ;simp only[decide_true,Bool.true_and,Bool.and_true] at HR;by_cases uQ:names.length=0
      focus
       rw[decide_eq_true uQ] at HR;rw[uQ]
      rotate_right
      focus
       have yQ:((names.length:Int)==0)=false:=aAW;rw[Qb uQ] at HR
     rotate_right
     focus
      have zQ:(m.toList==[])=false:=aA2;rw[Qb tJ] at HR
    rotate_right
    focus
     have xG:(s.toList==[])=false:=aA7;rw[Qb uC] at HR
   rotate_right
   focus
    (have g4:(a==4)=false:=by rw[Qa];exact h4);rw[Qb h4] at HR;by_cases h8:a=8
    focus
     subst h8;simp only[decide_true,Bool.true_or,Bool.or_true,Bool.true_and] at HR;by_cases uC:s=noB
     focus
      subst uC;simp only[decide_true,Bool.true_and,Bool.and_true] at HR;by_cases tJ:m=noB
      focus
       subst tJ;simp only[decide_true,Bool.true_and,Bool.and_true] at HR;by_cases uQ:names.length=0
       focus
        rw[decide_eq_true uQ] at HR;rw[uQ]
       rotate_right
       focus
        have yQ:((names.length:Int)==0)=false:=aAW;rw[Qb uQ] at HR
      rotate_right
      focus
       have zQ:(m.toList==[])=false:=aA2;rw[Qb tJ] at HR
     rotate_right
     focus
      have xG:(s.toList==[])=false:=aA7;rw[Qb uC] at HR
    rotate_right
    focus
     (have g8:(a==8)=false:=by rw[Qa];exact h8);rw[Qb h8] at HR;simp only[Bool.false_or,Bool.or_false,Bool.false_and] at HR
 all_goals
  go_enter Tryz.func193,Tryz.ntmps193;go_wp2_with fail;go_quiet(fail)
  go_wp2_with fail;go_ret;exact⟨aF aBa,aN (aB (aA _ _) (aA _ _)) _⟩
theorem formed_14(c:Cod)(a:Int)(s m:bA)(names:List bA)(ac:Option Addr)(cc:Nat)(an:Option Addr)(cn:Nat)(N:Nat->Prop)(w:World)(hg:dL w)(hs:s.size<=8000)(hm:m.size<=8000)(hn:aL 1 cZ N w (.slice an names.length cn) names):
  cF c ⟨14,a,s,m,names⟩ (.slice ac c.code.length cc) (.slice an names.length cn) w:=by
 unfold cF;dsimp only;have HR:Hid (cE c ⟨14,a,s,m,names⟩=((decide (0<=a)&&decide (a<=6)&&aR s&&(decide (m=noB)||aR m))&&decide (names.length=0))):=zh rfl;have yN:=aB (aA w (gY c.name (c.params:Int) (c.locals:Int) ac c.code.length cc)) (aA _ (dY 14 a s m an names.length cn));have HS:=zh (fun W(hb:Below w.heap.size w W)=>eN s W aAM (hg.later hb));have HM:=zh (fun W(hb:Below w.heap.size w W)=>eN m W aAM (hg.later hb));clear hg hn;by_cases h0:0<=a
 ·rw[decide_eq_true h0] at HR;by_cases h1:a<=6
  ·rw[decide_eq_true h1] at HR;simp only[Bool.true_and] at HR
   cases tT:aR s with
   |false=>
    rw[tT] at HS HR;clear tT;exact X2
   |true=>
    rw[tT] at HS HR;clear tT;by_cases tJ:m=noB
    ·subst tJ;simp only[decide_true,Bool.true_or,Bool.true_and] at HR;by_cases uQ:names.length=0
     ·rw[decide_eq_true uQ] at HR;rw[uQ];exact X2
     have yQ:((names.length:Int)==0)=false:=aAW;rw[Qb uQ] at HR;exact X2
    have zQ:(m.toList==[])=false:=aA2;rw[Qb tJ] at HR;clear tJ;simp only[Bool.false_or,Bool.true_and] at HR
    cases QZ:aR m with
    |false=>
     rw[QZ] at HM HR;clear QZ;go_enter Tryz.func193,Tryz.ntmps193;go_wp2_with fail;(go_quiet(fail));go_wp2_with fail;go_at_call 147;refine(HS.out _ (aN (aB (aA _ _) (aA _ _)) _)).mono ?_;rintro e w2 ⟨rfl,rfl⟩;go_wp2_with fail;go_at_call 147;refine(HM.out _ (aN (aB (aA _ _) (aA _ _)) _)).mono ?_;rintro e w3 ⟨rfl,rfl⟩;go_wp2_with fail;exact YE
    |true=>
     rw[QZ] at HM HR;clear QZ;simp only[Bool.true_and] at HR;by_cases uQ:names.length=0
     ·rw[decide_eq_true uQ] at HR;rw[uQ];go_enter Tryz.func193,Tryz.ntmps193;go_wp2_with fail;(go_quiet(fail));go_wp2_with fail;go_at_call 147;refine(HS.out _ (aN (aB (aA _ _) (aA _ _)) _)).mono ?_;rintro e w2 ⟨rfl,rfl⟩;go_wp2_with fail;go_at_call 147;refine(HM.out _ (aN (aB (aA _ _) (aA _ _)) _)).mono ?_;rintro e w3 ⟨rfl,rfl⟩;go_wp2_with fail;exact YE
     have yQ:((names.length:Int)==0)=false:=aAW;rw[Qb uQ] at HR;go_enter Tryz.func193,Tryz.ntmps193;go_wp2_with fail;(go_quiet(fail));go_wp2_with fail;go_at_call 147;refine(HS.out _ (aN (aB (aA _ _) (aA _ _)) _)).mono ?_;rintro e w2 ⟨rfl,rfl⟩;go_wp2_with fail;go_at_call 147;refine(HM.out _ (aN (aB (aA _ _) (aA _ _)) _)).mono ?_;rintro e w3 ⟨rfl,rfl⟩;go_wp2_with fail;exact YE
  rw[Qb h1] at HR;go_enter Tryz.func193,Tryz.ntmps193;go_wp2_with fail;go_quiet(fail)
  go_wp2_with fail;exact YE
 rw[Qb h0] at HR;go_enter Tryz.func193,Tryz.ntmps193;go_wp2_with fail;go_quiet(fail)
 go_wp2_with fail;exact YE
theorem formed_12(c:Cod)(a:Int)(s m:bA)(names:List bA)(ac:Option Addr)(cc:Nat)(an:Option Addr)(cn:Nat)(N:Nat->Prop)(w:World)(hg:dL w)(hs:s.size<=8000)(hm:m.size<=8000)(hn:aL 1 cZ N w (.slice an names.length cn) names):
  cF c ⟨12,a,s,m,names⟩ (.slice ac c.code.length cc) (.slice an names.length cn) w:=by
 unfold cF;dsimp only;have HR:Hid (cE c ⟨12,a,s,m,names⟩=((pW none names&&decide (names.length<=8))&&decide (a=0)&&decide (s=noB)&&decide (m=noB))):=zh rfl;have yN:=aB (aA w (gY c.name (c.params:Int) (c.locals:Int) ac c.code.length cc)) (aA _ (dY 12 a s m an names.length cn));have HA:=zh (fun W(hb:Below w.heap.size w W)=>ascending_any names N _ W (hg.later hb) (hn.moves aS (bU.later hb) aAO));have HBI:=zh (bY (w.alloc (gY c.name (c.params:Int) (c.locals:Int) ac c.code.length cc)) (dY 12 a s m an names.length cn));clear hg hn;generalize (pW none names&&decide (names.length<=8))=r at HA HR
 cases r with
 |false=>
  exact YB
 |true=>
  simp only[Bool.true_and] at HR;by_cases ha:a=0
  ·subst ha;simp only[decide_true,Bool.true_and,Bool.and_true] at HR;by_cases uC:s=noB
   ·subst uC;simp only[decide_true,Bool.true_and,Bool.and_true] at HR;by_cases tJ:m=noB
    ·subst tJ;simp only[decide_true,Bool.true_and,Bool.and_true] at HR;exact YB
    have zQ:(m.toList==[])=false:=aA2;rw[Qb tJ] at HR;exact YB
   have xG:(s.toList==[])=false:=aA7;rw[Qb uC] at HR;exact YB
  have sT:(a==0)=false:=aCO;rw[Qb ha] at HR;exact YB
theorem jE(op:Int)(ho:op=4\/op=5\/op=6\/op=7\/op=8\/op=9\/op=18\/op=19)(c:Cod)(a:Int)(s m:bA)(names:List bA)(ac:Option Addr)(cc:Nat)(an:Option Addr)(cn:Nat)(N:Nat->Prop)(w:World)(hg:dL w)(hs:s.size<=8000)(hm:m.size<=8000)(hn:aL 1 cZ N w (.slice an names.length cn) names):
  cF c ⟨op,a,s,m,names⟩ (.slice ac c.code.length cc) (.slice an names.length cn) w:=by
 unfold cF;dsimp only;have HR:Hid (cE c ⟨op,a,s,m,names⟩=(decide (a=0)&&decide (s=noB)&&decide (m=noB)&&decide (names.length=0))):=zh (by rcases ho with rfl|rfl|rfl|rfl|rfl|rfl|rfl|rfl<;>rfl);have yN:=aB (aA w (gY c.name (c.params:Int) (c.locals:Int) ac c.code.length cc)) (aA _ (dY op a s m an names.length cn));clear hg hn;by_cases ha:a=0
 focus
  subst ha;simp only[decide_true,Bool.true_and,Bool.and_true] at HR;by_cases uC:s=noB
  focus
   subst uC;simp only[decide_true,Bool.true_and,Bool.and_true] at HR;by_cases tJ:m=noB
   focus
    subst tJ;simp only[decide_true,Bool.true_and,Bool.and_true] at HR;by_cases uQ:names.length=0
    focus
     rw[decide_eq_true uQ] at HR;rw[uQ]
    rotate_right
    focus
     have yQ:((names.length:Int)==0)=false:=aAW;rw[Qb uQ] at HR
   rotate_right
   focus
    have zQ:(m.toList==[])=false:=aA2;rw[Qb tJ] at HR
  rotate_right
  focus
   have xG:(s.toList==[])=false:=aA7;rw[Qb uC] at HR
 rotate_right
 focus
  have sT:(a==0)=false:=aCO;rw[Qb ha] at HR
 all_goals rcases ho with rfl|rfl|rfl|rfl|rfl|rfl|rfl|rfl
 all_goals
  go_enter Tryz.func193,Tryz.ntmps193;go_wp2_with fail;go_quiet(fail)
  go_wp2_with fail;go_ret;exact⟨aF aBa,aN (aB (aA _ _) (aA _ _)) _⟩
def NeedsSays(i:Ins)(vn:Value)(w:World):Prop:=
 Calls Tryz.prog 194 #[.agg #[.int .i64 i.op,.int .i64 i.a,.string i.s,.string i.m,vn]] w fun e w'=>e=.returned (.tuple #[.int .i64 (lB i).1,.int .i64 (lB i).2])/\Below w.heap.size w w'
theorem cneeds_any(i:Ins)(an:Option Addr)(cn:Nat)(w:World)(h0:0<=i.op)(h1:i.op<20):NeedsSays i (.slice an i.names.length cn) w:=by
 obtain⟨op,a,s,m,names⟩:=i;dsimp only at h0 h1;unfold NeedsSays
 obtain⟨p,q,e,hc⟩:∃p q:Int,lB ⟨op,a,s,m,names⟩=(p,q)/\(op=0/\p=0/\q=1\/op=1/\p=0/\q=1\/op=2/\p=0/\q=1\/op=3/\p=1/\q=0\/op=4/\p=2/\q=1\/op=5/\p=2/\q=1\/op=6/\p=2/\q=1\/op=7/\p=2/\q=1\/op=8/\p=2/\q=1\/op=9/\p=1/\q=1\/op=10/\p=0/\q=0\/op=11/\p=1/\q=0\/op=12/\p=(names.length:Int)/\q=1\/op=13/\p=1/\q=1\/op=14/\p=a/\q=1\/op=15/\p=1/\q=1\/op=16/\p=0/\q=1\/op=17/\p=1/\q=1\/op=18/\p=1/\q=0\/op=19/\p=1/\q=0):=by
  have hc:op=0\/op=1\/op=2\/op=3\/op=4\/op=5\/op=6\/op=7\/op=8\/op=9\/op=10\/op=11\/op=12\/op=13\/op=14\/op=15\/op=16\/op=17\/op=18\/op=19:=aAM;rcases hc with rfl|rfl|rfl|rfl|rfl|rfl|rfl|rfl|rfl|rfl|rfl|rfl|rfl|rfl|rfl|rfl|rfl|rfl|rfl|rfl<;>exact⟨_,_,rfl,aAQ⟩
 rw[e];clear e h0 h1;dsimp only;rcases hc with⟨rfl,rfl,rfl⟩|⟨rfl,rfl,rfl⟩|⟨rfl,rfl,rfl⟩|⟨rfl,rfl,rfl⟩|⟨rfl,rfl,rfl⟩|⟨rfl,rfl,rfl⟩|⟨rfl,rfl,rfl⟩|⟨rfl,rfl,rfl⟩|⟨rfl,rfl,rfl⟩|⟨rfl,rfl,rfl⟩|⟨rfl,rfl,rfl⟩|⟨rfl,rfl,rfl⟩|⟨rfl,rfl,rfl⟩|⟨rfl,rfl,rfl⟩|⟨rfl,rfl,rfl⟩|⟨rfl,rfl,rfl⟩|⟨rfl,rfl,rfl⟩|⟨rfl,rfl,rfl⟩|⟨rfl,rfl,rfl⟩|⟨rfl,rfl,rfl⟩
 all_goals
  go_enter Tryz.func194,Tryz.ntmps194;go_wp2_with fail;go_ret2;exact⟨rfl,aA _ _⟩
theorem alloc3(w:World)(A B C:Obj):(((w.alloc A).alloc B).alloc C).heap[w.heap.size+1+1]? =some C:=by
 have h:=bY ((w.alloc A).alloc B) C;rw[show((w.alloc A).alloc B).heap.size=w.heap.size+1+1 by simp] at h;exact h
theorem cints_nil(w:World):hJ w (.slice none 0 0) []:=⟨none,0,rfl,aAQ,aAQ,fun h=>absurd rfl h⟩
theorem ints_of{w:World}{b n:Nat}{l:List Int}{t:TypeId}(h:w.heap[b]? =some (.cells (l.map (Value.int .i64)).toArray t))(hn:l.length=n)(hl:l.length<=9223372036854775807):hJ w (.slice (some ⟨b,0,none⟩) n n) l:=by
 subst hn;refine⟨_,_,rfl,Nat.le_refl _,hl,fun _=>⟨b,0,rfl,fun i x hx=>⟨[.int .i64 x],rfl,rfl,fun j u hu=>?_⟩⟩⟩
 cases j with
 |zero=>
  simp at hu;subst hu;simp[World.cell?,h,hx]
 |succ j=>simp at hu
def fK(op a:Int)(k n:Nat)(nm:bA)(pr lc:Int)(b o cp:Nat)(r:List Int)(w:World):Prop:=
 Calls Tryz.prog 195 #[oBx28 nm pr lc (some ⟨b,o,none⟩) n cp,.int .i64 (k:Int)] w fun e w'=>∃x y z,e=.returned (.slice x y z)/\hJ w' (.slice x y z) r/\Below w.heap.size w w'/\∀k,(Value.slice x y z).ownBlock=some k->w.heap.size<=k
theorem behind_18(op a:Int)(k n:Nat)(nm s m:bA)(pr lc:Int)(an:Option Addr)(ln cn b o cp:Nat)(w:World)(hk:k<n)(hn:n<=1000000000000)(vG:op=18)(h0:w.cell? ⟨b,o+k*5,none⟩=some (.int .i64 op))(h1:w.cell? ⟨b,o+k*5+1,none⟩=some (.int .i64 a))(h2:w.cell? ⟨b,o+k*5+2,none⟩=some (.string s))(h3:w.cell? ⟨b,o+k*5+3,none⟩=some (.string m))(h4:w.cell? ⟨b,o+k*5+4,none⟩=some (.slice an ln cn)):
  fK op a k n nm pr lc b o cp [] w:=by
 unfold fK;have sE:=cT h0;subst vG;go_enter Tryz.func195,Tryz.ntmps195;go_wp2_with fail;go_ret;exact⟨_,_,_,rfl,cints_nil _,by repeat(first|exact Below.refl _ _|refine Below.drew ?_|refine Below.alloc ?_ aBA _|refine Below.setCell ?_ aBA _),fun k hk=>by simp[Value.ownBlock] at hk⟩
theorem behind_10(op a:Int)(k n:Nat)(nm s m:bA)(pr lc:Int)(an:Option Addr)(ln cn b o cp:Nat)(w:World)(hk:k<n)(hn:n<=1000000000000)(vG:op=10)(h0:w.cell? ⟨b,o+k*5,none⟩=some (.int .i64 op))(h1:w.cell? ⟨b,o+k*5+1,none⟩=some (.int .i64 a))(h2:w.cell? ⟨b,o+k*5+2,none⟩=some (.string s))(h3:w.cell? ⟨b,o+k*5+3,none⟩=some (.string m))(h4:w.cell? ⟨b,o+k*5+4,none⟩=some (.slice an ln cn)):
  fK op a k n nm pr lc b o cp [a] w:=by
 unfold fK;have sE:=cT h0;subst vG;go_enter Tryz.func195,Tryz.ntmps195;go_wp2_with fail;go_ret;exact⟨_,_,_,rfl,ints_of (l:=[a]) (t:=3) (alloc3 w _ _ _) rfl aAQ,by repeat(first|exact Below.refl _ _|refine Below.drew ?_|refine Below.alloc ?_ aBA _|refine Below.setCell ?_ aBA _),fun k hk=>aCP⟩
theorem behind_11(op a:Int)(k n:Nat)(nm s m:bA)(pr lc:Int)(an:Option Addr)(ln cn b o cp:Nat)(w:World)(hk:k<n)(hn:n<=1000000000000)(vG:op=11)(h0:w.cell? ⟨b,o+k*5,none⟩=some (.int .i64 op))(h1:w.cell? ⟨b,o+k*5+1,none⟩=some (.int .i64 a))(h2:w.cell? ⟨b,o+k*5+2,none⟩=some (.string s))(h3:w.cell? ⟨b,o+k*5+3,none⟩=some (.string m))(h4:w.cell? ⟨b,o+k*5+4,none⟩=some (.slice an ln cn)):
  fK op a k n nm pr lc b o cp [(k:Int)+1,a] w:=by
 unfold fK;have sE:=cT h0;subst vG;go_enter Tryz.func195,Tryz.ntmps195;go_wp2_with fail;go_ret;exact⟨_,_,_,rfl,ints_of (l:=[(k:Int)+1,a]) (t:=3) (alloc3 w _ _ _) rfl aAQ,by repeat(first|exact Below.refl _ _|refine Below.drew ?_|refine Below.alloc ?_ aBA _|refine Below.setCell ?_ aBA _),fun k hk=>aCP⟩
theorem behind_else(op a:Int)(k n:Nat)(nm s m:bA)(pr lc:Int)(an:Option Addr)(ln cn b o cp:Nat)(w:World)(hk:k<n)(hn:n<=1000000000000)(vG:op≠18/\op≠10/\op≠11)(h0:w.cell? ⟨b,o+k*5,none⟩=some (.int .i64 op))(h1:w.cell? ⟨b,o+k*5+1,none⟩=some (.int .i64 a))(h2:w.cell? ⟨b,o+k*5+2,none⟩=some (.string s))(h3:w.cell? ⟨b,o+k*5+3,none⟩=some (.string m))(h4:w.cell? ⟨b,o+k*5+4,none⟩=some (.slice an ln cn)):
  fK op a k n nm pr lc b o cp [(k:Int)+1] w:=by
 unfold fK;have sE:=cT h0;have g18:(op==18)=false:=by rw[Qa];exact vG.1
 have g10:(op==10)=false:=by rw[Qa];exact vG.2.1
 have g11:(op==11)=false:=by rw[Qa];exact vG.2.2
 clear vG;go_enter Tryz.func195,Tryz.ntmps195;go_wp2_with fail;go_ret;exact⟨_,_,_,rfl,ints_of (l:=[(k:Int)+1]) (t:=3) (alloc3 w _ _ _) rfl aAQ,by repeat(first|exact Below.refl _ _|refine Below.drew ?_|refine Below.alloc ?_ aBA _|refine Below.setCell ?_ aBA _),fun k hk=>aCP⟩
def mY(w:World)(g:Nat)(L:List Int):Prop:=w.heap[g]? =some (.cells (L.map (Value.int .i64)).toArray 3)
section
variable {w w':World} {g:Nat} {L:List Int}
theorem mY.lt(h:mY w g L):g<w.heap.size:=(Array.getElem?_eq_some_iff.1 h).1
theorem mY.later(h:mY w g L)(hb:Below w.heap.size w w'):mY w' g L:=aD hb h
theorem mY.at_(h:mY w g L){i:Nat}{q:Int}(hq:L[i]? =some q):w.cell? ⟨g,i,none⟩=some (.int .i64 q)/\w.frozen? ⟨g,i,none⟩=false:=by
 refine⟨?_,?_⟩<;>simp[World.cell?,World.frozen?,show w.heap[g]? =_ from h,hq]
theorem mY.get(h:mY w g L){i:Nat}(hi:i<L.length):w.cell? ⟨g,i,none⟩=some (.int .i64 (L.getD i 0))/\w.frozen? ⟨g,i,none⟩=false:=by
 refine h.at_ ?_;rw[Qc,List.getElem?_eq_getElem hi];rfl
theorem mY.set(h:mY w g L)(i:Nat)(q:Int):mY (w.setCell ⟨g,i,none⟩ (.int .i64 q)) g (L.set i q):=by
 unfold mY;rw[aO h];simp
theorem mY.off{S:Nat->Prop}(h:mY w g L)(ho:Off S w w')(hS:¬S g):mY w' g L:=ho.heap hS h
end
theorem made_int(n:Nat):madeCells #[.int .i64 0] n=((List.replicate n (0:Int)).map (Value.int .i64)).toArray:=by
 apply Array.toList_inj.1;rw[toList_madeCells_one];simp
theorem make_ints(n:Nat)(hn:n<=1000000000000)(w:World):(Instr.makeSlice 26 (.int .i64 (n:Int)) (.int .i64 (n:Int))).run Tryz.prog w=.ok (.slice (some ⟨w.heap.size,0,none⟩) n n) (w.alloc (.cells ((List.replicate n (0:Int)).map (Value.int .i64)).toArray 3)):=by
 obtain⟨i0,vA,tM,sY,sX⟩:=info_parts intInfo;have:=run_make (P:=Tryz.prog) w 26 3 i0 _ Tryz.underlying26 vA tM .i64 .i64 n n aAM (Int.le_refl _) (by rw[sX];omega) aAM;rw[this,sY,<-made_int,Nat.mul_one];rfl
def Que(B:Nat)(v:Value)(l:List Int)(w:World):Prop:=∃g off cap cur,v=.slice (some ⟨g,off,none⟩) l.length cap/\B<=g/\w.heap[g]? =some (.cells cur 3 (0,0))/\l.length<=cap/\cap<=maxLen/\off+cap<=cur.size/\∀i x,l[i]? =some x->cur[off+i]? =some (.int .i64 x)
section
variable {B:Nat} {v:Value} {l:List Int} {w w':World}
theorem Que.first{k:Int}{b:Nat}(hb:w.heap[b]? =some (iN k))(hB:B<=b):Que B (.slice (some ⟨b,0,none⟩) 1 1) [k] w:=
 ⟨b,0,1,_,rfl,hB,hb,Nat.le_refl _,aAO,aAQ,fun i x hx=>by
  cases i with
  |zero=>simp at hx;subst hx;rfl
  |succ i=>simp at hx⟩
theorem Que.off{S:Nat->Prop}(h:Que B v l w)(ho:Off S w w')(hS:∀b,v.ownBlock=some b->¬S b):Que B v l w':=by
 obtain⟨g,off,cap,cur,rfl,h1,h2,h3⟩:=h;exact⟨g,off,cap,cur,rfl,h1,ho.heap (hS g rfl) h2,h3⟩
theorem Que.later(h:Que B v l w)(hb:Below w.heap.size w w'):Que B v l w':=h.off (Ba (S:=fun _=>False) hb) (fun _ _ h=>h)
theorem Que.own(h:Que B v l w):∀b,v.ownBlock=some b->B<=b/\b<w.heap.size:=by
 obtain⟨g,off,cap,cur,rfl,h1,h2,h3⟩:=h;intro b hb;have e:g=b:=aB9;subst e;exact⟨h1,(Array.getElem?_eq_some_iff.1 h2).1⟩
theorem Que.pop{k:Int}(h:Que B v (k::l) w):∃g off cap,v=.slice (some ⟨g,off,none⟩) (l.length+1) (cap+1)/\l.length<=cap/\cap<=maxLen/\w.cell? ⟨g,off,none⟩=some (.int .i64 k)/\Que B (.slice (some ⟨g,off+1,none⟩) l.length cap) l w:=by
 obtain⟨g,off,cap,cur,rfl,h1,h2,h3,h4,h5,h6⟩:=h;simp only[List.length_cons] at h3;obtain⟨cap',rfl⟩:∃c,cap=c+1:=⟨cap-1,aAM⟩;refine⟨g,off,cap',rfl,aAM,aAM,?_,g,off+1,cap',cur,rfl,h1,h2,aAM,aAM,aAM,fun i x hx=>?_⟩
 ·have:=h6 0 k rfl;simp only[Nat.add_zero] at this;simp[World.cell?,h2,this]
 have:=h6 (i+1) x (by simpa using hx);rw[show off+1+i=off+(i+1) by omega];exact this
end
theorem qD{ops:Array Oper}{rest:List Oper}{o:Oper}{a:Act}{Q:Exit->Act->World->Prop}{B:Nat}{v:Value}{l:List Int}{w:World}{k:Int}{nb:Nat}(hg:o.guard=none)(s x:Operand)
  (vG:o.op=Op.call {callee:=Callee.builtin Builtin.append,args:=#[s,x],argTypes:=#[26,26]}) (hq:Que B v l w) (hs:a.eval s=v) (hx:a.eval x=.slice (some ⟨nb,0,none⟩) 1 1)
  (AX:w.heap[nb]? =some (iN k)) (hlen:l.length<=1000000000000) (hB:B<=w.heap.size)
  (hK:∀v' w',Que B v' (l++[k]) w'->Off (fun b=>v.ownBlock=some b) w w'->(∀b,v'.ownBlock=some b->v.ownBlock=some b\/w.heap.size<=b)->wpList Tryz.prog ops Q rest (a.put o.dst v') w'):wpList Tryz.prog ops Q (o::rest) a w:=by
 obtain⟨i0,vA,tM,sY,sX⟩:=info_parts intInfo;obtain⟨g,off,cap,cur,rfl,h1,h2,h3,h4,h5,h6⟩:=hq
 have hcur:∀j u,(l.map (Value.int .i64))[j]? =some u->w.cell? ⟨g,off+j,none⟩=some u:=fun j u hu=>by
  rw[List.getElem?_map] at hu
  cases hl:l[j]? with
  |none=>rw[hl] at hu;cases hu
  |some y=>rw[hl] at hu;cases hu;simp[World.cell?,h2,h6 j y hl]
 refine wpList_append_arg w hg s x 26 vG 3 i0 _ 1 8 Tryz.underlying26 vA tM sY sX rfl aAO g off l.length cap (l.map (Value.int .i64)) hs aAQ hcur ⟨nb,0,none⟩ 1 1 [.int .i64 k] hx rfl (World.news_of_block (cs:=#[.int .i64 k]) (t:=3) (fr:=(0,0)) AX) aA1
  (fun hr j hj=>?_) aAY aAM (fun hr=>?_) (fun hr v' w' sB sA=>?_)
 ·have VE:j=0:=by simpa using hj
  subst VE;have sE:off+l.length*1+0<cur.size:=aAM;have:=bx h2 (off+l.length*1+0) (u:=cur[off+l.length*1+0]) (Array.getElem?_eq_getElem sE);exact⟨by rw[this.1];rfl,this.2⟩
 ·refine hK _ _ ⟨g,off,cap,cur.setIfInBounds (off+l.length) (.int .i64 k),aAQ,h1,?_,by simpa using hr,h4,by simpa using h5,fun i y hy=>?_⟩ ?_ (fun b hb=>.inl hb)
  ·rw[Nat.mul_one];exact aO h2 _
  ·by_cases hi:i<l.length
   ·rw[List.getElem?_append_left hi] at hy;rw[Array.getElem?_setIfInBounds_ne aAM];exact h6 i y hy
   have JI:i=l.length:=by
    have:=(Yb.1 hy).1;simp at this;omega
   subst JI;simp at hy;subst hy;rw[Array.getElem?_setIfInBounds_self_of_lt aAM]
  exact Off.setCell (S:=fun b=>(Value.slice (some ⟨g,off,none⟩) l.length cap).ownBlock=some b) w (o:=off+l.length*1) rfl
 obtain⟨yQ,zR⟩:=sB;rcases zR with⟨-,h0⟩|⟨g',cap',cur',rfl,hge,KR,r1,r2,r3,r4⟩
 ·omega
 refine hK _ _ ⟨g',0,cap',cur',aAQ,Nat.le_trans hB hge,KR,by simpa using r1,r2,aAM,fun i y hy=>?_⟩ (Ba ⟨sA.os,sA.tape,sA.output,sA.size,fun k hk=>sA.block k hk aAQ⟩) (fun b hb=>.inr ?_)
 ·have hi:i<l.length+1:=by have:=(Yb.1 hy).1;simpa using this
  have h7:(l++[k]).map (Value.int .i64)=cur'.toList.take ((l.length+1)*1):=by rw[r4];simp
  have h8:=congrArg (fun t:List Value=>t[i]?) h7;simp only[List.getElem?_map,hy,List.getElem?_take,if_pos (show i<(l.length+1)*1 by omega)] at h8;rw[Nat.zero_add];simpa using h8.symm
 have e:g'=b:=aB9;subst e;exact hge
end Go.Proofs.YtacgopankhpnbaaGreatDoor
namespace Go.Proofs.YtacgopankhpnbaaGreatDoor
open Go.RowKit
theorem formed_none(c:Cod)(op a:Int)(s m:bA)(names:List bA)(ac:Option Addr)(cc:Nat)(an:Option Addr)(cn:Nat)(w:World)(vG:¬(0<=op/\op<20)):
  cF c ⟨op,a,s,m,names⟩ (.slice ac c.code.length cc) (.slice an names.length cn) w:=by
 unfold cF;dsimp only;have e0:op≠0:=aAM;have e1:op≠1:=aAM;have e2:op≠2:=aAM;have e3:op≠3:=aAM;have e4:op≠4:=aAM;have e5:op≠5:=aAM;have e6:op≠6:=aAM;have e7:op≠7:=aAM;have e8:op≠8:=aAM;have e9:op≠9:=aAM;have e10:op≠10:=aAM;have e11:op≠11:=aAM;have e12:op≠12:=aAM;have e13:op≠13:=aAM;have e14:op≠14:=aAM;have e15:op≠15:=aAM;have e16:op≠16:=aAM;have e17:op≠17:=aAM;have RQ:op≠18:=aAM;have e19:op≠19:=aAM;have HR:Hid (cE c ⟨op,a,s,m,names⟩=false):=zh (by simp[cE,e0,e1,e2,e3,e4,e5,e6,e7,e8,e9,e10,e11,e12,e13,e14,e15,e16,e17,RQ,e19]);have g0:(op==0)=false:=by rw[Qa];exact e0
 have g1:(op==1)=false:=by rw[Qa];exact e1
 have g2:(op==2)=false:=by rw[Qa];exact e2
 have g3:(op==3)=false:=by rw[Qa];exact e3
 have g4:(op==4)=false:=by rw[Qa];exact e4
 have g5:(op==5)=false:=by rw[Qa];exact e5
 have g6:(op==6)=false:=by rw[Qa];exact e6
 have g7:(op==7)=false:=by rw[Qa];exact e7
 have g8:(op==8)=false:=by rw[Qa];exact e8
 have g9:(op==9)=false:=by rw[Qa];exact e9
 have g10:(op==10)=false:=by rw[Qa];exact e10
 have g11:(op==11)=false:=by rw[Qa];exact e11
 have g12:(op==12)=false:=by rw[Qa];exact e12
 have g13:(op==13)=false:=by rw[Qa];exact e13
 have g14:(op==14)=false:=by rw[Qa];exact e14
 have g15:(op==15)=false:=by rw[Qa];exact e15
 have g16:(op==16)=false:=by rw[Qa];exact e16
 have g17:(op==17)=false:=by rw[Qa];exact e17
 have g18:(op==18)=false:=by rw[Qa];exact RQ
 have g19:(op==19)=false:=by rw[Qa];exact e19
 clear vG e0 e1 e2 e3 e4 e5 e6 e7 e8 e9 e10 e11 e12 e13 e14 e15 e16 e17 RQ e19;go_enter Tryz.func193,Tryz.ntmps193;go_wp2_with fail;go_quiet(fail)
 go_wp2_with fail;exact YE
theorem formed_any(c:Cod)(i:Ins)(ac:Option Addr)(cc:Nat)(an:Option Addr)(cn:Nat)(N:Nat->Prop)(w:World)(hg:dL w)(hs:i.s.size<=8000)(hm:i.m.size<=8000)(hn:aL 1 cZ N w (.slice an i.names.length cn) i.names):
  cF c i (.slice ac c.code.length cc) (.slice an i.names.length cn) w:=by
 obtain⟨op,a,s,m,names⟩:=i;dsimp only at hs hm hn ⊢;by_cases h:0<=op/\op<20
 ·have hc:op=0\/op=1\/op=2\/op=3\/op=4\/op=5\/op=6\/op=7\/op=8\/op=9\/op=10\/op=11\/op=12\/op=13\/op=14\/op=15\/op=16\/op=17\/op=18\/op=19:=aAM;rcases hc with rfl|rfl|rfl|rfl|rfl|rfl|rfl|rfl|rfl|rfl|rfl|rfl|rfl|rfl|rfl|rfl|rfl|rfl|rfl|rfl
  ·exact formed_0 c a s m names ac cc an cn N w hg hs hm hn
  ·exact formed_1 c a s m names ac cc an cn N w hg hs hm hn
  ·exact formed_loc 2 aAQ c a s m names ac cc an cn N w hg hs hm hn
  ·exact formed_loc 3 aAQ c a s m names ac cc an cn N w hg hs hm hn
  ·exact jE 4 aAQ c a s m names ac cc an cn N w hg hs hm hn
  ·exact jE 5 aAQ c a s m names ac cc an cn N w hg hs hm hn
  ·exact jE 6 aAQ c a s m names ac cc an cn N w hg hs hm hn
  ·exact jE 7 aAQ c a s m names ac cc an cn N w hg hs hm hn
  ·exact jE 8 aAQ c a s m names ac cc an cn N w hg hs hm hn
  ·exact jE 9 aAQ c a s m names ac cc an cn N w hg hs hm hn
  ·exact formed_code 10 aAQ c a s m names ac cc an cn N w hg hs hm hn
  ·exact formed_code 11 aAQ c a s m names ac cc an cn N w hg hs hm hn
  ·exact formed_12 c a s m names ac cc an cn N w hg hs hm hn
  ·exact formed_13 c a s m names ac cc an cn N w hg hs hm hn
  ·exact formed_14 c a s m names ac cc an cn N w hg hs hm hn
  ·exact formed_15 c a s m names ac cc an cn N w hg hs hm hn
  ·exact formed_eight 16 aAQ c a s m names ac cc an cn N w hg hs hm hn
  ·exact formed_eight 17 aAQ c a s m names ac cc an cn N w hg hs hm hn
  ·exact jE 18 aAQ c a s m names ac cc an cn N w hg hs hm hn
  exact jE 19 aAQ c a s m names ac cc an cn N w hg hs hm hn
 exact formed_none c op a s m names ac cc an cn w h
theorem behind_any(i:Ins)(k n:Nat)(nm:bA)(pr lc:Int)(an:Option Addr)(ln cn b o cp:Nat)(w:World)(hk:k<n)(hn:n<=1000000000000)(h0:w.cell? ⟨b,o+k*5,none⟩=some (.int .i64 i.op))(h1:w.cell? ⟨b,o+k*5+1,none⟩=some (.int .i64 i.a))(h2:w.cell? ⟨b,o+k*5+2,none⟩=some (.string i.s))(h3:w.cell? ⟨b,o+k*5+3,none⟩=some (.string i.m))(h4:w.cell? ⟨b,o+k*5+4,none⟩=some (.slice an ln cn)):
  fK i.op i.a k n nm pr lc b o cp (lL i (k:Int)) w:=by
 unfold lL;split
 ·exact behind_18 i.op i.a k n nm i.s i.m pr lc an ln cn b o cp w hk hn (by assumption) h0 h1 h2 h3 h4
 split
 ·exact behind_10 i.op i.a k n nm i.s i.m pr lc an ln cn b o cp w hk hn (by assumption) h0 h1 h2 h3 h4
 split
 ·exact behind_11 i.op i.a k n nm i.s i.m pr lc an ln cn b o cp w hk hn (by assumption) h0 h1 h2 h3 h4
 exact behind_else i.op i.a k n nm i.s i.m pr lc an ln cn b o cp w hk hn ⟨by assumption,by assumption,by assumption⟩ h0 h1 h2 h3 h4
def arrOf(w:World)(g:Nat):List Int:=match w.heap[g]? with
 |some (.cells cs _ _)=>cs.toList.map intOf
 |_=>[]
theorem mY.arrOf{w:World}{g:Nat}{L:List Int}(h:mY w g L):arrOf w g=L:=by
 unfold Proofs.YtacgopankhpnbaaGreatDoor.arrOf;rw[show w.heap[g]? =_ from h];show((L.map (Value.int .i64)).toArray.toList.map intOf)=L;rw[List.map_map]
 conv=>rhs;rw[<-List.map_id L]
 apply List.map_congr_left;intro x _;rfl
def lenOf:Value->Nat
 | .slice _ n _=>n
 |_=>0
theorem mY.some_at{w:World}{g n:Nat}{L:List Int}(h:mY w g L){i:Nat}(hl:L.length=n)(hi:i<n):∃u,w.cell? ⟨g,i,none⟩=some u/\w.frozen? ⟨g,i,none⟩=false:=⟨_,h.get aAM⟩
theorem ints_each{w:World}{a:Option Addr}{y z:Nat}{l:List Int}(h:hJ w (.slice a y z) l):y=l.length/\∀i x,l[i]? =some x->∃b o,a=some ⟨b,o,none⟩/\w.cell? ⟨b,o+i,none⟩=some (.int .i64 x):=by
 rcases h.cases with⟨rfl,a',c,e⟩|⟨b,o,c,e,-,-,-,-,hc⟩
 ·cases e;exact⟨rfl,fun i x hx=>by simp at hx⟩
 cases e;exact⟨rfl,fun i x hx=>⟨b,o,rfl,hc i x hx⟩⟩
structure oC (n:Nat) (out todo:List Int):Prop where
 len:out.length=n
 hi:∀x∈out,x+iP out<=n
 at_:∀k∈todo,0<=k/\k<n
 few:iP out+todo.length<=n
theorem negs_rep(n:Nat):iP (List.replicate n (-1))=n:=by
 unfold iP;rw[List.countP_replicate];simp
theorem negs_first{n:Nat}(hn:0<n):iP ((List.replicate n (-1:Int)).set 0 0)+1=n:=by
 have h:=negs_set (out:=List.replicate n (-1:Int)) (k:=0) (h:=0) (by simpa using hn) (by
  rw[Qc,List.getElem?_replicate,if_pos hn];decide) aAO
 rw[negs_rep] at h;exact h
theorem oC.first{n:Nat}(hn:0<n):oC n ((List.replicate n (-1:Int)).set 0 0) [0]:=by
 refine⟨aAQ,fun x hx=>?_,fun k hk=>?_,Nat.le_of_eq (negs_first hn)⟩
 ·have h1:=negs_first hn;rcases List.mem_or_eq_of_mem_set hx with h|rfl
  ·have:=(List.mem_replicate.1 h).2;subst this;omega
  omega
 simp at hk;subst hk;omega
theorem oC.get{n:Nat}{out todo:List Int}(h:oC n out todo){k:Nat}(hk:k<n):out.getD k 0+iP out<=n:=by
 refine h.hi _ ?_;rw[Qc,List.getElem?_eq_getElem (by rw[h.len];exact hk)];exact List.getElem_mem _
theorem oC.tail{n:Nat}{out todo:List Int}{k:Int}(h:oC n out (k::todo)):oC n out todo:=⟨h.len,h.hi,fun x hx=>h.at_ x (by simp[hx]),by have:=h.few;rw[List.length_cons] at this;omega⟩
theorem oC.new{n:Nat}{out todo:List Int}{k:Nat}{q:Int}{x:Int}(h:oC n out todo)(hk:k<n)(vP:out.getD k 0<0)(h0:0<=q)(hx:q<=x+1)(hxo:x+iP out<=n):oC n (out.set k q) (todo++[(k:Int)]):=by
 have h1:=negs_set (h:=q) (by rw[h.len];exact hk) vP h0;refine⟨by rw[List.length_set];exact h.len,fun y hy=>?_,fun y hy=>?_,by have:=h.few;rw[List.length_append,List.length_singleton];omega⟩
 ·rcases List.mem_or_eq_of_mem_set hy with h2|rfl
  ·have:=h.hi y h2;omega
  omega
 rcases List.mem_append.1 hy with h2|h2
 ·exact h.at_ y h2
 simp at h2;subst h2;omega
def qK(l:List Ins)(f:Nat):Option (List Int×List Int)->Bool
 |none=>false
 |some p=>(eR l f p.1 p.2).isSome
theorem heights_bad{l:List Ins}{f:Nat}{out todo:List Int}{k:Nat}(h:out.getD k 0<(lB (pM l k)).1\/((pM l k).op=18/\out.getD k 0≠1)):(eR l (f+1) out ((k:Int)::todo)).isSome=false:=by
 rw[eR,if_pos aBn];rfl
theorem heights_ok{l:List Ins}{f:Nat}{out todo:List Int}{k:Nat}(h:¬(out.getD k 0<(lB (pM l k)).1\/((pM l k).op=18/\out.getD k 0≠1))):
  (eR l (f+1) out ((k:Int)::todo)).isSome=qK l f (iL l.length (out.getD k 0-(lB (pM l k)).1+(lB (pM l k)).2) (lL (pM l k) k) out todo):=by
 rw[eR,if_neg aBn];simp only[Int.toNat_natCast];unfold qK;split<;>rename_i e<;>rw[e]<;>rfl
theorem insAt_of{l:List Ins}{k:Nat}{x:Ins}(h:l[k]? =some x):pM l k=x:=by
 unfold pM;rw[Qc,h];rfl
theorem rep_set(q n:Nat)(h:q<n):(List.replicate q (-1:Int)++List.replicate (n-q) 0).set q (-1)=List.replicate (q+1) (-1)++List.replicate (n-(q+1)) 0:=by
 rw[List.set_append,if_neg aAQ,List.length_replicate,Nat.sub_self,show n-q=(n-(q+1))+1 by omega,List.replicate_succ,List.set_cons_zero,List.replicate_succ',List.append_assoc];rfl
theorem rightC_main{c:Cod}(h1:aR c.name=true)(h2:c.params<=6)(h3:c.params<=c.locals)(h4:c.code.length≠0)(h5:∀(k:Nat)(x:Ins),c.code[k]? =some x->cE c x=true):
  dT c=(eR c.code (c.code.length+1) ((List.replicate c.code.length (-1:Int)).set 0 0) [0]).isSome:=by
 unfold dT;rw[h1,decide_eq_true h2,decide_eq_true h3,decide_eq_true h4,show c.code.all (cE c)=true from ?_]
 ·simp
 rw[List.all_eq_true];intro x hx;obtain⟨k,hk⟩:=List.getElem?_of_mem hx;exact h5 k x hk
theorem rightC_form{c:Cod}{k:Nat}{x:Ins}(hx:c.code[k]? =some x)(h:cE c x=false):dT c=false:=by
 unfold dT;rw[show c.code.all (cE c)=false from ?_]
 ·simp
 rw[<-Bool.not_eq_true,List.all_eq_true];intro hh;have:=hh x (List.mem_of_getElem? hx);rw[h] at this;cases this
theorem XY{p:Prop}(h:p:=by
 clear F7 hy CE;by_cases J8:y=(c.code.length:Int)
 ·subst J8;have HF:Hid (dT c=false):=zh (by rw[AB.out,lookAt_full];rfl);have e0:((c.code.length:Int)==(c.code.length:Int))=true:=aAQ;clear AB;go_wp2_with fail;go_ret2;rw[HF.out];exact⟨⟨_,rfl⟩,wX.out _ GB.out⟩
 obtain⟨ky,rfl⟩:∃ky:Nat,y=(ky:Int):=⟨y.toNat,aAM⟩;have VC:ky<c.code.length:=aAM;have e0:((ky:Int)==(c.code.length:Int))=false:=by rw[Qa];exact J8
 obtain⟨z2,z3⟩:=CB.out.get (i:=ky) (by rw[C1.out.len];exact VC);have tN:=zh (fun h2=>AB.out.trans (congrArg (qK c.code _) (lookAt_new (n:=c.code.length) (h:=Hh-nd+lv) (k:=(ky:Int)) (r:=r.drop (j+1)) (out:=out') (todo:=todo') J8 h2)));have xB:=zh (fun h2 h3=>AB.out.trans (congrArg (qK c.code _) (lookAt_bad (n:=c.code.length) (h:=Hh-nd+lv) (k:=(ky:Int)) (r:=r.drop (j+1)) (out:=out') (todo:=todo') J8 h2 h3)));have JR:=zh (fun h2 h3=>AB.out.trans (congrArg (qK c.code _) (lookAt_same (n:=c.code.length) (h:=Hh-nd+lv) (k:=(ky:Int)) (r:=r.drop (j+1)) (out:=out') (todo:=todo') J8 h2 h3)));rw[Int.toNat_natCast] at tN xB JR;have EJ:=zh (fun(h2:out'.getD ky 0<0)=>C1.out.new (q:=Hh-nd+lv) (x:=Hh) VC h2 aAM aAM (by have h:=C1.out.get CP;rw[LA.out] at h;exact h));have EG:=zh (fun(h2:out'.getD ky 0<0)=>negs_set (h:=Hh-nd+lv) (by rw[C1.out.len];exact VC) h2 aAM)
 have EI:=zh (fun(h2:out'.getD ky 0<0)=>(show(out'.set ky (Hh-nd+lv)).getD kk 0=Hh by
  have sC:ky≠kk:=fun e=>by rw[e,LA.out] at h2;omega
  rw[Qc,List.getElem?_set_ne sC,<-Qc]
  exact LA.out))
 clear AB J8;generalize hD:out'.getD ky 0=D at *;have HD:=zh hD;clear hD;by_cases vP:D<0
 ·have UG:=zh (tN.out vP);have BJ:=zh (EJ.out vP);have IV:=zh (EG.out vP);have HKk:=zh (EI.out vP);have uK:Off (fun k=>k=w.heap.size+1) wy ((wy.setCell ⟨w.heap.size+1,ky,none⟩ (.int .i64 (Hh-nd+lv))).alloc (iN (ky:Int))):=(Off.setCell (S:=fun k=>k=w.heap.size+1) wy rfl).trans (Ba (aA _ _));have HO8:=zh uK;have UQ:=zh ((CB.out.set ky (Hh-nd+lv)).later (aA _ (iN (ky:Int))));have W5:=zh (F9.out.off uK (fun k hk e=>by have h9:=(F9.out.own k hk).1;have e2:k=w.heap.size+1:=e;omega))
  have AX:((wy.setCell ⟨w.heap.size+1,ky,none⟩ (.int .i64 (Hh-nd+lv))).alloc (iN (ky:Int))).heap[wy.heap.size]? =some (iN (ky:Int)):=by
   have h:=bY (wy.setCell ⟨w.heap.size+1,ky,none⟩ (.int .i64 (Hh-nd+lv))) (iN (ky:Int));simpa using h
  have HNb:=zh AX;have hlq:todo'.length<=1000000000000:=by have h1:=C1.out.few;omega
  clear AX uK tN xB JR EJ EG EI;go_wp2_with(at_builtin;refine qD rfl _ _ rfl W5.out aBm aBm HNb.out hlq aA0 ?_);intro v9 w9 MU wN tE
  have WV:Hid (∀i y,r[i]? =some y->∃RS o2',some (⟨b2,o2,none⟩:Addr)=some ⟨RS,o2',none⟩/\w.heap.size+1<RS/\v9.ownBlock≠some RS/\w9.cell? ⟨RS,o2'+i,none⟩=some (.int .i64 y)):=zh (fun i y hy=>by
   obtain⟨b3,o3,e,h1,h2,h3⟩:=EE.out i y hy;cases e;have hlt3:=cT h3;refine⟨b2,o2,rfl,h1,fun e=>?_,wN.cell h2 (HO8.out.cell (fun e=>by have e2:b2=w.heap.size+1:=e;omega) h3)⟩;rcases tE b2 e with h4|h4
   ·exact h2 h4
   first|omega|(simp at h4;omega))
  have HA9:=zh (UQ.out.off wN (fun e=>by have h9:=(W5.out.own _ e).1;omega));have W8:=zh ((GB.out.trans (HO8.out.mono fun k hk=>by have e2:k=w.heap.size+1:=hk;show w.heap.size<k;omega)).trans (wN.mono fun k hk=>by have h9:=(W5.out.own _ hk).1;show w.heap.size<k;omega));have HQ9:=zh MU;clear MU wN tE;go_wp2_with fail;go_roundw;case rel=>exact⟨j+1,_,_,aAM,aAV,HA9,HQ9,BJ,HKk,zh (by have h1:=IV.out;have h2:=A7.out;rw[List.length_append,List.length_singleton];omega),W8,WV,UG⟩
  case measure=>simp[intOf];omega
 by_cases KV:D=Hh-nd+lv
 ·have GV:=zh (JR.out vP (fun h=>h KV));have e2:(D==Hh-nd+lv)=true:=by rw[KV];simp
  clear tN xB JR EJ EG EI KV;go_wp2_with fail;go_quiet(fail)
  go_wp2_with fail;go_roundw;case rel=>exact⟨j+1,_,_,aAM,aAV,zh (CB.out.later (aN (Below.refl _ _) _)),zh (F9.out.later (aN (Below.refl _ _) _)),C1,LA,A7,zh (GB.out.trans (Ba (aN (Below.refl _ _) _))),zh (fun i y hy=>by obtain⟨b3,o3,e,h1,h2,h3⟩:=EE.out i y hy;exact⟨b3,o3,e,h1,h2,h3⟩),GV⟩
  case measure=>simp[intOf];omega
 have HF:Hid (dT c=false):=zh (xB.out vP KV);have e2:(D==Hh-nd+lv)=false:=by rw[Qa];exact KV
 clear tN xB JR EJ EG EI KV;go_wp2_with fail;go_quiet(fail)
 go_wp2_with fail;go_ret2;rw[HF.out]
 exact⟨⟨_,rfl⟩,aN (wX.out _ GB.out) _⟩):p:=h
theorem YA{p:Prop}(h:p:=by
 go_wp2_with(go_at_call 194;refine K8.out.mono ?_;rintro e w5 ⟨rfl,hb5⟩;have xC:=zh (LE.out.later hb5);have A6:=zh (BI.out.later hb5);have vT:=zh (GA.out.trans (Ba hb5));obtain⟨t0,t1,t2,t3⟩:=bx4 (vT.out.heap (Nat.not_lt.2 (Nat.le_refl _)) uS.out);have z0:=(xC.out.get (i:=kk) aB5).1;rw[L0.out] at z0;obtain⟨c0,c1,c2,c3,c4⟩:=zZ.out _ vT.out)
 all_goals first|(go_ret2;rw[HF.out];exact⟨⟨_,rfl⟩,wX.out _ vT.out⟩)|trace_state):p:=h
theorem YL{p:Prop}(h:p:=by
 have U5:lenOf u7=todo'.length:=by obtain⟨_,_,_,_,e,-⟩:=F9.out;rw[e];rfl
 clear zJ F7;go_wp2_with fail;go_roundw;case rel=>exact⟨_,_,CB,F9,C1,GB,PS⟩
 case measure=>
  have h1:=CB.out.arrOf;have h2:=A7.out;have h3:=HMz.out;rw[h1,U5,h3];simp only[lenOf]
  omega):p:=h
theorem Y3{p:Prop}(h:p:=by
 go_enter Tryz.func146,Tryz.ntmps146;go_wp2_with(go_at_call 147;refine HN.out.mono ?_;rintro e w5 ⟨rfl,rfl⟩);go_ret2
 exact⟨⟨_,rfl⟩,HB.out⟩):p:=h
theorem Que.pop0{B g off:Nat}{k:Int}{l:List Int}{w:World}(h:Que B (.slice (some ⟨g,off,none⟩) (l.length+1) (0+1)) (k::l) w):Que B (.slice (some ⟨g,off,none⟩) l.length 0) l w:=by
 obtain⟨g',off',cap',cur,hv,h1,h2,h3,h4,h5,h6⟩:=h;cases hv;have hl:l=[]:=List.eq_nil_of_length_eq_zero (by simp only[List.length_cons] at h3;omega);subst hl;exact⟨g,off,0,cur,rfl,h1,h2,Nat.le_refl _,Nat.zero_le _,aAM,fun i x hx=>by simp at hx⟩
theorem heights_refuses(nm:bA)(pr lc n:Nat)(ac:Option Addr)(cc:Nat)(w:World)(hg:dL w)(hs:nm.size<=8000)(h:aR nm=false\/6<pr\/lc<pr\/n=0):
  Calls Tryz.prog 146 #[oBx28 nm (pr:Int) (lc:Int) ac n cc] w fun e w'=>(∃v,e=.returned (.tuple #[v,.bool false]))/\Below w.heap.size w w':=by
 have HB:=zh (aA w (gY nm (pr:Int) (lc:Int) ac n cc));have HN:=zh (eN nm (w.alloc (gY nm (pr:Int) (lc:Int) ac n cc)) aAM (hg.later HB.out));have p0:¬(pr:Int)<0:=aAM;clear hg
 cases tT:aR nm with
 |false=>
  rw[tT] at HN;clear tT h;exact Y3
 |true=>
  rw[tT] at HN;rw[tT] at h;clear tT;by_cases h6:6<pr
  ·have q6:(6:Int)<(pr:Int):=aAM;clear h h6;exact Y3
  have q6:¬(6:Int)<(pr:Int):=aAM;by_cases hl:lc<pr
  ·have ql:(lc:Int)<(pr:Int):=aAM;clear h h6 hl;exact Y3
  have ql:¬(lc:Int)<(pr:Int):=aAM
  have h0:n=0:=by
   rcases h with h|h|h|h
   ·cases h
   ·omega
   ·omega
   exact h
  subst h0;clear h h6 hl;exact Y3
theorem heights_any(c:Cod)(N:Nat->Prop)(vc:Value)(w:World)(hg:dL w)(hs:c.name.size<=8000)(hr:aL 5 pQ N w vc c.code)(hlen:c.code.length<=100000000000):
  Calls Tryz.prog 146 #[.agg #[.string c.name,.int .i64 (c.params:Int),.int .i64 (c.locals:Int),vc]] w fun e w'=>(∃v,e=.returned (.tuple #[v,.bool (dT c)]))/\Below w.heap.size w w':=by
 by_cases tL:aR c.name=false\/6<c.params\/c.locals<c.params\/c.code.length=0
 ·obtain⟨ac,cc,rfl,-⟩:=hr.at
  have hF:dT c=false:=by
   unfold dT;rcases tL with h|h|h|h
   ·rw[h];rfl
   ·rw[show decide (c.params<=6)=false from Qb aAM];simp
   ·rw[show decide (c.params<=c.locals)=false from Qb aAM];simp
   rw[show decide (c.code.length≠0)=false from Qb aAM];simp
  rw[hF];exact heights_refuses c.name c.params c.locals c.code.length ac cc w hg hs tL
 simp only[not_or,Bool.not_eq_false] at tL;obtain⟨tT,hp6,hlp,JE⟩:=tL;rcases hr.cases aAO with⟨h0,-⟩|⟨b,o,cp,rfl,h0,h1,h2,hb,hN,hc⟩
 ·rw[h0] at JE;exact absurd rfl JE
 have HC:=zh hc;have uS:=zh (bY w (gY c.name (c.params:Int) (c.locals:Int) (some ⟨b,o,none⟩) c.code.length cp));have sH:=zh (aA w (gY c.name (c.params:Int) (c.locals:Int) (some ⟨b,o,none⟩) c.code.length cp));have DL:=zh (eN c.name (w.alloc (gY c.name (c.params:Int) (c.locals:Int) (some ⟨b,o,none⟩) c.code.length cp)) aAM (hg.later sH.out));rw[tT] at DL;have h11:=hg.big;have HGl:=zh (fun W(ho:Off (fun k=>w.heap.size<k) (w.alloc (gY c.name (c.params:Int) (c.locals:Int) (some ⟨b,o,none⟩) c.code.length cp)) W)=>(hg.later sH.out).off ho (fun k hk=>Nat.not_lt.2 aAM));have HM:=zh (fun W(ho:Off (fun k=>w.heap.size<k) (w.alloc (gY c.name (c.params:Int) (c.locals:Int) (some ⟨b,o,none⟩) c.code.length cp)) W)=>(show bU N w N W from fun b' tO sE=>⟨tO,fun _ _ h=>ho.cell (Nat.not_lt.2 aAM) (aC sH.out h)⟩));have wX:=zh (fun W(ho:Off (fun k=>w.heap.size<k) (w.alloc (gY c.name (c.params:Int) (c.locals:Int) (some ⟨b,o,none⟩) c.code.length cp)) W)=>Off.below sH.out ho (fun k hk=>Nat.le_of_lt hk) sH.out.size);have HRM:=zh (fun(h5:∀(k:Nat)(x:Ins),c.code[k]? =some x->cE c x=true)=>rightC_main tT aAM aAM JE h5);have p0:¬(c.params:Int)<0:=aAM;have q6:¬(6:Int)<(c.params:Int):=aAM;have ql:¬(c.locals:Int)<(c.params:Int):=aAM;have qn:((c.code.length:Int)==0)=false:=aAW;obtain⟨A0,BW⟩:∃A,A=((List.replicate c.code.length (0:Int)).map (Value.int .i64)).toArray:=⟨_,rfl⟩;have M5:=make_ints c.code.length aAM;rw[<-BW] at M5;have vE:=zh BW;have xG:(w.alloc (gY c.name (c.params:Int) (c.locals:Int) (some ⟨b,o,none⟩) c.code.length cp)).heap.size=w.heap.size+1:=aAQ
 have HAr:Hid (mY ((w.alloc (gY c.name (c.params:Int) (c.locals:Int) (some ⟨b,o,none⟩) c.code.length cp)).alloc (.cells A0 3)) (w.heap.size+1) (List.replicate c.code.length 0)):=zh (by
  unfold mY;rw[<-vE.out]
  simpa using bY (w.alloc (gY c.name (c.params:Int) (c.locals:Int) (some ⟨b,o,none⟩) c.code.length cp)) (.cells A0 3))
 clear BW hc hg hr tT hp6 JE;go_enter Tryz.func146,Tryz.ntmps146;go_wp2_with(go_at_call 147;refine DL.out.mono ?_;rintro e w5 ⟨rfl,rfl⟩);clear M5 p0 q6 ql qn;go_loopw [47] (fun iv wr=>∃q:Nat,q<=c.code.length/\iv=.int .i64 (q:Int)/\Hid (mY wr (w.heap.size+1) (List.replicate q (-1)++List.replicate (c.code.length-q) 0))/\Hid (Off (fun k=>w.heap.size<k) (w.alloc (gY c.name (c.params:Int) (c.locals:Int) (some ⟨b,o,none⟩) c.code.length cp)) wr)/\Hid (∀(k:Nat)(x:Ins),k<q->c.code[k]? =some x->cE c x=true)) (fun iv _=>c.code.length-(intOf iv).toNat)
 case atStart=>exact⟨0,Nat.zero_le _,rfl,HAr,zh (Ba (aA _ _)),zh (fun k x hk=>aAM)⟩
 case round=>
  obtain⟨q,hq,rfl,HA,HO,LC⟩:=hrel;rename World=>wr
  obtain⟨t0,t1,t2,t3⟩:=bx4 (HO.out.heap (Nat.not_lt.2 (Nat.le_refl _)) uS.out);by_cases sE:q<c.code.length
  ·obtain⟨x,hx,-⟩:=getElem?_of_lt sE;obtain⟨cs,⟨vn,rfl,J7,hzm,LL,-⟩,-,hj⟩:=HC.out q x hx;have HRN:=zh LL;obtain⟨an,cn,rfl,-⟩:=LL;have c0:wr.cell? ⟨b,o+q*5,none⟩=some (.int .i64 x.op):=HO.out.cell (Nat.not_lt.2 aAM) (aC sH.out (hj 0 _ rfl));have c1:=HO.out.cell (Nat.not_lt.2 aAM) (aC sH.out (hj 1 _ rfl));have c2:=HO.out.cell (Nat.not_lt.2 aAM) (aC sH.out (hj 2 _ rfl));have c3:=HO.out.cell (Nat.not_lt.2 aAM) (aC sH.out (hj 3 _ rfl));have c4:=HO.out.cell (Nat.not_lt.2 aAM) (aC sH.out (hj 4 _ rfl));have sG:Off (fun k=>w.heap.size<k) (w.alloc (gY c.name (c.params:Int) (c.locals:Int) (some ⟨b,o,none⟩) c.code.length cp)) (wr.alloc (dY x.op x.a x.s x.m an x.names.length cn)):=HO.out.trans (Ba (aA _ _));have LN:=formed_any c x (some ⟨b,o,none⟩) cp an cn N (wr.alloc (dY x.op x.a x.s x.m an x.names.length cn)) (HGl.out _ sG) J7 hzm (HRN.out.moves aS (HM.out _ sG) aAO);unfold cF at LN;have HFm:=zh LN;have K7:=zh sG;obtain⟨s0,s1,s2,s3⟩:=bx4 (sG.heap (Nat.not_lt.2 (Nat.le_refl _)) uS.out);have HXq:=zh hx;have UX:=HA.out.lt;clear LN sG hj hx
   cases hf:cE c x with
   |false=>
    have HF:Hid (dT c=false):=zh (rightC_form HXq.out hf);rw[hf] at HFm;clear hf;go_wp2_with(go_at_call 193;refine HFm.out.mono ?_;rintro e w5 ⟨rfl,hb5⟩;have vT:=zh (K7.out.trans (Ba hb5)));go_ret2;rw[HF.out];exact⟨⟨_,rfl⟩,wX.out _ vT.out⟩
   |true=>
    have HFn:Hid (∀(k:Nat)(y:Ins),k<q+1->c.code[k]? =some y->cE c y=true):=zh (fun k y hk hy=>by
     rcases Nat.lt_or_ge k q with h|h
     ·exact LC.out k y h hy
     have e:k=q:=aAM;subst e
     rw[HXq.out] at hy;cases hy;exact hf)
    rw[hf] at HFm;clear hf;go_wp2_with(go_at_call 193;refine HFm.out.mono ?_;rintro e w5 ⟨rfl,hb5⟩;have vT:=zh (K7.out.trans (Ba hb5));have xC:=zh (HA.out.later (aB (aA wr (dY x.op x.a x.s x.m an x.names.length cn)) hb5));obtain⟨u5,hu5,hf5⟩:=xC.out.some_at aA0 sE);go_roundw;(case rel=>first|exact⟨q+1,aAM,aAV,zh (by have h:=xC.out.set q (-1);rw[rep_set q _ sE] at h;exact h),zh (vT.out.trans (Off.setCell (S:=fun k=>w.heap.size<k) _ (Nat.lt_succ_self _))),HFn⟩|exact⟨_,_,_,_,_,_,_,_,_,_,_,_,_,_,_,_,_,⟨q+1,aAM,aAV,zh (by have h:=xC.out.set q (-1);rw[rep_set q _ sE] at h;exact h),zh (vT.out.trans (Off.setCell (S:=fun k=>w.heap.size<k) _ (Nat.lt_succ_self _))),HFn⟩,rfl⟩);case measure=>simp[intOf];omega
  have AR:q=c.code.length:=aAM;subst AR;have HFA:=zh (fun(k:Nat)(x:Ins)(hx:c.code[k]? =some x)=>LC.out k x (Yb.1 hx).1 hx);have HRR:=zh (HRM.out HFA.out);have EO:Hid (mY wr (w.heap.size+1) (List.replicate c.code.length (-1))):=zh (by have h:=HA.out;rw[Nat.sub_self,List.replicate_zero,List.append_nil] at h;exact h);obtain⟨u5,hu5,hf5⟩:=EO.out.some_at (List.length_replicate ..) h0;have UX:=EO.out.lt;have EX:=zh (EO.out.set 0 0);have K7:Hid (Off (fun k=>w.heap.size<k) (w.alloc (gY c.name (c.params:Int) (c.locals:Int) (some ⟨b,o,none⟩) c.code.length cp)) (wr.setCell ⟨w.heap.size+1,0,none⟩ (.int .i64 0))):=zh (HO.out.trans (Off.setCell (S:=fun k=>w.heap.size<k) _ (Nat.lt_succ_self _)));have U0:(wr.setCell ⟨w.heap.size+1,0,none⟩ (.int .i64 0)).heap.size=wr.heap.size:=aAQ;clear LC HRM HA;go_wp2_with fail;clear t0 t1 t2 t3 hu5 hf5;go_loopw [7] (fun tv wz=>∃out todo:List Int,Hid (mY wz (w.heap.size+1) out)/\Hid (Que (w.heap.size+2) tv todo wz)/\Hid (oC c.code.length out todo)/\Hid (Off (fun k=>w.heap.size<k) (w.alloc (gY c.name (c.params:Int) (c.locals:Int) (some ⟨b,o,none⟩) c.code.length cp)) wz)/\Hid (dT c=(eR c.code (iP out+todo.length+1) out todo).isSome)) (fun tv wz=>iP (arrOf wz (w.heap.size+1))+lenOf tv)
  case atStart=>
   refine⟨_,[0],zh (EX.out.later (aA _ _)),zh (Que.first (B:=w.heap.size+2) (b:=wr.heap.size) ?_ aAM),zh (oC.first h0),zh (K7.out.trans (Ba (aA _ _))),zh ?_⟩
   ·rw[<-U0];exact bY _ _
   rw[HRR.out,List.length_singleton,show iP ((List.replicate c.code.length (-1:Int)).set 0 0)+1=c.code.length from negs_first h0]
  case round=>
   obtain⟨out,todo,LE,HQz,HI,GA,HRz⟩:=hrel;(rename World=>wz);clear EO EX K7 HO U0 HRR UX;obtain⟨t0,t1,t2,t3⟩:=bx4 (GA.out.heap (Nat.not_lt.2 (Nat.le_refl _)) uS.out)
   cases todo with
   |nil=>
    obtain⟨gq,off,cap,cur,rfl,-⟩:=HQz.out;have HF:Hid (dT c=true):=zh (by rw[HRz.out];rfl);clear HRz;simp only[List.length_nil];go_wp2_with fail;go_ret2;rw[HF.out];exact⟨⟨_,rfl⟩,wX.out _ GA.out⟩
   |cons k todo=>
    obtain⟨LM,BF⟩:=HI.out.at_ k aAQ;obtain⟨kk,rfl⟩:∃kk:Nat,k=(kk:Int):=⟨k.toNat,aAM⟩;have CP:kk<c.code.length:=aAM;obtain⟨gq,off,cap,rfl,hcap1,hcap2,yP,AQ⟩:=HQz.out.pop;obtain⟨x,hx,-⟩:=getElem?_of_lt CP;obtain⟨cs,⟨vn,rfl,J7,hzm,LL,V1,V0⟩,-,hj⟩:=HC.out kk x hx;obtain⟨an,cn,rfl,-⟩:=LL;have hl:=HI.out.len;have HMz:=zh LE.out.arrOf;have DE:=HFA.out kk x hx;obtain⟨ho0,sJ⟩:=formed_op DE;obtain⟨hd0,hd1,hv0,MM⟩:=needs_range DE;have xA:=zh (behind_range DE CP);have HIx:Hid (pM c.code kk=x):=zh (insAt_of hx);have S9:=cneeds_any x an cn wz ho0 sJ;unfold NeedsSays at S9;have hih:=HI.out.get CP;have zZ:=zh (fun W(ho:Off (fun k=>w.heap.size<k) (w.alloc (gY c.name (c.params:Int) (c.locals:Int) (some ⟨b,o,none⟩) c.code.length cp)) W)=>(show W.cell? ⟨b,o+kk*5,none⟩=some (.int .i64 x.op)/\W.cell? ⟨b,o+kk*5+1,none⟩=some (.int .i64 x.a)/\W.cell? ⟨b,o+kk*5+2,none⟩=some (.string x.s)/\W.cell? ⟨b,o+kk*5+3,none⟩=some (.string x.m)/\W.cell? ⟨b,o+kk*5+4,none⟩=some (.slice an x.names.length cn) from⟨ho.cell (Nat.not_lt.2 aAM) (aC sH.out (hj 0 _ rfl)),ho.cell (Nat.not_lt.2 aAM) (aC sH.out (hj 1 _ rfl)),ho.cell (Nat.not_lt.2 aAM) (aC sH.out (hj 2 _ rfl)),ho.cell (Nat.not_lt.2 aAM) (aC sH.out (hj 3 _ rfl)),ho.cell (Nat.not_lt.2 aAM) (aC sH.out (hj 4 _ rfl))⟩));obtain⟨c0,c1,c2,c3,c4⟩:=zZ.out _ GA.out;have wA:=zh (fun h=>HRz.out.trans (heights_bad (l:=c.code) (f:=iP out+((kk:Int)::todo).length) (out:=out) (todo:=todo) (k:=kk) h));have EF:=zh (fun h=>HRz.out.trans (heights_ok (l:=c.code) (f:=iP out+((kk:Int)::todo).length) (out:=out) (todo:=todo) (k:=kk) h));rw[HIx.out] at wA EF;have HZ:Hid (out.getD kk 0=out.getD kk 0):=zh rfl;generalize hHh:out.getD kk 0=Hh at hih wA EF HZ;have L0:=zh hHh;obtain⟨nd,lv,KL⟩:∃nd lv,lB x=(nd,lv):=⟨_,_,rfl⟩;rw[KL] at S9 hd0 hd1 hv0 MM wA EF;dsimp only at S9 hd0 hd1 hv0 MM wA EF;have K8:=zh S9;have hne0:Hh<=100000000000:=aAM;clear hj hx DE S9 KL hHh HRz HZ J7 hzm hl;rcases Nat.eq_zero_or_pos cap with hcz|hcz
    ·subst hcz;have ht:todo=[]:=List.eq_nil_of_length_eq_zero aAM;subst ht;have BI:=zh (Que.pop0 HQz.out);clear AQ hcap1;by_cases vX:Hh<nd\/(x.op=18/\Hh≠1)
     ·have HF:Hid (dT c=false):=zh (wA.out vX);clear wA EF;by_cases g1:Hh<nd
      ·clear vX;exact YA
      have g2:x.op=18/\Hh≠1:=vX.resolve_left g1;(have RQ:(x.op==18)=true:=by rw[g2.1];rfl);(have e1:(Hh==1)=false:=by rw[Qa];exact g2.2);(have e2:(Hh != 1)=true:=by rw[bne_iff_ne];exact g2.2);clear vX g2;exact YA
     have g1:¬Hh<nd:=fun h=>vX (.inl h);have BE:x.op=18->Hh=1:=fun h=>Decidable.not_not.1 fun h2=>vX (.inr ⟨h,h2⟩);have JW:=zh (EF.out vX);generalize hr:lL x (kk:Int)=r at JW xA;have WS:=zh hr;(have hrl:r.length<=2:=by rw[<-hr];unfold lL;(repeat' split)<;>simp);clear hr vX wA EF;by_cases g2:x.op=18
     ·(have RQ:(x.op==18)=true:=by rw[g2];rfl);(have e1:(Hh==1)=true:=by rw[BE g2];rfl);(have e2:(Hh != 1)=false:=by rw[BE g2];rfl);have XB:=zh g2;clear g2 BE;have GW:Hid (r=[]):=zh (by rw[<-WS.out];unfold lL;rw[if_pos XB.out]);go_wp2_with(go_at_call 194;refine K8.out.mono ?_;rintro e w5 ⟨rfl,hb5⟩;have xC:=zh (LE.out.later hb5);have A6:=zh (BI.out.later hb5);have vT:=zh (GA.out.trans (Ba hb5));obtain⟨t0,t1,t2,t3⟩:=bx4 (vT.out.heap (Nat.not_lt.2 (Nat.le_refl _)) uS.out);have z0:=(xC.out.get (i:=kk) aB5).1;rw[L0.out] at z0;obtain⟨c0,c1,c2,c3,c4⟩:=zZ.out _ vT.out);have D1:=behind_any x kk c.code.length c.name (c.params:Int) (c.locals:Int) an x.names.length cn b o cp w5 CP aAM c0 c1 c2 c3 c4;rw[WS.out] at D1;unfold fK at D1;have O0:=zh D1;clear D1;go_wp2_with(go_at_call 195;refine O0.out.mono ?_;rintro e w6 ⟨ra,rn,rc,rfl,MP,vI,tK⟩;obtain⟨rfl,MS⟩:=ints_each MP);have EU:=zh (vT.out.trans (Ba vI));have J0:=zh (xC.out.later vI);have IS:=zh (A6.out.later vI);have hg5:=xC.out.lt
      have B8:Hid (∀i y,r[i]? =some y->∃b2 o2,ra=some ⟨b2,o2,none⟩/\w.heap.size+1<b2/\(Value.slice (some ⟨gq,off,none⟩) ([]:List Int).length 0).ownBlock≠some b2/\w6.cell? ⟨b2,o2+i,none⟩=some (.int .i64 y)):=zh (fun i y hy=>by
       obtain⟨b2,o2,e,hc⟩:=MS i y hy;subst e;have h5:=tK b2 aCj
       exact⟨b2,o2,rfl,aAM,fun e=>aB6,hc⟩)
      clear MP MS tK vI t0 t1 t2 t3 c0 c1 c2 c3 c4 z0 O0 K8 yP;(go_loopw [7,106] (fun tv iv wy=>∃(j:Nat)(out' todo':List Int),j<=r.length/\iv=.int .i64 (j:Int)/\Hid (mY wy (w.heap.size+1) out')/\Hid (Que (w.heap.size+2) tv todo' wy)/\Hid (oC c.code.length out' todo')/\Hid (out'.getD kk 0=Hh)/\Hid (iP out'+todo'.length=iP out+([]:List Int).length)/\Hid (Off (fun k=>w.heap.size<k) (w.alloc (gY c.name (c.params:Int) (c.locals:Int) (some ⟨b,o,none⟩) c.code.length cp)) wy)/\Hid (∀i y,r[i]? =some y->∃b2 o2,ra=some ⟨b2,o2,none⟩/\w.heap.size+1<b2/\tv.ownBlock≠some b2/\wy.cell? ⟨b2,o2+i,none⟩=some (.int .i64 y))/\Hid (dT c=qK c.code (iP out+((kk:Int)::([]:List Int)).length) (iL c.code.length (Hh-nd+lv) (r.drop j) out' todo'))) (fun _ iv _=>r.length-(intOf iv).toNat));case atStart=>exact⟨0,out,([]:List Int),Nat.zero_le _,rfl,J0,IS,zh HI.out.tail,L0,zh rfl,EU,B8,JW⟩
      case round=>
       obtain⟨j,out',todo',hj,rfl,CB,F9,C1,LA,A7,GB,EE,F7⟩:=hrel;(rename World=>wy);clear J0 IS EU B8 JW xC A6 vT BI LE GA;have hgy:=CB.out.lt;by_cases U9:j<r.length
       ·exact absurd U9 (by rw[GW.out];exact Nat.not_lt_zero _)
       have zJ:r.drop j=[]:=List.drop_eq_nil_of_le aAM
       have PS:Hid (dT c=(eR c.code (iP out'+todo'.length+1) out' todo').isSome):=zh (by
        have h:=F7.out;rw[zJ,lookAt_end] at h;have h2:=A7.out;rw[h,List.length_cons,show iP out+(([]:List Int).length+1)=iP out'+todo'.length+1 by omega]
        rfl)
       exact YL
     (have RQ:(x.op==18)=false:=by rw[Qa];exact g2);clear g2 BE;go_wp2_with(go_at_call 194;refine K8.out.mono ?_;rintro e w5 ⟨rfl,hb5⟩;have xC:=zh (LE.out.later hb5);have A6:=zh (BI.out.later hb5);have vT:=zh (GA.out.trans (Ba hb5));obtain⟨t0,t1,t2,t3⟩:=bx4 (vT.out.heap (Nat.not_lt.2 (Nat.le_refl _)) uS.out);have z0:=(xC.out.get (i:=kk) aB5).1;rw[L0.out] at z0;obtain⟨c0,c1,c2,c3,c4⟩:=zZ.out _ vT.out);have D1:=behind_any x kk c.code.length c.name (c.params:Int) (c.locals:Int) an x.names.length cn b o cp w5 CP aAM c0 c1 c2 c3 c4;rw[WS.out] at D1;unfold fK at D1;have O0:=zh D1;clear D1;go_wp2_with(go_at_call 195;refine O0.out.mono ?_;rintro e w6 ⟨ra,rn,rc,rfl,MP,vI,tK⟩;obtain⟨rfl,MS⟩:=ints_each MP);have EU:=zh (vT.out.trans (Ba vI));have J0:=zh (xC.out.later vI);have IS:=zh (A6.out.later vI);have hg5:=xC.out.lt
     have B8:Hid (∀i y,r[i]? =some y->∃b2 o2,ra=some ⟨b2,o2,none⟩/\w.heap.size+1<b2/\(Value.slice (some ⟨gq,off,none⟩) ([]:List Int).length 0).ownBlock≠some b2/\w6.cell? ⟨b2,o2+i,none⟩=some (.int .i64 y)):=zh (fun i y hy=>by
      obtain⟨b2,o2,e,hc⟩:=MS i y hy;subst e;have h5:=tK b2 aCj
      exact⟨b2,o2,rfl,aAM,fun e=>aB6,hc⟩)
     clear MP MS tK vI t0 t1 t2 t3 c0 c1 c2 c3 c4 z0 O0 K8 yP;(go_loopw [7,106] (fun tv iv wy=>∃(j:Nat)(out' todo':List Int),j<=r.length/\iv=.int .i64 (j:Int)/\Hid (mY wy (w.heap.size+1) out')/\Hid (Que (w.heap.size+2) tv todo' wy)/\Hid (oC c.code.length out' todo')/\Hid (out'.getD kk 0=Hh)/\Hid (iP out'+todo'.length=iP out+([]:List Int).length)/\Hid (Off (fun k=>w.heap.size<k) (w.alloc (gY c.name (c.params:Int) (c.locals:Int) (some ⟨b,o,none⟩) c.code.length cp)) wy)/\Hid (∀i y,r[i]? =some y->∃b2 o2,ra=some ⟨b2,o2,none⟩/\w.heap.size+1<b2/\tv.ownBlock≠some b2/\wy.cell? ⟨b2,o2+i,none⟩=some (.int .i64 y))/\Hid (dT c=qK c.code (iP out+((kk:Int)::([]:List Int)).length) (iL c.code.length (Hh-nd+lv) (r.drop j) out' todo'))) (fun _ iv _=>r.length-(intOf iv).toNat));case atStart=>exact⟨0,out,([]:List Int),Nat.zero_le _,rfl,J0,IS,zh HI.out.tail,L0,zh rfl,EU,B8,JW⟩
     case round=>
      obtain⟨j,out',todo',hj,rfl,CB,F9,C1,LA,A7,GB,EE,F7⟩:=hrel;(rename World=>wy);clear J0 IS EU B8 JW xC A6 vT BI LE GA;have hgy:=CB.out.lt;by_cases U9:j<r.length
      ·obtain⟨y,hy,CE⟩:=getElem?_of_lt U9;obtain⟨b2,o2,rfl,hbg,hbo,I6⟩:=EE.out j y hy;obtain⟨I5,EP⟩:=xA.out y CE;obtain⟨t0,t1,t2,t3⟩:=bx4 (GB.out.heap (Nat.not_lt.2 (Nat.le_refl _)) uS.out);have z0:=(CB.out.get (i:=kk) (by rw[C1.out.len];exact CP)).1;rw[LA.out] at z0
       have AB:Hid (dT c=qK c.code (iP out+((kk:Int)::([]:List Int)).length) (iL c.code.length (Hh-nd+lv) (y::r.drop (j+1)) out' todo')):=zh (by
        have h:=F7.out;obtain⟨H4,TL⟩:=Yb.1 hy;rw[Qd H4,TL] at h
        exact h)
       exact XY
      have zJ:r.drop j=[]:=List.drop_eq_nil_of_le aAM
      have PS:Hid (dT c=(eR c.code (iP out'+todo'.length+1) out' todo').isSome):=zh (by
       have h:=F7.out;rw[zJ,lookAt_end] at h;have h2:=A7.out;rw[h,List.length_cons,show iP out+(([]:List Int).length+1)=iP out'+todo'.length+1 by omega]
       rfl)
      exact YL
    have hcz2:¬cap=0:=aAM;have BI:=zh AQ;clear AQ hcz;by_cases vX:Hh<nd\/(x.op=18/\Hh≠1)
    ·have HF:Hid (dT c=false):=zh (wA.out vX);clear wA EF;by_cases g1:Hh<nd
     ·clear vX;exact YA
     have g2:x.op=18/\Hh≠1:=vX.resolve_left g1;(have RQ:(x.op==18)=true:=by rw[g2.1];rfl);(have e1:(Hh==1)=false:=by rw[Qa];exact g2.2);(have e2:(Hh != 1)=true:=by rw[bne_iff_ne];exact g2.2);clear vX g2;exact YA
    have g1:¬Hh<nd:=fun h=>vX (.inl h);have BE:x.op=18->Hh=1:=fun h=>Decidable.not_not.1 fun h2=>vX (.inr ⟨h,h2⟩);have JW:=zh (EF.out vX);generalize hr:lL x (kk:Int)=r at JW xA;have WS:=zh hr;(have hrl:r.length<=2:=by rw[<-hr];unfold lL;(repeat' split)<;>simp);clear hr vX wA EF;by_cases g2:x.op=18
    ·(have RQ:(x.op==18)=true:=by rw[g2];rfl);(have e1:(Hh==1)=true:=by rw[BE g2];rfl);(have e2:(Hh != 1)=false:=by rw[BE g2];rfl);have XB:=zh g2;clear g2 BE;have GW:Hid (r=[]):=zh (by rw[<-WS.out];unfold lL;rw[if_pos XB.out]);go_wp2_with(go_at_call 194;refine K8.out.mono ?_;rintro e w5 ⟨rfl,hb5⟩;have xC:=zh (LE.out.later hb5);have A6:=zh (BI.out.later hb5);have vT:=zh (GA.out.trans (Ba hb5));obtain⟨t0,t1,t2,t3⟩:=bx4 (vT.out.heap (Nat.not_lt.2 (Nat.le_refl _)) uS.out);have z0:=(xC.out.get (i:=kk) aB5).1;rw[L0.out] at z0;obtain⟨c0,c1,c2,c3,c4⟩:=zZ.out _ vT.out);have D1:=behind_any x kk c.code.length c.name (c.params:Int) (c.locals:Int) an x.names.length cn b o cp w5 CP aAM c0 c1 c2 c3 c4;rw[WS.out] at D1;unfold fK at D1;have O0:=zh D1;clear D1;go_wp2_with(go_at_call 195;refine O0.out.mono ?_;rintro e w6 ⟨ra,rn,rc,rfl,MP,vI,tK⟩;obtain⟨rfl,MS⟩:=ints_each MP);have EU:=zh (vT.out.trans (Ba vI));have J0:=zh (xC.out.later vI);have IS:=zh (A6.out.later vI);have hg5:=xC.out.lt
     have B8:Hid (∀i y,r[i]? =some y->∃b2 o2,ra=some ⟨b2,o2,none⟩/\w.heap.size+1<b2/\(Value.slice (some ⟨gq,off+1,none⟩) todo.length cap).ownBlock≠some b2/\w6.cell? ⟨b2,o2+i,none⟩=some (.int .i64 y)):=zh (fun i y hy=>by
      obtain⟨b2,o2,e,hc⟩:=MS i y hy;subst e;have h5:=tK b2 aCj
      exact⟨b2,o2,rfl,aAM,fun e=>aB6,hc⟩)
     clear MP MS tK vI t0 t1 t2 t3 c0 c1 c2 c3 c4 z0 O0 K8 yP;(go_loopw [7,106] (fun tv iv wy=>∃(j:Nat)(out' todo':List Int),j<=r.length/\iv=.int .i64 (j:Int)/\Hid (mY wy (w.heap.size+1) out')/\Hid (Que (w.heap.size+2) tv todo' wy)/\Hid (oC c.code.length out' todo')/\Hid (out'.getD kk 0=Hh)/\Hid (iP out'+todo'.length=iP out+todo.length)/\Hid (Off (fun k=>w.heap.size<k) (w.alloc (gY c.name (c.params:Int) (c.locals:Int) (some ⟨b,o,none⟩) c.code.length cp)) wy)/\Hid (∀i y,r[i]? =some y->∃b2 o2,ra=some ⟨b2,o2,none⟩/\w.heap.size+1<b2/\tv.ownBlock≠some b2/\wy.cell? ⟨b2,o2+i,none⟩=some (.int .i64 y))/\Hid (dT c=qK c.code (iP out+((kk:Int)::todo).length) (iL c.code.length (Hh-nd+lv) (r.drop j) out' todo'))) (fun _ iv _=>r.length-(intOf iv).toNat));case atStart=>exact⟨0,out,todo,Nat.zero_le _,rfl,J0,IS,zh HI.out.tail,L0,zh rfl,EU,B8,JW⟩
     case round=>
      obtain⟨j,out',todo',hj,rfl,CB,F9,C1,LA,A7,GB,EE,F7⟩:=hrel;(rename World=>wy);clear J0 IS EU B8 JW xC A6 vT BI LE GA;have hgy:=CB.out.lt;by_cases U9:j<r.length
      ·exact absurd U9 (by rw[GW.out];exact Nat.not_lt_zero _)
      have zJ:r.drop j=[]:=List.drop_eq_nil_of_le aAM
      have PS:Hid (dT c=(eR c.code (iP out'+todo'.length+1) out' todo').isSome):=zh (by
       have h:=F7.out;rw[zJ,lookAt_end] at h;have h2:=A7.out;rw[h,List.length_cons,show iP out+(todo.length+1)=iP out'+todo'.length+1 by omega]
       rfl)
      exact YL
    (have RQ:(x.op==18)=false:=by rw[Qa];exact g2);clear g2 BE;go_wp2_with(go_at_call 194;refine K8.out.mono ?_;rintro e w5 ⟨rfl,hb5⟩;have xC:=zh (LE.out.later hb5);have A6:=zh (BI.out.later hb5);have vT:=zh (GA.out.trans (Ba hb5));obtain⟨t0,t1,t2,t3⟩:=bx4 (vT.out.heap (Nat.not_lt.2 (Nat.le_refl _)) uS.out);have z0:=(xC.out.get (i:=kk) aB5).1;rw[L0.out] at z0;obtain⟨c0,c1,c2,c3,c4⟩:=zZ.out _ vT.out);have D1:=behind_any x kk c.code.length c.name (c.params:Int) (c.locals:Int) an x.names.length cn b o cp w5 CP aAM c0 c1 c2 c3 c4;rw[WS.out] at D1;unfold fK at D1;have O0:=zh D1;clear D1;go_wp2_with(go_at_call 195;refine O0.out.mono ?_;rintro e w6 ⟨ra,rn,rc,rfl,MP,vI,tK⟩;obtain⟨rfl,MS⟩:=ints_each MP);have EU:=zh (vT.out.trans (Ba vI));have J0:=zh (xC.out.later vI);have IS:=zh (A6.out.later vI);have hg5:=xC.out.lt
    have B8:Hid (∀i y,r[i]? =some y->∃b2 o2,ra=some ⟨b2,o2,none⟩/\w.heap.size+1<b2/\(Value.slice (some ⟨gq,off+1,none⟩) todo.length cap).ownBlock≠some b2/\w6.cell? ⟨b2,o2+i,none⟩=some (.int .i64 y)):=zh (fun i y hy=>by
     obtain⟨b2,o2,e,hc⟩:=MS i y hy;subst e;have h5:=tK b2 aCj
     exact⟨b2,o2,rfl,aAM,fun e=>aB6,hc⟩)
    clear MP MS tK vI t0 t1 t2 t3 c0 c1 c2 c3 c4 z0 O0 K8 yP;(go_loopw [7,106] (fun tv iv wy=>∃(j:Nat)(out' todo':List Int),j<=r.length/\iv=.int .i64 (j:Int)/\Hid (mY wy (w.heap.size+1) out')/\Hid (Que (w.heap.size+2) tv todo' wy)/\Hid (oC c.code.length out' todo')/\Hid (out'.getD kk 0=Hh)/\Hid (iP out'+todo'.length=iP out+todo.length)/\Hid (Off (fun k=>w.heap.size<k) (w.alloc (gY c.name (c.params:Int) (c.locals:Int) (some ⟨b,o,none⟩) c.code.length cp)) wy)/\Hid (∀i y,r[i]? =some y->∃b2 o2,ra=some ⟨b2,o2,none⟩/\w.heap.size+1<b2/\tv.ownBlock≠some b2/\wy.cell? ⟨b2,o2+i,none⟩=some (.int .i64 y))/\Hid (dT c=qK c.code (iP out+((kk:Int)::todo).length) (iL c.code.length (Hh-nd+lv) (r.drop j) out' todo'))) (fun _ iv _=>r.length-(intOf iv).toNat));case atStart=>exact⟨0,out,todo,Nat.zero_le _,rfl,J0,IS,zh HI.out.tail,L0,zh rfl,EU,B8,JW⟩
    case round=>
     obtain⟨j,out',todo',hj,rfl,CB,F9,C1,LA,A7,GB,EE,F7⟩:=hrel;(rename World=>wy);clear J0 IS EU B8 JW xC A6 vT BI LE GA;have hgy:=CB.out.lt;by_cases U9:j<r.length
     ·obtain⟨y,hy,CE⟩:=getElem?_of_lt U9;obtain⟨b2,o2,rfl,hbg,hbo,I6⟩:=EE.out j y hy;obtain⟨I5,EP⟩:=xA.out y CE;obtain⟨t0,t1,t2,t3⟩:=bx4 (GB.out.heap (Nat.not_lt.2 (Nat.le_refl _)) uS.out);have z0:=(CB.out.get (i:=kk) (by rw[C1.out.len];exact CP)).1;rw[LA.out] at z0
      have AB:Hid (dT c=qK c.code (iP out+((kk:Int)::todo).length) (iL c.code.length (Hh-nd+lv) (y::r.drop (j+1)) out' todo')):=zh (by
       have h:=F7.out;obtain⟨H4,TL⟩:=Yb.1 hy;rw[Qd H4,TL] at h
       exact h)
      exact XY
     have zJ:r.drop j=[]:=List.drop_eq_nil_of_le aAM
     have PS:Hid (dT c=(eR c.code (iP out'+todo'.length+1) out' todo').isSome):=zh (by
      have h:=F7.out;rw[zJ,lookAt_end] at h;have h2:=A7.out;rw[h,List.length_cons,show iP out+(todo.length+1)=iP out'+todo'.length+1 by omega]
      rfl)
     exact YL
theorem line_any(i:Ins)(an:Option Addr)(cn:Nat)(N:Nat->Prop)(w:World)(hg:dL w)(h0:0<=i.op)(h1:i.op<20)(wK: -1<=i.a)(sT:i.a<=1099511627776)(hs:i.s.size<=8000)(hm:i.m.size<=8000)(hn:aL 1 cZ N w (.slice an i.names.length cn) i.names)(hl:i.names.length<=1000):jS i (.slice an i.names.length cn) w:=by
 obtain⟨op,a,s,m,names⟩:=i;dsimp only at h0 h1 wK sT hs hm hn hl
 obtain⟨wd,EZ,PD⟩:∃wd,jW[op.toNat]? =some wd/\wd.length<=6:=by
  obtain⟨k,rfl⟩:∃k:Nat,op=(k:Int):=⟨op.toNat,aAM⟩;have hk:k<jW.length:=by show k<20;omega
  exact⟨jW[k],List.getElem?_eq_getElem hk,(by decide:∀x∈jW,x.length<=6) _ (List.getElem_mem hk)⟩
 have hc:op=12\/op=13\/op=14\/(op=4\/op=5\/op=6\/op=7\/op=8\/op=9\/op=18\/op=19)\/op=0\/op=1\/op=2\/op=3\/op=10\/op=11\/op=15\/op=16\/op=17:=aAM;rcases hc with rfl|rfl|rfl|ho|ho
 ·exact line_12 a s m names an cn N w hg wK sT hs hm hn hl
 ·exact line_13 a s m names an cn N w hg wK sT hs hm hn hl
 ·exact line_14 a s m names an cn N w hg wK sT hs hm hn hl
 ·exact line_bare op ho EZ PD a s m names an cn w hg wK sT
 exact line_num op ho EZ PD a s m names an cn w hg wK sT
theorem mK{s:bA}(h:aR s=true):s.size<=20:=by
 unfold aR lO at h;simp only[Bool.and_eq_true] at h;obtain⟨h,-⟩:=h;split at h
 ·cases h
 simp only[Bool.and_eq_true,decide_eq_true_eq] at h;exact h.1.2
theorem data_len(s:bA):s.data.toList.length=s.size:=aAQ
theorem ascOk_all:∀{l:List bA}{b:Option bA},pW b l=true->∀x∈l,aR x=true
 |[],_,_,x,hx=>by cases hx
 |y::l,b,h,x,hx=>by
  unfold pW at h;simp only[Bool.and_eq_true] at h;rcases List.mem_cons.1 hx with rfl|hx
  ·exact h.1.1
  exact ascOk_all h.2 x hx
theorem names_len:∀(l:List bA),(∀x∈l,aR x=true)->(l.flatMap (fun x=>[32]++x.data.toList)).length<=l.length*21
 |[],_=>aAQ
 |y::l,h=>by
  have h1:=names_len l (fun x hx=>h x (by simp[hx]));have h2:=mK (h y aAQ);rw[List.flatMap_cons,List.length_append,List.length_cons,Nat.succ_mul,List.length_append,data_len];simp only[List.length_cons,List.length_nil];omega
theorem itoaB_len{n:Int}(h0: -1<=n)(h1:n<=1099511627776):(itoaB n).length<=21:=Lib.itoa_length_le n aAM aAM
theorem words_len(op:Nat):(jW.getD op []).length<=6:=by
 by_cases h:op<20
 ·have hc:∀k,k<20->(jW.getD k []).length<=6:=aAO;exact hc op h
 rw[Qc,List.getElem?_eq_none (show jW.length<=op from by show 20<=op;omega)];simp
theorem line_len{c:Cod}{i:Ins}(h:cE c i=true)(wK: -1<=i.a)(sT:i.a<=1099511627776):(iO i).length<=175:=by
 have hw:=words_len i.op.toNat;have hi:=itoaB_len wK sT;unfold iO;rw[List.length_append,List.length_append];have key:∀l:List UInt8,l.length<=168->(jW.getD i.op.toNat []).length+l.length+[10].length<=175:=fun l hl=>by simp only[List.length_cons,List.length_nil];omega
 apply key;split
 ·rename_i BX
  have hs:aR i.s=true:=by
   unfold cE at h;simp[BX] at h;exact h.1.1.1
  have:=mK hs;rw[List.length_append,data_len];simp only[List.length_cons,List.length_nil];omega
 split
 ·rename_i h14
  have hs:aR i.s=true/\(i.m=noB\/aR i.m=true):=by
   unfold cE at h;simp[h14] at h;exact⟨h.1.1.2,h.1.2⟩
  have h1:=mK hs.1
  have h2:(if i.m=noB then[46] else i.m.data.toList).length<=20:=by
   split
   ·simp
   rename_i hm;have:=mK (hs.2.resolve_left hm);rw[data_len];exact this
  simp only[List.length_append,data_len,List.length_cons,List.length_nil];omega
 split
 ·rename_i CT
  have hs:pW none i.names=true/\i.names.length<=8:=by
   unfold cE at h;simp[CT] at h;exact⟨h.1.1.1.1,h.1.1.1.2⟩
  have h1:=names_len i.names (ascOk_all hs.1);have h2:i.names.length*21<=8*21:=Nat.mul_le_mul_right _ hs.2;omega
 split
 ·simp
 rw[List.length_append];simp only[List.length_cons,List.length_nil];omega
theorem rightC_parts{c:Cod}(h:dT c=true):aR c.name=true/\c.params<=6/\∀i∈c.code,cE c i=true:=by
 unfold dT at h;simp only[Bool.and_eq_true,decide_eq_true_eq,List.all_eq_true] at h;obtain⟨⟨⟨⟨⟨h1,h2⟩,h3⟩,-⟩,h5⟩,-⟩:=h;exact⟨h1,h2,h5⟩
theorem lines_len{c:Cod}:∀(l:List Ins),(∀i∈l,cE c i=true/\ -1<=i.a/\i.a<=1099511627776)->(l.flatMap iO).length<=l.length*175
 |[],_=>aAQ
 |i::l,h=>by
  have h1:=lines_len l (fun x hx=>h x (by simp[hx]));have h2:=h i aAQ;have h3:=line_len h2.1 h2.2.1 h2.2.2;rw[List.flatMap_cons,List.length_append,List.length_cons,Nat.succ_mul];omega
def headL(c:Cod):List UInt8:=[102,117,110,99,32]++c.name.data.toList++[32]++itoaB c.params++[32]++itoaB c.locals++[10]
theorem dW(c:Cod):codL c=headL c++c.code.flatMap iO:=rfl
def CodFit(c:Cod):Prop:=c.code.length<=10000000000/\c.params<=1000000/\c.locals<=1000000/\∀i∈c.code,-1<=i.a/\i.a<=1099511627776
def CodSmall(c:Cod):Prop:=c.code.length<=10000000000/\c.params<=1000000/\c.locals<=1000000
theorem row_fit{N:Nat->Prop}{w:World}{v:Value}{l:List Cod}(hr:aL 4 encCod N w v l)(h:∀c∈l,CodSmall c):∀c∈l,CodFit c:=by
 intro c hc;obtain⟨a,cl,-,-,-,tF⟩:=hr.at;obtain⟨k,hk⟩:=List.getElem?_of_mem hc;obtain⟨b,o,-,-,cs,⟨vc,-,-,QU⟩,-,-⟩:=tF k c hk;obtain⟨ac,cc,-,-,-,hcr⟩:=QU.at;refine⟨(h c hc).1,(h c hc).2.1,(h c hc).2.2,fun i hi=>?_⟩;obtain⟨z,hz⟩:=List.getElem?_of_mem hi;obtain⟨b9,o9,-,-,cs9,⟨vn,-,-,-,-,h1,h2⟩,-,-⟩:=hcr z i hz;exact⟨h1,h2⟩
theorem formed_names{c:Cod}{i:Ins}(h:cE c i=true):i.names.length<=8:=by
 by_cases CT:i.op=12
 ·unfold cE at h;simp[CT] at h;exact h.1.1.1.2
 have:i.names.length=0:=by
  unfold cE at h;simp only[CT,if_false] at h
  repeat' split at h
  all_goals first|(simp at h;done)|(simp only[Bool.and_eq_true,decide_eq_true_eq] at h;omega)
 omega
theorem head_len{c:Cod}(h:CodFit c)(hs:aR c.name=true):(headL c).length<=100:=by
 have h1:=mK hs;have h2:=itoaB_len (n:=(c.params:Int)) aAM (by have:=h.2.1;omega);have h3:=itoaB_len (n:=(c.locals:Int)) aAM (by have:=h.2.2.1;omega);unfold headL;simp only[List.length_append,data_len,List.length_cons,List.length_nil];omega
theorem codL_len{c:Cod}(h:CodFit c)(hr:dT c=true):(codL c).length<=1750000000100:=by
 obtain⟨h1,h2,h3⟩:=rightC_parts hr;have h4:=head_len h h1;have h5:=lines_len (c:=c) c.code (fun i hi=>⟨h3 i hi,(h.2.2.2 i hi).1,(h.2.2.2 i hi).2⟩);have h6:c.code.length*175<=10000000000*175:=Nat.mul_le_mul_right _ h.1;rw[dW,List.length_append];omega
theorem cods_len:∀(l:List Cod),(∀c∈l,CodFit c/\dT c=true)->(l.flatMap codL).length<=l.length*1750000000100
 |[],_=>aAQ
 |c::l,h=>by
  have h1:=cods_len l (fun x hx=>h x (by simp[hx]));have h2:=codL_len (h c aAQ).1 (h c aAQ).2;rw[List.flatMap_cons,List.length_append,List.length_cons,Nat.succ_mul];omega
theorem lines_pre{c:Cod}(k:Nat):((c.code.take k).flatMap iO).length<=(c.code.flatMap iO).length:=by
 have:c.code.flatMap iO=(c.code.take k).flatMap iO++(c.code.drop k).flatMap iO:=by rw[<-List.flatMap_append,List.take_append_drop]
 rw[this,List.length_append];omega
theorem flat_take{α:Type}{f:α->List UInt8}{l:List α}{k:Nat}{x:α}(hx:l[k]? =some x):(l.take (k+1)).flatMap f=(l.take k).flatMap f++f x:=by
 simp[List.take_add_one,hx]
theorem fX{B b:Nat}{bs:List Value}{w w':World}(h:Lib.IsBuilder 147 5 B b bs w)(hb:Below w.heap.size w w'):Lib.IsBuilder 147 5 B b bs w':=by
 have hk:w.grownBy w' none:=⟨hb.os,hb.tape,hb.output,hb.size,fun k hk _=>hb.block k hk⟩
 have step:∀p,Lib.BuilderAt 147 5 B b p bs w->Lib.BuilderAt 147 5 B b p bs w':=fun p hp=>by
  obtain⟨hB,v,ER,sB,sC⟩:=hp;refine⟨hB,v,aD hb ER,sB.kept hk ?_,sC⟩
  cases hv:v.ownBlock with
  |none=>exact .inl rfl
  |some k=>exact .inr (fun e=>by cases e)
 exact h.elim (fun h=>.inl (step _ h)) (fun h=>.inr (step _ h))
theorem copyCheck_k(B b:Nat)(bs:List Value)(w:World)(h:Lib.IsBuilder 147 5 B b bs w):
  Calls Tryz.prog 120 #[.pointer (some ⟨b,0,none⟩)] w fun e w'=>e=.returned (.tuple #[])/\(Lib.BuilderAt 147 5 B b (.pointer (some ⟨b,0,none⟩)) bs w'/\Below B w w'/\Lib.OthersKept 5 (some b) w w'):=by
 rcases h with h|h
 ·refine(copyCheck_fresh b w h.cell0 h.shape h.frozen0).mono ?_;rintro e w' ⟨rfl,rfl⟩;exact⟨rfl,h.used _,(Below.refl B w).setCell (p:=⟨b,0,none⟩) h.1 _,(Lib.OthersKept.refl _ _ _).setCell ⟨b,0,none⟩ rfl _⟩
 refine(copyCheck_used b w h.cell0).mono ?_;rintro e w' ⟨rfl,rfl⟩;exact⟨rfl,h,Below.refl B _,Lib.OthersKept.refl _ _ _⟩
theorem writeString_k(B b:Nat)(bs:List Value)(s:bA)(w:World)(h:Lib.IsBuilder 147 5 B b bs w)(hlen:bs.length+s.size<=140737488355328)(PM:B<=w.heap.size):
  Calls Tryz.prog 100 #[.pointer (some ⟨b,0,none⟩),.string s] w fun e w'=>e=.returned (.tuple #[.int .i64 s.size,.nilIface])/\(Lib.BuilderAt 147 5 B b (.pointer (some ⟨b,0,none⟩)) (bs++Lib.strCells s) w'/\Below B w w'/\Lib.OthersKept 5 (some b) w w'):=by
 obtain⟨i0,hi,tM,sY,sX⟩:=info_parts byteInfo;go_enter Tryz.func100,Tryz.ntmps100;go_wp2_with(go_at_call 120;refine(copyCheck_k B b bs _ h).mono ?_);rintro e w1 ⟨rfl,h1,sF,BF⟩;obtain⟨hB,v,ER,sB,sC⟩:=h1;have c0:w1.cell? ⟨b,0,none⟩=some (.pointer (some ⟨b,0,none⟩)):=by rw[Lib.cell_of_heap ER];rfl
 have c1:w1.cell? ⟨b,1,none⟩=some v:=by rw[Lib.cell_of_heap ER];rfl
 go_wp2_with(at_builtin;refine Lib.wpList_append_own_string _ rfl _ _ 145 9 rfl B 5 i0 Tryz.underlying145 Tryz.underlying9 hi tM sY sX _ _ _ rfl sB s rfl ?c3 ?c4 ?c5 ?_);case c3=>unfold maxLen;omega
 case c4=>omega
 case c5=>have:=sF.size;omega
 intro v' w2 wG sA _
 have sE:b<w1.heap.size:=by
  exact ZZ
 have sD:w2.heap[b]? =some (.cells #[.pointer (some ⟨b,0,none⟩),v] 147 (0,0)):=by
  rw[sA.block b sE (fun e=>sC e.symm)];exact ER
 have d0:w2.cell? ⟨b,0,none⟩=some (.pointer (some ⟨b,0,none⟩)):=by rw[Lib.cell_of_heap sD];rfl
 have d1:w2.cell? ⟨b,1,none⟩=some v:=by rw[Lib.cell_of_heap sD];rfl
 have f1:w2.frozen? ⟨b,1,none⟩=false:=Lib.frozen_of_heap sD 1
 obtain⟨ao,n',cap,rfl⟩:∃ao n' cap,v'=.slice ao n' cap:=by
  rcases wG.2 with⟨hv,_⟩|⟨g,cap,cur,hv,_⟩
  ·exact⟨_,_,_,hv⟩
  exact⟨_,_,_,hv⟩
 go_wp2
 go_ret2;refine⟨rfl,?_,?_,?_⟩
 ·exact aAo
 ·exact aAL
 exact(BF.grown sA (fun g hg=>by
  rcases sB.2 with⟨rfl,_⟩|⟨g',cap',cur,rfl,_,KR,_⟩
  ·simp[Value.ownBlock] at hg
  simp only[Value.ownBlock,Option.some.injEq] at hg;subst hg
  exact⟨_,_,KR⟩)).setCell ⟨b,1,none⟩ rfl _
theorem cright_any(c:Cod)(ac:Option Addr)(cc:Nat)(N:Nat->Prop)(w:World)(hg:dL w)(hs:c.name.size<=8000)(hr:aL 5 pQ N w (.slice ac c.code.length cc) c.code)(hlen:c.code.length<=100000000000):
  Calls Tryz.prog 111 #[oBx28 c.name (c.params:Int) (c.locals:Int) ac c.code.length cc] w fun e w'=>e=.returned (.bool (dT c))/\Below w.heap.size w w':=by
 have sH:=zh (aA w (gY c.name (c.params:Int) (c.locals:Int) ac c.code.length cc));have HQ:=zh (heights_any c N (.slice ac c.code.length cc) (w.alloc (gY c.name (c.params:Int) (c.locals:Int) ac c.code.length cc)) (hg.later sH.out) hs (hr.moves hZ (bU.later sH.out) aAO) hlen);clear hg hr;go_enter Tryz.func111,Tryz.ntmps111;go_wp2_with(go_at_call 146;refine HQ.out.mono ?_;rintro e w5 ⟨⟨v,rfl⟩,hb5⟩);go_ret;exact⟨rfl,aB sH.out hb5⟩
theorem list_any(l:List Cod)(N:Nat->Prop)(v:Value)(w:World)(hg:dL w)(hr:aL 4 encCod N w v l)(hl:l.length<=30)(hsm:∀c∈l,CodSmall c):
  Calls Tryz.prog 85 #[v] w fun e w'=>e=.returned (.string (listC l))/\Below w.heap.size w w':=by
 have HFt:=zh (row_fit hr hsm);obtain⟨a,cl,rfl,l1,l2,tF⟩:=hr.at;have HC:=zh tF;have HG:=zh (fun W(hb:Below w.heap.size w W)=>hg.later hb);have HMv:=zh (fun W(hb:Below w.heap.size w W)=>bU.later (N:=N) hb);have h11:=hg.big;clear tF hg hr hsm;go_enter Tryz.func85,Tryz.ntmps85;go_wp2_with fail;go_loopw [10] (fun iv wr=>∃q:Nat,q<=l.length/\iv=.int .i64 (q:Int)/\Hid (Lib.IsBuilder 147 5 w.heap.size w.heap.size (Lib.byteCells ((l.take q).flatMap codL)) wr)/\Hid (Below w.heap.size w wr)/\Hid (∀c∈l.take q,dT c=true)) (fun iv _=>l.length-(intOf iv).toNat)
 case atStart=>exact⟨0,Nat.zero_le _,rfl,zh (Lib.fresh_isBuilder 147 5 w),zh (aA w _),zh (fun c hc=>by simp at hc)⟩
 case round=>
  obtain⟨q,hq,rfl,xB,HB,HR⟩:=hrel;rename World=>wr
  have yU:=HB.out.size;have uZ:w.heap.size<wr.heap.size:=by rcases xB.out with h|h<;>exact cT h.cell0
  by_cases sE:q<l.length
  ·obtain⟨c,hx,vW⟩:=getElem?_of_lt sE;obtain⟨b,o,rfl,AX,cs,⟨vc,rfl,hzn,QU⟩,-,hj⟩:=HC.out q c hx;have hft:=HFt.out c vW;obtain⟨ac,cc,rfl,lc1,lc2,hcr⟩:=QU.at;have HCR:=zh hcr;have c0:wr.cell? ⟨b,o+q*4,none⟩=some (.string c.name):=aC HB.out (hj 0 _ rfl);have c1:=aC HB.out (hj 1 _ rfl);have c2:=aC HB.out (hj 2 _ rfl);have c3:=aC HB.out (hj 3 _ rfl);have uS:=zh (bY wr (gY c.name (c.params:Int) (c.locals:Int) ac c.code.length cc));have sW:=zh (aB HB.out (aA wr (gY c.name (c.params:Int) (c.locals:Int) ac c.code.length cc)));have GU:=zh (cright_any c ac cc N (wr.alloc (gY c.name (c.params:Int) (c.locals:Int) ac c.code.length cc)) (HG.out _ sW.out) hzn (QU.moves hZ (HMv.out _ sW.out) aAO) (by have:=hft.1;omega));have HX:=zh hx;have HM:=zh vW;have HFc:=zh hft;have hp1:=hft.2.1;have hp2:=hft.2.2.1;clear hj hx vW hcr QU hft
   cases S3:dT c with
   |false=>
    have HF:Hid (listC l=noB):=zh (by
     unfold listC;rw[if_neg];intro h;have:=List.all_eq_true.1 h c HM.out
     rw[S3] at this;cases this)
    rw[S3] at GU;clear S3;go_wp2_with(go_at_call 111;refine GU.out.mono ?_;rintro e w5 ⟨rfl,hb5⟩);go_ret;exact⟨oH aBk,aB sW.out hb5⟩
   |true=>
    obtain⟨tT,hp6,LN⟩:=rightC_parts S3
    have wZ:Hid (∀d∈l.take (q+1),dT d=true):=zh (fun d hd=>by
     rw[List.take_add_one,HX.out,Option.toList,List.mem_append,List.mem_singleton] at hd;rcases hd with hd|rfl
     ·exact HR.out d hd
     exact S3)
    have hpre:=cods_len (l.take q) (fun d hd=>⟨HFt.out d (List.mem_of_mem_take hd),HR.out d hd⟩);have hpre2:((l.take q).flatMap codL).length<=30*1750000000100:=Nat.le_trans hpre (Nat.mul_le_mul_right _ aCm);have TN:=head_len HFc.out tT;have LC:=zh LN;have HLn:=zh (lines_len (c:=c) c.code (fun i hi=>⟨LN i hi,(HFc.out.2.2.2 i hi).1,(HFc.out.2.2.2 i hi).2⟩));have wU:=zh (flat_take (f:=codL) HX.out);rw[S3] at GU;clear S3 LN hpre tT;generalize hpr:(l.take q).flatMap codL=pre at *;have HPr:=zh hpr;clear hpr;go_wp2_with(go_at_call 111;refine GU.out.mono ?_;rintro e w5 ⟨rfl,hb5⟩;have EW:=zh (aB sW.out hb5);have UA:=zh (aD hb5 uS.out);have HBd5:=zh (fX (fX xB.out (aA wr (gY c.name (c.params:Int) (c.locals:Int) ac c.code.length cc))) hb5));clear c0 c1 c2 c3 GU xB HR;have HI1:=zh (fun W(h:Below w.heap.size w W)=>Tryz.strconv_Itoa (c.params:Int) aAM aAM W (HG.out _ h).pow10);have K9:=zh (fun W(h:Below w.heap.size w W)=>Tryz.strconv_Itoa (c.locals:Int) aAM aAM W (HG.out _ h).pow10);have hil1:=Lib.itoa_length_le (c.params:Int) aAM aAM;have hil2:=Lib.itoa_length_le (c.locals:Int) aAM aAM;have JM:Hid ((((((⟨#[102,117,110,99,32]⟩++c.name)++⟨#[32]⟩)++⟨(Lib.itoa (c.params:Int)).toArray⟩)++⟨#[32]⟩)++⟨(Lib.itoa (c.locals:Int)).toArray⟩)++⟨#[10]⟩=bs (headL c)):=zh (jA (by simp[app_data,mk_data,bs_data,headL,itoaB]));generalize DD:Lib.itoa (c.params:Int)=it1 at *;generalize JI:Lib.itoa (c.locals:Int)=it2 at *;clear DD JI;have hw5:=EW.out.size;refine wp_region_held_drew (S:=fun W=>W.heap[wr.heap.size]? =some (gY c.name (c.params:Int) (c.locals:Int) ac c.code.length cc)/\Below w.heap.size w W) aAN ⟨UA.out,Below.drew EW.out⟩ fun hS=>?_;refine zt 0 (.pointer (some ⟨wr.heap.size,0,none⟩)) rfl (fun W hW=>aA8) ?_;refine zt 1 (.string c.name) rfl (fun W hW=>aCx) ?_;refine zt 2 (.string (⟨#[102,117,110,99,32]⟩++c.name)) rfl (fun W hW=>aA8) ?_;refine zt 3 (.string ((⟨#[102,117,110,99,32]⟩++c.name)++⟨#[32]⟩)) rfl (fun W hW=>aA8) ?_;refine zt 4 (.pointer (some ⟨wr.heap.size,1,none⟩)) rfl (fun W hW=>aA8) ?_;refine zt 5 (.int .i64 (c.params:Int)) rfl (fun W hW=>aCx) ?_;refine zt 9 (.pointer (some ⟨wr.heap.size,2,none⟩)) rfl (fun W hW=>aA8) ?_;refine zt 10 (.int .i64 (c.locals:Int)) rfl (fun W hW=>aCx) ?_;(try simp only[zn]);refine zr 6 rfl (fun K hK=>?_);(try simp only[z1,z2,z3]);go_simp;refine(HI1.out w5.drew (Below.drew EW.out)).mono ?_;rintro e wi6 ⟨rfl,ki,osi,rfl⟩;have D0:=Lib.below_grow _ w5.drew (Nat.le_refl _) ki osi;generalize Sort.grow (World.drewN w5.drew ki) osi=wi6 at D0 ⊢;have GK:=zh (aB (Below.drew EW.out) D0);have RW:=zh (aD D0 (show w5.drew.heap[wr.heap.size]? =some (gY c.name (c.params:Int) (c.locals:Int) ac c.code.length cc) from UA.out));have HBd6:=zh (fX (fX HBd5.out (aE _)) D0);clear D0;refine hK.out _ _ ⟨RW.out,GK.out⟩ (fun hS=>?_);clear hK K;refine zt 7 (.string (((⟨#[102,117,110,99,32]⟩++c.name)++⟨#[32]⟩)++⟨it1.toArray⟩)) rfl (fun W hW=>aA8) ?_;refine zt 8 (.string ((((⟨#[102,117,110,99,32]⟩++c.name)++⟨#[32]⟩)++⟨it1.toArray⟩)++⟨#[32]⟩)) rfl (fun W hW=>aA8) ?_;(try simp only[zn]);refine zr 11 rfl (fun K hK=>?_);(try simp only[z1,z2,z3]);go_simp;refine(K9.out wi6 GK.out).mono ?_;rintro e wi7 ⟨rfl,ki,osi,rfl⟩;have D0:=Lib.below_grow _ wi6 (Nat.le_refl _) ki osi;generalize Sort.grow (World.drewN wi6 ki) osi=wi7 at D0 ⊢;have AC:=zh (aB GK.out D0);have LV:=zh (aD D0 RW.out);have HBd7:=zh (fX HBd6.out D0);clear D0;refine hK.out _ _ ⟨LV.out,AC.out⟩ (fun hS=>?_);clear hK K;refine zt 12 (.string (((((⟨#[102,117,110,99,32]⟩++c.name)++⟨#[32]⟩)++⟨it1.toArray⟩)++⟨#[32]⟩)++⟨it2.toArray⟩)) rfl (fun W hW=>aA8) ?_;refine zt 13 (.string ((((((⟨#[102,117,110,99,32]⟩++c.name)++⟨#[32]⟩)++⟨it1.toArray⟩)++⟨#[32]⟩)++⟨it2.toArray⟩)++⟨#[10]⟩)) rfl (fun W hW=>aA8) ?_;(try simp only[zn]);refine zr 14 rfl (fun K hK=>?_);(try simp only[z1,z2,z3]);go_simp;(try rw[JM.out]);have hw7:=AC.out.size;refine(writeString_k w.heap.size w.heap.size _ (bs (headL c)) _ HBd7.out (by rw[Lib.byteCells_length,qR];omega) hw7).mono ?_;rintro e w8 ⟨rfl,TX,vD,hk8⟩;have AO:=zh (AC.out.trans vD);have HX8:=zh (hk8 _ _ LV.out (by intro e;have:=Option.some.inj e;omega) (by intro c fz e;cases e));have HBd8:Hid (Lib.BuilderAt 147 5 w.heap.size w.heap.size (.pointer (some ⟨w.heap.size,0,none⟩)) (Lib.byteCells (pre++headL c)) w8):=zh (by rw[Lib.byteCells_append];exact TX);clear TX vD hk8;refine hK.out _ _ ⟨HX8.out,AO.out⟩ (fun hS=>?_);clear hK K;(try simp only[zn]);refine wpAnyH_done aAN ?_ _;clear hS;have vD:=AO.out.size;obtain⟨t0,t1,t2,t3⟩:=bx4 HX8.out;go_wp2_with fail;(go_loopw [35] (fun iv wz=>∃z:Nat,z<=c.code.length/\iv=.int .i64 (z:Int)/\Hid (Lib.IsBuilder 147 5 w.heap.size w.heap.size (Lib.byteCells (pre++headL c++(c.code.take z).flatMap iO)) wz)/\Hid (Below w.heap.size w wz)) (fun iv _=>c.code.length-(intOf iv).toNat));case atStart=>exact⟨0,Nat.zero_le _,rfl,zh (by rw[List.take_zero,List.flatMap_nil,List.append_nil];exact .inr HBd8.out),AO⟩
    case round=>
     obtain⟨z,hz,rfl,wH,tP⟩:=hrel;(rename World=>wz);have UW:=tP.out.size;by_cases TC:z<c.code.length
     ·obtain⟨x,hx,vW⟩:=getElem?_of_lt TC;obtain⟨b9,o9,rfl,-,cs9,⟨vn,rfl,J7,hzm,LL,V1,V0⟩,-,hj⟩:=HCR.out z x hx;obtain⟨an,cn,rfl,-,-,-⟩:=LL.at;have d0:wz.cell? ⟨b9,o9+z*5,none⟩=some (.int .i64 x.op):=aC tP.out (hj 0 _ rfl);have d1:=aC tP.out (hj 1 _ rfl);have d2:=aC tP.out (hj 2 _ rfl);have d3:=aC tP.out (hj 3 _ rfl);have d4:=aC tP.out (hj 4 _ rfl);have DO:=zh (aB tP.out (aA wz (dY x.op x.a x.s x.m an x.names.length cn)));obtain⟨ho0,sJ⟩:=formed_op (LC.out x vW);have PJ:=line_any x an cn N (wz.alloc (dY x.op x.a x.s x.m an x.names.length cn)) (HG.out _ DO.out) ho0 sJ V1 V0 J7 hzm (LL.moves aS (HMv.out _ DO.out) aAO) (by have:=formed_names (LC.out x vW);omega);unfold jS at PJ;have HLN:=zh PJ;have yI:=zh (flat_take (f:=iO) hx)
      have tI:(pre++headL c++(c.code.take z).flatMap iO).length+(iO x).length<=140737488355328:=by
       have h1:=lines_pre (c:=c) (z+1);rw[yI.out,List.length_append] at h1;have h2:=HLn.out;have h3:c.code.length*175<=10000000000*175:=Nat.mul_le_mul_right _ HFc.out.1;rw[List.length_append,List.length_append];omega
      have DH:=zh tI;clear PJ hx vW hj LL J7 hzm tI ho0 sJ V1 V0;go_wp2_with(go_at_call 112;refine HLN.out.mono ?_;rintro e tB ⟨rfl,CS⟩;have tR:=zh (aB DO.out CS);have HBz10:=zh (fX (fX wH.out (aA wz (dY x.op x.a x.s x.m an x.names.length cn))) CS));have hw10:=tR.out.size;have HWS:=zh (writeString_k w.heap.size w.heap.size _ (bs (iO x)) _ HBz10.out (by rw[Lib.byteCells_length,qR];exact DH.out) hw10);go_wp2_with(go_at_call 100;refine HWS.out.mono ?_;rintro e xK ⟨rfl,hB11,hb11,-⟩);have uW:=zh (tR.out.trans hb11);have tQ:=zh hB11;clear hB11 hb11 HWS d0 d1 d2 d3 d4;go_roundw;(case rel=>first|exact⟨z+1,aAM,aAV,zh (.inr aAR),uW⟩|exact⟨_,_,_,_,_,⟨z+1,aAM,aAV,zh (.inr aAR),uW⟩,rfl⟩|exact⟨_,_,_,_,_,_,⟨z+1,aAM,aAV,zh (.inr aAR),uW⟩,rfl⟩|exact⟨_,_,_,_,_,_,_,⟨z+1,aAM,aAV,zh (.inr aAR),uW⟩,rfl⟩|exact⟨_,_,_,_,_,_,_,_,⟨z+1,aAM,aAV,zh (.inr aAR),uW⟩,rfl⟩|exact⟨_,_,_,_,_,_,_,_,_,⟨z+1,aAM,aAV,zh (.inr aAR),uW⟩,rfl⟩|exact⟨_,_,_,_,_,_,_,_,_,_,⟨z+1,aAM,aAV,zh (.inr aAR),uW⟩,rfl⟩|exact⟨_,_,_,_,_,_,_,_,_,_,_,⟨z+1,aAM,aAV,zh (.inr aAR),uW⟩,rfl⟩|exact⟨_,_,_,_,_,_,_,_,_,_,_,_,⟨z+1,aAM,aAV,zh (.inr aAR),uW⟩,rfl⟩|exact⟨_,_,_,_,_,_,_,_,_,_,_,_,_,⟨z+1,aAM,aAV,zh (.inr aAR),uW⟩,rfl⟩|exact⟨_,_,_,_,_,_,_,_,_,_,_,_,_,_,⟨z+1,aAM,aAV,zh (.inr aAR),uW⟩,rfl⟩|exact⟨_,_,_,_,_,_,_,_,_,_,_,_,_,_,_,⟨z+1,aAM,aAV,zh (.inr aAR),uW⟩,rfl⟩|exact⟨_,_,_,_,_,_,_,_,_,_,_,_,_,_,_,_,⟨z+1,aAM,aAV,zh (.inr aAR),uW⟩,rfl⟩|exact⟨_,_,_,_,_,_,_,_,_,_,_,_,_,_,_,_,_,⟨z+1,aAM,aAV,zh (.inr aAR),uW⟩,rfl⟩|exact⟨_,_,_,_,_,_,_,_,_,_,_,_,_,_,_,_,_,_,⟨z+1,aAM,aAV,zh (.inr aAR),uW⟩,rfl⟩|exact⟨_,_,_,_,_,_,_,_,_,_,_,_,_,_,_,_,_,_,_,⟨z+1,aAM,aAV,zh (.inr aAR),uW⟩,rfl⟩|exact⟨_,_,_,_,_,_,_,_,_,_,_,_,_,_,_,_,_,_,_,_,⟨z+1,aAM,aAV,zh (.inr aAR),uW⟩,rfl⟩|exact⟨_,_,_,_,_,_,_,_,_,_,_,_,_,_,_,_,_,_,_,_,_,⟨z+1,aAM,aAV,zh (.inr aAR),uW⟩,rfl⟩|exact⟨_,_,_,_,_,_,_,_,_,_,_,_,_,_,_,_,_,_,_,_,_,_,⟨z+1,aAM,aAV,zh (.inr aAR),uW⟩,rfl⟩|exact⟨_,_,_,_,_,_,_,_,_,_,_,_,_,_,_,_,_,_,_,_,_,_,_,⟨z+1,aAM,aAV,zh (.inr aAR),uW⟩,rfl⟩|exact⟨_,_,_,_,_,_,_,_,_,_,_,_,_,_,_,_,_,_,_,_,_,_,_,_,⟨z+1,aAM,aAV,zh (.inr aAR),uW⟩,rfl⟩|exact⟨_,_,_,_,_,_,_,_,_,_,_,_,_,_,_,_,_,_,_,_,_,_,_,_,_,⟨z+1,aAM,aAV,zh (.inr aAR),uW⟩,rfl⟩|exact⟨_,_,_,_,_,_,_,_,_,_,_,_,_,_,_,_,_,_,_,_,_,_,_,_,_,_,⟨z+1,aAM,aAV,zh (.inr aAR),uW⟩,rfl⟩|exact⟨_,_,_,_,_,_,_,_,_,_,_,_,_,_,_,_,_,_,_,_,_,_,_,_,_,_,_,⟨z+1,aAM,aAV,zh (.inr aAR),uW⟩,rfl⟩|exact⟨_,_,_,_,_,_,_,_,_,_,_,_,_,_,_,_,_,_,_,_,_,_,_,_,_,_,_,_,⟨z+1,aAM,aAV,zh (.inr aAR),uW⟩,rfl⟩|exact⟨_,_,_,_,_,_,_,_,_,_,_,_,_,_,_,_,_,_,_,_,_,_,_,_,_,_,_,_,_,⟨z+1,aAM,aAV,zh (.inr aAR),uW⟩,rfl⟩);case measure=>simp[intOf];omega
     have LI:c.code.take z=c.code:=List.take_of_length_le aAM;rw[LI] at wH;clear LI;go_wp2_with fail;go_roundw;(case rel=>first|exact⟨q+1,aAM,aAV,zh aAS,tP,wZ⟩|exact⟨_,_,_,_,_,⟨q+1,aAM,aAV,zh aAS,tP,wZ⟩,rfl⟩|exact⟨_,_,_,_,_,_,⟨q+1,aAM,aAV,zh aAS,tP,wZ⟩,rfl⟩|exact⟨_,_,_,_,_,_,_,⟨q+1,aAM,aAV,zh aAS,tP,wZ⟩,rfl⟩|exact⟨_,_,_,_,_,_,_,_,⟨q+1,aAM,aAV,zh aAS,tP,wZ⟩,rfl⟩|exact⟨_,_,_,_,_,_,_,_,_,⟨q+1,aAM,aAV,zh aAS,tP,wZ⟩,rfl⟩|exact⟨_,_,_,_,_,_,_,_,_,_,⟨q+1,aAM,aAV,zh aAS,tP,wZ⟩,rfl⟩|exact⟨_,_,_,_,_,_,_,_,_,_,_,⟨q+1,aAM,aAV,zh aAS,tP,wZ⟩,rfl⟩|exact⟨_,_,_,_,_,_,_,_,_,_,_,_,⟨q+1,aAM,aAV,zh aAS,tP,wZ⟩,rfl⟩|exact⟨_,_,_,_,_,_,_,_,_,_,_,_,_,⟨q+1,aAM,aAV,zh aAS,tP,wZ⟩,rfl⟩|exact⟨_,_,_,_,_,_,_,_,_,_,_,_,_,_,⟨q+1,aAM,aAV,zh aAS,tP,wZ⟩,rfl⟩|exact⟨_,_,_,_,_,_,_,_,_,_,_,_,_,_,_,⟨q+1,aAM,aAV,zh aAS,tP,wZ⟩,rfl⟩|exact⟨_,_,_,_,_,_,_,_,_,_,_,_,_,_,_,_,⟨q+1,aAM,aAV,zh aAS,tP,wZ⟩,rfl⟩|exact⟨_,_,_,_,_,_,_,_,_,_,_,_,_,_,_,_,_,⟨q+1,aAM,aAV,zh aAS,tP,wZ⟩,rfl⟩|exact⟨_,_,_,_,_,_,_,_,_,_,_,_,_,_,_,_,_,_,⟨q+1,aAM,aAV,zh aAS,tP,wZ⟩,rfl⟩|exact⟨_,_,_,_,_,_,_,_,_,_,_,_,_,_,_,_,_,_,_,⟨q+1,aAM,aAV,zh aAS,tP,wZ⟩,rfl⟩|exact⟨_,_,_,_,_,_,_,_,_,_,_,_,_,_,_,_,_,_,_,_,⟨q+1,aAM,aAV,zh aAS,tP,wZ⟩,rfl⟩|exact⟨_,_,_,_,_,_,_,_,_,_,_,_,_,_,_,_,_,_,_,_,_,⟨q+1,aAM,aAV,zh aAS,tP,wZ⟩,rfl⟩|exact⟨_,_,_,_,_,_,_,_,_,_,_,_,_,_,_,_,_,_,_,_,_,_,⟨q+1,aAM,aAV,zh aAS,tP,wZ⟩,rfl⟩|exact⟨_,_,_,_,_,_,_,_,_,_,_,_,_,_,_,_,_,_,_,_,_,_,_,⟨q+1,aAM,aAV,zh aAS,tP,wZ⟩,rfl⟩|exact⟨_,_,_,_,_,_,_,_,_,_,_,_,_,_,_,_,_,_,_,_,_,_,_,_,⟨q+1,aAM,aAV,zh aAS,tP,wZ⟩,rfl⟩|exact⟨_,_,_,_,_,_,_,_,_,_,_,_,_,_,_,_,_,_,_,_,_,_,_,_,_,⟨q+1,aAM,aAV,zh aAS,tP,wZ⟩,rfl⟩|exact⟨_,_,_,_,_,_,_,_,_,_,_,_,_,_,_,_,_,_,_,_,_,_,_,_,_,_,⟨q+1,aAM,aAV,zh aAS,tP,wZ⟩,rfl⟩|exact⟨_,_,_,_,_,_,_,_,_,_,_,_,_,_,_,_,_,_,_,_,_,_,_,_,_,_,_,⟨q+1,aAM,aAV,zh aAS,tP,wZ⟩,rfl⟩|exact⟨_,_,_,_,_,_,_,_,_,_,_,_,_,_,_,_,_,_,_,_,_,_,_,_,_,_,_,_,⟨q+1,aAM,aAV,zh aAS,tP,wZ⟩,rfl⟩|exact⟨_,_,_,_,_,_,_,_,_,_,_,_,_,_,_,_,_,_,_,_,_,_,_,_,_,_,_,_,_,⟨q+1,aAM,aAV,zh aAS,tP,wZ⟩,rfl⟩);case measure=>simp[intOf];omega
  have AR:l.take q=l:=List.take_of_length_le aAM;rw[AR] at xB HR
  have HF:Hid (listC l=⟨(l.flatMap codL).toArray⟩):=zh (by
   unfold listC
   rw[if_pos (List.all_eq_true.2 HR.out)])
  clear HR AR;go_wp2_with(go_at_call 101;refine(Tryz.Builder_String_any w.heap.size w.heap.size _ _ xB.out yU).mono ?_;rintro e w' ⟨rfl,tO⟩);go_ret;exact⟨oH HF.out.symm,HB.out.trans tO⟩
theorem lastIdx_ge(s:bA):∀(l:List bA),-1<=eG l s/\eG l s<l.length
 |[]=>by simp[eG]
 |x::r=>by
  have:=lastIdx_ge s r;rw[eG,List.length_cons];split
  ·omega
  split<;>omega
theorem lastIdx_off(s:bA):∀(l:List bA)(k:Nat),0<=eG (l.drop k) s->eG l s=eG (l.drop k) s+k
 |l,0,_=>aAQ
 |[],k+1,h=>by simp[eG] at h
 |x::r,k+1,h=>by
  rw[List.drop_succ_cons] at h ⊢;have:=lastIdx_off s r k h;rw[eG,if_pos aAM,this];omega
theorem lastIdx_hit{s x:bA}{l:List bA}{k:Nat}(hx:l[k]? =some x)(h:eG (l.drop (k+1)) s= -1)(he:x=s):eG l s=k:=by
 obtain⟨hk,hv⟩:=Yb.1 hx;have e:eG (l.drop k) s=0:=by rw[Qd hk,eG,h,hv,if_neg aAM,if_pos he]
 have:=lastIdx_off s l k aAM;omega
theorem lastIdx_miss{s x:bA}{l:List bA}{k:Nat}(hx:l[k]? =some x)(h:eG (l.drop (k+1)) s= -1)(he:x≠s):eG (l.drop k) s= -1:=by
 obtain⟨hk,hv⟩:=Yb.1 hx;rw[Qd hk,eG,h,hv,if_neg aAM,if_neg he]
theorem clast_any(l:List bA)(s:bA)(v:Value)(w:World)(hl:l.length<=1000000)(hv:Strs w v l):
  Calls Tryz.prog 153 #[v,.string s] w fun e w'=>e=.returned (.int .i64 (eG l s))/\w=w':=by
 rcases hv.cases with⟨rfl,a,c,rfl⟩|⟨b,o,c,rfl,h0,h1,h2,hb,hc⟩
 ·clear hv;go_enter Tryz.func153,Tryz.ntmps153;go_wp2_with fail;go_loop [5] (fun i=>i=.int .i64 (-1)) (fun _=>0)
  case atStart=>rfl
  case round=>
   subst hrel;exact aAF
 clear hv;have HC:=zh hc;clear hc;go_enter Tryz.func153,Tryz.ntmps153;go_wp2_with fail;go_loop [5] (fun i=>∃k:Nat,k<=l.length/\i=.int .i64 ((k:Int)-1)/\Hid (eG (l.drop k) s= -1)) (fun i=>(intOf i+1).toNat)
 case atStart=>exact⟨l.length,Nat.le_refl _,rfl,zh (by rw[List.drop_length];rfl)⟩
 case round=>
  obtain⟨k,hk,rfl,HL⟩:=hrel
  cases k with
  |zero=>
   have HF:Hid (eG l s= -1):=HL;go_wp2_with fail;go_ret;exact⟨fU HF.out.symm,rfl⟩
  |succ k=>
   obtain⟨x,hx,-⟩:=getElem?_of_lt (show k<l.length by omega);have tH:=(HC.out k x hx).1;have e1:((k+1:Nat):Int)-1=(k:Int):=aAM;rw[e1];by_cases he:x=s
   ·(have he':(x.toList==s.toList)=true:=by rw[bI];exact decide_eq_true he);have HF:=zh (lastIdx_hit hx HL.out he);clear he hx HC;go_wp2_with fail;go_ret;exact⟨fU HF.out.symm,rfl⟩
   (have he':(x.toList==s.toList)=false:=by rw[bI];exact Qb he);have HF:=zh (lastIdx_miss hx HL.out he);clear he hx HC;go_wp2_with fail
   go_round
   (case rel=>exact⟨k,aAM,aAV,HF⟩);case measure=>simp[intOf]
theorem enters_variable1:∀args w,(callFunc 200 args).run Tryz.prog w=.ok (.enter 200 args) w:=enters_of Tryz.func200 aAN rfl
theorem variable1_any(s n:bA)(k:Int)(a:Option Addr)(m c b:Nat)(w:World)(hb:w.cell? ⟨b,0,none⟩=some (.string s)):
  Calls Tryz.prog 200 #[oBx32 n k a m c,.pointer (some ⟨b,0,none⟩)] w fun e w'=>e=.returned (.bool (decide (n=s)))/\Below w.heap.size w w':=by
 have sE:=cT hb;go_enter Tryz.func200,Tryz.ntmps200;go_wp2_with fail;go_ret;exact⟨aF (bI _ _),aA _ _⟩
theorem varIdx_eq(l:List Fld)(s:bA):kI (l.map (·.1)) s=kC (fun f:Fld=>decide (f.1=s)) l:=by
 unfold kI kC;rw[List.findIdx?_map];rfl
def TestsFld(g:FuncId)(cap:Array Value)(p:bA->Bool)(w:World):Prop:=
 ∀(n:bA)(k:Int)(a:Option Addr)(m c:Nat)W,Below w.heap.size w W->Calls Tryz.prog g (#[oBx32 n k a m c]++cap) W fun e W'=>e=.returned (.bool (p n))/\Below W.heap.size W W'
theorem indexFunc_fld(g:FuncId)(cap:Array Value)(p:bA->Bool)(l:List Fld)(N:Nat->Prop)(v:Value)(w:World)(hv:aL 3 gR N w v l)
  (eg:∀args w,(callFunc g args).run Tryz.prog w=.ok (.enter g args) w) (hp:TestsFld g cap p w):
  Calls Tryz.prog 199 #[v,.func (.func g) #[] cap] w fun e w'=>e=.returned (.int .i64 (kC (fun f:Fld=>p f.1) l))/\Below w.heap.size w w':=by
 have HP:=zh hp;clear hp;rcases hv.cases aAO with⟨rfl,a,c,rfl⟩|⟨b,o,c,rfl,h0,h1,h2,hb,hN,hc⟩
 ·clear hv;go_enter Tryz.func199,Tryz.ntmps199;exact YV
 clear hv;have HC:=zh hc;clear hc;go_enter Tryz.func199,Tryz.ntmps199;go_wp2_with fail;go_loopw [8] (fun i wr=>∃k:Nat,k<=l.length/\i=.int .i64 k/\Hid (∀x,x∈l.take k->p x.1=false)/\Hid (Below w.heap.size w wr)) (fun i _=>l.length-(intOf i).toNat)
 case atStart=>exact⟨0,Nat.zero_le _,rfl,zh aAQ,zh (Below.refl _ _)⟩
 case round=>
  obtain⟨k,hk,rfl,HN,HB⟩:=hrel;rename World=>wr
  by_cases sE:k<l.length
  ·obtain⟨x,hx,I7⟩:=getElem?_of_lt sE;obtain⟨cs,wB,-,hj⟩:=HC.out k x hx;obtain⟨nm,t⟩:=x;obtain⟨ct,rfl,tI,E0⟩:=wB
   cases t with
   |mk kd fs=>
    rw[iF] at E0;obtain⟨vf,rfl,yC⟩:=E0;obtain⟨a1,T5,rfl,-⟩:=yC;have c0:wr.cell? ⟨b,o+k*3,none⟩=some (.string nm):=aC HB.out (hj 0 _ rfl);have c1:=aC HB.out (hj 1 _ rfl);have c2:=aC HB.out (hj 2 _ rfl);have HX:=zh hx;have tA:=zh (HP.out nm kd a1 fs.length T5 _ HB.out);clear hj hx I7 HC;generalize fs.length=ln at *
    cases hq:p nm with
    |true=>
     rw[hq] at tA;have HQ:=zh hq;clear hq;go_wp2_with(go_at_fn g;refine(tA.out).mono ?_;rintro e w' ⟨rfl,tO⟩);go_ret;exact⟨fU (nG (p:=fun f:Fld=>p f.1) (mG HX.out HQ.out HN.out)).symm,aB HB.out tO⟩
    |false=>
     rw[hq] at tA;have HQ:=zh hq;clear hq;go_wp2_with(go_at_fn g;refine(tA.out).mono ?_;rintro e w' ⟨rfl,tO⟩);go_roundw;(case rel=>exact⟨k+1,aAM,aAV,zh (qF (p:=fun f:Fld=>p f.1) HX.out HQ.out HN.out),zh (aB HB.out tO)⟩);case measure=>simp[intOf];omega
  go_wp2_with fail;go_ret;exact⟨fU (nH (p:=fun f:Fld=>p f.1) (mT aAM HN.out)).symm,HB.out⟩
theorem variable_any(cb:Nat)(vars:List Fld)(N:Nat->Prop)(vv:Value)(u1 u2:Value)(s:bA)(w:World)(IA:w.heap[cb]? =some (.cells #[vv,u1,u2] 182))(hv:aL 3 gR N w vv vars):
  Calls Tryz.prog 154 #[.pointer (some ⟨cb,0,none⟩),.string s] w fun e w'=>e=.returned (.int .i64 (kI (vars.map (·.1)) s))/\Below w.heap.size w w':=by
 have NE:∀W,Below w.heap.size w W->W.heap[w.heap.size]? =some (eP s)->Calls Tryz.prog 199 #[vv,.func (.func 200) #[] #[.pointer (some ⟨w.heap.size,0,none⟩)]] W
   fun e w'=>e=.returned (.int .i64 (kI (vars.map (·.1)) s))/\Below W.heap.size W w':=fun W hb hW=>by
  rw[varIdx_eq];refine indexFunc_fld _ _ (fun n=>decide (n=s)) vars N vv W (hv.moves bB (bU.later hb) aAO) enters_variable1 (fun n k a m c W' tO=>?_);have h0:W.cell? ⟨w.heap.size,0,none⟩=some (.string s):=by simp[World.cell?,hW]
  exact variable1_any s n k a m c w.heap.size W' (aC tO h0)
 have HI:=zh NE;clear NE;generalize kI (vars.map (·.1)) s=r at HI ⊢;obtain⟨a,c,rfl,-⟩:=hv;generalize vars.length=n at *;obtain⟨⟨b0,b1,b2⟩,-⟩:=bx3 IA;have sE:=cT b0;clear IA;go_enter Tryz.func154,Tryz.ntmps154;go_wp2_with(go_at_call 199;refine(HI.out _ (aA _ _) (aH _ _)).mono ?_;rintro e w' ⟨rfl,tO⟩);go_ret;exact⟨rfl,aB (aA _ _) tO⟩
end Go.Proofs.YtacgopankhpnbaaGreatDoor
