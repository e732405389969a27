/- Texts of this seat, joined. -/
import Derived.Test.YtiionicikdnnpaaGreatDoorPAI
set_option maxHeartbeats 64000000
set_option maxRecDepth 100000
set_option linter.unusedVariables false
set_option linter.unusedSimpArgs false
set_option linter.constructorNameAsVariable false
namespace Go.Proofs.YtiionicikdnnpaaGreatDoor
open Go.RowKit
theorem RV{p:Prop}(h:p:=by
 by_cases h1:nm=nm'
 ·subst h1
  cases qu with
  |false=>
   go_wp2_with(go_at_call 56;refine(HO.out _ qZ.out).mono ?_;rintro e w1 ⟨rfl,pN⟩;have pU:=zh (aA HW.out pN);have qN:=zh (aA pK.out pU.out);clear pN;clear r0 r1 r2 r3 r4 r5 r6 r7 r8 s0 s1 s2 s3 s4 s5 s6 s7 s8;obtain⟨⟨r0,r1,r2,r3,r4,r5,r6,r7,r8⟩,-⟩:=bx9 (aD pU.out pV.out);obtain⟨⟨s0,s1,s2,s3,s4,s5,s6,s7,s8⟩,-⟩:=bx9 (aD pU.out qA.out));go_wp2_with fail;go_at_call 57;refine(HF.out _ qN.out).mono ?_;rintro e w2 ⟨rfl,pM⟩;have pX:=zh (aA pU.out pM);have pQ:=zh (aA pK.out pX.out);clear pM;clear r0 r1 r2 r3 r4 r5 r6 r7 r8 s0 s1 s2 s3 s4 s5 s6 s7 s8;obtain⟨⟨r0,r1,r2,r3,r4,r5,r6,r7,r8⟩,-⟩:=bx9 (aD pX.out pV.out);obtain⟨⟨s0,s1,s2,s3,s4,s5,s6,s7,s8⟩,-⟩:=bx9 (aD pX.out qA.out);go_wp2_with(go_at_call 57;refine(HK.out _ pQ.out).mono ?_;rintro e w3 ⟨rfl,pR⟩;have pZ:=zh (aA pX.out pR);have qG:=zh (aA pK.out pZ.out);clear pR;clear r0 r1 r2 r3 r4 r5 r6 r7 r8 s0 s1 s2 s3 s4 s5 s6 s7 s8;obtain⟨⟨r0,r1,r2,r3,r4,r5,r6,r7,r8⟩,-⟩:=bx9 (aD pZ.out pV.out);obtain⟨⟨s0,s1,s2,s3,s4,s5,s6,s7,s8⟩,-⟩:=bx9 (aD pZ.out qA.out));go_wp2_with(go_at_call 58;refine(HU.out _ qG.out).mono ?_;rintro e w4 ⟨rfl,qE⟩;have qK:=zh (aA pZ.out qE);have rB:=zh (aA pK.out qK.out);clear qE;clear r0 r1 r2 r3 r4 r5 r6 r7 r8 s0 s1 s2 s3 s4 s5 s6 s7 s8;obtain⟨⟨r0,r1,r2,r3,r4,r5,r6,r7,r8⟩,-⟩:=bx9 (aD qK.out pV.out);obtain⟨⟨s0,s1,s2,s3,s4,s5,s6,s7,s8⟩,-⟩:=bx9 (aD qK.out qA.out));go_ret;exact⟨aF W3,rB.out⟩
  |true=>
   cases qv with
   |false=>
    go_wp2_with(go_at_call 56;refine(HO.out _ qZ.out).mono ?_;rintro e w1 ⟨rfl,pN⟩;have pU:=zh (aA HW.out pN);have qN:=zh (aA pK.out pU.out);clear pN;clear r0 r1 r2 r3 r4 r5 r6 r7 r8 s0 s1 s2 s3 s4 s5 s6 s7 s8;obtain⟨⟨r0,r1,r2,r3,r4,r5,r6,r7,r8⟩,-⟩:=bx9 (aD pU.out pV.out);obtain⟨⟨s0,s1,s2,s3,s4,s5,s6,s7,s8⟩,-⟩:=bx9 (aD pU.out qA.out));go_wp2_with fail;go_at_call 57;refine(HF.out _ qN.out).mono ?_;rintro e w2 ⟨rfl,pM⟩;have pX:=zh (aA pU.out pM);have pQ:=zh (aA pK.out pX.out);clear pM;clear r0 r1 r2 r3 r4 r5 r6 r7 r8 s0 s1 s2 s3 s4 s5 s6 s7 s8;obtain⟨⟨r0,r1,r2,r3,r4,r5,r6,r7,r8⟩,-⟩:=bx9 (aD pX.out pV.out);obtain⟨⟨s0,s1,s2,s3,s4,s5,s6,s7,s8⟩,-⟩:=bx9 (aD pX.out qA.out);go_wp2_with(go_at_call 57;refine(HK.out _ pQ.out).mono ?_;rintro e w3 ⟨rfl,pR⟩;have pZ:=zh (aA pX.out pR);have qG:=zh (aA pK.out pZ.out);clear pR;clear r0 r1 r2 r3 r4 r5 r6 r7 r8 s0 s1 s2 s3 s4 s5 s6 s7 s8;obtain⟨⟨r0,r1,r2,r3,r4,r5,r6,r7,r8⟩,-⟩:=bx9 (aD pZ.out pV.out);obtain⟨⟨s0,s1,s2,s3,s4,s5,s6,s7,s8⟩,-⟩:=bx9 (aD pZ.out qA.out));go_wp2_with(go_at_call 58;refine(HU.out _ qG.out).mono ?_;rintro e w4 ⟨rfl,qE⟩;have qK:=zh (aA pZ.out qE);have rB:=zh (aA pK.out qK.out);clear qE;clear r0 r1 r2 r3 r4 r5 r6 r7 r8 s0 s1 s2 s3 s4 s5 s6 s7 s8;obtain⟨⟨r0,r1,r2,r3,r4,r5,r6,r7,r8⟩,-⟩:=bx9 (aD qK.out pV.out);obtain⟨⟨s0,s1,s2,s3,s4,s5,s6,s7,s8⟩,-⟩:=bx9 (aD qK.out qA.out));go_wp2_with(go_at_call 56;refine(HV.out _ rB.out).mono ?_;rintro e w5 ⟨rfl,hb5⟩;have rM:=zh (aA qK.out hb5);have tH:=zh (aA pK.out rM.out);clear hb5;clear r0 r1 r2 r3 r4 r5 r6 r7 r8 s0 s1 s2 s3 s4 s5 s6 s7 s8;obtain⟨⟨r0,r1,r2,r3,r4,r5,r6,r7,r8⟩,-⟩:=bx9 (aD rM.out pV.out);obtain⟨⟨s0,s1,s2,s3,s4,s5,s6,s7,s8⟩,-⟩:=bx9 (aD rM.out qA.out));go_ret;exact⟨aF W3,tH.out⟩
   |true=>
    cases qi with
    |false=>
     go_wp2_with(go_at_call 56;refine(HO.out _ qZ.out).mono ?_;rintro e w1 ⟨rfl,pN⟩;have pU:=zh (aA HW.out pN);have qN:=zh (aA pK.out pU.out);clear pN;clear r0 r1 r2 r3 r4 r5 r6 r7 r8 s0 s1 s2 s3 s4 s5 s6 s7 s8;obtain⟨⟨r0,r1,r2,r3,r4,r5,r6,r7,r8⟩,-⟩:=bx9 (aD pU.out pV.out);obtain⟨⟨s0,s1,s2,s3,s4,s5,s6,s7,s8⟩,-⟩:=bx9 (aD pU.out qA.out));go_wp2_with fail;go_at_call 57;refine(HF.out _ qN.out).mono ?_;rintro e w2 ⟨rfl,pM⟩;have pX:=zh (aA pU.out pM);have pQ:=zh (aA pK.out pX.out);clear pM;clear r0 r1 r2 r3 r4 r5 r6 r7 r8 s0 s1 s2 s3 s4 s5 s6 s7 s8;obtain⟨⟨r0,r1,r2,r3,r4,r5,r6,r7,r8⟩,-⟩:=bx9 (aD pX.out pV.out);obtain⟨⟨s0,s1,s2,s3,s4,s5,s6,s7,s8⟩,-⟩:=bx9 (aD pX.out qA.out);go_wp2_with(go_at_call 57;refine(HK.out _ pQ.out).mono ?_;rintro e w3 ⟨rfl,pR⟩;have pZ:=zh (aA pX.out pR);have qG:=zh (aA pK.out pZ.out);clear pR;clear r0 r1 r2 r3 r4 r5 r6 r7 r8 s0 s1 s2 s3 s4 s5 s6 s7 s8;obtain⟨⟨r0,r1,r2,r3,r4,r5,r6,r7,r8⟩,-⟩:=bx9 (aD pZ.out pV.out);obtain⟨⟨s0,s1,s2,s3,s4,s5,s6,s7,s8⟩,-⟩:=bx9 (aD pZ.out qA.out));go_wp2_with(go_at_call 58;refine(HU.out _ qG.out).mono ?_;rintro e w4 ⟨rfl,qE⟩;have qK:=zh (aA pZ.out qE);have rB:=zh (aA pK.out qK.out);clear qE;clear r0 r1 r2 r3 r4 r5 r6 r7 r8 s0 s1 s2 s3 s4 s5 s6 s7 s8;obtain⟨⟨r0,r1,r2,r3,r4,r5,r6,r7,r8⟩,-⟩:=bx9 (aD qK.out pV.out);obtain⟨⟨s0,s1,s2,s3,s4,s5,s6,s7,s8⟩,-⟩:=bx9 (aD qK.out qA.out));go_wp2_with(go_at_call 56;refine(HV.out _ rB.out).mono ?_;rintro e w5 ⟨rfl,hb5⟩;have rM:=zh (aA qK.out hb5);have tH:=zh (aA pK.out rM.out);clear hb5;clear r0 r1 r2 r3 r4 r5 r6 r7 r8 s0 s1 s2 s3 s4 s5 s6 s7 s8;obtain⟨⟨r0,r1,r2,r3,r4,r5,r6,r7,r8⟩,-⟩:=bx9 (aD rM.out pV.out);obtain⟨⟨s0,s1,s2,s3,s4,s5,s6,s7,s8⟩,-⟩:=bx9 (aD rM.out qA.out));go_wp2_with(go_at_call 57;refine(HI.out _ tH.out).mono ?_;rintro e w6 ⟨rfl,rV⟩;have vJ:=zh (aA rM.out rV);have tZ:=zh (aA pK.out vJ.out);clear rV;clear r0 r1 r2 r3 r4 r5 r6 r7 r8 s0 s1 s2 s3 s4 s5 s6 s7 s8;obtain⟨⟨r0,r1,r2,r3,r4,r5,r6,r7,r8⟩,-⟩:=bx9 (aD vJ.out pV.out);obtain⟨⟨s0,s1,s2,s3,s4,s5,s6,s7,s8⟩,-⟩:=bx9 (aD vJ.out qA.out));go_ret;exact⟨aF W3,tZ.out⟩
    |true=>
     by_cases h5:mv=mv'
     ·subst h5;go_wp2_with(go_at_call 56;refine(HO.out _ qZ.out).mono ?_;rintro e w1 ⟨rfl,pN⟩;have pU:=zh (aA HW.out pN);have qN:=zh (aA pK.out pU.out);clear pN;clear r0 r1 r2 r3 r4 r5 r6 r7 r8 s0 s1 s2 s3 s4 s5 s6 s7 s8;obtain⟨⟨r0,r1,r2,r3,r4,r5,r6,r7,r8⟩,-⟩:=bx9 (aD pU.out pV.out);obtain⟨⟨s0,s1,s2,s3,s4,s5,s6,s7,s8⟩,-⟩:=bx9 (aD pU.out qA.out));go_wp2_with fail;go_at_call 57;refine(HF.out _ qN.out).mono ?_;rintro e w2 ⟨rfl,pM⟩;have pX:=zh (aA pU.out pM);have pQ:=zh (aA pK.out pX.out);clear pM;clear r0 r1 r2 r3 r4 r5 r6 r7 r8 s0 s1 s2 s3 s4 s5 s6 s7 s8;obtain⟨⟨r0,r1,r2,r3,r4,r5,r6,r7,r8⟩,-⟩:=bx9 (aD pX.out pV.out);obtain⟨⟨s0,s1,s2,s3,s4,s5,s6,s7,s8⟩,-⟩:=bx9 (aD pX.out qA.out);go_wp2_with(go_at_call 57;refine(HK.out _ pQ.out).mono ?_;rintro e w3 ⟨rfl,pR⟩;have pZ:=zh (aA pX.out pR);have qG:=zh (aA pK.out pZ.out);clear pR;clear r0 r1 r2 r3 r4 r5 r6 r7 r8 s0 s1 s2 s3 s4 s5 s6 s7 s8;obtain⟨⟨r0,r1,r2,r3,r4,r5,r6,r7,r8⟩,-⟩:=bx9 (aD pZ.out pV.out);obtain⟨⟨s0,s1,s2,s3,s4,s5,s6,s7,s8⟩,-⟩:=bx9 (aD pZ.out qA.out));go_wp2_with(go_at_call 58;refine(HU.out _ qG.out).mono ?_;rintro e w4 ⟨rfl,qE⟩;have qK:=zh (aA pZ.out qE);have rB:=zh (aA pK.out qK.out);clear qE;clear r0 r1 r2 r3 r4 r5 r6 r7 r8 s0 s1 s2 s3 s4 s5 s6 s7 s8;obtain⟨⟨r0,r1,r2,r3,r4,r5,r6,r7,r8⟩,-⟩:=bx9 (aD qK.out pV.out);obtain⟨⟨s0,s1,s2,s3,s4,s5,s6,s7,s8⟩,-⟩:=bx9 (aD qK.out qA.out));go_wp2_with(go_at_call 56;refine(HV.out _ rB.out).mono ?_;rintro e w5 ⟨rfl,hb5⟩;have rM:=zh (aA qK.out hb5);have tH:=zh (aA pK.out rM.out);clear hb5;clear r0 r1 r2 r3 r4 r5 r6 r7 r8 s0 s1 s2 s3 s4 s5 s6 s7 s8;obtain⟨⟨r0,r1,r2,r3,r4,r5,r6,r7,r8⟩,-⟩:=bx9 (aD rM.out pV.out);obtain⟨⟨s0,s1,s2,s3,s4,s5,s6,s7,s8⟩,-⟩:=bx9 (aD rM.out qA.out));go_wp2_with(go_at_call 57;refine(HI.out _ tH.out).mono ?_;rintro e w6 ⟨rfl,rV⟩;have vJ:=zh (aA rM.out rV);have tZ:=zh (aA pK.out vJ.out);clear rV;clear r0 r1 r2 r3 r4 r5 r6 r7 r8 s0 s1 s2 s3 s4 s5 s6 s7 s8;obtain⟨⟨r0,r1,r2,r3,r4,r5,r6,r7,r8⟩,-⟩:=bx9 (aD vJ.out pV.out);obtain⟨⟨s0,s1,s2,s3,s4,s5,s6,s7,s8⟩,-⟩:=bx9 (aD vJ.out qA.out));go_ret;exact⟨aF W3,tZ.out⟩
     have g:(mv==mv')=false:=beq_eq_false_iff_ne.2 h5;go_wp2_with(go_at_call 56;refine(HO.out _ qZ.out).mono ?_;rintro e w1 ⟨rfl,pN⟩;have pU:=zh (aA HW.out pN);have qN:=zh (aA pK.out pU.out);clear pN;clear r0 r1 r2 r3 r4 r5 r6 r7 r8 s0 s1 s2 s3 s4 s5 s6 s7 s8;obtain⟨⟨r0,r1,r2,r3,r4,r5,r6,r7,r8⟩,-⟩:=bx9 (aD pU.out pV.out);obtain⟨⟨s0,s1,s2,s3,s4,s5,s6,s7,s8⟩,-⟩:=bx9 (aD pU.out qA.out));go_wp2_with fail;go_at_call 57;refine(HF.out _ qN.out).mono ?_;rintro e w2 ⟨rfl,pM⟩;have pX:=zh (aA pU.out pM);have pQ:=zh (aA pK.out pX.out);clear pM;clear r0 r1 r2 r3 r4 r5 r6 r7 r8 s0 s1 s2 s3 s4 s5 s6 s7 s8;obtain⟨⟨r0,r1,r2,r3,r4,r5,r6,r7,r8⟩,-⟩:=bx9 (aD pX.out pV.out);obtain⟨⟨s0,s1,s2,s3,s4,s5,s6,s7,s8⟩,-⟩:=bx9 (aD pX.out qA.out);go_wp2_with(go_at_call 57;refine(HK.out _ pQ.out).mono ?_;rintro e w3 ⟨rfl,pR⟩;have pZ:=zh (aA pX.out pR);have qG:=zh (aA pK.out pZ.out);clear pR;clear r0 r1 r2 r3 r4 r5 r6 r7 r8 s0 s1 s2 s3 s4 s5 s6 s7 s8;obtain⟨⟨r0,r1,r2,r3,r4,r5,r6,r7,r8⟩,-⟩:=bx9 (aD pZ.out pV.out);obtain⟨⟨s0,s1,s2,s3,s4,s5,s6,s7,s8⟩,-⟩:=bx9 (aD pZ.out qA.out));go_wp2_with(go_at_call 58;refine(HU.out _ qG.out).mono ?_;rintro e w4 ⟨rfl,qE⟩;have qK:=zh (aA pZ.out qE);have rB:=zh (aA pK.out qK.out);clear qE;clear r0 r1 r2 r3 r4 r5 r6 r7 r8 s0 s1 s2 s3 s4 s5 s6 s7 s8;obtain⟨⟨r0,r1,r2,r3,r4,r5,r6,r7,r8⟩,-⟩:=bx9 (aD qK.out pV.out);obtain⟨⟨s0,s1,s2,s3,s4,s5,s6,s7,s8⟩,-⟩:=bx9 (aD qK.out qA.out));go_wp2_with(go_at_call 56;refine(HV.out _ rB.out).mono ?_;rintro e w5 ⟨rfl,hb5⟩;have rM:=zh (aA qK.out hb5);have tH:=zh (aA pK.out rM.out);clear hb5;clear r0 r1 r2 r3 r4 r5 r6 r7 r8 s0 s1 s2 s3 s4 s5 s6 s7 s8;obtain⟨⟨r0,r1,r2,r3,r4,r5,r6,r7,r8⟩,-⟩:=bx9 (aD rM.out pV.out);obtain⟨⟨s0,s1,s2,s3,s4,s5,s6,s7,s8⟩,-⟩:=bx9 (aD rM.out qA.out));go_wp2_with(go_at_call 57;refine(HI.out _ tH.out).mono ?_;rintro e w6 ⟨rfl,rV⟩;have vJ:=zh (aA rM.out rV);have tZ:=zh (aA pK.out vJ.out);clear rV;clear r0 r1 r2 r3 r4 r5 r6 r7 r8 s0 s1 s2 s3 s4 s5 s6 s7 s8;obtain⟨⟨r0,r1,r2,r3,r4,r5,r6,r7,r8⟩,-⟩:=bx9 (aD vJ.out pV.out);obtain⟨⟨s0,s1,s2,s3,s4,s5,s6,s7,s8⟩,-⟩:=bx9 (aD vJ.out qA.out));go_ret;exact⟨aF (by rw[sS.out];simp[h5]),tZ.out⟩
 have g:(nm.toList==nm'.toList)=false:=iS h1;go_wp2_with(go_at_call 56;refine(HO.out _ qZ.out).mono ?_;rintro e w1 ⟨rfl,pN⟩;have pU:=zh (aA HW.out pN);have qN:=zh (aA pK.out pU.out);clear pN;clear r0 r1 r2 r3 r4 r5 r6 r7 r8 s0 s1 s2 s3 s4 s5 s6 s7 s8;obtain⟨⟨r0,r1,r2,r3,r4,r5,r6,r7,r8⟩,-⟩:=bx9 (aD pU.out pV.out);obtain⟨⟨s0,s1,s2,s3,s4,s5,s6,s7,s8⟩,-⟩:=bx9 (aD pU.out qA.out));go_wp2_with fail;go_at_call 57;refine(HF.out _ qN.out).mono ?_;rintro e w2 ⟨rfl,pM⟩;have pX:=zh (aA pU.out pM);have pQ:=zh (aA pK.out pX.out);clear pM;clear r0 r1 r2 r3 r4 r5 r6 r7 r8 s0 s1 s2 s3 s4 s5 s6 s7 s8;obtain⟨⟨r0,r1,r2,r3,r4,r5,r6,r7,r8⟩,-⟩:=bx9 (aD pX.out pV.out);obtain⟨⟨s0,s1,s2,s3,s4,s5,s6,s7,s8⟩,-⟩:=bx9 (aD pX.out qA.out);go_wp2_with(go_at_call 57;refine(HK.out _ pQ.out).mono ?_;rintro e w3 ⟨rfl,pR⟩;have pZ:=zh (aA pX.out pR);have qG:=zh (aA pK.out pZ.out);clear pR;clear r0 r1 r2 r3 r4 r5 r6 r7 r8 s0 s1 s2 s3 s4 s5 s6 s7 s8;obtain⟨⟨r0,r1,r2,r3,r4,r5,r6,r7,r8⟩,-⟩:=bx9 (aD pZ.out pV.out);obtain⟨⟨s0,s1,s2,s3,s4,s5,s6,s7,s8⟩,-⟩:=bx9 (aD pZ.out qA.out));go_ret
 exact⟨aF (by rw[sS.out];simp[h1]),qG.out⟩):p:=h
theorem R5{p:Prop}(h:p:=by
 go_wp2_with(go_at_call 56;refine(HO.out _ qZ.out).mono ?_;rintro e w1 ⟨rfl,pN⟩;have pU:=zh (aA HW.out pN);have qN:=zh (aA pK.out pU.out);clear pN;clear r0 r1 r2 r3 r4 r5 r6 r7 r8 s0 s1 s2 s3 s4 s5 s6 s7 s8;obtain⟨⟨r0,r1,r2,r3,r4,r5,r6,r7,r8⟩,-⟩:=bx9 (aD pU.out pV.out);obtain⟨⟨s0,s1,s2,s3,s4,s5,s6,s7,s8⟩,-⟩:=bx9 (aD pU.out qA.out));go_wp2_with(go_at_call 57;refine(HF.out _ qN.out).mono ?_;rintro e w2 ⟨rfl,pM⟩;have pX:=zh (aA pU.out pM);have pQ:=zh (aA pK.out pX.out);clear pM;clear r0 r1 r2 r3 r4 r5 r6 r7 r8 s0 s1 s2 s3 s4 s5 s6 s7 s8;obtain⟨⟨r0,r1,r2,r3,r4,r5,r6,r7,r8⟩,-⟩:=bx9 (aD pX.out pV.out);obtain⟨⟨s0,s1,s2,s3,s4,s5,s6,s7,s8⟩,-⟩:=bx9 (aD pX.out qA.out));go_wp2_with(go_at_call 58;refine(HU.out _ pQ.out).mono ?_;rintro e w3 ⟨rfl,pR⟩;have pZ:=zh (aA pX.out pR);have qG:=zh (aA pK.out pZ.out);clear pR;clear r0 r1 r2 r3 r4 r5 r6 r7 r8 s0 s1 s2 s3 s4 s5 s6 s7 s8;obtain⟨⟨r0,r1,r2,r3,r4,r5,r6,r7,r8⟩,-⟩:=bx9 (aD pZ.out pV.out);obtain⟨⟨s0,s1,s2,s3,s4,s5,s6,s7,s8⟩,-⟩:=bx9 (aD pZ.out qA.out));go_wp2_with(go_at_call 56;refine(HV.out _ qG.out).mono ?_;rintro e w4 ⟨rfl,qE⟩;have qK:=zh (aA pZ.out qE);have rB:=zh (aA pK.out qK.out);clear qE;clear r0 r1 r2 r3 r4 r5 r6 r7 r8 s0 s1 s2 s3 s4 s5 s6 s7 s8;obtain⟨⟨r0,r1,r2,r3,r4,r5,r6,r7,r8⟩,-⟩:=bx9 (aD qK.out pV.out);obtain⟨⟨s0,s1,s2,s3,s4,s5,s6,s7,s8⟩,-⟩:=bx9 (aD qK.out qA.out));go_wp2_with(go_at_call 57;refine(HI.out _ rB.out).mono ?_;rintro e w5 ⟨rfl,hb5⟩;have rM:=zh (aA qK.out hb5);have tH:=zh (aA pK.out rM.out);clear hb5;clear r0 r1 r2 r3 r4 r5 r6 r7 r8 s0 s1 s2 s3 s4 s5 s6 s7 s8;obtain⟨⟨r0,r1,r2,r3,r4,r5,r6,r7,r8⟩,-⟩:=bx9 (aD rM.out pV.out);obtain⟨⟨s0,s1,s2,s3,s4,s5,s6,s7,s8⟩,-⟩:=bx9 (aD rM.out qA.out));go_ret
 exact⟨aF W3,tH.out⟩):p:=h
theorem SB{p:Prop}(h:p:=by
 go_wp2_with(go_at_call 56;refine(HO.out _ qZ.out).mono ?_;rintro e w1 ⟨rfl,pN⟩;have pU:=zh (aA HW.out pN);have qN:=zh (aA pK.out pU.out);clear pN;clear r0 r1 r2 r3 r4 r5 r6 r7 r8 s0 s1 s2 s3 s4 s5 s6 s7 s8;obtain⟨⟨r0,r1,r2,r3,r4,r5,r6,r7,r8⟩,-⟩:=bx9 (aD pU.out pV.out);obtain⟨⟨s0,s1,s2,s3,s4,s5,s6,s7,s8⟩,-⟩:=bx9 (aD pU.out qA.out));go_wp2_with(go_at_call 58;refine(HU.out _ qN.out).mono ?_;rintro e w2 ⟨rfl,pM⟩;have pX:=zh (aA pU.out pM);have pQ:=zh (aA pK.out pX.out);clear pM;clear r0 r1 r2 r3 r4 r5 r6 r7 r8 s0 s1 s2 s3 s4 s5 s6 s7 s8;obtain⟨⟨r0,r1,r2,r3,r4,r5,r6,r7,r8⟩,-⟩:=bx9 (aD pX.out pV.out);obtain⟨⟨s0,s1,s2,s3,s4,s5,s6,s7,s8⟩,-⟩:=bx9 (aD pX.out qA.out));go_wp2_with(go_at_call 56;refine(HV.out _ pQ.out).mono ?_;rintro e w3 ⟨rfl,pR⟩;have pZ:=zh (aA pX.out pR);have qG:=zh (aA pK.out pZ.out);clear pR;clear r0 r1 r2 r3 r4 r5 r6 r7 r8 s0 s1 s2 s3 s4 s5 s6 s7 s8;obtain⟨⟨r0,r1,r2,r3,r4,r5,r6,r7,r8⟩,-⟩:=bx9 (aD pZ.out pV.out);obtain⟨⟨s0,s1,s2,s3,s4,s5,s6,s7,s8⟩,-⟩:=bx9 (aD pZ.out qA.out));go_wp2_with(go_at_call 57;refine(HI.out _ qG.out).mono ?_;rintro e w4 ⟨rfl,qE⟩;have qK:=zh (aA pZ.out qE);have rB:=zh (aA pK.out qK.out);clear qE;clear r0 r1 r2 r3 r4 r5 r6 r7 r8 s0 s1 s2 s3 s4 s5 s6 s7 s8;obtain⟨⟨r0,r1,r2,r3,r4,r5,r6,r7,r8⟩,-⟩:=bx9 (aD qK.out pV.out);obtain⟨⟨s0,s1,s2,s3,s4,s5,s6,s7,s8⟩,-⟩:=bx9 (aD qK.out qA.out));go_ret
 exact⟨aF W3,rB.out⟩):p:=h
theorem rsame_any(a b:Mdl){N N':Nat->Prop}{ca cb:List Value}{w:World}(ha:encM N w a ca)(hb:encM N' w b cb):
  Calls Tryz.prog 15 #[.agg ca.toArray,.agg cb.toArray] w fun e w'=>e=.returned (.bool (sameM a b))/\Below w.heap.size w w':=by
 obtain⟨nm,us,vs,is,fs,mv,os,fw,bk⟩:=a;obtain⟨nm',us',vs',is',fs',mv',os',fw',bk'⟩:=b;obtain⟨au,du,av,dv,ai,di,af,df,ao,do_,aw,dw,ab,db,rfl⟩:=pF ha;obtain⟨au',du',av',dv',ai',di',af',df',ao',do_',aw',dw',ab',db',rfl⟩:=pF hb;dsimp only at ha hb ⊢;obtain⟨h1,h2,h3,h4,h5,h6,h7⟩:=eD ha;obtain⟨L9,JT,QB,N3,QA,P9,L8⟩:=eD hb;dsimp only at h1 h2 h3 h4 h5 h6 h7 L9 JT QB N3 QA P9 L8;have hR:sameM ⟨nm,us,vs,is,fs,mv,os,fw,bk⟩ ⟨nm',us',vs',is',fs',mv',os',fw',bk'⟩=(gY fs fs'&&decide (nm=nm')&&decide (us=us')&&eO vs vs'&&eG is is'&&decide (mv=mv')&&eO os os'&&eG fw fw'&&eG bk bk'):=rfl;have HR:=zh hR;clear hR ha hb;have HU:=zh (fun W(hb:Below w.heap.size w W)=>rnames_any us us' (w:=W) (h1.moves aT (aK.later hb) VU) (L9.moves aT (aK.later hb) VU));have HV:=zh (fun W(hb:Below w.heap.size w W)=>rfields_any vs vs' (w:=W) (h2.moves aS (aK.later hb) VU) (JT.moves aS (aK.later hb) VU));have HI:=zh (fun W(hb:Below w.heap.size w W)=>rexps_any is is' (w:=W) (h3.moves aG (aK.later hb) VU) (QB.moves aG (aK.later hb) VU));have HO:=zh (fun W(hb:Below w.heap.size w W)=>rfields_any os os' (w:=W) (h5.moves aS (aK.later hb) VU) (QA.moves aS (aK.later hb) VU));have HF:=zh (fun W(hb:Below w.heap.size w W)=>rexps_any fw fw' (w:=W) (h6.moves aG (aK.later hb) VU) (P9.moves aG (aK.later hb) VU));have HK:=zh (fun W(hb:Below w.heap.size w W)=>rexps_any bk bk' (w:=W) (h7.moves aG (aK.later hb) VU) (L8.moves aG (aK.later hb) VU));rw[eqL_decide] at HU;rw[lC] at HV HO;rw[eqL_sameXs] at HI HF HK;obtain⟨af0,df0,e4,vD,vC,qB⟩:=h4.at;cases e4;obtain⟨af0',df0',e4,AV,FA,HA0'⟩:=N3.at;cases e4;have HA:=zh qB;have HA':=zh HA0';have wJ:=aA (aC w (dX nm au us.length du av vs.length dv ai is.length di af fs.length df mv ao os.length do_ aw fw.length dw ab bk.length db)) (aC (w.alloc (dX nm au us.length du av vs.length dv ai is.length di af fs.length df mv ao os.length do_ aw fw.length dw ab bk.length db)) (dX nm' au' us'.length du' av' vs'.length dv' ai' is'.length di' af' fs'.length df' mv' ao' os'.length do_' aw' fw'.length dw' ab' bk'.length db'));have pK:=zh wJ;have tK:=aD (aC (w.alloc (dX nm au us.length du av vs.length dv ai is.length di af fs.length df mv ao os.length do_ aw fw.length dw ab bk.length db)) (dX nm' au' us'.length du' av' vs'.length dv' ai' is'.length di' af' fs'.length df' mv' ao' os'.length do_' aw' fw'.length dw' ab' bk'.length db')) (bY w (dX nm au us.length du av vs.length dv ai is.length di af fs.length df mv ao os.length do_ aw fw.length dw ab bk.length db));have qX:=bY (w.alloc (dX nm au us.length du av vs.length dv ai is.length di af fs.length df mv ao os.length do_ aw fw.length dw ab bk.length db)) (dX nm' au' us'.length du' av' vs'.length dv' ai' is'.length di' af' fs'.length df' mv' ao' os'.length do_' aw' fw'.length dw' ab' bk'.length db');rw[show(w.alloc (dX nm au us.length du av vs.length dv ai is.length di af fs.length df mv ao os.length do_ aw fw.length dw ab bk.length db)).heap.size=w.heap.size+1 by simp] at qX;obtain⟨⟨r0,r1,r2,r3,r4,r5,r6,r7,r8⟩,-⟩:=bx9 tK;obtain⟨⟨s0,s1,s2,s3,s4,s5,s6,s7,s8⟩,-⟩:=bx9 qX;have pV:=zh tK;have qA:=zh qX;clear h1 h2 h3 h4 h5 h6 h7 L9 JT QB N3 QA P9 L8 qB HA0' wJ tK qX;generalize sameM ⟨nm,us,vs,is,fs,mv,os,fw,bk⟩ ⟨nm',us',vs',is',fs',mv',os',fw',bk'⟩=rr at *;generalize decide (us=us')=qu at *;generalize eO vs vs'=qv at *;generalize eG is is'=qi at *;generalize eO os os'=qo at *;generalize eG fw fw'=qf at *;generalize eG bk bk'=qb at *;by_cases hl:fs.length=fs'.length
 ·have HL:=zh hl;have yF:((fs.length:Int)==(fs'.length:Int))=true:=by rw[beq_iff_eq];omega
  clear hl;go_enter Tryz.func15,Tryz.ntmps15;go_wp2_with fail;go_loopw [5] (fun iv wr=>∃q:Nat,q<=fs.length/\iv=.int .i64 (q:Int)/\Hid (Below ((w.alloc (dX nm au us.length du av vs.length dv ai is.length di af fs.length df mv ao os.length do_ aw fw.length dw ab bk.length db)).alloc (dX nm' au' us'.length du' av' vs'.length dv' ai' is'.length di' af' fs'.length df' mv' ao' os'.length do_' aw' fw'.length dw' ab' bk'.length db')).heap.size ((w.alloc (dX nm au us.length du av vs.length dv ai is.length di af fs.length df mv ao os.length do_ aw fw.length dw ab bk.length db)).alloc (dX nm' au' us'.length du' av' vs'.length dv' ai' is'.length di' af' fs'.length df' mv' ao' os'.length do_' aw' fw'.length dw' ab' bk'.length db')) wr)/\Hid (fs.take q=fs'.take q)) (fun iv _=>fs.length-(intOf iv).toNat)
  case atStart=>exact⟨0,Nat.zero_le _,rfl,zh (Below.refl _ _),zh rfl⟩
  case round=>
   obtain⟨q,hq,rfl,HW,HT⟩:=hrel;(rename World=>wr);clear r0 r1 r2 r3 r4 r5 r6 r7 r8 s0 s1 s2 s3 s4 s5 s6 s7 s8;obtain⟨⟨r0,r1,r2,r3,r4,r5,r6,r7,r8⟩,-⟩:=bx9 (aD HW.out pV.out);obtain⟨⟨s0,s1,s2,s3,s4,s5,s6,s7,s8⟩,-⟩:=bx9 (aD HW.out qA.out);have qZ:=zh (aA pK.out HW.out);by_cases pS:q<fs.length
   ·obtain⟨x1,hx,-⟩:=getElem?_of_lt pS;obtain⟨x2,hy,-⟩:=getElem?_of_lt (show q<fs'.length by rw[<-HL.out];exact pS);have sL:(0:Int)<=(q:Int)/\(q:Int)<(fs.length:Int):=VS;(have yT:(q:Int)<(fs'.length:Int):=by have:=HL.out;omega);have HX:=zh hx;have HY:=zh hy;obtain⟨b1,o1,rfl,-,uG,qF,-,pO⟩:=HA.out q x1 hx;obtain⟨b2,o2,rfl,-,zA,rL,-,qL⟩:=HA'.out q x2 hy;obtain⟨vp1,k1,vf1,rW,n1,s1,m1,vn1,va1,rfl,-⟩:=id qF;obtain⟨vp2,k2,vf2,sH,n2,s2,m2,vn2,va2,rfl,-⟩:=id rL;have p1a:wr.cell? ⟨b1,o1+q*12,none⟩=_:=aB qZ.out (pO 0 _ rfl);have p1b:wr.cell? ⟨b1,o1+q*12+1,none⟩=_:=aB qZ.out (pO 1 _ rfl);have p1c:wr.cell? ⟨b1,o1+q*12+2,none⟩=_:=aB qZ.out (pO 2 _ rfl);have p1d:wr.cell? ⟨b1,o1+q*12+3,none⟩=_:=aB qZ.out (pO 3 _ rfl);have p1e:wr.cell? ⟨b1,o1+q*12+4,none⟩=_:=aB qZ.out (pO 4 _ rfl);have p1f:wr.cell? ⟨b1,o1+q*12+5,none⟩=_:=aB qZ.out (pO 5 _ rfl);have p1g:wr.cell? ⟨b1,o1+q*12+6,none⟩=_:=aB qZ.out (pO 6 _ rfl);have p1h:wr.cell? ⟨b1,o1+q*12+7,none⟩=_:=aB qZ.out (pO 7 _ rfl);have p1i:wr.cell? ⟨b1,o1+q*12+8,none⟩=_:=aB qZ.out (pO 8 _ rfl);have p1j:wr.cell? ⟨b1,o1+q*12+9,none⟩=_:=aB qZ.out (pO 9 _ rfl);have p1k:wr.cell? ⟨b1,o1+q*12+10,none⟩=_:=aB qZ.out (pO 10 _ rfl);have p1l:wr.cell? ⟨b1,o1+q*12+11,none⟩=_:=aB qZ.out (pO 11 _ rfl);have p2a:wr.cell? ⟨b2,o2+q*12,none⟩=_:=aB qZ.out (qL 0 _ rfl);have p2b:wr.cell? ⟨b2,o2+q*12+1,none⟩=_:=aB qZ.out (qL 1 _ rfl);have p2c:wr.cell? ⟨b2,o2+q*12+2,none⟩=_:=aB qZ.out (qL 2 _ rfl);have p2d:wr.cell? ⟨b2,o2+q*12+3,none⟩=_:=aB qZ.out (qL 3 _ rfl);have p2e:wr.cell? ⟨b2,o2+q*12+4,none⟩=_:=aB qZ.out (qL 4 _ rfl);have p2f:wr.cell? ⟨b2,o2+q*12+5,none⟩=_:=aB qZ.out (qL 5 _ rfl);have p2g:wr.cell? ⟨b2,o2+q*12+6,none⟩=_:=aB qZ.out (qL 6 _ rfl);have p2h:wr.cell? ⟨b2,o2+q*12+7,none⟩=_:=aB qZ.out (qL 7 _ rfl);have p2i:wr.cell? ⟨b2,o2+q*12+8,none⟩=_:=aB qZ.out (qL 8 _ rfl);have p2j:wr.cell? ⟨b2,o2+q*12+9,none⟩=_:=aB qZ.out (qL 9 _ rfl);have p2k:wr.cell? ⟨b2,o2+q*12+10,none⟩=_:=aB qZ.out (qL 10 _ rfl);have p2l:wr.cell? ⟨b2,o2+q*12+11,none⟩=_:=aB qZ.out (qL 11 _ rfl);have vE:=zh (fun W(hb:Below wr.heap.size wr W)=>rfn_any x1 x2 (w:=W) (bD _ _ _ _ _ _ (aK.later (aA qZ.out hb)) qF) (bD _ _ _ _ _ _ (aK.later (aA qZ.out hb)) rL));have zQ:=zh (sameFn_iff x1 x2);clear pO qL hx hy qF rL;go_wp2_with fail;refine wp_region_held_drew (S:=fun W=>Below wr.heap.size wr W) VT (aE wr) fun hS=>?_;refine zq 0 (.pointer (some ⟨w.heap.size,4,none⟩)) rfl ?_;refine zt 1 (.slice (some ⟨b1,o1,none⟩) fs.length df) rfl (fun W hW=>by have q0:=aB hW r4;go_simp) ?_;refine zq 2 (.int .i64 (q:Int)) rfl ?_;refine zq 3 (.pointer (some ⟨b1,o1+q*12,none⟩)) rfl ?_;refine zt 4 (.agg #[.string x1.name,.bool x1.pub,vp1,.int .i64 k1,vf1,.int .i64 x1.effects,.int .i64 rW,.int .i64 n1,.string s1,.string m1,vn1,va1]) rfl (fun W hW=>by have q0:=aB hW p1a;have q1:=aB hW p1b;have q2:=aB hW p1c;have q3:=aB hW p1d;have q4:=aB hW p1e;have q5:=aB hW p1f;have q6:=aB hW p1g;have q7:=aB hW p1h;have q8:=aB hW p1i;have q9:=aB hW p1j;have q10:=aB hW p1k;have q11:=aB hW p1l;go_simp) ?_;refine zq 5 (.pointer (some ⟨w.heap.size+1,4,none⟩)) rfl ?_;refine zt 6 (.slice (some ⟨b2,o2,none⟩) fs'.length df') rfl (fun W hW=>by have q0:=aB hW s4;go_simp) ?_;refine zq 7 (.int .i64 (q:Int)) rfl ?_;refine zq 8 (.pointer (some ⟨b2,o2+q*12,none⟩)) rfl ?_;refine zt 9 (.agg #[.string x2.name,.bool x2.pub,vp2,.int .i64 k2,vf2,.int .i64 x2.effects,.int .i64 sH,.int .i64 n2,.string s2,.string m2,vn2,va2]) rfl (fun W hW=>by have q0:=aB hW p2a;have q1:=aB hW p2b;have q2:=aB hW p2c;have q3:=aB hW p2d;have q4:=aB hW p2e;have q5:=aB hW p2f;have q6:=aB hW p2g;have q7:=aB hW p2h;have q8:=aB hW p2i;have q9:=aB hW p2j;have q10:=aB hW p2k;have q11:=aB hW p2l;go_simp) ?_;(try simp only[zn]);refine zr 10 rfl (fun K hK=>?_);(try simp only[z1,z2,z3]);go_simp;refine(vE.out _ (aE wr)).mono ?_;rintro e w8 ⟨rfl,rU⟩;have qM:=aA (aE wr) rU;refine hK.out _ _ qM (fun hS=>?_);clear hK K;(try simp only[zn]);generalize mY x1 x2=sr at *;refine zq 11 (.bool (!sr)) rfl ?_;(try simp only[zn]);refine wpAnyH_done VT ?_ _;have rR:=zh (aA qZ.out qM);have HD8:=zh (aA HW.out qM);clear hS qM rU vE
    cases sr with
    |true=>
     have uF:=zh (jF HX.out HY.out HT.out (zQ.out.1 rfl));go_wp2_with fail;go_roundw;(case rel=>exact⟨q+1,VS,WH,zh (by have h:=HD8.out;simpa only[World.size_alloc] using h),uF⟩);case measure=>simp[intOf];omega
    |false=>
     have HE:Hid (rr=false):=zh (by
      have pP:¬fs=fs':=nQ HX.out HY.out (fun e=>by have:=zQ.out.2 e;cases this)
      have:gY fs fs'=false:=by
       cases hq:gY fs fs' with
       |false=>rfl
       |true=>exact absurd ((iX fs fs').1 hq) pP
      rw[HR.out,this];simp)
     go_wp2_with fail;go_ret;exact⟨aF X8,rR.out⟩
   have uM:q=fs.length:=VS
   have sS:Hid (rr=(decide (nm=nm')&&qu&&qv&&qi&&decide (mv=mv')&&(qo&&(qf&&qb)))):=zh (by
    have h:fs=fs':=kV HL.out (by have h:=HT.out;rw[uM] at h;exact h);rw[HR.out,(iX fs fs').2 h]
    simp only[Bool.true_and,Bool.and_assoc])
   clear HR HA HA'
   cases qo with
   |false=>
    by_cases h1:nm=nm'
    ·subst h1
     cases qu with
     |false=>
      go_wp2_with(go_at_call 56;refine(HO.out _ qZ.out).mono ?_;rintro e w1 ⟨rfl,pN⟩;have pU:=zh (aA HW.out pN);have qN:=zh (aA pK.out pU.out);clear pN;clear r0 r1 r2 r3 r4 r5 r6 r7 r8 s0 s1 s2 s3 s4 s5 s6 s7 s8;obtain⟨⟨r0,r1,r2,r3,r4,r5,r6,r7,r8⟩,-⟩:=bx9 (aD pU.out pV.out);obtain⟨⟨s0,s1,s2,s3,s4,s5,s6,s7,s8⟩,-⟩:=bx9 (aD pU.out qA.out));go_wp2_with(go_at_call 58;refine(HU.out _ qN.out).mono ?_;rintro e w2 ⟨rfl,pM⟩;have pX:=zh (aA pU.out pM);have pQ:=zh (aA pK.out pX.out);clear pM;clear r0 r1 r2 r3 r4 r5 r6 r7 r8 s0 s1 s2 s3 s4 s5 s6 s7 s8;obtain⟨⟨r0,r1,r2,r3,r4,r5,r6,r7,r8⟩,-⟩:=bx9 (aD pX.out pV.out);obtain⟨⟨s0,s1,s2,s3,s4,s5,s6,s7,s8⟩,-⟩:=bx9 (aD pX.out qA.out));go_ret;exact⟨aF W3,pQ.out⟩
     |true=>
      cases qv with
      |false=>
       go_wp2_with(go_at_call 56;refine(HO.out _ qZ.out).mono ?_;rintro e w1 ⟨rfl,pN⟩;have pU:=zh (aA HW.out pN);have qN:=zh (aA pK.out pU.out);clear pN;clear r0 r1 r2 r3 r4 r5 r6 r7 r8 s0 s1 s2 s3 s4 s5 s6 s7 s8;obtain⟨⟨r0,r1,r2,r3,r4,r5,r6,r7,r8⟩,-⟩:=bx9 (aD pU.out pV.out);obtain⟨⟨s0,s1,s2,s3,s4,s5,s6,s7,s8⟩,-⟩:=bx9 (aD pU.out qA.out));go_wp2_with(go_at_call 58;refine(HU.out _ qN.out).mono ?_;rintro e w2 ⟨rfl,pM⟩;have pX:=zh (aA pU.out pM);have pQ:=zh (aA pK.out pX.out);clear pM;clear r0 r1 r2 r3 r4 r5 r6 r7 r8 s0 s1 s2 s3 s4 s5 s6 s7 s8;obtain⟨⟨r0,r1,r2,r3,r4,r5,r6,r7,r8⟩,-⟩:=bx9 (aD pX.out pV.out);obtain⟨⟨s0,s1,s2,s3,s4,s5,s6,s7,s8⟩,-⟩:=bx9 (aD pX.out qA.out));go_wp2_with(go_at_call 56;refine(HV.out _ pQ.out).mono ?_;rintro e w3 ⟨rfl,pR⟩;have pZ:=zh (aA pX.out pR);have qG:=zh (aA pK.out pZ.out);clear pR;clear r0 r1 r2 r3 r4 r5 r6 r7 r8 s0 s1 s2 s3 s4 s5 s6 s7 s8;obtain⟨⟨r0,r1,r2,r3,r4,r5,r6,r7,r8⟩,-⟩:=bx9 (aD pZ.out pV.out);obtain⟨⟨s0,s1,s2,s3,s4,s5,s6,s7,s8⟩,-⟩:=bx9 (aD pZ.out qA.out));go_ret;exact⟨aF W3,qG.out⟩
      |true=>
       cases qi with
       |false=>
        exact SB
       |true=>
        by_cases h5:mv=mv'
        ·subst h5;exact SB
        have g:(mv==mv')=false:=beq_eq_false_iff_ne.2 h5;go_wp2_with(go_at_call 56;refine(HO.out _ qZ.out).mono ?_;rintro e w1 ⟨rfl,pN⟩;have pU:=zh (aA HW.out pN);have qN:=zh (aA pK.out pU.out);clear pN;clear r0 r1 r2 r3 r4 r5 r6 r7 r8 s0 s1 s2 s3 s4 s5 s6 s7 s8;obtain⟨⟨r0,r1,r2,r3,r4,r5,r6,r7,r8⟩,-⟩:=bx9 (aD pU.out pV.out);obtain⟨⟨s0,s1,s2,s3,s4,s5,s6,s7,s8⟩,-⟩:=bx9 (aD pU.out qA.out));go_wp2_with(go_at_call 58;refine(HU.out _ qN.out).mono ?_;rintro e w2 ⟨rfl,pM⟩;have pX:=zh (aA pU.out pM);have pQ:=zh (aA pK.out pX.out);clear pM;clear r0 r1 r2 r3 r4 r5 r6 r7 r8 s0 s1 s2 s3 s4 s5 s6 s7 s8;obtain⟨⟨r0,r1,r2,r3,r4,r5,r6,r7,r8⟩,-⟩:=bx9 (aD pX.out pV.out);obtain⟨⟨s0,s1,s2,s3,s4,s5,s6,s7,s8⟩,-⟩:=bx9 (aD pX.out qA.out));go_wp2_with(go_at_call 56;refine(HV.out _ pQ.out).mono ?_;rintro e w3 ⟨rfl,pR⟩;have pZ:=zh (aA pX.out pR);have qG:=zh (aA pK.out pZ.out);clear pR;clear r0 r1 r2 r3 r4 r5 r6 r7 r8 s0 s1 s2 s3 s4 s5 s6 s7 s8;obtain⟨⟨r0,r1,r2,r3,r4,r5,r6,r7,r8⟩,-⟩:=bx9 (aD pZ.out pV.out);obtain⟨⟨s0,s1,s2,s3,s4,s5,s6,s7,s8⟩,-⟩:=bx9 (aD pZ.out qA.out));go_wp2_with(go_at_call 57;refine(HI.out _ qG.out).mono ?_;rintro e w4 ⟨rfl,qE⟩;have qK:=zh (aA pZ.out qE);have rB:=zh (aA pK.out qK.out);clear qE;clear r0 r1 r2 r3 r4 r5 r6 r7 r8 s0 s1 s2 s3 s4 s5 s6 s7 s8;obtain⟨⟨r0,r1,r2,r3,r4,r5,r6,r7,r8⟩,-⟩:=bx9 (aD qK.out pV.out);obtain⟨⟨s0,s1,s2,s3,s4,s5,s6,s7,s8⟩,-⟩:=bx9 (aD qK.out qA.out));go_ret;exact⟨aF (by rw[sS.out];simp[h5]),rB.out⟩
    have g:(nm.toList==nm'.toList)=false:=iS h1;go_wp2_with(go_at_call 56;refine(HO.out _ qZ.out).mono ?_;rintro e w1 ⟨rfl,pN⟩;have pU:=zh (aA HW.out pN);have qN:=zh (aA pK.out pU.out);clear pN;clear r0 r1 r2 r3 r4 r5 r6 r7 r8 s0 s1 s2 s3 s4 s5 s6 s7 s8;obtain⟨⟨r0,r1,r2,r3,r4,r5,r6,r7,r8⟩,-⟩:=bx9 (aD pU.out pV.out);obtain⟨⟨s0,s1,s2,s3,s4,s5,s6,s7,s8⟩,-⟩:=bx9 (aD pU.out qA.out));go_ret;exact⟨aF (by rw[sS.out];simp[h1]),qN.out⟩
   |true=>
    cases qf with
    |false=>
     by_cases h1:nm=nm'
     ·subst h1
      cases qu with
      |false=>
       go_wp2_with(go_at_call 56;refine(HO.out _ qZ.out).mono ?_;rintro e w1 ⟨rfl,pN⟩;have pU:=zh (aA HW.out pN);have qN:=zh (aA pK.out pU.out);clear pN;clear r0 r1 r2 r3 r4 r5 r6 r7 r8 s0 s1 s2 s3 s4 s5 s6 s7 s8;obtain⟨⟨r0,r1,r2,r3,r4,r5,r6,r7,r8⟩,-⟩:=bx9 (aD pU.out pV.out);obtain⟨⟨s0,s1,s2,s3,s4,s5,s6,s7,s8⟩,-⟩:=bx9 (aD pU.out qA.out));go_wp2_with(go_at_call 57;refine(HF.out _ qN.out).mono ?_;rintro e w2 ⟨rfl,pM⟩;have pX:=zh (aA pU.out pM);have pQ:=zh (aA pK.out pX.out);clear pM;clear r0 r1 r2 r3 r4 r5 r6 r7 r8 s0 s1 s2 s3 s4 s5 s6 s7 s8;obtain⟨⟨r0,r1,r2,r3,r4,r5,r6,r7,r8⟩,-⟩:=bx9 (aD pX.out pV.out);obtain⟨⟨s0,s1,s2,s3,s4,s5,s6,s7,s8⟩,-⟩:=bx9 (aD pX.out qA.out));go_wp2_with(go_at_call 58;refine(HU.out _ pQ.out).mono ?_;rintro e w3 ⟨rfl,pR⟩;have pZ:=zh (aA pX.out pR);have qG:=zh (aA pK.out pZ.out);clear pR;clear r0 r1 r2 r3 r4 r5 r6 r7 r8 s0 s1 s2 s3 s4 s5 s6 s7 s8;obtain⟨⟨r0,r1,r2,r3,r4,r5,r6,r7,r8⟩,-⟩:=bx9 (aD pZ.out pV.out);obtain⟨⟨s0,s1,s2,s3,s4,s5,s6,s7,s8⟩,-⟩:=bx9 (aD pZ.out qA.out));go_ret;exact⟨aF W3,qG.out⟩
      |true=>
       cases qv with
       |false=>
        go_wp2_with(go_at_call 56;refine(HO.out _ qZ.out).mono ?_;rintro e w1 ⟨rfl,pN⟩;have pU:=zh (aA HW.out pN);have qN:=zh (aA pK.out pU.out);clear pN;clear r0 r1 r2 r3 r4 r5 r6 r7 r8 s0 s1 s2 s3 s4 s5 s6 s7 s8;obtain⟨⟨r0,r1,r2,r3,r4,r5,r6,r7,r8⟩,-⟩:=bx9 (aD pU.out pV.out);obtain⟨⟨s0,s1,s2,s3,s4,s5,s6,s7,s8⟩,-⟩:=bx9 (aD pU.out qA.out));go_wp2_with(go_at_call 57;refine(HF.out _ qN.out).mono ?_;rintro e w2 ⟨rfl,pM⟩;have pX:=zh (aA pU.out pM);have pQ:=zh (aA pK.out pX.out);clear pM;clear r0 r1 r2 r3 r4 r5 r6 r7 r8 s0 s1 s2 s3 s4 s5 s6 s7 s8;obtain⟨⟨r0,r1,r2,r3,r4,r5,r6,r7,r8⟩,-⟩:=bx9 (aD pX.out pV.out);obtain⟨⟨s0,s1,s2,s3,s4,s5,s6,s7,s8⟩,-⟩:=bx9 (aD pX.out qA.out));go_wp2_with(go_at_call 58;refine(HU.out _ pQ.out).mono ?_;rintro e w3 ⟨rfl,pR⟩;have pZ:=zh (aA pX.out pR);have qG:=zh (aA pK.out pZ.out);clear pR;clear r0 r1 r2 r3 r4 r5 r6 r7 r8 s0 s1 s2 s3 s4 s5 s6 s7 s8;obtain⟨⟨r0,r1,r2,r3,r4,r5,r6,r7,r8⟩,-⟩:=bx9 (aD pZ.out pV.out);obtain⟨⟨s0,s1,s2,s3,s4,s5,s6,s7,s8⟩,-⟩:=bx9 (aD pZ.out qA.out));go_wp2_with(go_at_call 56;refine(HV.out _ qG.out).mono ?_;rintro e w4 ⟨rfl,qE⟩;have qK:=zh (aA pZ.out qE);have rB:=zh (aA pK.out qK.out);clear qE;clear r0 r1 r2 r3 r4 r5 r6 r7 r8 s0 s1 s2 s3 s4 s5 s6 s7 s8;obtain⟨⟨r0,r1,r2,r3,r4,r5,r6,r7,r8⟩,-⟩:=bx9 (aD qK.out pV.out);obtain⟨⟨s0,s1,s2,s3,s4,s5,s6,s7,s8⟩,-⟩:=bx9 (aD qK.out qA.out));go_ret;exact⟨aF W3,rB.out⟩
       |true=>
        cases qi with
        |false=>
         exact R5
        |true=>
         by_cases h5:mv=mv'
         ·subst h5;exact R5
         have g:(mv==mv')=false:=beq_eq_false_iff_ne.2 h5;go_wp2_with(go_at_call 56;refine(HO.out _ qZ.out).mono ?_;rintro e w1 ⟨rfl,pN⟩;have pU:=zh (aA HW.out pN);have qN:=zh (aA pK.out pU.out);clear pN;clear r0 r1 r2 r3 r4 r5 r6 r7 r8 s0 s1 s2 s3 s4 s5 s6 s7 s8;obtain⟨⟨r0,r1,r2,r3,r4,r5,r6,r7,r8⟩,-⟩:=bx9 (aD pU.out pV.out);obtain⟨⟨s0,s1,s2,s3,s4,s5,s6,s7,s8⟩,-⟩:=bx9 (aD pU.out qA.out));go_wp2_with(go_at_call 57;refine(HF.out _ qN.out).mono ?_;rintro e w2 ⟨rfl,pM⟩;have pX:=zh (aA pU.out pM);have pQ:=zh (aA pK.out pX.out);clear pM;clear r0 r1 r2 r3 r4 r5 r6 r7 r8 s0 s1 s2 s3 s4 s5 s6 s7 s8;obtain⟨⟨r0,r1,r2,r3,r4,r5,r6,r7,r8⟩,-⟩:=bx9 (aD pX.out pV.out);obtain⟨⟨s0,s1,s2,s3,s4,s5,s6,s7,s8⟩,-⟩:=bx9 (aD pX.out qA.out));go_wp2_with(go_at_call 58;refine(HU.out _ pQ.out).mono ?_;rintro e w3 ⟨rfl,pR⟩;have pZ:=zh (aA pX.out pR);have qG:=zh (aA pK.out pZ.out);clear pR;clear r0 r1 r2 r3 r4 r5 r6 r7 r8 s0 s1 s2 s3 s4 s5 s6 s7 s8;obtain⟨⟨r0,r1,r2,r3,r4,r5,r6,r7,r8⟩,-⟩:=bx9 (aD pZ.out pV.out);obtain⟨⟨s0,s1,s2,s3,s4,s5,s6,s7,s8⟩,-⟩:=bx9 (aD pZ.out qA.out));go_wp2_with(go_at_call 56;refine(HV.out _ qG.out).mono ?_;rintro e w4 ⟨rfl,qE⟩;have qK:=zh (aA pZ.out qE);have rB:=zh (aA pK.out qK.out);clear qE;clear r0 r1 r2 r3 r4 r5 r6 r7 r8 s0 s1 s2 s3 s4 s5 s6 s7 s8;obtain⟨⟨r0,r1,r2,r3,r4,r5,r6,r7,r8⟩,-⟩:=bx9 (aD qK.out pV.out);obtain⟨⟨s0,s1,s2,s3,s4,s5,s6,s7,s8⟩,-⟩:=bx9 (aD qK.out qA.out));go_wp2_with(go_at_call 57;refine(HI.out _ rB.out).mono ?_;rintro e w5 ⟨rfl,hb5⟩;have rM:=zh (aA qK.out hb5);have tH:=zh (aA pK.out rM.out);clear hb5;clear r0 r1 r2 r3 r4 r5 r6 r7 r8 s0 s1 s2 s3 s4 s5 s6 s7 s8;obtain⟨⟨r0,r1,r2,r3,r4,r5,r6,r7,r8⟩,-⟩:=bx9 (aD rM.out pV.out);obtain⟨⟨s0,s1,s2,s3,s4,s5,s6,s7,s8⟩,-⟩:=bx9 (aD rM.out qA.out));go_ret;exact⟨aF (by rw[sS.out];simp[h5]),tH.out⟩
     have g:(nm.toList==nm'.toList)=false:=iS h1;go_wp2_with(go_at_call 56;refine(HO.out _ qZ.out).mono ?_;rintro e w1 ⟨rfl,pN⟩;have pU:=zh (aA HW.out pN);have qN:=zh (aA pK.out pU.out);clear pN;clear r0 r1 r2 r3 r4 r5 r6 r7 r8 s0 s1 s2 s3 s4 s5 s6 s7 s8;obtain⟨⟨r0,r1,r2,r3,r4,r5,r6,r7,r8⟩,-⟩:=bx9 (aD pU.out pV.out);obtain⟨⟨s0,s1,s2,s3,s4,s5,s6,s7,s8⟩,-⟩:=bx9 (aD pU.out qA.out));go_wp2_with(go_at_call 57;refine(HF.out _ qN.out).mono ?_;rintro e w2 ⟨rfl,pM⟩;have pX:=zh (aA pU.out pM);have pQ:=zh (aA pK.out pX.out);clear pM;clear r0 r1 r2 r3 r4 r5 r6 r7 r8 s0 s1 s2 s3 s4 s5 s6 s7 s8;obtain⟨⟨r0,r1,r2,r3,r4,r5,r6,r7,r8⟩,-⟩:=bx9 (aD pX.out pV.out);obtain⟨⟨s0,s1,s2,s3,s4,s5,s6,s7,s8⟩,-⟩:=bx9 (aD pX.out qA.out));go_ret;exact⟨aF (by rw[sS.out];simp[h1]),pQ.out⟩
    |true=>
     cases qb with
     |false=>
      exact RV
     |true=>
      exact RV
 have HE:Hid (rr=false):=zh (by
  have pP:¬fs=fs':=fun e=>hl (by rw[e])
  have:gY fs fs'=false:=by
   cases hq:gY fs fs' with
   |false=>rfl
   |true=>exact absurd ((iX fs fs').1 hq) pP
  rw[HR.out,this];simp)
 have yF:((fs.length:Int)==(fs'.length:Int))=false:=V7;go_enter Tryz.func15,Tryz.ntmps15;go_wp2_with fail;go_ret;exact⟨aF X8,pK.out⟩
theorem UQ{p:Prop}(h:p:=by
 refine⟨k+1,VS,VS,WH,zh fun x hx=>?_⟩;rw[HS.out,List.mem_append] at hx;rcases hx with hx|hx
 ·exact HA.out x hx
 simp at hx;rw[hx,CJ.out];rfl):p:=h
theorem VN{p:Prop}(h:p:=by
 go_wp2_with fail;go_ret
 exact⟨by rw[HE.out];rfl,HW.out⟩):p:=h
theorem rletter_any(c:UInt8)(w:World):Calls Tryz.prog 145 #[.int .u8 c.toNat] w fun e w'=>e=.returned (.bool (dV c))/\w=w':=by
 go_enter Tryz.func145,Tryz.ntmps145
 go_wp2
 all_goals go_ret
 all_goals refine⟨aF ?_,rfl⟩
 all_goals unfold dV
 all_goals rw[Bool.eq_iff_iff]
 all_goals simp
 all_goals omega
theorem rdigit_any(c:UInt8)(w:World):Calls Tryz.prog 146 #[.int .u8 c.toNat] w fun e w'=>e=.returned (.bool (cE c))/\w=w':=by
 go_enter Tryz.func146,Tryz.ntmps146
 go_wp2
 all_goals go_ret
 all_goals refine⟨aF ?_,rfl⟩
 all_goals unfold cE
 all_goals rw[Bool.eq_iff_iff]
 all_goals simp
 all_goals omega
theorem all_take_bad{p:UInt8->Bool}{l:List UInt8}{k:Nat}{c:UInt8}(hx:l[k]? =some c)(hc:p c=false):l.all p=false:=by
 rw[<-Bool.not_eq_true];intro h;have:=List.all_eq_true.1 h c (List.mem_of_getElem? hx);rw[hc] at this;cases this
theorem all_take_ok{p:UInt8->Bool}{l:List UInt8}(h:∀x∈l.take l.length,p x=true):l.all p=true:=by
 rw[List.take_length] at h;exact List.all_eq_true.2 h
theorem rword_any(s:bA)(w:World)(hs:s.size<=140737488355328):Calls Tryz.prog 61 #[.string s] w fun e w'=>e=.returned (.bool (dL s))/\w=w':=by
 by_cases h0:s.size=0
 ·have h1:=mX h0;have HW:Hid (dL s=false):=zh (by unfold dL;rw[<-Lib.toList_data,h1]);have h2:(s.size:Int)<1:=VS;clear h0 h1;go_enter Tryz.func61,Tryz.ntmps61;go_wp2_with fail;go_ret;exact⟨aF HW.out.symm,rfl⟩
 have uQ:0<s.size:=VS;have h2:¬(s.size:Int)<1:=VS;obtain⟨r,hr⟩:=lG uQ;have HW:Hid (dL s=(dV s[0]&&decide (s.size<=20)&&s.data.toList.all gW)):=zh (by unfold dL;rw[hr]);have HL:=zh (rletter_any s[0] w)
 have HF:Hid (dV s[0]=true->∀x∈s.data.toList.take 1,gW x=true):=zh (fun h x hx=>by
  rw[hr] at hx;simp at hx;subst hx;unfold gW;rw[h]
  rfl)
 clear hr h0;by_cases h20:(20:Int)<(s.size:Int)
 ·go_enter Tryz.func61,Tryz.ntmps61;go_wp2_with fail;go_ret;exact⟨aF (by rw[HW.out,decide_eq_false (show ¬s.size<=20 by omega)];simp),rfl⟩
 generalize dV s[0]=a at HW HL HF
 cases a with
 |false=>
  go_enter Tryz.func61,Tryz.ntmps61;go_wp2_with(go_at_call 145;refine HL.out.mono ?_;rintro e w' ⟨rfl,rfl⟩);go_ret;exact⟨aF (by rw[HW.out];rfl),rfl⟩
 |true=>
  have xN:Hid (dL s=s.data.toList.all gW):=zh (by rw[HW.out,decide_eq_true (show s.size<=20 by omega)];rfl);clear HW;go_enter Tryz.func61,Tryz.ntmps61;go_wp2_with(go_at_call 145;refine HL.out.mono ?_;rintro e w' ⟨rfl,rfl⟩);go_loop [3] (fun i=>∃k:Nat,1<=k/\k<=s.size/\i=.int .i64 k/\Hid (∀x,x∈s.data.toList.take k->gW x=true)) (fun i=>s.size-(intOf i).toNat)
  case atStart=>exact⟨1,Nat.le_refl _,VS,rfl,zh (HF.out WU)⟩
  case round=>
   obtain⟨k,LP,hk,rfl,HA⟩:=hrel;by_cases pS:k<s.size
   ·have HX:Hid (s.data.toList[k]? =some s[k]):=zh (by rw[List.getElem?_eq_getElem (by simpa using pS)];rfl);have HS:Hid (s.data.toList.take (k+1)=s.data.toList.take k++[s[k]]):=zh (take_snoc s k pS);have zR:=zh (fun W=>rletter_any s[k] W);have yM:=zh (fun W=>rdigit_any s[k] W);have CJ:Hid (gW s[k]=(dV s[k]||cE s[k])):=zh rfl;generalize dV s[k]=a at zR CJ;generalize cE s[k]=b at yM CJ
    cases a with
    |true=>
     go_wp2_with(first|(go_at_call 145;refine(zR.out _).mono ?_;rintro e w' ⟨rfl,rfl⟩))
     go_round
     case rel=>
      exact UQ
     case measure=>simp[intOf];omega
    |false=>
     cases b with
     |true=>
      go_wp2_with(first|(go_at_call 146;refine(yM.out _).mono ?_;rintro e w' ⟨rfl,rfl⟩)|(go_at_call 145;refine(zR.out _).mono ?_;rintro e w' ⟨rfl,rfl⟩))
      go_round
      case rel=>
       exact UQ
      case measure=>simp[intOf];omega
     |false=>
      go_wp2_with(first|(go_at_call 146;refine(yM.out _).mono ?_;rintro e w' ⟨rfl,rfl⟩)|(go_at_call 145;refine(zR.out _).mono ?_;rintro e w' ⟨rfl,rfl⟩));go_ret;exact⟨aF (by rw[xN.out,all_take_bad HX.out (by rw[CJ.out];rfl)]),rfl⟩
   have HAl:Hid (s.data.toList.all gW=true):=zh (all_take_ok (fun x hx=>HA.out x (by rw[show k=s.data.toList.length by simp;omega];exact hx)));go_wp2_with fail;go_ret;exact⟨aF (by rw[xN.out,HAl.out]),rfl⟩
theorem findL_hit:∀{l:List bA}{s:bA}{q:Nat},l[q]? =some s->(∀x∈l.take q,x≠s)->kR l s=q
 |[],s,q,h,_=>XR
 |x::r,s,0,h,_=>by simp at h;rw[kR,if_pos h];rfl
 |x::r,s,q+1,h,hn=>by
  have h1:x≠s:=hn x VY;have h2:=findL_hit (l:=r) (s:=s) (q:=q) XE (fun y hy=>hn y (by simp[hy]));rw[kR,if_neg h1,h2,if_neg VS]
  push_cast
  rfl
theorem findL_miss:∀{l:List bA}{s:bA},(∀x∈l,x≠s)->kR l s= -1
 |[],s,_=>rfl
 |x::r,s,hn=>by
  rw[kR,if_neg (hn x VY),findL_miss (fun y hy=>hn y (by simp[hy])),if_pos rfl]
theorem rfind_any(l:List bA)(s:bA){N:Nat->Prop}{v:Value}{w:World}(hv:aO 1 eT N w v l):
  Calls Tryz.prog 62 #[v,.string s] w fun e w'=>e=.returned (.int .i64 (kR l s))/\Below w.heap.size w w':=by
 obtain⟨a1,c1,rfl,vD,vC,qB⟩:=hv.at;have HA:=zh qB;clear qB hv;go_enter Tryz.func62,Tryz.ntmps62;go_wp2_with fail;go_loopw [5] (fun iv wr=>∃q:Nat,q<=l.length/\iv=.int .i64 (q:Int)/\Hid (Below w.heap.size w wr)/\Hid (∀x∈l.take q,x≠s)) (fun iv _=>l.length-(intOf iv).toNat)
 case atStart=>exact⟨0,Nat.zero_le _,rfl,zh (Below.refl _ _),zh VY⟩
 case round=>
  obtain⟨q,hq,rfl,HW,HT⟩:=hrel;rename World=>wr
  by_cases pS:q<l.length
  ·obtain⟨x,hx,-⟩:=getElem?_of_lt pS;have sL:(0:Int)<=(q:Int)/\(q:Int)<(l.length:Int):=VS;have HX:=zh hx;obtain⟨b1,o1,rfl,-,uG,⟨rfl,-⟩,-,pO⟩:=HA.out q x hx;have cx:wr.cell? ⟨b1,o1+q,none⟩=some (.string x):=XH;clear pO hx;by_cases he:x=s
   ·have HE:Hid (kR l s=(q:Int)):=zh (findL_hit (by rw[HX.out,he]) HT.out);subst he;exact VN
   have pP:=iS he;have uF:=zh (iK HX.out HT.out he);clear he;go_wp2_with fail;go_roundw;(case rel=>exact⟨q+1,VS,WH,HW,uF⟩);case measure=>simp[intOf];omega
  have HE:Hid (kR l s= -1):=zh (findL_miss (lZ HT.out VS));exact VN
theorem reserved_any(w:World):Calls Tryz.prog 63 #[] w fun e w'=>(∃v,e=.returned v/\aO 1 eT (fun _=>True) w' v resW)/\Below w.heap.size w w':=by
 go_enter Tryz.func63,Tryz.ntmps63;go_wp2_with fail;go_ret;refine⟨⟨_,rfl,aO.of_block (css:=resW.map fun x=>[.string x]) (T:=9) (fr:=(0,0)) (bY w _) trivial VY (fun c hc=>?_) (fun i x c hx hc=>?_) rfl VU⟩,aC _ _⟩
 ·obtain⟨x,-,rfl⟩:=List.mem_map.1 hc;rfl
 rw[List.getElem?_map,hx] at hc;cases hc;refine⟨rfl,?_⟩;have:∀y∈resW,y.size<=140737488355328:=XQ;exact this x (List.mem_of_getElem? hx)
theorem fV(s:bA)(w:World)(hs:s.size<=140737488355328):Calls Tryz.prog 18 #[.string s] w fun e w'=>e=.returned (.bool (aP s))/\Below w.heap.size w w':=by
 have HS:=zh (synName_res s);have HF:=zh (findL_any resW s);have HW:=zh (rword_any s w hs);clear hs;generalize dL s=a at HS HW
 cases a with
 |false=>
  go_enter Tryz.func18,Tryz.ntmps18;go_wp2_with(go_at_call 61;refine HW.out.mono ?_;rintro e w' ⟨rfl,rfl⟩);go_ret;exact⟨aF (by rw[HS.out];rfl),Below.refl _ _⟩
 |true=>
  go_enter Tryz.func18,Tryz.ntmps18;go_wp2_with(go_at_call 61;refine HW.out.mono ?_;rintro e w' ⟨rfl,rfl⟩);refine(reserved_any w).mono ?_;rintro e w2 ⟨⟨v,rfl,hv⟩,pM⟩;have HV:=zh hv;clear hv;go_wp2_with fail;refine(rfind_any resW s HV.out).mono ?_;rintro e w3 ⟨rfl,pR⟩;go_wp2_with fail;all_goals go_ret
  all_goals refine⟨aF ?_,aA pM pR⟩
  all_goals rw[HS.out,<-HF.out.1]
  all_goals simp_all
theorem less_tri:∀a b:List UInt8,(!(Op.bytesLess a b||a==b))=Op.bytesLess b a
 |[],[]=>rfl
 |[],_::_=>rfl
 |_::_,[]=>rfl
 |x::a,y::b=>by
  have ih:=less_tri a b;simp only[Op.bytesLess];by_cases h1:x=y
  ·subst h1;simp at ih ⊢;exact ih
  have h2:y≠x:=fun e=>h1 e.symm;by_cases h3:x<y
  ·have h4:¬y<x:=fun h=>by
    rw[UInt8.lt_iff_toNat_lt] at h3 h;omega
   simp[h1,h2,h3,h4]
  have h4:y<x:=by
   rw[UInt8.lt_iff_toNat_lt] at h3 ⊢;have:x.toNat≠y.toNat:=fun e=>h1 (UInt8.toNat_inj.1 e);omega
  simp[h1,h2,h3,h4]
theorem gtB_less(n b:bA):gtB n b=Op.bytesLess b.toList n.toList:=less_tri _ _
theorem rp_geq_str(t:TypeId)(a b:bA)(w:World):(binOp .geq t (.string a) (.string b)).run Tryz.prog w=.ok (.bool (!Op.bytesLess a.toList b.toList)) w:=by
 simp[binOp,Op.stringOp]
theorem R7{p:Prop}(h:p:=by
 go_enter Tryz.func205,Tryz.ntmps205;go_wp2_with fail;go_ret
 exact⟨aF ZD,pK.out⟩):p:=h
theorem UB{p:Prop}(h:p:=by
 go_enter Tryz.func85,Tryz.ntmps85;go_wp2_with fail;go_ret
 exact⟨aF (by rw[Bool.eq_iff_iff];simp<;>omega),rfl⟩):p:=h
def bC(fn fs fm fl:Bool)(n:Int)(s m:bA)(l:Nat):Bool:=(fn||decide (n=0))&&(fs||decide (s=⟨#[]⟩))&&(fm||decide (m=⟨#[]⟩))&&(fl||decide (l=0))
theorem nil_of{s:bA}(h:s≠⟨#[]⟩):(s.toList==[])=false:=by
 rw[beq_eq_false_iff_ne];intro e;exact h (bN (by rw[<-Lib.toList_data,e]))
theorem nR(n lo hi:Int)(w:World):Calls Tryz.prog 85 #[.int .i64 n,.int .i64 lo,.int .i64 hi] w fun e w'=>e=.returned (.bool (decide (lo<=n)&&decide (n<=hi)))/\w=w':=by
 by_cases h1:lo<=n
 ·by_cases h2:n<=hi
  ·exact UB
  exact UB
 exact UB
theorem rplain_n(op n:Int)(s m:bA)(a1 a2:Option Addr)(l1 c1 l2 c2:Nat)(w:World):
  Calls Tryz.prog 205 #[bW op n s m a1 l1 c1 a2 l2 c2,.bool true,.bool false,.bool false,.bool false] w fun e w'=>e=.returned (.bool (bC true false false false n s m l1))/\Below w.heap.size w w':=by
 have pK:=zh (aC w (aH op n s m a1 l1 c1 a2 l2 c2));have hX:=bY w (aH op n s m a1 l1 c1 a2 l2 c2);obtain⟨⟨x0,x1,x2,x3,x4,x5⟩,-⟩:=bx6 hX;clear hX;by_cases h2:s=⟨#[]⟩
 ·subst h2;by_cases h3:m=⟨#[]⟩
  ·subst h3;by_cases h4:l1=0
   ·subst h4;have HR:Hid (bC true false false false n ⟨#[]⟩ ⟨#[]⟩ 0=true):=zh (by simp[bC]);exact R7
   have HR:Hid (bC true false false false n ⟨#[]⟩ ⟨#[]⟩ l1=false):=zh (by simp[bC,h4]);have g4:((l1:Int)==0)=false:=V7;clear h4;exact R7
  have HR:Hid (bC true false false false n ⟨#[]⟩ m l1=false):=zh (by simp[bC,h3]);have g3:=nil_of h3;clear h3;exact R7
 have HR:Hid (bC true false false false n s m l1=false):=zh (by simp[bC,h2]);have g2:=nil_of h2;clear h2;exact R7
theorem rplain_s(op n:Int)(s m:bA)(a1 a2:Option Addr)(l1 c1 l2 c2:Nat)(w:World):
  Calls Tryz.prog 205 #[bW op n s m a1 l1 c1 a2 l2 c2,.bool false,.bool true,.bool false,.bool false] w fun e w'=>e=.returned (.bool (bC false true false false n s m l1))/\Below w.heap.size w w':=by
 have pK:=zh (aC w (aH op n s m a1 l1 c1 a2 l2 c2));have hX:=bY w (aH op n s m a1 l1 c1 a2 l2 c2);obtain⟨⟨x0,x1,x2,x3,x4,x5⟩,-⟩:=bx6 hX;clear hX;by_cases h1:n=0
 ·subst h1;by_cases h3:m=⟨#[]⟩
  ·subst h3;by_cases h4:l1=0
   ·subst h4;have HR:Hid (bC false true false false 0 s ⟨#[]⟩ 0=true):=zh (by simp[bC]);exact R7
   have HR:Hid (bC false true false false 0 s ⟨#[]⟩ l1=false):=zh (by simp[bC,h4]);have g4:((l1:Int)==0)=false:=V7;clear h4;exact R7
  have HR:Hid (bC false true false false 0 s m l1=false):=zh (by simp[bC,h3]);have g3:=nil_of h3;clear h3;exact R7
 have HR:Hid (bC false true false false n s m l1=false):=zh (by simp[bC,h1]);have g1:(n==0)=false:=beq_eq_false_iff_ne.2 h1;clear h1;exact R7
theorem rplain_0(op n:Int)(s m:bA)(a1 a2:Option Addr)(l1 c1 l2 c2:Nat)(w:World):
  Calls Tryz.prog 205 #[bW op n s m a1 l1 c1 a2 l2 c2,.bool false,.bool false,.bool false,.bool false] w fun e w'=>e=.returned (.bool (bC false false false false n s m l1))/\Below w.heap.size w w':=by
 have pK:=zh (aC w (aH op n s m a1 l1 c1 a2 l2 c2));have hX:=bY w (aH op n s m a1 l1 c1 a2 l2 c2);obtain⟨⟨x0,x1,x2,x3,x4,x5⟩,-⟩:=bx6 hX;clear hX;by_cases h1:n=0
 ·subst h1;by_cases h2:s=⟨#[]⟩
  ·subst h2;by_cases h3:m=⟨#[]⟩
   ·subst h3;by_cases h4:l1=0
    ·subst h4;have HR:Hid (bC false false false false 0 ⟨#[]⟩ ⟨#[]⟩ 0=true):=zh (by simp[bC]);exact R7
    have HR:Hid (bC false false false false 0 ⟨#[]⟩ ⟨#[]⟩ l1=false):=zh (by simp[bC,h4]);have g4:((l1:Int)==0)=false:=V7;clear h4;exact R7
   have HR:Hid (bC false false false false 0 ⟨#[]⟩ m l1=false):=zh (by simp[bC,h3]);have g3:=nil_of h3;clear h3;exact R7
  have HR:Hid (bC false false false false 0 s m l1=false):=zh (by simp[bC,h2]);have g2:=nil_of h2;clear h2;exact R7
 have HR:Hid (bC false false false false n s m l1=false):=zh (by simp[bC,h1]);have g1:(n==0)=false:=beq_eq_false_iff_ne.2 h1;clear h1;exact R7
theorem rplain_l(op n:Int)(s m:bA)(a1 a2:Option Addr)(l1 c1 l2 c2:Nat)(w:World):
  Calls Tryz.prog 205 #[bW op n s m a1 l1 c1 a2 l2 c2,.bool false,.bool false,.bool false,.bool true] w fun e w'=>e=.returned (.bool (bC false false false true n s m l1))/\Below w.heap.size w w':=by
 have pK:=zh (aC w (aH op n s m a1 l1 c1 a2 l2 c2));have hX:=bY w (aH op n s m a1 l1 c1 a2 l2 c2);obtain⟨⟨x0,x1,x2,x3,x4,x5⟩,-⟩:=bx6 hX;clear hX;by_cases h1:n=0
 ·subst h1;by_cases h2:s=⟨#[]⟩
  ·subst h2;by_cases h3:m=⟨#[]⟩
   ·subst h3;have HR:Hid (bC false false false true 0 ⟨#[]⟩ ⟨#[]⟩ l1=true):=zh (by simp[bC]);exact R7
   have HR:Hid (bC false false false true 0 ⟨#[]⟩ m l1=false):=zh (by simp[bC,h3]);have g3:=nil_of h3;clear h3;exact R7
  have HR:Hid (bC false false false true 0 s m l1=false):=zh (by simp[bC,h2]);have g2:=nil_of h2;clear h2;exact R7
 have HR:Hid (bC false false false true n s m l1=false):=zh (by simp[bC,h1]);have g1:(n==0)=false:=beq_eq_false_iff_ne.2 h1;clear h1;exact R7
theorem rplain_sm(op n:Int)(s m:bA)(a1 a2:Option Addr)(l1 c1 l2 c2:Nat)(w:World):
  Calls Tryz.prog 205 #[bW op n s m a1 l1 c1 a2 l2 c2,.bool false,.bool true,.bool true,.bool false] w fun e w'=>e=.returned (.bool (bC false true true false n s m l1))/\Below w.heap.size w w':=by
 have pK:=zh (aC w (aH op n s m a1 l1 c1 a2 l2 c2));have hX:=bY w (aH op n s m a1 l1 c1 a2 l2 c2);obtain⟨⟨x0,x1,x2,x3,x4,x5⟩,-⟩:=bx6 hX;clear hX;by_cases h1:n=0
 ·subst h1;by_cases h4:l1=0
  ·subst h4;have HR:Hid (bC false true true false 0 s m 0=true):=zh (by simp[bC]);exact R7
  have HR:Hid (bC false true true false 0 s m l1=false):=zh (by simp[bC,h4]);have g4:((l1:Int)==0)=false:=V7;clear h4;exact R7
 have HR:Hid (bC false true true false n s m l1=false):=zh (by simp[bC,h1]);have g1:(n==0)=false:=beq_eq_false_iff_ne.2 h1;clear h1;exact R7
end Go.Proofs.YtiionicikdnnpaaGreatDoor
namespace Go.Proofs.YtiionicikdnnpaaGreatDoor
theorem TN{p:Prop}(h:p:=by
 rw[Bool.eq_iff_iff];simp[cD,fN,gE,bC,noB,len_z,len_n];grind):p:=h
theorem len_z{α:Type}(l:List α):((0:Int)=(l.length:Int))=(l=[]):=by
 apply propext;constructor
 ·intro h;exact List.eq_nil_of_length_eq_zero VS
 rintro rfl;rfl
theorem len_n{α:Type}(l:List α):(0=l.length)=(l=[]):=by
 apply propext;constructor
 ·intro h;exact List.eq_nil_of_length_eq_zero h.symm
 rintro rfl;rfl
theorem node_num(n:Int)(s m:bA)(ns:List bA)(xs:List Xp):cD 0 n s m ns xs=(bC true false false false n s m ns.length&&decide (xs.length=0)&&(decide (0<=n)&&decide (n<=1099511627776))):=by
 exact TN
theorem node_bool(n:Int)(s m:bA)(ns:List bA)(xs:List Xp):cD 1 n s m ns xs=(bC true false false false n s m ns.length&&decide (xs.length=0)&&(decide (0<=n)&&decide (n<=1))):=by
 exact TN
theorem node_var(op:Int)(ho:op=2\/op=17)(n:Int)(s m:bA)(ns:List bA)(xs:List Xp):cD op n s m ns xs=(bC false true false false n s m ns.length&&decide (xs.length=0)&&aP s):=by
 rcases ho with rfl|rfl<;>(rw[Bool.eq_iff_iff];simp[cD,fN,gE,bC,noB,len_z,len_n];grind)
theorem node_field(op:Int)(ho:op=14\/op=18)(n:Int)(s m:bA)(ns:List bA)(xs:List Xp):cD op n s m ns xs=(bC false true false false n s m ns.length&&decide (xs.length=1)&&aP s):=by
 rcases ho with rfl|rfl<;>(rw[Bool.eq_iff_iff];simp[cD,fN,gE,bC,noB,len_z,len_n];grind)
theorem node_let(n:Int)(s m:bA)(ns:List bA)(xs:List Xp):cD 12 n s m ns xs=(bC false true false false n s m ns.length&&decide (xs.length=2)&&aP s):=by
 exact TN
theorem node_not(n:Int)(s m:bA)(ns:List bA)(xs:List Xp):cD 10 n s m ns xs=(bC false false false false n s m ns.length&&decide (xs.length=1)):=by
 exact TN
theorem node_if(n:Int)(s m:bA)(ns:List bA)(xs:List Xp):cD 11 n s m ns xs=(bC false false false false n s m ns.length&&decide (xs.length=3)):=by
 exact TN
theorem node_rec(n:Int)(s m:bA)(ns:List bA)(xs:List Xp):cD 13 n s m ns xs=(bC false false false true n s m ns.length&&decide (xs.length=ns.length)&&decide (xs.length<=8)&&cO none ns):=by
 exact TN
theorem node_call(n:Int)(s m:bA)(ns:List bA)(xs:List Xp):cD 15 n s m ns xs=(bC false true true false n s m ns.length&&decide (xs.length<=6)&&aP s&&(decide (m=⟨#[]⟩)||aP m)):=by
 exact TN
theorem node_act(n:Int)(s m:bA)(ns:List bA)(xs:List Xp):cD 16 n s m ns xs=(bC true false false false n s m ns.length&&decide (xs.length=1)&&(decide (n=1)||decide (n=2)||decide (n=4)||decide (n=8))):=by
 exact TN
theorem lS(op:Int)(ho:op=3\/op=4\/op=5\/op=6\/op=7\/op=8\/op=9)(n:Int)(s m:bA)(ns:List bA)(xs:List Xp):cD op n s m ns xs=(bC false false false false n s m ns.length&&decide (xs.length=2)):=by
 rcases ho with rfl|rfl|rfl|rfl|rfl|rfl|rfl<;>(rw[Bool.eq_iff_iff];simp[cD,fN,gE,bC,noB,len_z,len_n];grind)
theorem node_none(op:Int)(ho:op<0\/19<=op)(n:Int)(s m:bA)(ns:List bA)(xs:List Xp):cD op n s m ns xs=false:=by
 unfold cD;rcases ho with h|h
 ·rw[decide_eq_false (show ¬0<=op by omega)];simp
 rw[decide_eq_false (show ¬op<19 by omega)];simp
end Go.Proofs.YtiionicikdnnpaaGreatDoor
