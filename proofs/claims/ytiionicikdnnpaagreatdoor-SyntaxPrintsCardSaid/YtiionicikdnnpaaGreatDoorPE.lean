/- Texts of this seat, joined. -/
import Derived.Test.YtiionicikdnnpaaGreatDoorZb
import Derived.Lib.ItoaNum
import Derived.Lib.Split
import Derived.Lib.Join
set_option linter.unusedVariables false
set_option linter.unusedSimpArgs false
set_option linter.constructorNameAsVariable false
namespace Go.Proofs.YtiionicikdnnpaaGreatDoor
def nameByte(c:UInt8):Bool:=decide (33<=(c.toNat:Int))&&decide ((c.toNat:Int)<=126)
def isName(s:bA):Bool:=s.data.toList.all nameByte&& !s.toList.isEmpty&&decide (s.size<=20)
structure Fil where
 name:bA
 text:bA
structure Tok where
 kind:Int
 text:bA
 n:Int
 pos:Int
def eU(c:UInt8):Bool:=decide (c.toNat=32)||decide (c.toNat=9)||decide (c.toNat=10)
def dV(c:UInt8):Bool:=decide (97<=c.toNat)&&decide (c.toNat<=122)
def cE(c:UInt8):Bool:=decide (48<=c.toNat)&&decide (c.toNat<=57)
def gW(c:UInt8):Bool:=dV c||cE c
def dW(p:UInt8->Bool)(l:List UInt8):Nat:=(l.takeWhile p).length
def jN(s:bA)(n:Nat):bA:=s.extract 0 n
def hI(s:bA)(n:Nat):bA:=s.extract n s.size
def dL(s:bA):Bool:=match s.data.toList with
 |[]=>false
 |c::_=>dV c&&decide (s.size<=20)&&s.data.toList.all gW
def iB(l:List UInt8):Nat:=l.foldl (fun n c=>10*n+(c.toNat-48)) 0
def dQ(s:bA):Option Nat:=match s.data.toList with
 |[]=>none
 |c::_=>if s.data.toList.all cE&& !(decide (c.toNat=48)&&decide (s.size≠1))&&decide (s.size<=13)&&decide (iB s.data.toList<=1099511627776) then some (iB s.data.toList) else none
def eZ:List bA:=[⟨#[61,61]⟩,⟨#[59]⟩,⟨#[44]⟩,⟨#[61]⟩,⟨#[60]⟩,⟨#[43]⟩,⟨#[45]⟩,⟨#[42]⟩,⟨#[46]⟩,⟨#[33]⟩,⟨#[40]⟩,⟨#[41]⟩,⟨#[123]⟩,⟨#[125]⟩]
def mP(s x:bA):Bool:=x.data.toList.isPrefixOf s.data.toList
def gC(s:bA):Except Int (Int×bA×Int):=match s.data.toList with
 |[]=>.error 10
 |c::_=>
  if dV c then(if dL (jN s (dW gW s.data.toList)) then .ok (0,jN s (dW gW s.data.toList),0) else .error 12)
  else if cE c then(match dQ (jN s (dW cE s.data.toList)) with
   |some n=>.ok (1,jN s (dW cE s.data.toList),n)
   |none=>.error 3)
  else match eZ.find? (mP s) with
   |some x=>.ok (2,x,0)
   |none=>.error 10
def iE(s:bA):Nat->Nat->List Tok->Except (Int×Int) (List Tok)
 |0,_,out=>.ok out
 |f+1,i,out=>
  if i+dW eU (hI s i).data.toList=s.size then .ok (out++[⟨3,⟨#[]⟩,0,s.size⟩])
  else match gC (hI s (i+dW eU (hI s i).data.toList)) with
   | .error e=>.error ((i+dW eU (hI s i).data.toList:Nat),e)
   | .ok (k,t,n)=>iE s f (i+dW eU (hI s i).data.toList+t.size) (out++[⟨k,t,n,(i+dW eU (hI s i).data.toList:Nat)⟩])
def lexL(s:bA):Except (Int×Int) (List Tok):=if 8000<s.size then .error (0,6) else iE s (s.size+1) 0 []
inductive Xp where
 |mk (op n:Int) (s m:bA) (names:List bA) (args:List Xp)
inductive Ty where
 |mk (kind:Int) (fields:List (bA×Ty))
abbrev Fld:=bA×Ty
structure Fnc where
 name:bA
 pub:Bool
 params:List Fld
 result:Ty
 effects:Int
 body:Xp
structure Mdl where
 name:bA
 uses:List bA
 vars:List Fld
 init:List Xp
 funcs:List Fnc
 moves:Bool
 old:List Fld
 forward:List Xp
 back:List Xp
abbrev bs(l:List UInt8):bA:=⟨l.toArray⟩
abbrev jH:bA:=bs [32,97,110,100,32,98,97,99,107,32,98,111,111,108,32,99,108,111,99,107,32,101,108,115,101,32,102,97,108,115,101,32,102,105,108,101,115,32,102,110,32,102,111,114,119,97,114,100,32,103,101,116,32,105,102,32,105,110,32,105,110,116,32,108,101,116,32,109,111,100,117,108,101,32,109,111,118,101,32,110,101,116,32,110,111,116,32,111,114,32,112,117,98,32,115,101,99,114,101,116,115,32,115,101,116,32,116,104,101,110,32,116,114,117,101,32,117,115,101,32,118,97,114,32]
def aP(s:bA):Bool:=dL s&& !Lib.contains jH.data.toList ((bs [32]++s)++bs [32]).data.toList
def cA(s:bA):Int:=if s=bs [102,105,108,101,115] then 1 else if s=bs [110,101,116] then 2 else if s=bs [99,108,111,99,107] then 4 else if s=bs [115,101,99,114,101,116,115] then 8 else 0
abbrev PR(α:Type):=Except (Int×Int) (α×Nat)
def aM(l:List Tok)(i:Nat):Tok:=l.getD i ⟨3,⟨#[]⟩,0,0⟩
def gK{α:Type}(l:List Tok)(i:Nat)(e:Int):PR α:=.error ((aM l i).pos,e)
def isP(l:List Tok)(i:Nat)(s:bA):Bool:=decide ((aM l i).kind≠3)&&decide ((aM l i).text=s)
def dC(l:List Tok)(i:Nat):Bool:=decide ((aM l i).kind=0)&&aP (aM l i).text
def dN(l:List Tok)(i:Nat)(s:bA):PR Unit:=if isP l i s then .ok ((),i+1) else gK l i 11
def mF(l:List Tok)(i:Nat)(fits:Bool)(s:bA):PR Unit:=if isP l i s then(if fits then .ok ((),i+1) else gK l i 6) else gK l i 11
def fR(l:List Tok)(i:Nat):PR bA:=if dC l i then .ok ((aM l i).text,i+1) else gK l i 11
def gH(l:List Tok)(i:Nat)(known:bA->Bool):PR bA:=if dC l i then(if known (aM l i).text then gK l i 5 else .ok ((aM l i).text,i+1)) else gK l i 11
def gtB(a b:bA):Bool:= !(Op.bytesLess a.toList b.toList||a.toList==b.toList)
def fM(l:List Tok)(i:Nat)(than:bA)(any:Bool):PR bA:=
 if dC l i then(if any&&decide ((aM l i).text=than) then gK l i 5 else if any&& !gtB (aM l i).text than then gK l i 12 else .ok ((aM l i).text,i+1)) else gK l i 11
def gX(l:List Tok)(i:Nat)(have_ most:Nat):PR Unit:=if have_<most then .ok ((),i) else gK l i 6
abbrev kIf:bA:=bs [105,102]
abbrev kN:bA:=bs [116,104,101,110]
abbrev kO:bA:=bs [101,108,115,101]
abbrev mE:bA:=bs [108,101,116]
abbrev kEq:bA:=bs [61]
abbrev kIn:bA:=bs [105,110]
abbrev nN:bA:=bs [115,101,116]
abbrev nH:bA:=bs [110,111,116]
abbrev cQ:bA:=bs [116,114,117,101]
abbrev bU:bA:=bs [102,97,108,115,101]
abbrev fY:bA:=bs [103,101,116]
abbrev aY:bA:=bs [40]
abbrev cF:bA:=bs [41]
abbrev bJ:bA:=bs [123]
abbrev dO:bA:=bs [125]
abbrev kG:bA:=bs [46]
abbrev bE:bA:=bs [44]
abbrev fD:bA:=bs [59]
abbrev kOr:bA:=bs [111,114]
abbrev kAnd:bA:=bs [97,110,100]
abbrev kEqEq:bA:=bs [61,61]
abbrev kLess:bA:=bs [60]
abbrev kPlus:bA:=bs [43]
abbrev kMinus:bA:=bs [45]
abbrev kStar:bA:=bs [42]
abbrev kIntW:bA:=bs [105,110,116]
abbrev kBool:bA:=bs [98,111,111,108]
abbrev bR:bA:=bs [109,111,100,117,108,101]
abbrev kUse:bA:=bs [117,115,101]
abbrev kVar:bA:=bs [118,97,114]
abbrev nG:bA:=bs [112,117,98]
abbrev kFn:bA:=bs [102,110]
abbrev lT:bA:=bs [109,111,118,101]
abbrev gP:bA:=bs [102,111,114,119,97,114,100]
abbrev nU:bA:=bs [98,97,99,107]
abbrev jT:bA:=bs [33]
abbrev nI:bA:=bs [102,105,108,101,115]
abbrev kNet:bA:=bs [110,101,116]
abbrev nJ:bA:=bs [99,108,111,99,107]
abbrev jD:bA:=bs [115,101,99,114,101,116,115]
abbrev noB:bA:=⟨#[]⟩
def PR.bnd{α β:Type}(m:PR α)(k:α->Nat->PR β):PR β:=match m with
 | .error x=>.error x
 | .ok (a,j)=>k a j
def eP:List (bA×Int×Nat):=[(kOr,9,1),(kAnd,8,2),(kEqEq,7,4),(kLess,6,4),(kPlus,3,5),(kMinus,4,5),(kStar,5,6)]
def lA(l:List Tok)(i:Nat):Option (bA×Int×Nat):=eP.find? fun o=>isP l i o.1
mutual
def bI:Xp->Nat
 | .mk _ _ _ _ _ args=>eN args+1
def eN:List Xp->Nat
 |[]=>0
 |x::r=>max (bI x) (eN r)
end
mutual
def bL:Ty->Nat
 | .mk _ fields=>cX fields+1
def cX:List (bA×Ty)->Nat
 |[]=>0
 |(_,t)::r=>max (bL t) (cX r)
end
abbrev RecP:=Nat->Nat->PR Xp
section
variable (l:List Tok) (rec:RecP)
def lX:Nat->Xp->Nat->PR Xp
 |0,e,i=>.ok (e,i)
 |f+1,e,i=>if isP l i kG then(fR l (i+1)).bnd fun s j=>lX f (.mk 14 0 s noB [] [e]) j else .ok (e,i)
def nM(form:Nat):Nat->Nat->Xp->Nat->PR Xp
 |0,_,e,i=>.ok (e,i)
 |f+1,own,e,i=>match lA l i with
  |none=>.ok (e,i)
  |some (_,op,fm)=>if fm<form\/own<fm\/(own=4/\fm=4) then .ok (e,i)
   else(rec (fm+1) (i+1)).bnd fun b j=>nM form f fm (.mk op 0 noB noB [] [e,b]) j
def fF(i:Nat):Bool:=isP l i kG&&decide (i+2<l.length)&&decide ((aM l (i+1)).kind=0)&&aP (aM l (i+1)).text&&decide ((aM l (i+2)).kind=2)&&decide ((aM l (i+2)).text=aY)
def iG(i:Nat):Bool:=
 if(aM l i).kind=1 then true
 else if(aM l i).kind=2 then decide ((aM l i).text=aY)||decide ((aM l i).text=bJ)
 else if(aM l i).kind=3 then false
 else([kIf,mE,nN,nH,cQ,bU,fY].any fun s=>decide ((aM l i).text=s))||decide (cA (aM l i).text≠0)||aP (aM l i).text
def cL:Nat->List Xp->Nat->PR (List Xp)
 |0,out,i=>.ok (out,i)
 |f+1,out,i=>(if iG l i then gX l i out.length 6 else .ok ((),i)).bnd fun _ _=>(rec 0 i).bnd fun e j=>
  if isP l j bE then cL f (out++[e]) (j+1) else(dN l j cF).bnd fun _ k=>.ok (out++[e],k)
def jI(i:Nat):PR (List Xp):=(dN l i aY).bnd fun _ j=>if isP l j cF then .ok ([],j+1) else cL l rec (l.length+1) [] j
def eC:Nat->List bA->List Xp->bA->Nat->PR Xp
 |0,names,args,_,i=>.ok (.mk 13 0 noB noB names args,i)
 |f+1,names,args,last,i=>(if dC l i then gX l i names.length 8 else .ok ((),i)).bnd fun _ _=>(fM l i last (decide (0<names.length))).bnd fun s j=>(dN l j kEq).bnd fun _ j2=>(rec 0 j2).bnd fun e j3=>
  if isP l j3 bE then eC f (names++[s]) (args++[e]) s (j3+1) else(dN l j3 dO).bnd fun _ k=>.ok (.mk 13 0 noB noB (names++[s]) (args++[e]),k)
def kK(i:Nat):PR Xp:=if isP l i dO then .ok (.mk 13 0 noB noB [] [],i+1) else eC l rec (l.length+1) [] [] noB i
def callP(s:bA)(j:Nat):PR Xp:=
 if isP l j aY then(jI l rec j).bnd fun as k=>.ok (.mk 15 0 s noB [] as,k)
 else if fF l j then(fR l (j+1)).bnd fun f k=>(jI l rec k).bnd fun as k2=>.ok (.mk 15 0 f s [] as,k2)
 else .ok (.mk 2 0 s noB [] [],j)
def parenP(i:Nat):PR Xp:=(rec 0 i).bnd fun e j=>(dN l j cF).bnd fun _ k=>.ok (e,k)
def aX(i:Nat):PR Xp:=
 if(aM l i).kind=1 then .ok (.mk 0 (aM l i).n noB noB [] [],i+1)
 else if isP l i cQ then .ok (.mk 1 1 noB noB [] [],i+1)
 else if isP l i bU then .ok (.mk 1 0 noB noB [] [],i+1)
 else if isP l i fY then(fR l (i+1)).bnd fun s j=>.ok (.mk 17 0 s noB [] [],j)
 else if(aM l i).kind=0/\cA (aM l i).text≠0 then(dN l (i+1) aY).bnd fun _ j=>(parenP l rec j).bnd fun e k=>.ok (.mk 16 (cA (aM l i).text) noB noB [] [e],k)
 else if isP l i bJ then kK l rec (i+1)
 else if isP l i aY then parenP l rec (i+1)
 else(fR l i).bnd fun s j=>callP l rec s j
def cK(form i:Nat):PR (Xp×Nat):=
 if form=0/\isP l i kIf=true then(rec 0 (i+1)).bnd fun a j=>(dN l j kN).bnd fun _ j2=>(rec 0 j2).bnd fun b j3=>(dN l j3 kO).bnd fun _ j4=>(rec 0 j4).bnd fun c j5=>.ok ((.mk 11 0 noB noB [] [a,b,c],0),j5)
 else if form=0/\isP l i mE=true then(fR l (i+1)).bnd fun s j=>(dN l j kEq).bnd fun _ j2=>(rec 0 j2).bnd fun a j3=>(dN l j3 kIn).bnd fun _ j4=>(rec 0 j4).bnd fun b j5=>.ok ((.mk 12 0 s noB [] [a,b],0),j5)
 else if form=0/\isP l i nN=true then(fR l (i+1)).bnd fun s j=>(rec 0 j).bnd fun a j2=>.ok ((.mk 18 0 s noB [] [a],0),j2)
 else if form<=3/\isP l i nH=true then(rec 3 (i+1)).bnd fun a j=>.ok ((.mk 10 0 noB noB [] [a],3),j)
 else(aX l rec i).bnd fun e j=>.ok ((e,8),j)
end
def bS(l:List Tok):Nat->RecP
 |0,_,i=>gK l i 11
 |f+1,form,i=>(cK l (bS l f) form i).bnd fun r j=>
  (if 7<=r.2 then lX l (l.length+1) r.1 j else .ok (r.1,j)).bnd fun e k=>nM l (bS l f) form (l.length+1) r.2 e k
def nW(l:List Tok)(form i:Nat):PR Xp:=bS l (l.length+1) form i
section
variable (l:List Tok)
def moreP(i:Nat)(t:Ty)(e:bA):PR Bool:=if isP l i bE then(mF l i (decide (bL t<=4)) bE).bnd fun _ j=>.ok (false,j) else(mF l i (decide (bL t<=4)) e).bnd fun _ j=>.ok (true,j)
def eY(rec:Nat->PR Ty):Nat->List Fld->Nat->PR Ty
 |0,fs,i=>.ok (.mk 2 fs,i)
 |f+1,fs,i=>(if dC l i then gX l i fs.length 8 else .ok ((),i)).bnd fun _ _=>(fM l i ((fs.getLast?.map (·.1)).getD noB) (decide (0<fs.length))).bnd fun s j=>(rec j).bnd fun t j2=>(moreP l j2 t dO).bnd fun q j3=>
  if q then .ok (.mk 2 (fs++[(s,t)]),j3) else eY rec f (fs++[(s,t)]) j3
def fW:Nat->Nat->PR Ty
 |0,i=>gK l i 11
 |f+1,i=>if isP l i kIntW then .ok (.mk 0 [],i+1) else if isP l i kBool then .ok (.mk 1 [],i+1)
  else(dN l i bJ).bnd fun _ j=>if isP l j dO then .ok (.mk 2 [],j+1) else eY l (fW f) (l.length+1) [] j
def kD(i:Nat):PR Ty:=fW l (l.length+1) i
def eJ(most:Nat):Nat->List Fld->Nat->PR (List Fld)
 |0,fs,i=>.ok (fs,i)
 |f+1,fs,i=>(if dC l i then gX l i fs.length most else .ok ((),i)).bnd fun _ _=>(gH l i (fun s=>fs.any fun x=>decide (x.1=s))).bnd fun s j=>(kD l j).bnd fun t j2=>(moreP l j2 t cF).bnd fun q j3=>
  if q then .ok (fs++[(s,t)],j3) else eJ most f (fs++[(s,t)]) j3
def jV(most i:Nat):PR (List Fld):=(dN l i aY).bnd fun _ j=>if isP l j cF then .ok ([],j+1) else eJ l most (l.length+1) [] j
def mC(i:Nat)(e:bA):PR Xp:=(nW l 0 i).bnd fun x j=>(mF l j (decide (bI x<=12)) e).bnd fun _ k=>.ok (x,k)
def iU(e:bA):Nat->List Xp->Nat->PR (List Xp)
 |0,out,i=>(mC l i e).bnd fun x j=>.ok (out++[x],j)
 |n+1,out,i=>(mC l i bE).bnd fun x j=>iU e n (out++[x]) j
def iC(n i:Nat)(e:bA):PR (List Xp):=match n with
 |0=>(dN l i e).bnd fun _ j=>.ok ([],j)
 |n+1=>iU l e n [] i
def eM:List (bA×Int)->Int->Nat->Int×Nat
 |[],n,i=>(n,i)
 |(s,b)::r,n,i=>if isP l i s then eM r (n+b) (i+1) else eM r n i
def cR:List (bA×Int):=[(nI,1),(kNet,2),(nJ,4),(jD,8)]
def bangP(i:Nat)(fits:Bool):PR (Int×Bool):=if isP l i jT then(mF l i fits jT).bnd fun _ j=>if(eM l cR 0 j).1≠0 then .ok (((eM l cR 0 j).1,true),(eM l cR 0 j).2) else gK l (eM l cR 0 j).2 11 else .ok ((0,fits),i)
def mT(i:Nat)(known:bA->Bool):PR Fnc:=
 (dN l (if isP l i nG then i+1 else i) kFn).bnd fun _ j=>(gH l j known).bnd fun name j2=>(jV l 6 j2).bnd fun ps j3=>(kD l j3).bnd fun t j4=>(bangP l j4 (decide (bL t<=4))).bnd fun ef j5=>
  (mF l j5 ef.2 kEq).bnd fun _ j6=>(mC l j6 fD).bnd fun e j7=>.ok (⟨name,isP l i nG,ps,t,ef.1,e⟩,j7)
def iH:Nat->List bA->Nat->PR (List bA)
 |0,out,i=>.ok (out,i)
 |f+1,out,i=>if isP l i kUse then(gX l i out.length 12).bnd fun _ _=>(gH l (i+1) (fun s=>out.any fun x=>decide (x=s))).bnd fun s j=>(dN l j fD).bnd fun _ k=>iH f (out++[s]) k else .ok (out,i)
def iV:Nat->List Fld->List Xp->Nat->PR (List Fld×List Xp)
 |0,vs,es,i=>.ok ((vs,es),i)
 |f+1,vs,es,i=>if isP l i kVar then(gX l i vs.length 8).bnd fun _ _=>(gH l (i+1) (fun s=>vs.any fun x=>decide (x.1=s))).bnd fun s j=>(kD l j).bnd fun t j2=>(mF l j2 (decide (bL t<=4)) kEq).bnd fun _ j3=>(mC l j3 fD).bnd fun e k=>iV f (vs++[(s,t)]) (es++[e]) k else .ok ((vs,es),i)
def gI:Nat->List Fnc->Nat->PR (List Fnc)
 |0,fs,i=>.ok (fs,i)
 |f+1,fs,i=>if isP l i nG||isP l i kFn then(gX l i fs.length 30).bnd fun _ _=>(mT l i (fun s=>fs.any fun x=>decide (x.name=s))).bnd fun x k=>gI f (fs++[x]) k else .ok (fs,i)
def moveP(n i:Nat):PR (Bool×List Fld×List Xp×List Xp):=if isP l i lT then(jV l 8 (i+1)).bnd fun old j=>(dN l j gP).bnd fun _ j2=>(iC l n j2 nU).bnd fun fw j3=>(iC l old.length j3 fD).bnd fun bk k=>.ok ((true,old,fw,bk),k) else .ok ((false,[],[],[]),i)
def gN:PR Mdl:=(dN l 0 bR).bnd fun _ i=>(fR l i).bnd fun name i2=>(dN l i2 fD).bnd fun _ i3=>(iH l (l.length+1) [] i3).bnd fun us i4=>(iV l (l.length+1) [] [] i4).bnd fun ve i5=>
 (gI l (l.length+1) [] i5).bnd fun fs i6=>(moveP l ve.1.length i6).bnd fun mv i7=>if(aM l i7).kind=3 then .ok (⟨name,us,ve.1,ve.2,fs,mv.1,mv.2.1,mv.2.2.1,mv.2.2.2⟩,i7) else gK l i7 11
end
def iY(s:bA):Except (Int×Int) Mdl:=match lexL s with
 | .error e=>.error e
 | .ok l=>match gN l with
  | .error e=>.error e
  | .ok (m,_)=>.ok m
end Go.Proofs.YtiionicikdnnpaaGreatDoor
namespace Go.Proofs.YtiionicikdnnpaaGreatDoor
def eS(p:Ty->Bool):Option bA->List Fld->Bool
 |_,[]=>true
 |before,(n,t)::r=>aP n&&(match before with|none=>true|some b=>gtB n b)&&p t&&eS p (some n) r
def aQ:Nat->Ty->Bool
 |0,_=>false
 |d+1,.mk k fs=>decide (0<=k)&&decide (k<3)&&decide (fs.length<=8)&&(decide (k=2)||decide (fs.length=0))&&eS (aQ d) none fs
def fN:Xp->(Int×bA×bA×List bA)×Int
 | .mk op n s m names _=>
  if op=0\/op=1 then((n,noB,noB,[]),0)
  else if op=2\/op=17 then((0,s,noB,[]),0)
  else if op=18\/op=14 then((0,s,noB,[]),1)
  else if op=16 then((n,noB,noB,[]),1)
  else if op=10 then((0,noB,noB,[]),1)
  else if op=12 then((0,s,noB,[]),2)
  else if op=11 then((0,noB,noB,[]),3)
  else if op=13 then((0,noB,noB,names),names.length)
  else if op=15 then((0,s,m,[]),-1)
  else((0,noB,noB,[]),2)
def cO:Option bA->List bA->Bool
 |_,[]=>true
 |before,n::r=>aP n&&(match before with|none=>true|some b=>gtB n b)&&cO (some n) r
def gE:Xp->Bool
 | .mk op n s m names args=>
  if op=0 then decide (0<=n)&&decide (n<=1099511627776)
  else if op=1 then decide (n=0)||decide (n=1)
  else if op=16 then decide (n=1)||decide (n=2)||decide (n=4)||decide (n=8)
  else if op=2\/op=17\/op=18\/op=14\/op=12 then aP s
  else if op=15 then aP s&&(decide (m=noB)||aP m)&&decide (args.length<=6)
  else if op=13 then cO none names&&decide (names.length<=8)
  else true
def aJ:Nat->Xp->Bool
 |0,_=>false
 |d+1,.mk op n s m names args=>
  decide (0<=op)&&decide (op<19)&&
  (decide ((fN (.mk op n s m names args)).2<0)||decide ((fN (.mk op n s m names args)).2=args.length))&&
  decide ((fN (.mk op n s m names args)).1.1=n)&&decide ((fN (.mk op n s m names args)).1.2.1=s)&&decide ((fN (.mk op n s m names args)).1.2.2.1=m)&&
  decide ((fN (.mk op n s m names args)).1.2.2.2.length=names.length)&&gE (.mk op n s m names args)&&args.all (aJ d)
def cG:List Fld->List bA->Bool
 |[],_=>true
 |(n,t)::r,known=>if(known.any fun x=>decide (x=n))|| !aP n|| !aQ 4 t then false else cG r (n::known)
def bO(l:List Fld)(most:Nat):Bool:=cG l []&&decide (l.length<=most)
def dE(l:List Xp)(n:Nat):Bool:=l.all (aJ 12)&&decide (l.length=n)
def bM:List bA->List bA->Bool
 |[],_=>true
 |n::r,known=>if(known.any fun x=>decide (x=n))|| !aP n then false else bM r (n::known)
def effOk(e:Int):Bool:=decide (Go.bits .andNot .i64 e 15=0)
def gL(f:Fnc):Bool:=bO f.params 6&&aQ 4 f.result&&aJ 12 f.body&&effOk f.effects
def dP:List Fnc->List bA->Bool
 |[],_=>true
 |f::r,known=>if(known.any fun x=>decide (x=f.name))|| !aP f.name|| !gL f then false else dP r (f.name::known)
def gS(m:Mdl):Bool:=
 bM m.uses []&&dP m.funcs []&&aP m.name&&decide (m.uses.length<=12)&&decide (m.funcs.length<=30)&&bO m.vars 8&&dE m.init m.vars.length&&
 (m.moves||decide (m.old.length=0))&&bO m.old 8&&dE m.forward (if m.moves then m.vars.length else 0)&&dE m.back m.old.length
structure Ins where
 op:Int
 a:Int
 s:bA
 m:bA
 names:List bA
structure Cmp where
 code:List Ins
 locals:Nat
def Cmp.put(c:Cmp)(i:Ins):Cmp:=⟨c.code++[i],c.locals⟩
def ins(op a:Int):Ins:=⟨op,a,noB,noB,[]⟩
def wordsL:List (List UInt8):=[[105,110,116],[98,111,111,108],[108,111,97,100],[115,116,111,114,101],[97,100,100],[115,117,98],[109,117,108],[108,101,115,115],[101,113],[110,111,116],[106,117,109,112],[102,97,108,115,101],[114,101,99],[102,105,101,108,100],[99,97,108,108],[97,99,116],[103,101,116],[115,101,116],[114,101,116,117,114,110],[112,111,112]]
theorem UN{p:Prop}(h:p:=by
 constructor
 ·rintro⟨⟨⟨⟨⟨h1,h2⟩,h3⟩,h4⟩,h5⟩,h6⟩;exact⟨h1,h2,h3,h4,h5,h6⟩
 rintro⟨h1,h2,h3,h4,h5,h6⟩;exact⟨⟨⟨⟨⟨h1,h2⟩,h3⟩,h4⟩,h5⟩,h6⟩):p:=h
mutual
def jR:Xp->Xp->Bool
 | .mk o n s m ns as,.mk o' n' s' m' ns' as'=>decide (o=o')&&decide (n=n')&&decide (s=s')&&decide (m=m')&&decide (ns=ns')&&eG as as'
def eG:List Xp->List Xp->Bool
 |[],[]=>true
 |x::r,y::q=>jR x y&&eG r q
 |[],_::_=>false
 |_::_,[]=>false
end
mutual
def iP:Ty->Ty->Bool
 | .mk k fs,.mk k' fs'=>decide (k=k')&&eO fs fs'
def eO:List (bA×Ty)->List (bA×Ty)->Bool
 |[],[]=>true
 |(s,t)::r,(s',t')::q=>decide (s=s')&&iP t t'&&eO r q
 |[],_::_=>false
 |_::_,[]=>false
end
def mY(a b:Fnc):Bool:=decide (a.name=b.name)&&decide (a.pub=b.pub)&&eO a.params b.params&&iP a.result b.result&&decide (a.effects=b.effects)&&jR a.body b.body
def gY:List Fnc->List Fnc->Bool
 |[],[]=>true
 |x::r,y::q=>mY x y&&gY r q
 |[],_::_=>false
 |_::_,[]=>false
def sameM(a b:Mdl):Bool:=
 gY a.funcs b.funcs&&decide (a.name=b.name)&&decide (a.uses=b.uses)&&eO a.vars b.vars&&eG a.init b.init&&decide (a.moves=b.moves)&&eO a.old b.old&&eG a.forward b.forward&&eG a.back b.back
mutual
theorem oP:∀(a b:Xp),jR a b=true↔a=b
 | .mk o n s m ns as,.mk o' n' s' m' ns' as'=>by
  rw[jR];simp only[Bool.and_eq_true,decide_eq_true_eq,iD as as',Xp.mk.injEq];exact UN
theorem iD:∀(a b:List Xp),eG a b=true↔a=b
 |[],[]=>by simp[eG]
 |x::r,y::q=>by rw[eG,Bool.and_eq_true,oP x y,iD r q,List.cons.injEq]
 |[],_::_=>by simp[eG]
 |_::_,[]=>by simp[eG]
end
mutual
theorem oQ:∀(a b:Ty),iP a b=true↔a=b
 | .mk k fs,.mk k' fs'=>by rw[iP,Bool.and_eq_true,decide_eq_true_eq,kW fs fs',Ty.mk.injEq]
theorem kW:∀(a b:List (bA×Ty)),eO a b=true↔a=b
 |[],[]=>by simp[eO]
 |(s,t)::r,(s',t')::q=>by rw[eO,Bool.and_eq_true,Bool.and_eq_true,decide_eq_true_eq,oQ t t',kW r q,List.cons.injEq,Prod.mk.injEq]
 |[],_::_=>by simp[eO]
 |_::_,[]=>by simp[eO]
end
theorem sameFn_iff(a b:Fnc):mY a b=true↔a=b:=by
 obtain⟨n,p,ps,r,e,x⟩:=a;obtain⟨n',p',ps',r',e',x'⟩:=b;unfold mY;simp only[Bool.and_eq_true,decide_eq_true_eq,kW,oQ,oP,Fnc.mk.injEq];exact UN
theorem iX:∀(a b:List Fnc),gY a b=true↔a=b
 |[],[]=>by simp[gY]
 |x::r,y::q=>by rw[gY,Bool.and_eq_true,sameFn_iff x y,iX r q,List.cons.injEq]
 |[],_::_=>by simp[gY]
 |_::_,[]=>by simp[gY]
theorem sameM_iff(a b:Mdl):sameM a b=true↔a=b:=by
 obtain⟨n,us,vs,is,fs,mv,o,f,k⟩:=a;obtain⟨n',us',vs',is',fs',mv',o',f',k'⟩:=b;unfold sameM;simp only[Bool.and_eq_true,decide_eq_true_eq,iX,kW,iD,Mdl.mk.injEq];constructor
 ·rintro⟨⟨⟨⟨⟨⟨⟨⟨h1,h2⟩,h3⟩,h4⟩,h5⟩,h6⟩,h7⟩,h8⟩,h9⟩;exact⟨h2,h3,h4,h5,h1,h6,h7,h8,h9⟩
 rintro⟨h2,h3,h4,h5,h1,h6,h7,h8,h9⟩;exact⟨⟨⟨⟨⟨⟨⟨⟨h1,h2⟩,h3⟩,h4⟩,h5⟩,h6⟩,h7⟩,h8⟩,h9⟩
def numX(n:Int):bA:=bs (Lib.itoa n)
def dF(op:Int):Nat×bA:=match eP.find? fun o=>decide (o.2.1=op) with
 |some o=>(o.2.2,o.1)
 |none=>(if op=11\/op=12\/op=18 then 0 else if op=10 then 3 else if op=14 then 7 else 8,noB)
def atForm(p:Nat×List bA)(form:Nat):List bA:=if p.1<form then aY::(p.2++[cF]) else p.2
def aR:List (List bA)->List bA
 |[]=>[]
 |[x]=>x
 |x::y::r=>x++bE::aR (y::r)
def nL(as:List (Nat×List bA))(k form:Nat):List bA:=atForm (as.getD k (8,[])) form
def hJ:List bA->List (Nat×List bA)->List (List bA)
 |s::names,a::as=>(s::kEq::a.2)::hJ names as
 |_,_=>[]
def fJ(op n:Int)(s m:bA)(names:List bA)(as:List (Nat×List bA)):List bA:=
 if(dF op).2≠noB then nL as 0 (if(dF op).1=4 then 5 else(dF op).1)++(dF op).2::nL as 1 ((dF op).1+1)
 else if op=0 then[numX n]
 else if op=1 then[if n=1 then cQ else bU]
 else if op=2 then[s]
 else if op=17 then[fY,s]
 else if op=18 then nN::s::nL as 0 0
 else if op=10 then nH::nL as 0 3
 else if op=14 then nL as 0 7++[kG,s]
 else if op=12 then mE::s::kEq::(nL as 0 0++kIn::nL as 1 0)
 else if op=11 then kIf::(nL as 0 0++kN::(nL as 1 0++kO::nL as 2 0))
 else if op=13 then bJ::(aR (hJ names as)++[dO])
 else(if m≠noB then[m,kG] else[])++((if op=16 then(cR.filter fun w=>decide (w.2=n)).map (·.1) else[s])++aY::(aR (as.map (·.2))++[cF]))
def iZ:Xp->Nat
 | .mk op _ _ _ _ _=>(dF op).1
mutual
def aI:Xp->List bA
 | .mk op n s m names args=>fJ op n s m names (bB args)
def bB:List Xp->List (Nat×List bA)
 |[]=>[]
 |x::r=>(iZ x,aI x)::bB r
end
def bK(e:Xp)(form:Nat):List bA:=atForm (iZ e,aI e) form
mutual
def eI:Ty->List bA
 | .mk k fs=>if k=0 then[kIntW] else if k=1 then[kBool] else bJ::(aR (dR fs)++[dO])
def dR:List (bA×Ty)->List (List bA)
 |[]=>[]
 |(s,t)::r=>(s::eI t)::dR r
end
def effT(e:Int):List bA:=(cR.filter fun w=>decide (Go.bits .and .i64 e w.2≠0)).map (·.1)
def fnT(f:Fnc):List bA:=
 (if f.pub then[nG] else[])++(kFn::f.name::aY::(aR (dR f.params)++cF::(eI f.result++((if f.effects≠0 then[jT] else[])++(effT f.effects++kEq::aI f.body)))))
def oC(m:Mdl):List (List bA):=
 [bR,m.name]::(m.uses.map (fun s=>[kUse,s])++(List.zipWith (fun(f:Fld)e=>kVar::f.1::(eI f.2++kEq::aI e)) m.vars m.init++(m.funcs.map fnT++
  (if m.moves then[lT::aY::(aR (dR m.old)++cF::gP::(aR (m.forward.map aI)++nU::aR (m.back.map aI)))] else[]))))
def dJ:List bA->List UInt8
 |[]=>[]
 |[x]=>x.data.toList
 |x::y::r=>x.data.toList++32::dJ (y::r)
def fI(ts:List bA):List UInt8:=dJ (ts++[fD])++[10]
def mG(m:Mdl):bA:=bs ((oC m).flatMap fI)
def kT(s:bA):Except Int bA:=if 8000<s.size then .error 6 else .ok s
def jZ(e:Xp):Except Int bA:=if aJ 12 e then kT (bs (dJ (aI e))) else .error 1
def kZ(m:Mdl):Except Int bA:=if gS m then kT (mG m) else .error 1
def jO(t:bA):Bool:=dL t||(dQ t).isSome||eZ.any fun x=>decide (x=t)
def kindOf(t:bA):Int:=if dL t then 0 else if(dQ t).isSome then 1 else 2
def TokIs(k:Tok)(t:bA):Prop:=k.kind=kindOf t/\k.text=t/\k.n=((dQ t).getD 0:Nat)
inductive gV:List UInt8->List bA->Prop where
 |none (b:List UInt8):(∀c∈b,eU c=true)->gV b []
 |more (b:List UInt8) (t:bA) (r:List UInt8) (ts:List bA):(∀c∈b,eU c=true)->jO t=true->(∀c,r.head? =some c->eU c=true)->gV r ts->gV (b++(t.data.toList++r)) (t::ts)
theorem kE(s:bA):s.size=s.data.toList.length:=by rw[Array.length_toList];rfl
theorem letter_facts{c:UInt8}(h:dV c=true):cE c=false/\eU c=false:=by
 unfold dV at h;simp only[Bool.and_eq_true,decide_eq_true_eq] at h;unfold cE eU;constructor
 ·rw[Bool.and_eq_false_iff];right;rw[decide_eq_false_iff_not];omega
 simp only[Bool.or_eq_false_iff,decide_eq_false_iff_not];omega
theorem digit_facts{c:UInt8}(h:cE c=true):dV c=false/\eU c=false:=by
 unfold cE at h;simp only[Bool.and_eq_true,decide_eq_true_eq] at h;unfold dV eU;constructor
 ·rw[Bool.and_eq_false_iff];left;rw[decide_eq_false_iff_not];omega
 simp only[Bool.or_eq_false_iff,decide_eq_false_iff_not];omega
theorem word_parts{t:bA}(h:dL t=true):∃c r,t.data.toList=c::r/\dV c=true/\(∀x∈t.data.toList,gW x=true):=by
 unfold dL at h;split at h
 ·cases h
 rename_i c r hd;simp only[Bool.and_eq_true] at h;exact⟨c,r,hd,h.1.1,fun x hx=>List.all_eq_true.1 h.2 x hx⟩
theorem number_parts{t:bA}{n:Nat}(h:dQ t=some n):∃c r,t.data.toList=c::r/\cE c=true/\(∀x∈t.data.toList,cE x=true):=by
 unfold dQ at h;split at h
 ·cases h
 rename_i c r hd;split at h
 ·rename_i hc;simp only[Bool.and_eq_true] at hc;have B7:=hc.1.1.1;exact⟨c,r,hd,List.all_eq_true.1 B7 c (by rw[hd];simp),fun x hx=>List.all_eq_true.1 B7 x hx⟩
 cases h
theorem word_number{t:bA}(h:dL t=true):dQ t=none:=by
 obtain⟨c,r,hd,hc,-⟩:=word_parts h
 cases hn:dQ t with
 |none=>rfl
 |some n=>
  obtain⟨c',r',hd',hc',-⟩:=number_parts hn;rw[hd] at hd';cases hd';rw[(letter_facts hc).1] at hc';cases hc'
theorem signs_facts:∀t∈eZ,dL t=false/\dQ t=none/\∃c r,t.data.toList=c::r/\dV c=false/\cE c=false/\eU c=false:=by
 intro t ht;simp only[eZ,List.mem_cons,List.not_mem_nil,or_false] at ht;rcases ht with h|h|h|h|h|h|h|h|h|h|h|h|h|h<;>subst h<;>exact⟨by decide+kernel,by decide+kernel,_,_,rfl,by decide,by decide,by decide⟩
theorem token_cases{t:bA}(h:jO t=true):dL t=true\/(∃n,dQ t=some n)\/t∈eZ:=by
 unfold jO at h;rw[Bool.or_eq_true,Bool.or_eq_true] at h;rcases h with(h|h)|h
 ·exact .inl h
 ·exact .inr (.inl (Option.isSome_iff_exists.1 h))
 obtain⟨x,hx,e⟩:=List.any_eq_true.1 h;rw[decide_eq_true_eq] at e;rw[<-e];exact .inr (.inr hx)
theorem token_head{t:bA}(h:jO t=true):∃c r,t.data.toList=c::r/\eU c=false:=by
 rcases token_cases h with h|⟨n,h⟩|h
 ·obtain⟨c,r,hd,hc,-⟩:=word_parts h;exact⟨c,r,hd,(letter_facts hc).2⟩
 ·obtain⟨c,r,hd,hc,-⟩:=number_parts h;exact⟨c,r,hd,(digit_facts hc).2⟩
 obtain⟨-,-,c,r,hd,-,-,hb⟩:=signs_facts t h;exact⟨c,r,hd,hb⟩
theorem gV.length{b:List UInt8}{ts:List bA}(h:gV b ts):ts.length<=b.length:=by
 induction h with
 |none b hb=>simp
 |more b t r ts hb ht hr BF ih=>
  obtain⟨c,q,htd,-⟩:=token_head ht;rw[htd];simp;omega
theorem gV.blanks{b r:List UInt8}{us:List bA}(hb:∀c∈b,eU c=true)(h:gV r us):gV (b++r) us:=by
 cases h with
 |none r hr=>exact .none _ fun c hc=>(List.mem_append.1 hc).elim (hb c) (hr c)
 |more b2 t r ts pM ht hr BF=>
  rw[<-List.append_assoc];exact .more _ t r ts (fun c hc=>(List.mem_append.1 hc).elim (hb c) (pM c)) ht hr BF
theorem gV.joined:∀{ts:List bA}{r:List UInt8}{us:List bA},(∀t∈ts,jO t=true)->(∀c,r.head? =some c->eU c=true)->gV r us->gV (dJ ts++r) (ts++us)
 |[],r,us,_,_,h=>h
 |[t],r,us,ht,hr,h=>by
  have:=gV.more [] t r us (fun c hc=>by cases hc) (ht t (by simp)) hr h;exact this
 |t::u::ts,r,us,ht,hr,h=>by
  have h1:=gV.joined (ts:=u::ts) (fun x hx=>ht x (by simp[hx])) hr h;have h2:gV ([32]++(dJ (u::ts)++r)) ((u::ts)++us):=gV.blanks (by decide) h1;have:=gV.more [] t ([32]++(dJ (u::ts)++r)) ((u::ts)++us) (fun c hc=>by cases hc) (ht t (by simp)) (fun c hc=>by cases hc;decide) h2;simpa[dJ] using this
theorem gV.line{ts:List bA}{r:List UInt8}{us:List bA}(ht:∀t∈ts,jO t=true)(h:gV r us):gV (fI ts++r) (ts++fD::us):=by
 have h2:=gV.blanks (b:=[10]) (by decide) h
 have:=gV.joined (ts:=ts++[fD]) (r:=[10]++r) (fun t h=>by
  rcases List.mem_append.1 h with h|h
  ·exact ht t h
  rw[List.mem_singleton.1 h];decide+kernel) (fun c hc=>by cases hc;decide) h2
 unfold fI;simpa using this
theorem X0{p:Prop}(h:p:=by simp):p:=h
theorem YP{p:Prop}(h:p:=by omega):p:=h
theorem bnd_ok{α β:Type}(a:α)(j:Nat)(k:α->Nat->PR β):PR.bnd (.ok (a,j)) k=k a j:=rfl
structure iT (l:List Tok) (i:Nat) (ts:List bA):Prop where
 room:i+ts.length<l.length
 at_:∀(k:Nat)t,ts[k]? =some t->TokIs (aM l (i+k)) t
section
variable {l:List Tok} {i:Nat} {t:bA} {ts us:List bA}
theorem iT.head(h:iT l i (t::ts)):TokIs (aM l i) t:=h.at_ 0 t rfl
theorem iT.tail(h:iT l i (t::ts)):iT l (i+1) ts:=⟨by have:=h.room;rw[List.length_cons] at this;omega,fun k u hk=>by have:=h.at_ (k+1) u hk;rwa [show i+(k+1)=i+1+k by omega] at this⟩
theorem iT.left(h:iT l i (ts++us)):iT l i ts:=⟨by have:=h.room;rw[List.length_append] at this;omega,fun k u hk=>h.at_ k u (by rw[List.getElem?_append_left (List.getElem?_eq_some_iff.1 hk).1];exact hk)⟩
theorem iT.right(h:iT l i (ts++us)):iT l (i+ts.length) us:=⟨by have:=h.room;rw[List.length_append] at this;omega,fun k u hk=>by
 have:=h.at_ (ts.length+k) u (by rw[List.getElem?_append_right YP,Nat.add_sub_cancel_left];exact hk)
 rwa [<-Nat.add_assoc] at this⟩
theorem kindOf_ne(t:bA):kindOf t≠3:=by unfold kindOf;split;decide;split<;>decide
theorem TokIs.says(h:TokIs (aM l i) t)(s:bA):isP l i s=decide (t=s):=by
 obtain⟨h1,h2,-⟩:=h;unfold isP;rw[h1,h2,decide_eq_true (kindOf_ne t),Bool.true_and]
theorem iT.says(h:iT l i (t::ts))(s:bA):isP l i s=decide (t=s):=h.head.says s
theorem name_word(h:aP t=true):dL t=true:=by
 unfold aP at h;rw[Bool.and_eq_true] at h;exact h.1
theorem iT.kind(h:iT l i (t::ts)):(aM l i).kind=kindOf t:=h.head.1
theorem iT.text(h:iT l i (t::ts)):(aM l i).text=t:=h.head.2.1
theorem kind_word(h:dL t=true):kindOf t=0:=by unfold kindOf;rw[h];rfl
theorem iT.isName(h:iT l i (t::ts))(hn:aP t=true):dC l i=true:=by
 unfold dC;rw[h.kind,h.text,hn,kind_word (name_word hn)];rfl
theorem iT.name(h:iT l i (t::ts))(hn:aP t=true):fR l i=.ok (t,i+1):=by
 unfold fR;rw[h.isName hn,h.text];rfl
theorem name_ne{k:bA}(h:aP t=true)(hk:aP k=false):t≠k:=fun e=>by rw[e,hk] at h;cases h
theorem iT.oper(h:iT l i (t::ts)):lA l i=eP.find? fun o=>decide (t=o.1):=by
 unfold lA;congr 1;exact funext fun o=>h.says o.1
end
structure Stops (l:List Tok) (j:Nat):Prop where
 dot:isP l j kG=false
 opn:isP l j aY=false
 oper:lA l j=none
inductive nX (d:Nat):Xp->Prop where
 |int (n:Int):0<=n->n<=1099511627776->nX d (.mk 0 n noB noB [] [])
 |bool (n:Int):n=0\/n=1->nX d (.mk 1 n noB noB [] [])
 |var (s:bA):aP s=true->nX d (.mk 2 0 s noB [] [])
 |get (s:bA):aP s=true->nX d (.mk 17 0 s noB [] [])
 |bin (t:bA) (op:Int) (fm:Nat) (a b:Xp):(t,op,fm)∈eP->aJ d a=true->aJ d b=true->nX d (.mk op 0 noB noB [] [a,b])
 |not (a:Xp):aJ d a=true->nX d (.mk 10 0 noB noB [] [a])
 |iff (a b c:Xp):aJ d a=true->aJ d b=true->aJ d c=true->nX d (.mk 11 0 noB noB [] [a,b,c])
 |lets (s:bA) (a b:Xp):aP s=true->aJ d a=true->aJ d b=true->nX d (.mk 12 0 s noB [] [a,b])
 |set (s:bA) (a:Xp):aP s=true->aJ d a=true->nX d (.mk 18 0 s noB [] [a])
 |field (s:bA) (a:Xp):aP s=true->aJ d a=true->nX d (.mk 14 0 s noB [] [a])
 |recd (names:List bA) (args:List Xp):cO none names=true->names.length<=8->names.length=args.length->(∀x∈args,aJ d x=true)->nX d (.mk 13 0 noB noB names args)
 |call (s m:bA) (args:List Xp):aP s=true->m=noB\/aP m=true->args.length<=6->(∀x∈args,aJ d x=true)->nX d (.mk 15 0 s m [] args)
 |act (n:Int) (a:Xp):n=1\/n=2\/n=4\/n=8->aJ d a=true->nX d (.mk 16 n noB noB [] [a])
theorem len1{α:Type}{l:List α}(h:(1:Int)=l.length):∃a,l=[a]:=List.length_eq_one_iff.1 YP
theorem len2{α:Type}{l:List α}(h:(2:Int)=l.length):∃a b,l=[a,b]:=by
 match l,h with
 |[a,b],_=>exact⟨a,b,rfl⟩
 |[],h=>simp at h
 |[_],h=>simp at h
 |_::_::_::_,h=>simp at h;omega
theorem len3{α:Type}{l:List α}(h:(3:Int)=l.length):∃a b c,l=[a,b,c]:=by
 match l,h with
 |[a,b,c],_=>exact⟨a,b,c,rfl⟩
 |[],h=>simp at h
 |[_],h=>simp at h
 |[_,_],h=>simp at h
 |_::_::_::_::_,h=>simp at h;omega
theorem shape_of{d:Nat}:∀{e:Xp},aJ (d+1) e=true->nX d e
 | .mk op n s m names args,h=>by
  rw[aJ] at h;simp only[Bool.and_eq_true,Bool.or_eq_true,decide_eq_true_eq,List.all_eq_true] at h;obtain⟨⟨⟨⟨⟨⟨⟨⟨h0,h1⟩,hn⟩,e1⟩,e2⟩,e3⟩,e4⟩,hl⟩,ha⟩:=h;have vT:op=0\/op=1\/op=2\/op=3\/op=4\/op=5\/op=6\/op=7\/op=8\/op=9\/op=10\/op=11\/op=12\/op=13\/op=14\/op=15\/op=16\/op=17\/op=18:=YP;rcases vT with h|h|h|h|h|h|h|h|h|h|h|h|h|h|h|h|h|h|h<;>subst h<;>simp[fN] at hn e1 e2 e3 e4<;>simp[gE] at hl
  ·have n0:names=[]:=List.length_eq_zero_iff.1 e4.symm;have a0:args=[]:=List.length_eq_zero_iff.1 YP;subst n0 a0 e2 e3;exact .int n hl.1 hl.2
  ·have n0:names=[]:=List.length_eq_zero_iff.1 e4.symm;have a0:args=[]:=List.length_eq_zero_iff.1 YP;subst n0 a0 e2 e3;exact .bool n hl
  ·have n0:names=[]:=List.length_eq_zero_iff.1 e4.symm;have a0:args=[]:=List.length_eq_zero_iff.1 YP;subst n0 a0 e1 e3;exact .var s hl
  ·have n0:names=[]:=List.length_eq_zero_iff.1 e4.symm;obtain⟨a,b,rfl⟩:=len2 hn;subst n0 e1 e2 e3;exact .bin kPlus 3 5 a b (by simp[eP]) (ha a X0) (ha b X0)
  ·have n0:names=[]:=List.length_eq_zero_iff.1 e4.symm;obtain⟨a,b,rfl⟩:=len2 hn;subst n0 e1 e2 e3;exact .bin kMinus 4 5 a b (by simp[eP]) (ha a X0) (ha b X0)
  ·have n0:names=[]:=List.length_eq_zero_iff.1 e4.symm;obtain⟨a,b,rfl⟩:=len2 hn;subst n0 e1 e2 e3;exact .bin kStar 5 6 a b (by simp[eP]) (ha a X0) (ha b X0)
  ·have n0:names=[]:=List.length_eq_zero_iff.1 e4.symm;obtain⟨a,b,rfl⟩:=len2 hn;subst n0 e1 e2 e3;exact .bin kLess 6 4 a b (by simp[eP]) (ha a X0) (ha b X0)
  ·have n0:names=[]:=List.length_eq_zero_iff.1 e4.symm;obtain⟨a,b,rfl⟩:=len2 hn;subst n0 e1 e2 e3;exact .bin kEqEq 7 4 a b (by simp[eP]) (ha a X0) (ha b X0)
  ·have n0:names=[]:=List.length_eq_zero_iff.1 e4.symm;obtain⟨a,b,rfl⟩:=len2 hn;subst n0 e1 e2 e3;exact .bin kAnd 8 2 a b (by simp[eP]) (ha a X0) (ha b X0)
  ·have n0:names=[]:=List.length_eq_zero_iff.1 e4.symm;obtain⟨a,b,rfl⟩:=len2 hn;subst n0 e1 e2 e3;exact .bin kOr 9 1 a b (by simp[eP]) (ha a X0) (ha b X0)
  ·have n0:names=[]:=List.length_eq_zero_iff.1 e4.symm;obtain⟨a,rfl⟩:=len1 hn;subst n0 e1 e2 e3;exact .not a (ha a X0)
  ·have n0:names=[]:=List.length_eq_zero_iff.1 e4.symm;obtain⟨a,b,c,rfl⟩:=len3 hn;subst n0 e1 e2 e3;exact .iff a b c (ha a X0) (ha b X0) (ha c X0)
  ·have n0:names=[]:=List.length_eq_zero_iff.1 e4.symm;obtain⟨a,b,rfl⟩:=len2 hn;subst n0 e1 e3;exact .lets s a b hl (ha a X0) (ha b X0)
  ·subst e1 e2 e3;exact .recd names args hl.1 hl.2 YP ha
  ·have n0:names=[]:=List.length_eq_zero_iff.1 e4.symm;obtain⟨a,rfl⟩:=len1 hn;subst n0 e1 e3;exact .field s a hl (ha a X0)
  ·have n0:names=[]:=List.length_eq_zero_iff.1 e4.symm;subst n0 e1;exact .call s m args hl.1.1 hl.1.2 hl.2 ha
  ·have n0:names=[]:=List.length_eq_zero_iff.1 e4.symm;obtain⟨a,rfl⟩:=len1 hn;subst n0 e2 e3;exact .act n a YP (ha a X0)
  ·have n0:names=[]:=List.length_eq_zero_iff.1 e4.symm;have a0:args=[]:=List.length_eq_zero_iff.1 YP;subst n0 a0 e1 e3;exact .get s hl
  have n0:names=[]:=List.length_eq_zero_iff.1 e4.symm;obtain⟨a,rfl⟩:=len1 hn;subst n0 e1 e3;exact .set s a hl (ha a X0)
section
variable {l:List Tok} {i j:Nat} {t s:bA} {ts:List bA}
theorem iT.no(h:iT l i (t::ts))(pP:t≠s):¬isP l i s=true:=by rw[h.says,decide_eq_true_eq];exact pP
end
def ownAt(e:Xp)(lf:Nat):Nat:=if iZ e<lf\/7<=iZ e then 8 else iZ e
theorem lQ(e:Xp):bK e 0=aI e:=by unfold bK atForm;rw[if_neg (Nat.not_lt_zero _)]
theorem toks_paren{e:Xp}{lf:Nat}(h:iZ e<lf):bK e lf=aY::(aI e++[cF]):=by unfold bK atForm;rw[if_pos h]
theorem toks_plain{e:Xp}{lf:Nat}(h:¬iZ e<lf):bK e lf=aI e:=by unfold bK atForm;rw[if_neg h]
structure Behind (l:List Tok) (j own:Nat):Prop where
 dot:isP l j kG=false
 opn:isP l j aY=false
 oper:∀o,lA l j=some o->o.2.2<=own
structure Ends (l:List Tok) (j form:Nat):Prop where
 dot:isP l j kG=false
 opn:isP l j aY=false
 oper:∀o,lA l j=some o->o.2.2<form
theorem Stops.ends{l:List Tok}{j:Nat}(h:Stops l j)(form:Nat):Ends l j form:=⟨h.dot,h.opn,fun o ho=>by rw[h.oper] at ho;cases ho⟩
def DAt(e:Xp)(lf:Nat):Prop:=∀(form:Nat)(l:List Tok)(i F:Nat),iT l i (bK e lf)->l.length<F+1+i->isP l (i+(bK e lf).length) aY=false->fF l (i+(bK e lf).length)=false->
 ∃n,l.length<n+(i+(bK e lf).length)/\bS l (F+1) form i=(lX l n e (i+(bK e lf).length)).bnd fun e k=>nM l (bS l F) form (l.length+1) 8 e k
def AAt(e:Xp)(lf:Nat):Prop:=∀(form:Nat)(l:List Tok)(i F:Nat),form<=ownAt e lf->iT l i (bK e lf)->l.length<F+1+i->Behind l (i+(bK e lf).length) (ownAt e lf)->
 ∃n,l.length<n+(i+(bK e lf).length)/\bS l (F+1) form i=nM l (bS l F) form n (ownAt e lf) e (i+(bK e lf).length)
def BAt(e:Xp)(form:Nat):Prop:=∀(l:List Tok)(i F:Nat),iT l i (bK e form)->l.length<F+i->Ends l (i+(bK e form).length) form->bS l F form i=.ok (e,i+(bK e form).length)
theorem AAt.b{e:Xp}{form:Nat}(h:AAt e form)(hf:form<=7):BAt e form:=by
 intro l i F hL hF hE;have hr:=hL.room;obtain⟨F,rfl⟩:∃g,F=g+1:=⟨F-1,YP⟩;have PP:form<=ownAt e form:=by unfold ownAt;split<;>omega
 obtain⟨n,hn,he⟩:=h form l i F PP hL hF ⟨hE.dot,hE.opn,fun o ho=>Nat.le_trans (Nat.le_of_lt (hE.oper o ho)) PP⟩;rw[he];obtain⟨n,rfl⟩:∃k,n=k+1:=⟨n-1,YP⟩;rw[nM]
 cases ho:lA l (i+(bK e form).length) with
 |none=>rfl
 |some o=>
  obtain⟨t,op,fm⟩:=o;simp only;rw[if_pos (.inl (hE.oper _ ho))]
theorem DAt.a{e:Xp}{lf:Nat}(h:DAt e lf)(ho:ownAt e lf=8):AAt e lf:=by
 intro form l i F hf hL hF hB;have hr:=hL.room;obtain⟨n,hn,he⟩:=h form l i F hL hF hB.opn (by unfold fF;rw[hB.dot];rfl);obtain⟨n,rfl⟩:∃k,n=k+1:=⟨n-1,YP⟩;refine⟨l.length+1,YP,?_⟩;rw[he,lX,if_neg (by rw[hB.dot];decide),bnd_ok,ho]
structure Plain1 (l:List Tok) (i:Nat):Prop where
 a:¬isP l i kIf=true
 b:¬isP l i mE=true
 c:¬isP l i nN=true
 d:¬isP l i nH=true
theorem pre_prim{l:List Tok}{i:Nat}(h:Plain1 l i)(rec:RecP)(form:Nat):cK l rec form i=(aX l rec i).bnd fun e j=>.ok ((e,8),j):=by
 unfold cK;rw[if_neg (fun x=>h.a x.2),if_neg (fun x=>h.b x.2),if_neg (fun x=>h.c x.2),if_neg (fun x=>h.d x.2)]
theorem iT.plain{l:List Tok}{i:Nat}{t:bA}{ts:List bA}(h:iT l i (t::ts))(h1:t≠kIf)(h2:t≠mE)(h3:t≠nN)(h4:t≠nH):Plain1 l i:=⟨h.no h1,h.no h2,h.no h3,h.no h4⟩
def PAt(e:Xp):Prop:=∀(l:List Tok)(i F:Nat),iT l i (aI e)->l.length<F+1+i->isP l (i+(aI e).length) aY=false->fF l (i+(aI e).length)=false->Plain1 l i/\aX l (bS l F) i=.ok (e,i+(aI e).length)
theorem rd_d{e:Xp}{form F i j:Nat}{l:List Tok}(h1:Plain1 l i)(h2:aX l (bS l F) i=.ok (e,j)):bS l (F+1) form i=(lX l (l.length+1) e j).bnd fun e k=>nM l (bS l F) form (l.length+1) 8 e k:=by
 rw[bS,pre_prim h1,h2,bnd_ok,bnd_ok,if_pos (Nat.le_succ 7)]
theorem PAt.d{e:Xp}(h:PAt e)(lf:Nat)(ho:¬iZ e<lf):DAt e lf:=by
 intro form l i F hL hF h1 h2;rw[toks_plain ho] at hL h1 h2 ⊢;obtain⟨h3,h4⟩:=h l i F hL hF h1 h2;exact⟨l.length+1,YP,rd_d h3 h4⟩
theorem gt_ne{a b:bA}(h:gtB a b=true):a≠b:=fun e=>by
 subst e;unfold gtB at h;simp at h
end Go.Proofs.YtiionicikdnnpaaGreatDoor
namespace Go.Proofs.YtiionicikdnnpaaGreatDoor
theorem WD{p:Prop}(h:p:=by decide):p:=h
theorem WE{p:Prop}(h:p:=by decide+kernel):p:=h
theorem nd_le:∀(k u:Nat),u<10 ^ (k+1)->Lib.nDigits u<=k+1
 |0,u,h=>by rw[Lib.nDigits_small (by simpa using h)];omega
 |k+1,u,h=>by
  by_cases hu:u<10
  ·rw[Lib.nDigits_small hu];omega
  rw[Lib.nDigits_big hu];have:=nd_le k (u / 10) (by rw[Nat.pow_succ] at h;omega);omega
theorem dec_byte{x:Nat}(h:x<10):cE (UInt8.ofNat (48+x))=true/\(UInt8.ofNat (48+x)).toNat=48+x:=by
 have e:(UInt8.ofNat (48+x)).toNat=48+x:=by rw[UInt8.toNat_ofNat'];omega
 refine⟨?_,e⟩;unfold cE;rw[e,decide_eq_true (by omega),decide_eq_true (by omega)];rfl
theorem dec_all(u:Nat):(∀c∈Lib.decDigits u,cE c=true)/\iB (Lib.decDigits u)=u/\(∃c r,Lib.decDigits u=c::r/\(c.toNat=48->u=0)):=by
 induction u using Nat.strongRecOn with
 |_ u ih=>
  by_cases h:u<10
  ·rw[Lib.decDigits_one h];obtain⟨h1,h2⟩:=dec_byte h;refine⟨fun c hc=>by rw[List.mem_singleton.1 hc];exact h1,?_,_,_,rfl,fun e=>by rw[h2] at e;omega⟩;unfold iB;simp only[List.foldl_cons,List.foldl_nil];rw[h2];omega
  obtain⟨i1,i2,c,r,i3,i4⟩:=ih (u / 10) (by omega);obtain⟨h1,h2⟩:=dec_byte (show u % 10<10 by omega);rw[Lib.decDigits,dif_neg h];refine⟨fun c hc=>(List.mem_append.1 hc).elim (i1 c) fun hc=>by rw[List.mem_singleton.1 hc];exact h1,?_,c,r++[UInt8.ofNat (48+u % 10)],by rw[i3];rfl,fun e=>by have:=i4 e;omega⟩;unfold iB at i2 ⊢;rw[List.foldl_append,i2];simp only[List.foldl_cons,List.foldl_nil];rw[h2];omega
theorem number_itoa{n:Int}(h0:0<=n)(h1:n<=1099511627776):dQ (numX n)=some n.toNat:=by
 have e:(numX n).data.toList=Lib.decDigits n.toNat:=by
  show(Lib.itoa n)=_;unfold Lib.itoa;rw[if_neg (by omega)]
 obtain⟨d1,d2,c,r,d3,d4⟩:=dec_all n.toNat;have tT:(numX n).size=Lib.nDigits n.toNat:=by rw[kE,e,Lib.decDigits_length]
 have AO:Lib.nDigits n.toNat<=13:=nd_le 12 _ (by omega);unfold dQ;rw[tT,e,d3];simp only;rw[<-d3,d2,List.all_eq_true.2 d1,decide_eq_true AO,decide_eq_true (by omega:n.toNat<=1099511627776)]
 have h48:(!(decide (c.toNat=48)&&decide (Lib.nDigits n.toNat≠1)))=true:=by
  by_cases h:c.toNat=48
  ·rw[d4 h];rw[Lib.nDigits_small WD];simp
  simp[h]
 rw[h48];rfl
theorem kind_itoa{n:Int}(h0:0<=n)(h1:n<=1099511627776):kindOf (numX n)=1:=by
 have h:=number_itoa h0 h1
 have hw:dL (numX n)=false:=by
  cases hw:dL (numX n) with
  |false=>rfl
  |true=>rw[word_number hw] at h;cases h
 unfold kindOf;rw[hw,h];rfl
theorem wd_int(n:Int):aI (.mk 0 n noB noB [] [])=[numX n]:=by rw[aI,fJ,if_neg WE,if_pos rfl]
theorem wd_bool(n:Int):aI (.mk 1 n noB noB [] [])=[if n=1 then cQ else bU]:=by rw[aI,fJ,if_neg WE,if_neg WD,if_pos rfl]
theorem wd_var(s:bA):aI (.mk 2 0 s noB [] [])=[s]:=by rw[aI,fJ,if_neg WE,if_neg WD,if_neg WD,if_pos rfl]
theorem wd_get(s:bA):aI (.mk 17 0 s noB [] [])=[fY,s]:=by rw[aI,fJ,if_neg WE,if_neg WD,if_neg WD,if_neg WD,if_pos rfl]
theorem wd_set(s:bA)(a:Xp):aI (.mk 18 0 s noB [] [a])=nN::s::bK a 0:=by
 rw[aI,fJ,if_neg WE,if_neg WD,if_neg WD,if_neg WD,if_neg WD,if_pos rfl];rfl
theorem wd_not(a:Xp):aI (.mk 10 0 noB noB [] [a])=nH::bK a 3:=by
 rw[aI,fJ,if_neg WE,if_neg WD,if_neg WD,if_neg WD,if_neg WD,if_neg WD,if_pos rfl];rfl
theorem wd_field(s:bA)(a:Xp):aI (.mk 14 0 s noB [] [a])=bK a 7++[kG,s]:=by
 rw[aI,fJ,if_neg WE,if_neg WD,if_neg WD,if_neg WD,if_neg WD,if_neg WD,if_neg WD,if_pos rfl];rfl
theorem wd_let(s:bA)(a b:Xp):aI (.mk 12 0 s noB [] [a,b])=mE::s::kEq::(bK a 0++kIn::bK b 0):=by
 rw[aI,fJ,if_neg WE,if_neg WD,if_neg WD,if_neg WD,if_neg WD,if_neg WD,if_neg WD,if_neg WD,if_pos rfl];rfl
theorem wd_if(a b c:Xp):aI (.mk 11 0 noB noB [] [a,b,c])=kIf::(bK a 0++kN::(bK b 0++kO::bK c 0)):=by
 rw[aI,fJ,if_neg WE,if_neg WD,if_neg WD,if_neg WD,if_neg WD,if_neg WD,if_neg WD,if_neg WD,if_neg WD,if_pos rfl];rfl
theorem wd_rec(names:List bA)(args:List Xp):aI (.mk 13 0 noB noB names args)=bJ::(aR (hJ names (bB args))++[dO]):=by
 rw[aI,fJ,if_neg WE,if_neg WD,if_neg WD,if_neg WD,if_neg WD,if_neg WD,if_neg WD,if_neg WD,if_neg WD,if_neg WD,if_pos rfl]
theorem wordsXs_snd:∀args:List Xp,(bB args).map (·.2)=args.map aI
 |[]=>rfl
 |x::r=>by rw[bB,List.map_cons,List.map_cons,wordsXs_snd r]
theorem wd_call(s m:bA)(args:List Xp):aI (.mk 15 0 s m [] args)=(if m≠noB then[m,kG] else[])++([s]++aY::(aR (args.map aI)++[cF])):=by
 rw[aI,fJ,if_neg WE,if_neg WD,if_neg WD,if_neg WD,if_neg WD,if_neg WD,if_neg WD,if_neg WD,if_neg WD,if_neg WD,if_neg WD,if_neg (by decide:¬(15:Int)=16),wordsXs_snd]
theorem wd_act(n:Int)(a:Xp){w:bA}(h:(cR.filter fun w=>decide (w.2=n)).map (·.1)=[w]):aI (.mk 16 n noB noB [] [a])=w::aY::(aI a++[cF]):=by
 rw[aI,fJ,if_neg WE,if_neg WD,if_neg WD,if_neg WD,if_neg WD,if_neg WD,if_neg WD,if_neg WD,if_neg WD,if_neg WD,if_neg WD,if_pos rfl,h,if_neg WE];rfl
theorem nD{t:bA}{op:Int}{fm:Nat}(h:(t,op,fm)∈eP):(t=kOr/\op=9/\fm=1)\/(t=kAnd/\op=8/\fm=2)\/(t=kEqEq/\op=7/\fm=4)\/(t=kLess/\op=6/\fm=4)\/(t=kPlus/\op=3/\fm=5)\/(t=kMinus/\op=4/\fm=5)\/(t=kStar/\op=5/\fm=6):=by
 simpa[eP] using h
theorem oper_form{t:bA}{op:Int}{fm:Nat}(h:(t,op,fm)∈eP):dF op=(fm,t)/\1<=fm/\fm<=6/\fm≠3:=by
 rcases nD h with h|h|h|h|h|h|h<;>obtain⟨rfl,rfl,rfl⟩:=h<;>decide+kernel
theorem wd_bin{t:bA}{op:Int}{fm:Nat}(h:(t,op,fm)∈eP)(a b:Xp):aI (.mk op 0 noB noB [] [a,b])=bK a (if fm=4 then 5 else fm)++t::bK b (fm+1):=by
 have hf:=(oper_form h).1;rw[aI,fJ,hf,if_pos (by rcases nD h with h|h|h|h|h|h|h<;>obtain⟨rfl,rfl,rfl⟩:=h<;>decide+kernel)];rfl
theorem BAt.zero{e:Xp}{l:List Tok}{k F:Nat}(h:BAt e 0)(hL:iT l k (aI e))(hF:l.length<F+k)(hs:Stops l (k+(aI e).length)):bS l F 0 k=.ok (e,k+(aI e).length):=by
 have:=h l k F (by rw[lQ];exact hL) hF (by rw[lQ];exact hs.ends 0)
 rwa [lQ] at this
theorem wd_head:∀(d:Nat)(e:Xp),aJ d e=true->∃t r,aI e=t::r/\t≠cF:=by
 intro d
 induction d with
 |zero=>intro e h;obtain⟨op,n,s,m,names,args⟩:=e;simp[aJ] at h
 |succ d ih=>
  intro e h
  have at_:∀{a lf},aJ d a=true->∃t r,bK a lf=t::r/\t≠cF:=fun{a lf}ha=>by
   obtain⟨t,r,h1,h2⟩:=ih a ha;by_cases ho:iZ a<lf
   ·rw[toks_paren ho];exact⟨_,_,rfl,WE⟩
   rw[toks_plain ho];exact⟨t,r,h1,h2⟩
  cases shape_of h with
  |int n h0 h1=>
   rw[wd_int];exact⟨_,_,rfl,fun e=>absurd (e▸kind_itoa h0 h1) WE⟩
  |bool n hn=>rw[wd_bool];exact⟨_,_,rfl,by rcases hn with rfl|rfl<;>decide+kernel⟩
  |var s hs=>rw[wd_var];exact⟨_,_,rfl,name_ne hs WE⟩
  |get s hs=>rw[wd_get];exact⟨_,_,rfl,WE⟩
  |bin t op fm a b ht ha hb=>
   rw[wd_bin ht];obtain⟨t,r,h1,h2⟩:=at_ (lf:=if fm=4 then 5 else fm) ha;rw[h1];exact⟨_,_,rfl,h2⟩
  |not a ha=>rw[wd_not];exact⟨_,_,rfl,WE⟩
  |iff a b c ha hb hc=>rw[wd_if];exact⟨_,_,rfl,WE⟩
  |lets s a b hs ha hb=>rw[wd_let];exact⟨_,_,rfl,WE⟩
  |set s a hs ha=>rw[wd_set];exact⟨_,_,rfl,WE⟩
  |field s a hs ha=>
   rw[wd_field];obtain⟨t,r,h1,h2⟩:=at_ (lf:=7) ha;rw[h1];exact⟨_,_,rfl,h2⟩
  |recd names args hn h8 rD ha=>rw[wd_rec];exact⟨_,_,rfl,WE⟩
  |call s m args hs hm h6 ha=>
   rw[wd_call];by_cases zZ:m=noB
   ·rw[if_neg (by simpa using zZ)];exact⟨_,_,rfl,name_ne hs WE⟩
   rw[if_pos zZ];exact⟨_,_,rfl,name_ne (hm.resolve_left zZ) WE⟩
  |act n a hn ha=>
   rcases hn with rfl|rfl|rfl|rfl
   ·rw[wd_act (w:=nI) _ _ WE];exact⟨_,_,rfl,WE⟩
   ·rw[wd_act (w:=kNet) _ _ WE];exact⟨_,_,rfl,WE⟩
   ·rw[wd_act (w:=nJ) _ _ WE];exact⟨_,_,rfl,WE⟩
   rw[wd_act (w:=jD) _ _ WE];exact⟨_,_,rfl,WE⟩
theorem YA{p:Prop}(h:p:=by decide+kernel):p:=h
theorem T3{p:Prop}(h:p:=by
 rcases hn with rfl|rfl|rfl|rfl
 ·exact key nI YA YA
 ·exact key kNet YA YA
 ·exact key nJ YA YA
 exact key jD YA YA):p:=h
theorem mem_comma{t:bA}:∀{L:List (List bA)},t∈aR L->t=bE\/∃x∈L,t∈x
 |[],h=>by simp[aR] at h
 |[x],h=>.inr ⟨x,by simp,by simpa[aR] using h⟩
 |x::y::r,h=>by
  rw[aR,List.mem_append,List.mem_cons] at h;rcases h with h|h|h
  ·exact .inr ⟨x,by simp,h⟩
  ·exact .inl h
  rcases mem_comma h with h|⟨z,h1,h2⟩
  ·exact .inl h
  exact .inr ⟨z,by simp at h1 ⊢;exact .inr h1,h2⟩
theorem jB{s:bA}(h:aP s=true):jO s=true:=by unfold jO;rw[name_word h];rfl
theorem rec_valid:∀{names:List bA}{before:Option bA}{args:List Xp},cO before names=true->(∀x∈args,∀t∈aI x,jO t=true)->∀p∈hJ names (bB args),∀t∈p,jO t=true
 |[],_,_,_,_,p,hp=>by simp[hJ] at hp
 |_::_,_,[],_,_,p,hp=>by simp[hJ,bB] at hp
 |n::ns,_,x::xs,hn,h,p,hp=>by
  simp only[cO,Bool.and_eq_true] at hn;rw[bB,hJ,List.mem_cons] at hp;rcases hp with rfl|hp
  ·intro t ht;simp only[List.mem_cons] at ht;rcases ht with rfl|rfl|ht
   ·exact jB hn.1.1
   ·decide+kernel
   exact h x (by simp) t ht
  exact rec_valid hn.2 (fun y hy=>h y (by simp[hy])) p hp
theorem exp_valid:∀(d:Nat)(e:Xp),aJ d e=true->∀t∈aI e,jO t=true:=by
 intro d
 induction d with
 |zero=>intro e h;obtain⟨op,n,s,m,names,args⟩:=e;simp[aJ] at h
 |succ d ih=>
  intro e h
  have at_:∀{a lf},aJ d a=true->∀t∈bK a lf,jO t=true:=fun{a lf}ha t ht=>by
   by_cases ho:iZ a<lf
   ·rw[toks_paren ho] at ht;simp only[List.mem_cons,List.mem_append,List.not_mem_nil,or_false] at ht;rcases ht with rfl|ht|rfl
    ·decide+kernel
    ·exact ih a ha t ht
    decide+kernel
   rw[toks_plain ho] at ht;exact ih a ha t ht
  intro t ht
  cases shape_of h with
  |int n h0 h1=>
   rw[wd_int,List.mem_singleton] at ht;subst ht;unfold jO;rw[number_itoa h0 h1];simp
  |bool n hn=>rw[wd_bool,List.mem_singleton] at ht;subst ht;rcases hn with rfl|rfl<;>decide+kernel
  |var s hs=>rw[wd_var,List.mem_singleton] at ht;subst ht;exact jB hs
  |get s hs=>
   rw[wd_get] at ht;simp only[List.mem_cons,List.not_mem_nil,or_false] at ht;rcases ht with rfl|rfl
   ·decide+kernel
   exact jB hs
  |bin t' op fm a b vT ha hb=>
   rw[wd_bin vT] at ht;simp only[List.mem_append,List.mem_cons] at ht;rcases ht with ht|rfl|ht
   ·exact at_ ha t ht
   ·rcases nD vT with h|h|h|h|h|h|h<;>obtain⟨rfl,rfl,rfl⟩:=h<;>decide+kernel
   exact at_ hb t ht
  |not a ha=>
   rw[wd_not,List.mem_cons] at ht;rcases ht with rfl|ht
   ·decide+kernel
   exact at_ ha t ht
  |iff a b c ha hb hc=>
   rw[wd_if] at ht;simp only[List.mem_append,List.mem_cons] at ht;rcases ht with rfl|ht|rfl|ht|rfl|ht
   ·decide+kernel
   ·exact at_ ha t ht
   ·decide+kernel
   ·exact at_ hb t ht
   ·decide+kernel
   exact at_ hc t ht
  |lets s a b hs ha hb=>
   rw[wd_let] at ht;simp only[List.mem_append,List.mem_cons] at ht;rcases ht with rfl|rfl|rfl|ht|rfl|ht
   ·decide+kernel
   ·exact jB hs
   ·decide+kernel
   ·exact at_ ha t ht
   ·decide+kernel
   exact at_ hb t ht
  |set s a hs ha=>
   rw[wd_set] at ht;simp only[List.mem_cons] at ht;rcases ht with rfl|rfl|ht
   ·decide+kernel
   ·exact jB hs
   exact at_ ha t ht
  |field s a hs ha=>
   rw[wd_field] at ht;simp only[List.mem_append,List.mem_cons,List.not_mem_nil,or_false] at ht;rcases ht with ht|rfl|rfl
   ·exact at_ ha t ht
   ·decide+kernel
   exact jB hs
  |recd names args hn h8 rD ha=>
   rw[wd_rec] at ht;simp only[List.mem_append,List.mem_cons,List.not_mem_nil,or_false] at ht;rcases ht with rfl|ht|rfl
   ·decide+kernel
   ·rcases mem_comma ht with rfl|⟨p,hp,ht⟩
    ·decide+kernel
    exact rec_valid hn (fun x hx=>ih x (ha x hx)) p hp t ht
   decide+kernel
  |call s m args hs hm h6 ha=>
   rw[wd_call] at ht;simp only[List.mem_append,List.mem_cons,List.not_mem_nil,or_false] at ht;rcases ht with ht|rfl|rfl|ht|rfl
   ·split at ht
    ·rename_i zZ;simp only[List.mem_cons,List.not_mem_nil,or_false] at ht;rcases ht with rfl|rfl
     ·exact jB (hm.resolve_left zZ)
     decide+kernel
    cases ht
   ·exact jB hs
   ·decide+kernel
   ·rcases mem_comma ht with rfl|⟨p,hp,ht⟩
    ·decide+kernel
    obtain⟨x,hx,rfl⟩:=List.mem_map.1 hp;exact ih x (ha x hx) t ht
   decide+kernel
  |act n a hn ha=>
   have key:∀w,jO w=true->(cR.filter fun w=>decide (w.2=n)).map (·.1)=[w]->jO t=true:=fun w hw he=>by
    rw[wd_act n a he] at ht;simp only[List.mem_append,List.mem_cons,List.not_mem_nil,or_false] at ht;rcases ht with rfl|rfl|ht|rfl
    ·exact hw
    ·decide+kernel
    ·exact ih a ha t ht
    decide+kernel
   exact T3
section
variable {l:List Tok} {i:Nat} {s t:bA} {ts:List bA}
theorem iT.later(h:iT l i (t::ts))(hn:aP t=true){last:bA}{any:Bool}(BW:any=true->gtB t last=true):fM l i last any=.ok (t,i+1):=by
 unfold fM;rw[if_pos (h.isName hn),h.text]
 cases any with
 |false=>rfl
 |true=>rw[if_neg (by simp[gt_ne (BW rfl)]),if_neg (by simp[BW rfl])]
theorem iT.fresh(h:iT l i (t::ts))(hn:aP t=true){known:bA->Bool}(hk:known t=false):gH l i known=.ok (t,i+1):=by
 unfold gH;rw[if_pos (h.isName hn),h.text,if_neg (by rw[hk];decide)]
end
theorem fldsT_cons(s:bA)(t:Ty)(r:List Fld):dR ((s,t)::r)=(s::eI t)::dR r:=by rw[dR]
theorem gU{p:Ty->Bool}:∀{fs:List Fld}{before:Option bA},eS p before fs=true->∀x∈fs,aP x.1=true/\p x.2=true
 |[],_,_,x,hx=>by cases hx
 |(n,t)::r,before,h,x,hx=>by
  simp only[eS,Bool.and_eq_true] at h;rcases List.mem_cons.1 hx with rfl|hx
  ·exact⟨h.1.1.1,h.1.2⟩
  exact gU h.2 x hx
theorem ty_parts{d:Nat}{k:Int}{fs:List Fld}(h:aQ (d+1) (.mk k fs)=true):(k=0\/k=1\/k=2)/\fs.length<=8/\(k≠2->fs=[])/\eS (aQ d) none fs=true:=by
 rw[aQ] at h;simp only[Bool.and_eq_true,Bool.or_eq_true,decide_eq_true_eq] at h;obtain⟨⟨⟨⟨h0,h1⟩,h2⟩,h3⟩,h4⟩:=h;exact⟨by omega,h2,fun hk=>List.length_eq_zero_iff.1 (h3.resolve_left hk),h4⟩
theorem flds_each:∀{gs:List Fld}{known:List bA},cG gs known=true->∀g∈gs,aP g.1=true/\aQ 4 g.2=true
 |[],_,_,g,hg=>by cases hg
 |(n,t)::r,known,h,g,hg=>by
  rw[cG] at h;split at h
  ·cases h
  rename_i hc;simp only[Bool.or_eq_true,not_or,Bool.not_eq_true,Bool.not_eq_eq_eq_not,Bool.not_true,Bool.not_eq_false] at hc;rcases List.mem_cons.1 hg with rfl|hg
  ·exact⟨by simpa using hc.1.2,by simpa using hc.2⟩
  exact flds_each h g hg
end Go.Proofs.YtiionicikdnnpaaGreatDoor
