/- Texts of this seat, joined. -/
import Derived.Lib.ItoaNum
import Derived.Lib.Split
import Derived.Lib.Join
set_option linter.unusedVariables false
set_option linter.unusedSimpArgs false
namespace Go.Proofs.YtacgopankhpnbaaGreatDoor
def oZ(c:UInt8):Bool:=decide (33<=(c.toNat:Int))&&decide ((c.toNat:Int)<=126)
def eJ(s:ByteArray):Bool:=s.data.toList.all oZ&& !s.toList.isEmpty&&decide (s.size<=20)
structure Stp where
 kind:Int
 src:List ByteArray
 out:ByteArray
 sorted:Bool
structure Fil where
 name:ByteArray
 text:ByteArray
def aM(s:Stp):Bool:=
 if(!eJ s.out||s.src.any fun x=> !eJ x) then false
 else if s.kind=2 then decide (s.src.length<=60)
 else if s.kind=1 then decide (s.src.length<=60)&& !s.sorted
 else if s.kind=0\/s.kind=3\/s.kind=4\/s.kind=5 then decide (s.src.length=1)&& !s.sorted
 else false
def cX(s:Stp):Bool:=aM s&&decide (s.kind≠4)&&(decide (s.kind≠2)||s.sorted)
def dC:List Fil->List ByteArray->Bool
 |[],_=>true
 |f::r,aI=>if(aI.any fun x=>decide (x=f.name))|| !eJ f.name||decide (65536<f.text.size) then false else dC r (f.name::aI)
def aR(l:List Fil):Bool:=dC l []&&decide (l.length<=60)
def aJ(l:List Fil)(name:ByteArray):Option ByteArray:=(l.find? fun f=>decide (f.name=name)).map (·.text)
def iK(l:List ByteArray):List UInt8:=l.flatMap fun s=>s.data.toList++[10]
def rowsB(l:List ByteArray):ByteArray:=⟨(iK l).toArray⟩
def fB(l:List ByteArray):List ByteArray:=((l.map (·.data.toList)).mergeSort fun x y=>decide (x<=y)).map fun x=>⟨x.toArray⟩
def nl:ByteArray:=⟨#[10]⟩
def lQ(text:ByteArray):List ByteArray:=
 Lib.splitB nl 0 (Lib.countB ⟨(Lib.trimSuffix text.data.toList [10]).toArray⟩ nl) ⟨(Lib.trimSuffix text.data.toList [10]).toArray⟩
def dO(text:ByteArray):List ByteArray:=if text.toList.isEmpty then[] else fB (lQ text)
def fT(x:Int)(n:Nat):Nat:=(x % (n:Int)).toNat
def eB(order:List Int):Nat->Nat->List ByteArray->List ByteArray
 |0,_,_=>[]
 |f+1,u,left=>match left[fT (order.getD u 0) left.length]? with
  |none=>[]
  |some x=>x::eB order f (u+1) (left.eraseIdx (fT (order.getD u 0) left.length))
def joinB(l:List ByteArray):ByteArray:=⟨(Lib.join (l.map (·.data.toList)) []).toArray⟩
def nQ(n:Int):ByteArray:=⟨(Lib.itoa n++[59]).toArray⟩
structure Tok where
 kind:Int
 text:ByteArray
 n:Int
 pos:Int
def iW(c:UInt8):Bool:=decide (c.toNat=32)||decide (c.toNat=9)||decide (c.toNat=10)
def iX(c:UInt8):Bool:=decide (97<=c.toNat)&&decide (c.toNat<=122)
def dA(c:UInt8):Bool:=decide (48<=c.toNat)&&decide (c.toNat<=57)
def kH(c:UInt8):Bool:=iX c||dA c
def dI(p:UInt8->Bool)(l:List UInt8):Nat:=(l.takeWhile p).length
def jS(s:ByteArray)(n:Nat):ByteArray:=s.extract 0 n
def gW(s:ByteArray)(n:Nat):ByteArray:=s.extract n s.size
def kC(s:ByteArray):Bool:=match s.data.toList with
 |[]=>false
 |c::_=>iX c&&decide (s.size<=20)&&s.data.toList.all kH
def jG(l:List UInt8):Nat:=l.foldl (fun n c=>10*n+(c.toNat-48)) 0
def jE(s:ByteArray):Option Nat:=match s.data.toList with
 |[]=>none
 |c::_=>if s.data.toList.all dA&& !(decide (c.toNat=48)&&decide (s.size≠1))&&decide (s.size<=13)&&decide (jG s.data.toList<=1099511627776) then some (jG s.data.toList) else none
def fO:List ByteArray:=[⟨#[61,61]⟩,⟨#[59]⟩,⟨#[44]⟩,⟨#[61]⟩,⟨#[60]⟩,⟨#[43]⟩,⟨#[45]⟩,⟨#[42]⟩,⟨#[46]⟩,⟨#[33]⟩,⟨#[40]⟩,⟨#[41]⟩,⟨#[123]⟩,⟨#[125]⟩]
def mQ(s x:ByteArray):Bool:=x.data.toList.isPrefixOf s.data.toList
def fU(s:ByteArray):Except Int (Int×ByteArray×Int):=match s.data.toList with
 |[]=>.error 10
 |c::_=>
  if iX c then(if kC (jS s (dI kH s.data.toList)) then .ok (0,jS s (dI kH s.data.toList),0) else .error 12)
  else if dA c then(match jE (jS s (dI dA s.data.toList)) with
   |some n=>.ok (1,jS s (dI dA s.data.toList),n)
   |none=>.error 3)
  else match fO.find? (mQ s) with
   |some x=>.ok (2,x,0)
   |none=>.error 10
def iF(s:ByteArray):Nat->Nat->List Tok->Except (Int×Int) (List Tok)
 |0,_,out=>.ok out
 |f+1,i,out=>
  if i+dI iW (gW s i).data.toList=s.size then .ok (out++[⟨3,⟨#[]⟩,0,s.size⟩])
  else match fU (gW s (i+dI iW (gW s i).data.toList)) with
   | .error e=>.error ((i+dI iW (gW s i).data.toList:Nat),e)
   | .ok (k,t,n)=>iF s f (i+dI iW (gW s i).data.toList+t.size) (out++[⟨k,t,n,(i+dI iW (gW s i).data.toList:Nat)⟩])
def lexL(s:ByteArray):Except (Int×Int) (List Tok):=if 8000<s.size then .error (0,6) else iF s (s.size+1) 0 []
inductive Xp where
 |mk (op n:Int) (s m:ByteArray) (names:List ByteArray) (args:List Xp)
inductive Ty where
 |mk (kind:Int) (fields:List (ByteArray×Ty))
abbrev Fld:=ByteArray×Ty
structure Fnc where
 name:ByteArray
 pub:Bool
 params:List Fld
 result:Ty
 effects:Int
 body:Xp
structure Mdl where
 name:ByteArray
 uses:List ByteArray
 vars:List Fld
 init:List Xp
 funcs:List Fnc
 moves:Bool
 old:List Fld
 forward:List Xp
 back:List Xp
abbrev bs(l:List UInt8):ByteArray:=⟨l.toArray⟩
abbrev kK:ByteArray:=bs [32,97,110,100,32,98,97,99,107,32,98,111,111,108,32,99,108,111,99,107,32,101,108,115,101,32,102,97,108,115,101,32,102,105,108,101,115,32,102,110,32,102,111,114,119,97,114,100,32,103,101,116,32,105,102,32,105,110,32,105,110,116,32,108,101,116,32,109,111,100,117,108,101,32,109,111,118,101,32,110,101,116,32,110,111,116,32,111,114,32,112,117,98,32,115,101,99,114,101,116,115,32,115,101,116,32,116,104,101,110,32,116,114,117,101,32,117,115,101,32,118,97,114,32]
def aP(s:ByteArray):Bool:=kC s&& !Lib.contains kK.data.toList ((bs [32]++s)++bs [32]).data.toList
def cT(s:ByteArray):Int:=if s=bs [102,105,108,101,115] then 1 else if s=bs [110,101,116] then 2 else if s=bs [99,108,111,99,107] then 4 else if s=bs [115,101,99,114,101,116,115] then 8 else 0
abbrev PR(α:Type):=Except (Int×Int) (α×Nat)
def aH(l:List Tok)(i:Nat):Tok:=l.getD i ⟨3,⟨#[]⟩,0,0⟩
def jW{α:Type}(l:List Tok)(i:Nat)(e:Int):PR α:=.error ((aH l i).pos,e)
def isP(l:List Tok)(i:Nat)(s:ByteArray):Bool:=decide ((aH l i).kind≠3)&&decide ((aH l i).text=s)
def cY(l:List Tok)(i:Nat):Bool:=decide ((aH l i).kind=0)&&aP (aH l i).text
def dB(l:List Tok)(i:Nat)(s:ByteArray):PR Unit:=if isP l i s then .ok ((),i+1) else jW l i 11
def lZ(l:List Tok)(i:Nat)(fits:Bool)(s:ByteArray):PR Unit:=if isP l i s then(if fits then .ok ((),i+1) else jW l i 6) else jW l i 11
def fP(l:List Tok)(i:Nat):PR ByteArray:=if cY l i then .ok ((aH l i).text,i+1) else jW l i 11
def gZ(l:List Tok)(i:Nat)(aI:ByteArray->Bool):PR ByteArray:=if cY l i then(if aI (aH l i).text then jW l i 5 else .ok ((aH l i).text,i+1)) else jW l i 11
def gtB(a b:ByteArray):Bool:= !(Op.bytesLess a.toList b.toList||a.toList==b.toList)
def fQ(l:List Tok)(i:Nat)(than:ByteArray)(any:Bool):PR ByteArray:=
 if cY l i then(if any&&decide ((aH l i).text=than) then jW l i 5 else if any&& !gtB (aH l i).text than then jW l i 12 else .ok ((aH l i).text,i+1)) else jW l i 11
def gO(l:List Tok)(i:Nat)(have_ most:Nat):PR Unit:=if have_<most then .ok ((),i) else jW l i 6
abbrev kIf:ByteArray:=bs [105,102]
abbrev kThen:ByteArray:=bs [116,104,101,110]
abbrev kElse:ByteArray:=bs [101,108,115,101]
abbrev kLet:ByteArray:=bs [108,101,116]
abbrev kEq:ByteArray:=bs [61]
abbrev kIn:ByteArray:=bs [105,110]
abbrev kSet:ByteArray:=bs [115,101,116]
abbrev kNot:ByteArray:=bs [110,111,116]
abbrev dJ:ByteArray:=bs [116,114,117,101]
abbrev cJ:ByteArray:=bs [102,97,108,115,101]
abbrev iG:ByteArray:=bs [103,101,116]
abbrev bZ:ByteArray:=bs [40]
abbrev kM:ByteArray:=bs [41]
abbrev bY:ByteArray:=bs [123]
abbrev gR:ByteArray:=bs [125]
abbrev kDot:ByteArray:=bs [46]
abbrev bJ:ByteArray:=bs [44]
abbrev kN:ByteArray:=bs [59]
abbrev kOr:ByteArray:=bs [111,114]
abbrev kAnd:ByteArray:=bs [97,110,100]
abbrev kEqEq:ByteArray:=bs [61,61]
abbrev kLess:ByteArray:=bs [60]
abbrev kPlus:ByteArray:=bs [43]
abbrev kMinus:ByteArray:=bs [45]
abbrev kStar:ByteArray:=bs [42]
abbrev kIntW:ByteArray:=bs [105,110,116]
abbrev kBool:ByteArray:=bs [98,111,111,108]
abbrev kModule:ByteArray:=bs [109,111,100,117,108,101]
abbrev kUse:ByteArray:=bs [117,115,101]
abbrev kVar:ByteArray:=bs [118,97,114]
abbrev kPub:ByteArray:=bs [112,117,98]
abbrev kFn:ByteArray:=bs [102,110]
abbrev kMove:ByteArray:=bs [109,111,118,101]
abbrev kForward:ByteArray:=bs [102,111,114,119,97,114,100]
abbrev kBack:ByteArray:=bs [98,97,99,107]
abbrev pD:ByteArray:=bs [33]
abbrev kFiles:ByteArray:=bs [102,105,108,101,115]
abbrev kNet:ByteArray:=bs [110,101,116]
abbrev kClock:ByteArray:=bs [99,108,111,99,107]
abbrev kSecrets:ByteArray:=bs [115,101,99,114,101,116,115]
abbrev noB:ByteArray:=⟨#[]⟩
def PR.bnd{α β:Type}(m:PR α)(k:α->Nat->PR β):PR β:=match m with
 | .error x=>.error x
 | .ok (a,j)=>k a j
def nD:List (ByteArray×Int×Nat):=[(kOr,9,1),(kAnd,8,2),(kEqEq,7,4),(kLess,6,4),(kPlus,3,5),(kMinus,4,5),(kStar,5,6)]
def operAt(l:List Tok)(i:Nat):Option (ByteArray×Int×Nat):=nD.find? fun o=>isP l i o.1
mutual
def cB:Xp->Nat
 | .mk _ _ _ _ _ args=>eC args+1
def eC:List Xp->Nat
 |[]=>0
 |x::r=>max (cB x) (eC r)
end
mutual
def bU:Ty->Nat
 | .mk _ fields=>cP fields+1
def cP:List (ByteArray×Ty)->Nat
 |[]=>0
 |(_,t)::r=>max (bU t) (cP r)
end
abbrev RecP:=Nat->Nat->PR Xp
section
variable (l:List Tok) (rec:RecP)
def oD:Nat->Xp->Nat->PR Xp
 |0,e,i=>.ok (e,i)
 |f+1,e,i=>if isP l i kDot then(fP l (i+1)).bnd fun s j=>oD f (.mk 14 0 s noB [] [e]) j else .ok (e,i)
def opsP(form:Nat):Nat->Nat->Xp->Nat->PR Xp
 |0,_,e,i=>.ok (e,i)
 |f+1,own,e,i=>match operAt l i with
  |none=>.ok (e,i)
  |some (_,op,fm)=>if fm<form\/own<fm\/(own=4/\fm=4) then .ok (e,i)
   else(rec (fm+1) (i+1)).bnd fun b j=>opsP form f fm (.mk op 0 noB noB [] [e,b]) j
def fW(i:Nat):Bool:=isP l i kDot&&decide (i+2<l.length)&&decide ((aH l (i+1)).kind=0)&&aP (aH l (i+1)).text&&decide ((aH l (i+2)).kind=2)&&decide ((aH l (i+2)).text=bZ)
def iI(i:Nat):Bool:=
 if(aH l i).kind=1 then true
 else if(aH l i).kind=2 then decide ((aH l i).text=bZ)||decide ((aH l i).text=bY)
 else if(aH l i).kind=3 then false
 else([kIf,kLet,kSet,kNot,dJ,cJ,iG].any fun s=>decide ((aH l i).text=s))||decide (cT (aH l i).text≠0)||aP (aH l i).text
def cF:Nat->List Xp->Nat->PR (List Xp)
 |0,out,i=>.ok (out,i)
 |f+1,out,i=>(if iI l i then gO l i out.length 6 else .ok ((),i)).bnd fun _ _=>(rec 0 i).bnd fun e j=>
  if isP l j bJ then cF f (out++[e]) (j+1) else(dB l j kM).bnd fun _ k=>.ok (out++[e],k)
def jN(i:Nat):PR (List Xp):=(dB l i bZ).bnd fun _ j=>if isP l j kM then .ok ([],j+1) else cF l rec (l.length+1) [] j
def dL:Nat->List ByteArray->List Xp->ByteArray->Nat->PR Xp
 |0,names,args,_,i=>.ok (.mk 13 0 noB noB names args,i)
 |f+1,names,args,last,i=>(if cY l i then gO l i names.length 8 else .ok ((),i)).bnd fun _ _=>(fQ l i last (decide (0<names.length))).bnd fun s j=>(dB l j kEq).bnd fun _ j2=>(rec 0 j2).bnd fun e j3=>
  if isP l j3 bJ then dL f (names++[s]) (args++[e]) s (j3+1) else(dB l j3 gR).bnd fun _ k=>.ok (.mk 13 0 noB noB (names++[s]) (args++[e]),k)
def kU(i:Nat):PR Xp:=if isP l i gR then .ok (.mk 13 0 noB noB [] [],i+1) else dL l rec (l.length+1) [] [] noB i
def callP(s:ByteArray)(j:Nat):PR Xp:=
 if isP l j bZ then(jN l rec j).bnd fun as k=>.ok (.mk 15 0 s noB [] as,k)
 else if fW l j then(fP l (j+1)).bnd fun f k=>(jN l rec k).bnd fun as k2=>.ok (.mk 15 0 f s [] as,k2)
 else .ok (.mk 2 0 s noB [] [],j)
def parenP(i:Nat):PR Xp:=(rec 0 i).bnd fun e j=>(dB l j kM).bnd fun _ k=>.ok (e,k)
def aS(i:Nat):PR Xp:=
 if(aH l i).kind=1 then .ok (.mk 0 (aH l i).n noB noB [] [],i+1)
 else if isP l i dJ then .ok (.mk 1 1 noB noB [] [],i+1)
 else if isP l i cJ then .ok (.mk 1 0 noB noB [] [],i+1)
 else if isP l i iG then(fP l (i+1)).bnd fun s j=>.ok (.mk 17 0 s noB [] [],j)
 else if(aH l i).kind=0/\cT (aH l i).text≠0 then(dB l (i+1) bZ).bnd fun _ j=>(parenP l rec j).bnd fun e k=>.ok (.mk 16 (cT (aH l i).text) noB noB [] [e],k)
 else if isP l i bY then kU l rec (i+1)
 else if isP l i bZ then parenP l rec (i+1)
 else(fP l i).bnd fun s j=>callP l rec s j
def cL(form i:Nat):PR (Xp×Nat):=
 if form=0/\isP l i kIf=true then(rec 0 (i+1)).bnd fun a j=>(dB l j kThen).bnd fun _ j2=>(rec 0 j2).bnd fun b j3=>(dB l j3 kElse).bnd fun _ j4=>(rec 0 j4).bnd fun c j5=>.ok ((.mk 11 0 noB noB [] [a,b,c],0),j5)
 else if form=0/\isP l i kLet=true then(fP l (i+1)).bnd fun s j=>(dB l j kEq).bnd fun _ j2=>(rec 0 j2).bnd fun a j3=>(dB l j3 kIn).bnd fun _ j4=>(rec 0 j4).bnd fun b j5=>.ok ((.mk 12 0 s noB [] [a,b],0),j5)
 else if form=0/\isP l i kSet=true then(fP l (i+1)).bnd fun s j=>(rec 0 j).bnd fun a j2=>.ok ((.mk 18 0 s noB [] [a],0),j2)
 else if form<=3/\isP l i kNot=true then(rec 3 (i+1)).bnd fun a j=>.ok ((.mk 10 0 noB noB [] [a],3),j)
 else(aS l rec i).bnd fun e j=>.ok ((e,8),j)
end
def bQ(l:List Tok):Nat->RecP
 |0,_,i=>jW l i 11
 |f+1,form,i=>(cL l (bQ l f) form i).bnd fun r j=>
  (if 7<=r.2 then oD l (l.length+1) r.1 j else .ok (r.1,j)).bnd fun e k=>opsP l (bQ l f) form (l.length+1) r.2 e k
def expAllP(l:List Tok)(form i:Nat):PR Xp:=bQ l (l.length+1) form i
section
variable (l:List Tok)
def moreP(i:Nat)(t:Ty)(e:ByteArray):PR Bool:=if isP l i bJ then(lZ l i (decide (bU t<=4)) bJ).bnd fun _ j=>.ok (false,j) else(lZ l i (decide (bU t<=4)) e).bnd fun _ j=>.ok (true,j)
def eM(rec:Nat->PR Ty):Nat->List Fld->Nat->PR Ty
 |0,fs,i=>.ok (.mk 2 fs,i)
 |f+1,fs,i=>(if cY l i then gO l i fs.length 8 else .ok ((),i)).bnd fun _ _=>(fQ l i ((fs.getLast?.map (·.1)).getD noB) (decide (0<fs.length))).bnd fun s j=>(rec j).bnd fun t j2=>(moreP l j2 t gR).bnd fun q j3=>
  if q then .ok (.mk 2 (fs++[(s,t)]),j3) else eM rec f (fs++[(s,t)]) j3
def fL:Nat->Nat->PR Ty
 |0,i=>jW l i 11
 |f+1,i=>if isP l i kIntW then .ok (.mk 0 [],i+1) else if isP l i kBool then .ok (.mk 1 [],i+1)
  else(dB l i bY).bnd fun _ j=>if isP l j gR then .ok (.mk 2 [],j+1) else eM l (fL f) (l.length+1) [] j
def kI(i:Nat):PR Ty:=fL l (l.length+1) i
def dW(most:Nat):Nat->List Fld->Nat->PR (List Fld)
 |0,fs,i=>.ok (fs,i)
 |f+1,fs,i=>(if cY l i then gO l i fs.length most else .ok ((),i)).bnd fun _ _=>(gZ l i (fun s=>fs.any fun x=>decide (x.1=s))).bnd fun s j=>(kI l j).bnd fun t j2=>(moreP l j2 t kM).bnd fun q j3=>
  if q then .ok (fs++[(s,t)],j3) else dW most f (fs++[(s,t)]) j3
def jY(most i:Nat):PR (List Fld):=(dB l i bZ).bnd fun _ j=>if isP l j kM then .ok ([],j+1) else dW l most (l.length+1) [] j
def lW(i:Nat)(e:ByteArray):PR Xp:=(expAllP l 0 i).bnd fun x j=>(lZ l j (decide (cB x<=12)) e).bnd fun _ k=>.ok (x,k)
def jA(e:ByteArray):Nat->List Xp->Nat->PR (List Xp)
 |0,out,i=>(lW l i e).bnd fun x j=>.ok (out++[x],j)
 |n+1,out,i=>(lW l i bJ).bnd fun x j=>jA e n (out++[x]) j
def iD(n i:Nat)(e:ByteArray):PR (List Xp):=match n with
 |0=>(dB l i e).bnd fun _ j=>.ok ([],j)
 |n+1=>jA l e n [] i
def eA:List (ByteArray×Int)->Int->Nat->Int×Nat
 |[],n,i=>(n,i)
 |(s,b)::r,n,i=>if isP l i s then eA r (n+b) (i+1) else eA r n i
def fV:List (ByteArray×Int):=[(kFiles,1),(kNet,2),(kClock,4),(kSecrets,8)]
def bangP(i:Nat)(fits:Bool):PR (Int×Bool):=if isP l i pD then(lZ l i fits pD).bnd fun _ j=>if(eA l fV 0 j).1≠0 then .ok (((eA l fV 0 j).1,true),(eA l fV 0 j).2) else jW l (eA l fV 0 j).2 11 else .ok ((0,fits),i)
def mU(i:Nat)(aI:ByteArray->Bool):PR Fnc:=
 (dB l (if isP l i kPub then i+1 else i) kFn).bnd fun _ j=>(gZ l j aI).bnd fun name j2=>(jY l 6 j2).bnd fun ps j3=>(kI l j3).bnd fun t j4=>(bangP l j4 (decide (bU t<=4))).bnd fun ef j5=>
  (lZ l j5 ef.2 kEq).bnd fun _ j6=>(lW l j6 kN).bnd fun e j7=>.ok (⟨name,isP l i kPub,ps,t,ef.1,e⟩,j7)
def iJ:Nat->List ByteArray->Nat->PR (List ByteArray)
 |0,out,i=>.ok (out,i)
 |f+1,out,i=>if isP l i kUse then(gO l i out.length 12).bnd fun _ _=>(gZ l (i+1) (fun s=>out.any fun x=>decide (x=s))).bnd fun s j=>(dB l j kN).bnd fun _ k=>iJ f (out++[s]) k else .ok (out,i)
def jC:Nat->List Fld->List Xp->Nat->PR (List Fld×List Xp)
 |0,vs,es,i=>.ok ((vs,es),i)
 |f+1,vs,es,i=>if isP l i kVar then(gO l i vs.length 8).bnd fun _ _=>(gZ l (i+1) (fun s=>vs.any fun x=>decide (x.1=s))).bnd fun s j=>(kI l j).bnd fun t j2=>(lZ l j2 (decide (bU t<=4)) kEq).bnd fun _ j3=>(lW l j3 kN).bnd fun e k=>jC f (vs++[(s,t)]) (es++[e]) k else .ok ((vs,es),i)
def fY:Nat->List Fnc->Nat->PR (List Fnc)
 |0,fs,i=>.ok (fs,i)
 |f+1,fs,i=>if isP l i kPub||isP l i kFn then(gO l i fs.length 30).bnd fun _ _=>(mU l i (fun s=>fs.any fun x=>decide (x.name=s))).bnd fun x k=>fY f (fs++[x]) k else .ok (fs,i)
def moveP(n i:Nat):PR (Bool×List Fld×List Xp×List Xp):=if isP l i kMove then(jY l 8 (i+1)).bnd fun old j=>(dB l j kForward).bnd fun _ j2=>(iD l n j2 kBack).bnd fun fw j3=>(iD l old.length j3 kN).bnd fun bk k=>.ok ((true,old,fw,bk),k) else .ok ((false,[],[],[]),i)
def gC:PR Mdl:=(dB l 0 kModule).bnd fun _ i=>(fP l i).bnd fun name i2=>(dB l i2 kN).bnd fun _ i3=>(iJ l (l.length+1) [] i3).bnd fun us i4=>(jC l (l.length+1) [] [] i4).bnd fun ve i5=>
 (fY l (l.length+1) [] i5).bnd fun fs i6=>(moveP l ve.1.length i6).bnd fun mv i7=>if(aH l i7).kind=3 then .ok (⟨name,us,ve.1,ve.2,fs,mv.1,mv.2.1,mv.2.2.1,mv.2.2.2⟩,i7) else jW l i7 11
end
def nC(s:ByteArray):Except (Int×Int) Mdl:=match lexL s with
 | .error e=>.error e
 | .ok l=>match gC l with
  | .error e=>.error e
  | .ok (m,_)=>.ok m
end Go.Proofs.YtacgopankhpnbaaGreatDoor
namespace Go.Proofs.YtacgopankhpnbaaGreatDoor
def iM(p:Ty->Bool):Option ByteArray->List Fld->Bool
 |_,[]=>true
 |before,(n,t)::r=>aP n&&(match before with|none=>true|some b=>gtB n b)&&p t&&iM p (some n) r
def bX:Nat->Ty->Bool
 |0,_=>false
 |d+1,.mk k fs=>decide (0<=k)&&decide (k<3)&&decide (fs.length<=8)&&(decide (k=2)||decide (fs.length=0))&&iM (bX d) none fs
def cleanX:Xp->(Int×ByteArray×ByteArray×List ByteArray)×Int
 | .mk op n s m names _=>
  if op=0\/op=1 then((n,noB,noB,[]),0)
  else if op=2\/op=17 then((0,s,noB,[]),0)
  else if op=18\/op=14 then((0,s,noB,[]),1)
  else if op=16 then((n,noB,noB,[]),1)
  else if op=10 then((0,noB,noB,[]),1)
  else if op=12 then((0,s,noB,[]),2)
  else if op=11 then((0,noB,noB,[]),3)
  else if op=13 then((0,noB,noB,names),names.length)
  else if op=15 then((0,s,m,[]),-1)
  else((0,noB,noB,[]),2)
def nY:Option ByteArray->List ByteArray->Bool
 |_,[]=>true
 |before,n::r=>aP n&&(match before with|none=>true|some b=>gtB n b)&&nY (some n) r
def gX:Xp->Bool
 | .mk op n s m names args=>
  if op=0 then decide (0<=n)&&decide (n<=1099511627776)
  else if op=1 then decide (n=0)||decide (n=1)
  else if op=16 then decide (n=1)||decide (n=2)||decide (n=4)||decide (n=8)
  else if op=2\/op=17\/op=18\/op=14\/op=12 then aP s
  else if op=15 then aP s&&(decide (m=noB)||aP m)&&decide (args.length<=6)
  else if op=13 then nY none names&&decide (names.length<=8)
  else true
def aT:Nat->Xp->Bool
 |0,_=>false
 |d+1,.mk op n s m names args=>
  decide (0<=op)&&decide (op<19)&&
  (decide ((cleanX (.mk op n s m names args)).2<0)||decide ((cleanX (.mk op n s m names args)).2=args.length))&&
  decide ((cleanX (.mk op n s m names args)).1.1=n)&&decide ((cleanX (.mk op n s m names args)).1.2.1=s)&&decide ((cleanX (.mk op n s m names args)).1.2.2.1=m)&&
  decide ((cleanX (.mk op n s m names args)).1.2.2.2.length=names.length)&&gX (.mk op n s m names args)&&args.all (aT d)
def cV:List Fld->List ByteArray->Bool
 |[],_=>true
 |(n,t)::r,aI=>if(aI.any fun x=>decide (x=n))|| !aP n|| !bX 4 t then false else cV r (n::aI)
def dQ(l:List Fld)(most:Nat):Bool:=cV l []&&decide (l.length<=most)
def fD(l:List Xp)(n:Nat):Bool:=l.all (aT 12)&&decide (l.length=n)
def fJ:List ByteArray->List ByteArray->Bool
 |[],_=>true
 |n::r,aI=>if(aI.any fun x=>decide (x=n))|| !aP n then false else fJ r (n::aI)
def effOk(e:Int):Bool:=decide (Go.bits .andNot .i64 e 15=0)
def nU(f:Fnc):Bool:=dQ f.params 6&&bX 4 f.result&&aT 12 f.body&&effOk f.effects
def dU:List Fnc->List ByteArray->Bool
 |[],_=>true
 |f::r,aI=>if(aI.any fun x=>decide (x=f.name))|| !aP f.name|| !nU f then false else dU r (f.name::aI)
def rightM(m:Mdl):Bool:=
 fJ m.uses []&&dU m.funcs []&&aP m.name&&decide (m.uses.length<=12)&&decide (m.funcs.length<=30)&&dQ m.vars 8&&fD m.init m.vars.length&&
 (m.moves||decide (m.old.length=0))&&dQ m.old 8&&fD m.forward (if m.moves then m.vars.length else 0)&&fD m.back m.old.length
structure Ins where
 op:Int
 a:Int
 s:ByteArray
 m:ByteArray
 names:List ByteArray
structure Cod where
 name:ByteArray
 params:Nat
 locals:Nat
 code:List Ins
structure Cmp where
 code:List Ins
 locals:Nat
def Cmp.put(c:Cmp)(i:Ins):Cmp:=⟨c.code++[i],c.locals⟩
def Cmp.fix(c:Cmp)(k:Nat):Cmp:=⟨c.code.modify k (fun i=>{i with a:=c.code.length}),c.locals⟩
def dP(names:List ByteArray)(s:ByteArray):Int:=match names with
 |[]=> -1
 |x::r=>if 0<=dP r s then dP r s+1 else if x=s then 0 else -1
def jD(vars:List ByteArray)(s:ByteArray):Int:=match vars.findIdx? (fun x=>decide (x=s)) with
 |some k=>k
 |none=> -1
def ins(op a:Int):Ins:=⟨op,a,noB,noB,[]⟩
def fH(vars:List ByteArray):Xp->Ins
 | .mk op n s m names args=>
  if op=3 then ins 4 0 else if op=4 then ins 5 0 else if op=5 then ins 6 0 else if op=6 then ins 7 0 else if op=7 then ins 8 0 else if op=10 then ins 9 0
  else if op=13 then⟨12,0,noB,noB,names⟩
  else if op=14 then⟨13,0,s,noB,[]⟩
  else if op=15 then⟨14,args.length,s,m,[]⟩
  else if op=16 then ins 15 n
  else ins 17 (jD vars s)
def gF(yes no:Cmp->Cmp)(c:Cmp):Cmp:=
 let c2:=yes (c.put (ins 11 0));let c3:=(c2.put (ins 10 0)).fix c.code.length
 (no c3).fix c2.code.length
def bA(vars:List ByteArray):Nat->List ByteArray->Xp->Cmp->Cmp
 |0,_,_,c=>c
 |d+1,names,.mk op n s m ns args,c=>
  if op=0 then c.put (ins 0 n)
  else if op=1 then c.put (ins 1 n)
  else if op=2 then c.put (ins 2 (dP names s))
  else if op=17 then c.put (ins 16 (jD vars s))
  else if op=8 then match args with
   |[x,y]=>gF (bA vars d names y) (fun c=>c.put (ins 1 0)) (bA vars d names x c)
   |_=>c
  else if op=9 then match args with
   |[x,y]=>gF (fun c=>c.put (ins 1 1)) (bA vars d names y) (bA vars d names x c)
   |_=>c
  else if op=11 then match args with
   |[x,y,z]=>gF (bA vars d names y) (bA vars d names z) (bA vars d names x c)
   |_=>c
  else if op=12 then match args with
   |[x,y]=>
    let c1:=(bA vars d names x c).put (ins 3 names.length)
    bA vars d (names++[s]) y ⟨c1.code,max c1.locals (names.length+1)⟩
   |_=>c
  else(args.foldl (fun c x=>bA vars d names x c) c).put (fH vars (.mk op n s m ns args))
def compF(vars:List ByteArray)(f:Fnc):Cod:=
 let c:=(bA vars 12 (f.params.map (·.1)) f.body ⟨[],f.params.length⟩).put (ins 18 0)
 ⟨f.name,f.params.length,c.locals,c.code⟩
def jH(m:Mdl):List Cod:=if rightM m then m.funcs.map (compF (m.vars.map (·.1))) else[]
def nM:Option ByteArray->List ByteArray->Bool
 |_,[]=>true
 |before,n::r=>aP n&&(match before with|none=>true|some b=>Op.bytesLess b.toList n.toList)&&nM (some n) r
def bS(c:Cod)(i:Ins):Bool:=
 let none_:=decide (i.names.length=0);let noS:=decide (i.s=noB);let noM:=decide (i.m=noB);let noA:=decide (i.a=0)
 if i.op=0 then noS&&noM&&none_
 else if i.op=1 then(decide (i.a=0)||decide (i.a=1))&&noS&&noM&&none_
 else if i.op=2\/i.op=3 then(decide (0<=i.a)&&decide (i.a<c.locals))&&noS&&noM&&none_
 else if i.op=10\/i.op=11 then(decide (0<=i.a)&&decide (i.a<c.code.length))&&noS&&noM&&none_
 else if i.op=16\/i.op=17 then(decide (0<=i.a)&&decide (i.a<8))&&noS&&noM&&none_
 else if i.op=15 then(decide (i.a=1)||decide (i.a=2)||decide (i.a=4)||decide (i.a=8))&&noS&&noM&&none_
 else if i.op=13 then aP i.s&&noA&&noM&&none_
 else if i.op=14 then(decide (0<=i.a)&&decide (i.a<=6)&&aP i.s&&(decide (i.m=noB)||aP i.m))&&none_
 else if i.op=12 then(nM none i.names&&decide (i.names.length<=8))&&noA&&noS&&noM
 else if i.op=4\/i.op=5\/i.op=6\/i.op=7\/i.op=8\/i.op=9\/i.op=18\/i.op=19 then noA&&noS&&noM&&none_
 else false
def jT(i:Ins):Int×Int:=
 if i.op=0\/i.op=1\/i.op=2\/i.op=16 then(0,1)
 else if i.op=4\/i.op=5\/i.op=6\/i.op=7\/i.op=8 then(2,1)
 else if i.op=9\/i.op=13\/i.op=15\/i.op=17 then(1,1)
 else if i.op=12 then(i.names.length,1)
 else if i.op=14 then(i.a,1)
 else if i.op=10 then(0,0)
 else(1,0)
def kA(i:Ins)(k:Int):List Int:=
 if i.op=18 then[] else if i.op=10 then[i.a] else if i.op=11 then[k+1,i.a] else[k+1]
def nG(l:List Ins)(k:Nat):Ins:=l.getD k ⟨19,0,noB,noB,[]⟩
def gK(n:Nat)(h:Int):List Int->List Int->List Int->Option (List Int×List Int)
 |[],out,todo=>some (out,todo)
 |k::r,out,todo=>
  if k=n then none
  else if out.getD k.toNat 0<0 then gK n h r (out.set k.toNat h) (todo++[k])
  else if out.getD k.toNat 0≠h then none
  else gK n h r out todo
def dZ(l:List Ins):Nat->List Int->List Int->Option (List Int)
 |0,out,_=>some out
 |_+1,out,[]=>some out
 |f+1,out,k::todo=>
  if out.getD k.toNat 0<(jT (nG l k.toNat)).1\/((nG l k.toNat).op=18/\out.getD k.toNat 0≠1) then none
  else match gK l.length (out.getD k.toNat 0-(jT (nG l k.toNat)).1+(jT (nG l k.toNat)).2) (kA (nG l k.toNat) k) out todo with
   |none=>none
   |some (out2,todo2)=>dZ l f out2 todo2
def dE(c:Cod):Bool:=
 aP c.name&&decide (c.params<=6)&&decide (c.params<=c.locals)&&decide (c.code.length≠0)&&c.code.all (bS c)&&
 (dZ c.code (c.code.length+1) ((List.replicate c.code.length (-1:Int)).set 0 0) [0]).isSome
def itoaB(n:Int):List UInt8:=Lib.itoa n
def iV:List (List UInt8):=[[105,110,116],[98,111,111,108],[108,111,97,100],[115,116,111,114,101],[97,100,100],[115,117,98],[109,117,108],[108,101,115,115],[101,113],[110,111,116],[106,117,109,112],[102,97,108,115,101],[114,101,99],[102,105,101,108,100],[99,97,108,108],[97,99,116],[103,101,116],[115,101,116],[114,101,116,117,114,110],[112,111,112]]
def gP(i:Ins):List UInt8:=
 iV.getD i.op.toNat []++
 (if i.op=13 then[32]++i.s.data.toList
 else if i.op=14 then[32]++(if i.m=noB then[46] else i.m.data.toList)++[32]++i.s.data.toList++[32]++itoaB i.a
 else if i.op=12 then i.names.flatMap (fun x=>[32]++x.data.toList)
 else if i.op=4\/i.op=5\/i.op=6\/i.op=7\/i.op=8\/i.op=9\/i.op=18\/i.op=19 then[]
 else[32]++itoaB i.a)++[10]
def codL(c:Cod):List UInt8:=[102,117,110,99,32]++c.name.data.toList++[32]++itoaB c.params++[32]++itoaB c.locals++[10]++c.code.flatMap gP
def listC(l:List Cod):ByteArray:=if l.all dE then⟨(l.flatMap codL).toArray⟩ else noB
def bP(s:ByteArray):Int×ByteArray:=match nC s with
 | .error (_,e)=>(e,noB)
 | .ok m=>(0,listC (jH m))
def stampB(t:ByteArray)(n:Int):ByteArray:=(t++nQ n)++⟨#[10]⟩
def bG(s:Stp)(saw:List ByteArray)(clock order:List Int)(u0 u1:Int):ByteArray×List ByteArray×Int×Int:=
 if s.kind=0\/s.kind=1 then(joinB saw,saw,u0,u1)
 else if s.kind=3 then(rowsB (dO (saw.headD ByteArray.empty)),saw,u0,u1)
 else if s.kind=4 then(stampB (saw.headD ByteArray.empty) (clock.getD u0.toNat 0),saw,u0+1,u1)
 else if s.sorted then(rowsB (fB s.src),[],u0,u1)
 else(rowsB (eB order s.src.length u1.toNat (fB s.src)),[],u0,u1+s.src.length)
abbrev DoRes:=Except Int (ByteArray×List ByteArray×Int×Int)
def fC(files:List Fil):List ByteArray->Option (List ByteArray)
 |[]=>some []
 |x::r=>match aJ files x,fC files r with
  |some t,some l=>some (t::l)
  |_,_=>none
def cW(C:ByteArray->Int×ByteArray)(s:Stp)(files:List Fil)(clock order:List Int)(u0 u1:Int):DoRes:=
 if !aM s|| !aR files||decide (min u0 u1<0) then .error 1
 else if(aJ files s.out).isSome then .error 5
 else if 60<=files.length then .error 6
 else match fC files s.src with
  |none=>.error 4
  |some saw=>
   if s.kind=5 then
    if(C (saw.headD ByteArray.empty)).1≠0 then .error (C (saw.headD ByteArray.empty)).1
    else if 65536<(C (saw.headD ByteArray.empty)).2.size then .error 6
    else .ok ((C (saw.headD ByteArray.empty)).2,saw,u0,u1)
   else if 65536<(bG s saw clock order u0 u1).1.size then .error 6
   else .ok (bG s saw clock order u0 u1)
def eK(s:Stp)(files:List Fil)(text:ByteArray):List Fil:=files++[⟨s.out,text⟩]
structure Rcp where
 inputs:List Fil
 steps:List Stp
 output:ByteArray
def bF(steps:List Stp)(x:ByteArray):Option Nat:=steps.findIdx? fun s=>decide (s.out=x)
def jQ(inputs:List Fil)(x:ByteArray):Bool:=inputs.any fun f=>decide (f.name=x)
def lR(r:Rcp)(k:Nat)(x:ByteArray):Bool:=(bF (r.steps.take k) x).isSome||jQ r.inputs x
def aI(r:Rcp)(x:ByteArray):Bool:=(bF r.steps x).isSome||jQ r.inputs x
def eF(steps:List Stp)(s:Stp):List Nat:=s.src.filterMap (bF steps)
def aY(steps:List Stp)(i:Nat):List Nat:=match steps[i]? with
 |some s=>eF steps s
 |none=>[]
def kJ(r:Rcp):Nat->Nat->Bool
 |_,0=>false
 |k,n+1=>(match r.steps[k]? with
  |some s=>lR r k s.out
  |none=>false)||kJ r (k+1) n
def nS(r:Rcp):Bool:=kJ r 0 r.steps.length
abbrev dT:=Nat->Int
def iA(st:dT)(i:Nat)(x:Int):dT:=fun j=>if j=i then x else st j
def jR{σ:Type}(g:σ->Nat->σ×Bool):σ->List Nat->σ×Bool
 |st,[]=>(st,false)
 |st,k::r=>if(g st k).2 then((g st k).1,true) else jR g (g st k).1 r
def eE(needs:Nat->List Nat):Nat->dT->Nat->dT×Bool
 |0,st,_=>(st,true)
 |f+1,st,i=>
  if st i≠0 then(st,decide (st i=1))
  else if(jR (eE needs f) (iA st i 1) (needs i)).2 then((jR (eE needs f) (iA st i 1) (needs i)).1,true)
  else(iA (jR (eE needs f) (iA st i 1) (needs i)).1 i 2,false)
def gM(needs:Nat->List Nat)(f:Nat):Nat->Nat->dT->Bool
 |_,0,_=>false
 |k,n+1,st=>(eE needs f st k).2||gM needs f (k+1) n (eE needs f st k).1
def kG(steps:List Stp):Bool:=gM (aY steps) (steps.length+1) 0 steps.length (fun _=>0)
def aU(r:Rcp):Int:=
 if !aR r.inputs||decide (60<r.steps.length)||r.steps.any (fun s=> !aM s) then 1
 else if nS r then 5
 else if 60<r.inputs.length+r.steps.length then 6
 else if !aI r r.output||r.steps.any (fun s=>s.src.any fun x=> !aI r x) then 4
 else if kG r.steps then 15
 else 0
def iZ(steps:List Stp)(done:Nat->Bool)(i:Nat):Bool:= !done i&& !(aY steps i).any fun k=> !done k
def bC(steps:List Stp)(done:Nat->Bool):List Nat:=(List.range steps.length).filter (iZ steps done)
theorem jO(st:dT)(i:Nat)(x:Int):iA st i x i=x:=by simp[iA]
theorem eN(st:dT){i j:Nat}(x:Int)(h:j≠i):iA st i x j=st j:=by simp[iA,h]
theorem nN{g:dT->Nat->dT×Bool}(hg:∀st k j,st j≠0->(g st k).1 j=st j):∀(l:List Nat)(st:dT)(j:Nat),st j≠0->(jR g st l).1 j=st j
 |[],_,_,_=>rfl
 |k::r,st,j,h=>by
  rw[jR];have h1:=hg st k j h;split
  ·exact h1
  ·rw[nN hg r _ j (by rw[h1];exact h),h1]
theorem jB(needs:Nat->List Nat):∀(f:Nat)(st:dT)(i j:Nat),st j≠0->(eE needs f st i).1 j=st j
 |0,_,_,_,_=>rfl
 |f+1,st,i,j,h=>by
  rw[eE];split
  ·rfl
  ·rename_i hi;have yN:j≠i:=fun e=>hi (e▸h);have h1:iA st i 1 j=st j:=eN st 1 yN;have h2:=nN (jB needs f) (needs i) (iA st i 1) j (by rw[h1];exact h);split
   ·rw[h2,h1]
   ·show iA _ i 2 j=st j;rw[eN _ _ yN,h2,h1]
def jU(st:dT):Nat->Nat
 |0=>0
 |n+1=>jU st n+if st n=0 then 1 else 0
def pot(st:dT):Nat->Nat
 |0=>0
 |n+1=>pot st n+if st n=0 then 2 else if st n=1 then 1 else 0
theorem zeros_le{st st':dT}(h:∀j,st j≠0->st' j≠0):∀n,jU st' n<=jU st n
 |0=>Nat.le_refl _
 |n+1=>by
  have:=zeros_le h n;rw[jU,jU];by_cases e:st n=0
  ·rw[if_pos e];split<;>omega
  ·rw[if_neg e,if_neg (h n e)];omega
theorem zeros_out(st:dT){i:Nat}(x:Int):∀n,n<=i->jU (iA st i x) n=jU st n
 |0,_=>rfl
 |n+1,h=>by rw[jU,jU,zeros_out st x n (by omega),eN st x (by omega)]
theorem zeros_mark{st:dT}{i:Nat}(h0:st i=0):∀n,i<n->jU (iA st i 1) n+1=jU st n
 |0,h=>absurd h (by omega)
 |n+1,h=>by
  rw[jU,jU];by_cases e:i=n
  ·subst e;rw[zeros_out st 1 i (Nat.le_refl _),jO,h0];simp
  ·have:=zeros_mark h0 n (by omega);rw[eN st 1 (by omega)];split<;>omega
theorem pot_out(st:dT){i:Nat}(x:Int):∀n,n<=i->pot (iA st i x) n=pot st n
 |0,_=>rfl
 |n+1,h=>by rw[pot,pot,pot_out st x n (by omega),eN st x (by omega)]
theorem pot_mark{st:dT}{i:Nat}{x:Int}(h:(st i=0/\x=1)\/(st i=1/\x=2)):∀n,i<n->pot (iA st i x) n+1=pot st n
 |0,h=>absurd h (by omega)
 |n+1,hn=>by
  rw[pot,pot];by_cases e:i=n
  ·subst e;rw[pot_out st x i (Nat.le_refl _),jO];rcases h with⟨h,rfl⟩|⟨h,rfl⟩<;>rw[h]<;>simp
  ·have:=pot_mark h n (by omega);rw[eN st x (by omega)];split
   ·omega
   ·split<;>omega
theorem pot_new:∀n,pot (fun _=>0) n=2*n
 |0=>rfl
 |n+1=>by rw[pot,pot_new n];simp;omega
theorem visit_zeros(needs:Nat->List Nat)(f:Nat)(st:dT)(i n:Nat):jU (eE needs f st i).1 n<=jU st n:=
 zeros_le (fun j h=>by rw[jB needs f st i j h];exact h) n
theorem needsOf_lt{steps:List Stp}{s:Stp}{j:Nat}(h:j∈eF steps s):j<steps.length:=by
 unfold eF at h;obtain⟨x,-,hx⟩:=List.mem_filterMap.1 h;unfold bF at hx;exact(List.findIdx?_eq_some_iff_getElem.1 hx).1
theorem lJ{steps:List Stp}{i j:Nat}(h:j∈aY steps i):j<steps.length:=by
 unfold aY at h;split at h
 ·exact needsOf_lt h
 ·cases h
structure Dn where
 step:Int
 saw:List ByteArray
 out:ByteArray
def eG(l:List Nat)(next:List Int)(u:Nat):Nat:=l.getD (fT (next.getD u 0) l.length) 0
def jI(done:Nat->Bool)(i:Nat):Nat->Bool:=fun j=>if j=i then true else done j
def jM(C:ByteArray->Int×ByteArray)(steps:List Stp)(clock order next:List Int):Nat->(Nat->Bool)->List Dn->List Fil->Int->Int->Except Int (List Dn×List Fil)
 |0,_,out,files,_,_=>.ok (out,files)
 |f+1,done,out,files,u0,u1=>
  if(bC steps done).isEmpty then .ok (out,files)
  else match steps[eG (bC steps done) next out.length]? with
   |none=>.ok (out,files)
   |some s=>match cW C s files clock order u0 u1 with
    | .error e=>.error e
    | .ok (text,saw,a,b)=>jM C steps clock order next f (jI done (eG (bC steps done) next out.length)) (out++[⟨eG (bC steps done) next out.length,saw,text⟩]) (eK s files text) a b
def runAll(C:ByteArray->Int×ByteArray)(r:Rcp)(clock order next:List Int):Except Int (List Dn×List Fil):=
 jM C r.steps clock order next (r.steps.length+1) (fun _=>false) [] r.inputs 0 0
def mE(C:ByteArray->Int×ByteArray)(r:Rcp)(clock order next:List Int):Except Int (List Dn×ByteArray):=
 if aU r≠0 then .error (aU r)
 else match runAll C r clock order next with
  | .error e=>.error e
  | .ok (out,files)=>.ok (out,(aJ files r.output).getD ByteArray.empty)
def oY(steps:List Stp):Nat->(Nat->Bool)->List Nat->List Nat
 |0,_,out=>out
 |f+1,done,out=>match bC steps done with
  |[]=>out
  |i::_=>oY steps f (jI done i) (out++[i])
def orderAll(steps:List Stp):List Nat:=oY steps (steps.length+1) (fun _=>false) []
def orderL(r:Rcp):List Nat:=if aU r≠0 then[] else orderAll r.steps
def grow(needs:Nat->List Nat):Nat->(Nat->Bool)->Nat->(Nat->Bool)
 |0,st,_=>st
 |f+1,st,i=>if st i then st else(needs i).foldl (grow needs f) (jI st i)
def iH(r:Rcp):Nat->Bool:=match bF r.steps r.output with
 |some i=>grow (aY r.steps) (r.steps.length+1) (fun _=>false) i
 |none=>fun _=>false
def mZ(r:Rcp):List Nat:=(List.range r.steps.length).filter (iH r)
def bW(r:Rcp):List Nat:=if aU r≠0 then[] else mZ r
def pureL(r:Rcp):Bool:=decide (aU r=0)&& !(bW r).any fun i=>match r.steps[i]? with
 |some s=> !cX s
 |none=>true
structure Sound (needs:Nat->List Nat) (st:dT) (rk:Nat->Nat):Prop where
 vals:∀i,st i=0\/st i=1\/st i=2
 shut:∀i,st i=2->∀k,k∈needs i->st k=2/\rk k<rk i
def mA(needs:Nat->List Nat)(st:dT):Prop:=∃rk,Sound needs st rk
theorem mA.open_{needs:Nat->List Nat}{st:dT}{i:Nat}(h:mA needs st)(h0:st i=0):mA needs (iA st i 1):=by
 obtain⟨rk,h1,h2⟩:=h;refine⟨rk,fun j=>?_,fun j hj k hk=>?_⟩
 ·by_cases e:j=i
  ·subst e;rw[jO];exact .inr (.inl rfl)
  ·rw[eN _ _ e];exact h1 j
 ·have hji:j≠i:=by rintro rfl;rw[jO] at hj;omega
  rw[eN _ _ hji] at hj;obtain⟨h3,h4⟩:=h2 j hj k hk;have LU:k≠i:=by rintro rfl;omega
  rw[eN _ _ LU];exact⟨h3,h4⟩
theorem le_sum(rk:Nat->Nat):∀(l:List Nat)(k:Nat),k∈l->rk k<=(l.map rk).sum
 |[],_,h=>by cases h
 |a::r,k,h=>by
  rw[List.map_cons,List.sum_cons];rcases List.mem_cons.1 h with rfl|h
  ·omega
  ·have:=le_sum rk r k h;omega
theorem mA.shut_{needs:Nat->List Nat}{st:dT}{i:Nat}(h:mA needs st)(h0:st i=1)(hn:∀k,k∈needs i->st k=2):mA needs (iA st i 2):=by
 obtain⟨rk,h1,h2⟩:=h;refine⟨fun j=>if j=i then((needs i).map rk).sum+1 else rk j,fun j=>?_,fun j hj k hk=>?_⟩
 ·by_cases e:j=i
  ·subst e;rw[jO];exact .inr (.inr rfl)
  ·rw[eN _ _ e];exact h1 j
 ·by_cases e:j=i
  ·subst e;have zN:=hn k hk;(have LU:k≠j:=by rintro rfl;omega);rw[eN _ _ LU,if_neg LU,if_pos rfl];exact⟨zN,by have:=le_sum rk _ _ hk;omega⟩
  ·rw[eN _ _ e] at hj;obtain⟨h3,h4⟩:=h2 j hj k hk;(have LU:k≠i:=by rintro rfl;omega);rw[eN _ _ LU,if_neg LU,if_neg e];exact⟨h3,h4⟩
def ShutOk(needs:Nat->List Nat)(g:dT->Nat->dT×Bool):Prop:=∀st i,mA needs st->(g st i).2=false->mA needs (g st i).1/\(g st i).1 i=2
theorem anyV_ok{needs:Nat->List Nat}{g:dT->Nat->dT×Bool}(hg:ShutOk needs g)(hk:∀st k j,st j≠0->(g st k).1 j=st j):∀(l:List Nat)(st:dT),mA needs st->(jR g st l).2=false->
  mA needs (jR g st l).1/\∀k,k∈l->(jR g st l).1 k=2
 |[],st,h,_=>⟨h,fun k hk=>by cases hk⟩
 |a::r,st,h,hf=>by
  rw[jR] at hf ⊢;by_cases e:(g st a).2=true
  ·rw[if_pos e] at hf;cases hf
  ·rw[if_neg e] at hf ⊢;(have e':(g st a).2=false:=by simpa using e);obtain⟨h1,h2⟩:=hg st a h e';obtain⟨h3,h4⟩:=anyV_ok hg hk r _ h1 hf;refine⟨h3,fun k hm=>?_⟩;rcases List.mem_cons.1 hm with rfl|hm
   ·rw[nN hk r _ k (by rw[h2];decide),h2]
   ·exact h4 k hm
theorem visit_shut(needs:Nat->List Nat):∀f,ShutOk needs (eE needs f)
 |0,st,i,_,hf=>by cases hf
 |f+1,st,i,h,hf=>by
  rw[eE] at hf ⊢;by_cases e:st i≠0
  ·rw[if_pos e] at hf ⊢;have h1:st i≠1:=of_decide_eq_false hf;obtain⟨rk,hv,hs⟩:=h;refine⟨⟨rk,hv,hs⟩,?_⟩;show st i=2;rcases hv i with h0|h0|h0
   ·exact absurd h0 e
   ·exact absurd h0 h1
   ·exact h0
  ·rw[if_neg e] at hf ⊢;have h0:st i=0:=Classical.not_not.1 e;by_cases e2:(jR (eE needs f) (iA st i 1) (needs i)).2=true
   ·rw[if_pos e2] at hf;cases hf
   ·rw[if_neg e2];(have e3:(jR (eE needs f) (iA st i 1) (needs i)).2=false:=by simpa using e2);obtain⟨h3,h4⟩:=anyV_ok (visit_shut needs f) (jB needs f) (needs i) (iA st i 1) (h.open_ h0) e3
    have h5:(jR (eE needs f) (iA st i 1) (needs i)).1 i=1:=by
     rw[nN (jB needs f) (needs i) (iA st i 1) i (by rw[jO];decide),jO]
    exact⟨h3.shut_ h5 h4,jO _ _ _⟩
theorem circleFrom_ok(needs:Nat->List Nat)(f:Nat):∀(n k:Nat)(st:dT),mA needs st->(∀j,j<k->st j=2)->gM needs f k n st=false->∃st',mA needs st'/\∀j,j<k+n->st' j=2
 |0,k,st,h,hk,_=>⟨st,h,hk⟩
 |n+1,k,st,h,hk,hf=>by
  rw[gM,Bool.or_eq_false_iff] at hf;obtain⟨h1,h2⟩:=visit_shut needs f st k h hf.1
  obtain⟨st',h3,h4⟩:=circleFrom_ok needs f n (k+1) _ h1 (fun j hj=>by
   by_cases e:j=k
   ·subst e;exact h2
   ·rw[jB needs f st k j (by rw[hk j (by omega)];decide)];exact hk j (by omega)) hf.2
  exact⟨st',h3,fun j hj=>h4 j (by omega)⟩
theorem circle_rank{steps:List Stp}(h:kG steps=false):∃rk:Nat->Nat,∀i k,k∈aY steps i->rk k<rk i:=by
 obtain⟨st,⟨rk,hv,hs⟩,h2⟩:=circleFrom_ok (aY steps) _ steps.length 0 (fun _=>0) ⟨fun _=>0,fun _=>.inl rfl,fun i hi=>by cases hi⟩ (fun j hj=>absurd hj (by omega)) h;refine⟨rk,fun i k hk=>(hs i (h2 i ?_) k hk).2⟩;rw[Nat.zero_add];unfold aY at hk;split at hk
 ·rename_i s hs;exact(List.getElem?_eq_some_iff.1 hs).1
 ·cases hk
theorem ready_some{steps:List Stp}(h:kG steps=false)(done:Nat->Bool){i:Nat}(hi:i<steps.length)(hd:done i=false):bC steps done≠[]:=by
 obtain⟨rk,hr⟩:=circle_rank h
 have key:∀n i,rk i<=n->i<steps.length->done i=false->bC steps done≠[]:=by
  intro n
  induction n with
  |zero=>
   intro i hn hi hd he
   have:i∈bC steps done:=by
    unfold bC;rw[List.mem_filter];refine⟨List.mem_range.2 hi,?_⟩;unfold iZ;rw[hd]
    have:(aY steps i).any (fun k=> !done k)=false:=by
     rw[List.any_eq_false];intro k hk;have:=hr i k hk;omega
    rw[this];rfl
   rw[he] at this;cases this
  |succ n ih=>
   intro i hn hi hd;by_cases hc:(aY steps i).any (fun k=> !done k)=true
   ·obtain⟨k,hk,hkd⟩:=List.any_eq_true.1 hc;have h1:=hr i k hk;have h2:=lJ hk;exact ih k (by omega) h2 (by simpa using hkd)
   ·intro he
    have:i∈bC steps done:=by
     unfold bC;rw[List.mem_filter];refine⟨List.mem_range.2 hi,?_⟩;unfold iZ;rw[hd];(have:(aY steps i).any (fun k=> !done k)=false:=by simpa using hc);rw[this];rfl
    rw[he] at this;cases this
 exact key (rk i) i (Nat.le_refl _) hi hd
theorem oW{steps:List Stp}{done:Nat->Bool}{i:Nat}(h:i∈bC steps done):i<steps.length/\done i=false/\∀k,k∈aY steps i->done k=true:=by
 unfold bC at h;rw[List.mem_filter] at h;obtain⟨h1,h2⟩:=h;unfold iZ at h2;rw[Bool.and_eq_true,Bool.not_eq_true',Bool.not_eq_true'] at h2;refine⟨List.mem_range.1 h1,h2.1,fun k hk=>?_⟩;have:=List.any_eq_false.1 h2.2 k hk;simpa using this
theorem choose_mem{l:List Nat}(next:List Int)(u:Nat)(h:l≠[]):eG l next u∈l:=by
 unfold eG;have hl:0<l.length:=List.length_pos_iff.2 h
 have hp:fT (next.getD u 0) l.length<l.length:=by
  unfold fT;have h1:=Int.emod_lt_of_pos (next.getD u 0) (show(0:Int)<(l.length:Int) by omega);have h2:=Int.emod_nonneg (next.getD u 0) (show(l.length:Int)≠0 by omega);omega
 rw[List.getD_eq_getElem?_getD,List.getElem?_eq_getElem hp];exact List.getElem_mem hp
def dF(done:Nat->Bool):Nat->Nat
 |0=>0
 |n+1=>dF done n+if done n then 0 else 1
theorem leftN_out(done:Nat->Bool){i:Nat}:∀n,n<=i->dF (jI done i) n=dF done n
 |0,_=>rfl
 |n+1,h=>by rw[dF,dF,leftN_out done n (by omega)];simp[jI,show n≠i by omega]
theorem gL{done:Nat->Bool}{i:Nat}(h:done i=false):∀n,i<n->dF (jI done i) n+1=dF done n
 |0,hn=>absurd hn (by omega)
 |n+1,hn=>by
  rw[dF,dF];by_cases e:i=n
  ·subst e;rw[leftN_out done i (Nat.le_refl _)];simp[jI,h]
  ·have:=gL h n (by omega);(have e2:jI done i n=done n:=by simp[jI,show n≠i by omega]);rw[e2];omega
theorem leftN_le(done:Nat->Bool):∀n,dF done n<=n
 |0=>Nat.le_refl _
 |n+1=>by have:=leftN_le done n;rw[dF];split<;>omega
theorem leftN_pos{done:Nat->Bool}{i n:Nat}(hi:i<n)(h:done i=false):0<dF done n:=by
 have:=gL h n hi;omega
structure mB (r:Rcp):Prop where
 files:aR r.inputs=true
 few:r.steps.length<=60
 steps:∀s,s∈r.steps->aM s=true
 once:nS r=false
 room:r.inputs.length+r.steps.length<=60
 out:aI r r.output=true
 srcs:∀s,s∈r.steps->∀x,x∈s.src->aI r x=true
 circ:kG r.steps=false
theorem lU{r:Rcp}(h:aU r=0):mB r:=by
 unfold aU at h;split at h
 ·cases h
 rename_i h1;split at h
 ·cases h
 rename_i h2;split at h
 ·cases h
 rename_i h3;split at h
 ·cases h
 rename_i h4;split at h
 ·cases h
 rename_i h5
 have e1:aR r.inputs=true/\¬60<r.steps.length/\(r.steps.any fun s=> !aM s)=false:=by
  rw[Bool.not_eq_true,Bool.or_eq_false_iff,Bool.or_eq_false_iff] at h1;exact⟨by simpa using h1.1.1,by simpa using h1.1.2,h1.2⟩
 have e4:aI r r.output=true/\(r.steps.any fun s=>s.src.any fun x=> !aI r x)=false:=by
  rw[Bool.not_eq_true,Bool.or_eq_false_iff] at h4;exact⟨by simpa using h4.1,h4.2⟩
 refine⟨e1.1,by omega,fun s hs=>?_,by simpa using h2,by omega,e4.1,fun s hs x hx=>?_,by simpa using h5⟩
 ·have:=List.any_eq_false.1 e1.2.2 s hs;simpa using this
 ·have:=List.any_eq_false.1 e4.2 s hs;rw[Bool.not_eq_true,List.any_eq_false] at this;have:=this x hx;simpa using this
theorem inspectE_of{r:Rcp}(h:mB r):aU r=0:=by
 have h3:(r.steps.any fun s=> !aM s)=false:=by rw[List.any_eq_false];intro s hs;simp[h.steps s hs]
 have h4:(r.steps.any fun s=>s.src.any fun x=> !aI r x)=false:=by
  rw[List.any_eq_false];intro s hs;simp only[List.any_eq_true,not_exists,not_and];intro x hx;simp[h.srcs s hs x hx]
 have h2:=h.few;have h5:=h.room;unfold aU;rw[h.files,h3,decide_eq_false (by omega),h.once,h.out,h4,h.circ];simp;omega
theorem twiceFrom_iff(r:Rcp):∀(n k:Nat),kJ r k n=true↔∃j s,k<=j/\j<k+n/\r.steps[j]? =some s/\lR r j s.out=true
 |0,k=>by
  constructor
  ·intro h;cases h
  ·rintro⟨j,s,h1,h2,-⟩;omega
 |n+1,k=>by
  rw[kJ,Bool.or_eq_true,twiceFrom_iff r n (k+1)];constructor
  ·rintro(h|⟨j,s,h1,h2,h3,h4⟩)
   ·cases hs:r.steps[k]? with
    |none=>rw[hs] at h;cases h
    |some s=>rw[hs] at h;exact⟨k,s,Nat.le_refl _,by omega,hs,h⟩
   ·exact⟨j,s,by omega,by omega,h3,h4⟩
  ·rintro⟨j,s,h1,h2,h3,h4⟩;by_cases e:j=k
   ·subst e;rw[h3];exact .inl h4
   ·exact .inr ⟨j,s,by omega,by omega,h3,h4⟩
theorem twice_iff(r:Rcp):nS r=true↔∃j s,r.steps[j]? =some s/\lR r j s.out=true:=by
 unfold nS;rw[twiceFrom_iff];constructor
 ·rintro⟨j,s,-,-,h3,h4⟩;exact⟨j,s,h3,h4⟩
 ·rintro⟨j,s,h3,h4⟩;exact⟨j,s,by omega,by have:=(List.getElem?_eq_some_iff.1 h3).1;omega,h3,h4⟩
section
variable {r:Rcp} (h:mB r) (h59:r.inputs.length+r.steps.length<60)
include h h59
omit h59 in
end
end Go.Proofs.YtacgopankhpnbaaGreatDoor
namespace Go.Proofs.YtacgopankhpnbaaGreatDoor
abbrev C0:ByteArray->Int×ByteArray:=fun _=>(0,ByteArray.empty)
def exInputs:List Fil:=[⟨⟨#[97]⟩,⟨#[120]⟩⟩,⟨⟨#[98]⟩,⟨#[121]⟩⟩]
def exSteps:List Stp:=[⟨1,[⟨#[98]⟩,⟨#[97]⟩],⟨#[99]⟩,false⟩,⟨4,[⟨#[99]⟩],⟨#[100]⟩,false⟩,⟨0,[⟨#[97]⟩],⟨#[101]⟩,false⟩]
def exR(output:ByteArray):Rcp:=⟨exInputs,exSteps,output⟩
theorem exRun:mE C0 (exR ⟨#[100]⟩) [7] [] [1]=.ok ([⟨2,[⟨#[120]⟩],⟨#[120]⟩⟩,⟨0,[⟨#[121]⟩,⟨#[120]⟩],⟨#[121,120]⟩⟩,⟨1,[⟨#[121,120]⟩],⟨#[121,120,55,59,10]⟩⟩],⟨#[121,120,55,59,10]⟩):=by kernel_rfl
theorem exOrder:orderL (exR ⟨#[100]⟩)=[0,1,2]:=by kernel_rfl
theorem exSliceD:bW (exR ⟨#[100]⟩)=[0,1]:=by kernel_rfl
theorem exSliceC:bW (exR ⟨#[99]⟩)=[0]:=by kernel_rfl
theorem exPureD:pureL (exR ⟨#[100]⟩)=false:=by kernel_rfl
theorem exPureC:pureL (exR ⟨#[99]⟩)=true:=by kernel_rfl
def gQ(out:List Int):Nat:=out.countP (fun x=>decide (x<0))
theorem negs_set{out:List Int}{k:Nat}{h:Int}(hk:k<out.length)(hn:out.getD k 0<0)(hh:0<=h):gQ (out.set k h)+1=gQ out:=by
 induction out generalizing k with
 |nil=>simp at hk
 |cons x out ih=>
  cases k with
  |zero=>
   simp at hn;simp[gQ,hn,hh]
  |succ k=>
   simp at hk hn;have:=ih hk (by simpa using hn);unfold gQ at this ⊢;rw[List.set_cons_succ,List.countP_cons,List.countP_cons];omega
theorem lookAt_end(n:Nat)(h:Int)(out todo:List Int):gK n h [] out todo=some (out,todo):=rfl
theorem lookAt_full{n:Nat}{h:Int}{r out todo:List Int}:gK n h ((n:Int)::r) out todo=none:=by rw[gK,if_pos rfl]
theorem lookAt_new{n:Nat}{h k:Int}{r out todo:List Int}(h1:k≠n)(h2:out.getD k.toNat 0<0):gK n h (k::r) out todo=gK n h r (out.set k.toNat h) (todo++[k]):=by rw[gK,if_neg h1,if_pos h2]
theorem lookAt_bad{n:Nat}{h k:Int}{r out todo:List Int}(h1:k≠n)(h2:¬out.getD k.toNat 0<0)(h3:out.getD k.toNat 0≠h):gK n h (k::r) out todo=none:=by rw[gK,if_neg h1,if_neg h2,if_pos h3]
theorem lookAt_same{n:Nat}{h k:Int}{r out todo:List Int}(h1:k≠n)(h2:¬out.getD k.toNat 0<0)(h3:¬out.getD k.toNat 0≠h):gK n h (k::r) out todo=gK n h r out todo:=by rw[gK,if_neg h1,if_neg h2,if_neg h3]
theorem behind_range{c:Cod}{i:Ins}{k:Nat}(hf:bS c i=true)(hk:k<c.code.length):∀x∈kA i k,0<=x/\x<=c.code.length:=by
 intro x hx;unfold kA at hx;split at hx
 ·cases hx
 split at hx
 ·rename_i CS;simp at hx;subst hx
  have:0<=i.a/\i.a<c.code.length:=by
   unfold bS at hf;simp[CS] at hf;omega
  omega
 split at hx
 ·rename_i h11
  have:0<=i.a/\i.a<c.code.length:=by
   unfold bS at hf;simp[h11] at hf;omega
  simp at hx;rcases hx with rfl|rfl<;>omega
 ·simp at hx;subst hx;omega
theorem needs_range{c:Cod}{i:Ins}(hf:bS c i=true):0<=(jT i).1/\(jT i).1<=8/\0<=(jT i).2/\(jT i).2<=1:=by
 unfold jT;split
 ·simp
 split
 ·simp
 split
 ·simp
 split
 ·rename_i CR
  have:i.names.length<=8:=by
   unfold bS at hf;simp[CR] at hf;omega
  simp;omega
 split
 ·rename_i h14
  have:0<=i.a/\i.a<=6:=by
   unfold bS at hf;simp[h14] at hf;omega
  simp;omega
 split
 ·simp
 ·simp
theorem formed_op{c:Cod}{i:Ins}(hf:bS c i=true):0<=i.op/\i.op<20:=by
 unfold bS at hf;simp only at hf
 repeat' split at hf
 all_goals first|omega|(simp at hf)
end Go.Proofs.YtacgopankhpnbaaGreatDoor
