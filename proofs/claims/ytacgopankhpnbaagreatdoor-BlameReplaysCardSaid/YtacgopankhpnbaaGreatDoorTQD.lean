/- Texts of this seat, joined. -/
import Derived.Test.YtacgopankhpnbaaGreatDoorTQA
import Derived.Lib.ItoaNum
import Derived.Lib.Split
import Derived.Lib.Join
set_option linter.unusedVariables false
set_option linter.unusedSimpArgs false
namespace Go.Proofs.YtacgopankhpnbaaGreatDoor
def rL(c:UInt8):Bool:=decide (33<=(c.toNat:Int))&&decide ((c.toNat:Int)<=126)
def eV(s:bA):Bool:=s.data.toList.all rL&& !s.toList.isEmpty&&decide (s.size<=20)
structure Stp where
 kind:Int
 src:List bA
 out:bA
 sorted:Bool
structure Fil where
 name:bA
 text:bA
def aM(s:Stp):Bool:=
 if(!eV s.out||s.src.any fun x=> !eV x) then false
 else if s.kind=2 then decide (s.src.length<=60)
 else if s.kind=1 then decide (s.src.length<=60)&& !s.sorted
 else if s.kind=0\/s.kind=3\/s.kind=4\/s.kind=5 then decide (s.src.length=1)&& !s.sorted
 else false
def bZ(s:Stp):Bool:=aM s&&decide (s.kind≠4)&&(decide (s.kind≠2)||s.sorted)
def dQ:List Fil->List bA->Bool
 |[],_=>true
 |f::r,known=>if(known.any fun x=>decide (x=f.name))|| !eV f.name||decide (65536<f.text.size) then false else dQ r (f.name::known)
def aT(l:List Fil):Bool:=dQ l []&&decide (l.length<=60)
def aI(l:List Fil)(name:bA):Option bA:=(l.find? fun f=>decide (f.name=name)).map (·.text)
def jM(l:List bA):List UInt8:=l.flatMap fun s=>s.data.toList++[10]
def rE(l:List bA):bA:=⟨(jM l).toArray⟩
def fQ(l:List bA):List bA:=((l.map (·.data.toList)).mergeSort fun x y=>decide (x<=y)).map fun x=>⟨x.toArray⟩
def nl:bA:=⟨#[10]⟩
def nO(text:bA):List bA:=
 Lib.splitB nl 0 (Lib.countB ⟨(Lib.trimSuffix text.data.toList [10]).toArray⟩ nl) ⟨(Lib.trimSuffix text.data.toList [10]).toArray⟩
def eF(text:bA):List bA:=if text.toList.isEmpty then[] else fQ (nO text)
def gU(x:Int)(n:Nat):Nat:=(x % (n:Int)).toNat
def eT(order:List Int):Nat->Nat->List bA->List bA
 |0,_,_=>[]
 |f+1,u,left=>match left[gU (order.getD u 0) left.length]? with
  |none=>[]
  |some x=>x::eT order f (u+1) (left.eraseIdx (gU (order.getD u 0) left.length))
def joinB(l:List bA):bA:=⟨(Lib.join (l.map (·.data.toList)) []).toArray⟩
def qE(n:Int):bA:=⟨(Lib.itoa n++[59]).toArray⟩
structure Tok where
 kind:Int
 text:bA
 n:Int
 pos:Int
def jY(c:UInt8):Bool:=decide (c.toNat=32)||decide (c.toNat=9)||decide (c.toNat=10)
def kB(c:UInt8):Bool:=decide (97<=c.toNat)&&decide (c.toNat<=122)
def dO(c:UInt8):Bool:=decide (48<=c.toNat)&&decide (c.toNat<=57)
def lV(c:UInt8):Bool:=kB c||dO c
def dX(p:UInt8->Bool)(l:List UInt8):Nat:=(l.takeWhile p).length
def lA(s:bA)(n:Nat):bA:=s.extract 0 n
def iU(s:bA)(n:Nat):bA:=s.extract n s.size
def lO(s:bA):Bool:=match s.data.toList with
 |[]=>false
 |c::_=>kB c&&decide (s.size<=20)&&s.data.toList.all lV
def kL(l:List UInt8):Nat:=l.foldl (fun n c=>10*n+(c.toNat-48)) 0
def kJ(s:bA):Option Nat:=match s.data.toList with
 |[]=>none
 |c::_=>if s.data.toList.all dO&& !(decide (c.toNat=48)&&decide (s.size≠1))&&decide (s.size<=13)&&decide (kL s.data.toList<=1099511627776) then some (kL s.data.toList) else none
def gL:List bA:=[⟨#[61,61]⟩,⟨#[59]⟩,⟨#[44]⟩,⟨#[61]⟩,⟨#[60]⟩,⟨#[43]⟩,⟨#[45]⟩,⟨#[42]⟩,⟨#[46]⟩,⟨#[33]⟩,⟨#[40]⟩,⟨#[41]⟩,⟨#[123]⟩,⟨#[125]⟩]
def oP(s x:bA):Bool:=x.data.toList.isPrefixOf s.data.toList
def gV(s:bA):Except Int (Int×bA×Int):=match s.data.toList with
 |[]=>.error 10
 |c::_=>
  if kB c then(if lO (lA s (dX lV s.data.toList)) then .ok (0,lA s (dX lV s.data.toList),0) else .error 12)
  else if dO c then(match kJ (lA s (dX dO s.data.toList)) with
   |some n=>.ok (1,lA s (dX dO s.data.toList),n)
   |none=>.error 3)
  else match gL.find? (oP s) with
   |some x=>.ok (2,x,0)
   |none=>.error 10
def jI(s:bA):Nat->Nat->List Tok->Except (Int×Int) (List Tok)
 |0,_,out=>.ok out
 |f+1,i,out=>
  if i+dX jY (iU s i).data.toList=s.size then .ok (out++[⟨3,⟨#[]⟩,0,s.size⟩])
  else match gV (iU s (i+dX jY (iU s i).data.toList)) with
   | .error e=>.error ((i+dX jY (iU s i).data.toList:Nat),e)
   | .ok (k,t,n)=>jI s f (i+dX jY (iU s i).data.toList+t.size) (out++[⟨k,t,n,(i+dX jY (iU s i).data.toList:Nat)⟩])
def lexL(s:bA):Except (Int×Int) (List Tok):=if 8000<s.size then .error (0,6) else jI s (s.size+1) 0 []
inductive Xp where
 |mk (op n:Int) (s m:bA) (names:List bA) (args:List Xp)
inductive Ty where
 |mk (kind:Int) (fields:List (bA×Ty))
abbrev Fld:=bA×Ty
structure Fnc where
 name:bA
 pub:Bool
 params:List Fld
 result:Ty
 effects:Int
 body:Xp
structure Mdl where
 name:bA
 uses:List bA
 vars:List Fld
 init:List Xp
 funcs:List Fnc
 moves:Bool
 old:List Fld
 forward:List Xp
 back:List Xp
abbrev bs(l:List UInt8):bA:=⟨l.toArray⟩
abbrev mB:bA:=bs [32,97,110,100,32,98,97,99,107,32,98,111,111,108,32,99,108,111,99,107,32,101,108,115,101,32,102,97,108,115,101,32,102,105,108,101,115,32,102,110,32,102,111,114,119,97,114,100,32,103,101,116,32,105,102,32,105,110,32,105,110,116,32,108,101,116,32,109,111,100,117,108,101,32,109,111,118,101,32,110,101,116,32,110,111,116,32,111,114,32,112,117,98,32,115,101,99,114,101,116,115,32,115,101,116,32,116,104,101,110,32,116,114,117,101,32,117,115,101,32,118,97,114,32]
def aR(s:bA):Bool:=lO s&& !Lib.contains mB.data.toList ((bs [32]++s)++bs [32]).data.toList
def dJ(s:bA):Int:=if s=bs [102,105,108,101,115] then 1 else if s=bs [110,101,116] then 2 else if s=bs [99,108,111,99,107] then 4 else if s=bs [115,101,99,114,101,116,115] then 8 else 0
abbrev PR(α:Type):=Except (Int×Int) (α×Nat)
def aJ(l:List Tok)(i:Nat):Tok:=l.getD i ⟨3,⟨#[]⟩,0,0⟩
def lF{α:Type}(l:List Tok)(i:Nat)(e:Int):PR α:=.error ((aJ l i).pos,e)
def isP(l:List Tok)(i:Nat)(s:bA):Bool:=decide ((aJ l i).kind≠3)&&decide ((aJ l i).text=s)
def dM(l:List Tok)(i:Nat):Bool:=decide ((aJ l i).kind=0)&&aR (aJ l i).text
def dP(l:List Tok)(i:Nat)(s:bA):PR Unit:=if isP l i s then .ok ((),i+1) else lF l i 11
def nW(l:List Tok)(i:Nat)(fits:Bool)(s:bA):PR Unit:=if isP l i s then(if fits then .ok ((),i+1) else lF l i 6) else lF l i 11
def gN(l:List Tok)(i:Nat):PR bA:=if dM l i then .ok ((aJ l i).text,i+1) else lF l i 11
def iY(l:List Tok)(i:Nat)(known:bA->Bool):PR bA:=if dM l i then(if known (aJ l i).text then lF l i 5 else .ok ((aJ l i).text,i+1)) else lF l i 11
def gtB(a b:bA):Bool:= !(Op.bytesLess a.toList b.toList||a.toList==b.toList)
def gQ(l:List Tok)(i:Nat)(than:bA)(any:Bool):PR bA:=
 if dM l i then(if any&&decide ((aJ l i).text=than) then lF l i 5 else if any&& !gtB (aJ l i).text than then lF l i 12 else .ok ((aJ l i).text,i+1)) else lF l i 11
def iM(l:List Tok)(i:Nat)(have_ most:Nat):PR Unit:=if have_<most then .ok ((),i) else lF l i 6
abbrev kIf:bA:=bs [105,102]
abbrev kThen:bA:=bs [116,104,101,110]
abbrev kElse:bA:=bs [101,108,115,101]
abbrev kLet:bA:=bs [108,101,116]
abbrev kEq:bA:=bs [61]
abbrev kIn:bA:=bs [105,110]
abbrev kSet:bA:=bs [115,101,116]
abbrev kNot:bA:=bs [110,111,116]
abbrev eA:bA:=bs [116,114,117,101]
abbrev cY:bA:=bs [102,97,108,115,101]
abbrev jJ:bA:=bs [103,101,116]
abbrev cO:bA:=bs [40]
abbrev mD:bA:=bs [41]
abbrev cL:bA:=bs [123]
abbrev iQ:bA:=bs [125]
abbrev kDot:bA:=bs [46]
abbrev bT:bA:=bs [44]
abbrev mE:bA:=bs [59]
abbrev kOr:bA:=bs [111,114]
abbrev kAnd:bA:=bs [97,110,100]
abbrev kEqEq:bA:=bs [61,61]
abbrev kLess:bA:=bs [60]
abbrev kPlus:bA:=bs [43]
abbrev kMinus:bA:=bs [45]
abbrev kStar:bA:=bs [42]
abbrev kIntW:bA:=bs [105,110,116]
abbrev kBool:bA:=bs [98,111,111,108]
abbrev kModule:bA:=bs [109,111,100,117,108,101]
abbrev kUse:bA:=bs [117,115,101]
abbrev kVar:bA:=bs [118,97,114]
abbrev kPub:bA:=bs [112,117,98]
abbrev kFn:bA:=bs [102,110]
abbrev kMove:bA:=bs [109,111,118,101]
abbrev kForward:bA:=bs [102,111,114,119,97,114,100]
abbrev kBack:bA:=bs [98,97,99,107]
abbrev rO:bA:=bs [33]
abbrev kFiles:bA:=bs [102,105,108,101,115]
abbrev kNet:bA:=bs [110,101,116]
abbrev kClock:bA:=bs [99,108,111,99,107]
abbrev kSecrets:bA:=bs [115,101,99,114,101,116,115]
abbrev noB:bA:=⟨#[]⟩
def PR.bnd{α β:Type}(m:PR α)(k:α->Nat->PR β):PR β:=match m with
 | .error x=>.error x
 | .ok (a,j)=>k a j
def pG:List (bA×Int×Nat):=[(kOr,9,1),(kAnd,8,2),(kEqEq,7,4),(kLess,6,4),(kPlus,3,5),(kMinus,4,5),(kStar,5,6)]
def operAt(l:List Tok)(i:Nat):Option (bA×Int×Nat):=pG.find? fun o=>isP l i o.1
mutual
def cP:Xp->Nat
 | .mk _ _ _ _ _ args=>eU args+1
def eU:List Xp->Nat
 |[]=>0
 |x::r=>max (cP x) (eU r)
end
mutual
def cI:Ty->Nat
 | .mk _ fields=>dD fields+1
def dD:List (bA×Ty)->Nat
 |[]=>0
 |(_,t)::r=>max (cI t) (dD r)
end
abbrev RecP:=Nat->Nat->PR Xp
section
variable (l:List Tok) (rec:RecP)
def qQ:Nat->Xp->Nat->PR Xp
 |0,e,i=>.ok (e,i)
 |f+1,e,i=>if isP l i kDot then(gN l (i+1)).bnd fun s j=>qQ f (.mk 14 0 s noB [] [e]) j else .ok (e,i)
def opsP(form:Nat):Nat->Nat->Xp->Nat->PR Xp
 |0,_,e,i=>.ok (e,i)
 |f+1,own,e,i=>match operAt l i with
  |none=>.ok (e,i)
  |some (_,op,fm)=>if fm<form\/own<fm\/(own=4/\fm=4) then .ok (e,i)
   else(rec (fm+1) (i+1)).bnd fun b j=>opsP form f fm (.mk op 0 noB noB [] [e,b]) j
def gX(i:Nat):Bool:=isP l i kDot&&decide (i+2<l.length)&&decide ((aJ l (i+1)).kind=0)&&aR (aJ l (i+1)).text&&decide ((aJ l (i+2)).kind=2)&&decide ((aJ l (i+2)).text=cO)
def jK(i:Nat):Bool:=
 if(aJ l i).kind=1 then true
 else if(aJ l i).kind=2 then decide ((aJ l i).text=cO)||decide ((aJ l i).text=cL)
 else if(aJ l i).kind=3 then false
 else([kIf,kLet,kSet,kNot,eA,cY,jJ].any fun s=>decide ((aJ l i).text=s))||decide (dJ (aJ l i).text≠0)||aR (aJ l i).text
def cR:Nat->List Xp->Nat->PR (List Xp)
 |0,out,i=>.ok (out,i)
 |f+1,out,i=>(if jK l i then iM l i out.length 6 else .ok ((),i)).bnd fun _ _=>(rec 0 i).bnd fun e j=>
  if isP l j bT then cR f (out++[e]) (j+1) else(dP l j mD).bnd fun _ k=>.ok (out++[e],k)
def kU(i:Nat):PR (List Xp):=(dP l i cO).bnd fun _ j=>if isP l j mD then .ok ([],j+1) else cR l rec (l.length+1) [] j
def eC:Nat->List bA->List Xp->bA->Nat->PR Xp
 |0,names,args,_,i=>.ok (.mk 13 0 noB noB names args,i)
 |f+1,names,args,last,i=>(if dM l i then iM l i names.length 8 else .ok ((),i)).bnd fun _ _=>(gQ l i last (decide (0<names.length))).bnd fun s j=>(dP l j kEq).bnd fun _ j2=>(rec 0 j2).bnd fun e j3=>
  if isP l j3 bT then eC f (names++[s]) (args++[e]) s (j3+1) else(dP l j3 iQ).bnd fun _ k=>.ok (.mk 13 0 noB noB (names++[s]) (args++[e]),k)
def mO(i:Nat):PR Xp:=if isP l i iQ then .ok (.mk 13 0 noB noB [] [],i+1) else eC l rec (l.length+1) [] [] noB i
def callP(s:bA)(j:Nat):PR Xp:=
 if isP l j cO then(kU l rec j).bnd fun as k=>.ok (.mk 15 0 s noB [] as,k)
 else if gX l j then(gN l (j+1)).bnd fun f k=>(kU l rec k).bnd fun as k2=>.ok (.mk 15 0 f s [] as,k2)
 else .ok (.mk 2 0 s noB [] [],j)
def parenP(i:Nat):PR Xp:=(rec 0 i).bnd fun e j=>(dP l j mD).bnd fun _ k=>.ok (e,k)
def aV(i:Nat):PR Xp:=
 if(aJ l i).kind=1 then .ok (.mk 0 (aJ l i).n noB noB [] [],i+1)
 else if isP l i eA then .ok (.mk 1 1 noB noB [] [],i+1)
 else if isP l i cY then .ok (.mk 1 0 noB noB [] [],i+1)
 else if isP l i jJ then(gN l (i+1)).bnd fun s j=>.ok (.mk 17 0 s noB [] [],j)
 else if(aJ l i).kind=0/\dJ (aJ l i).text≠0 then(dP l (i+1) cO).bnd fun _ j=>(parenP l rec j).bnd fun e k=>.ok (.mk 16 (dJ (aJ l i).text) noB noB [] [e],k)
 else if isP l i cL then mO l rec (i+1)
 else if isP l i cO then parenP l rec (i+1)
 else(gN l i).bnd fun s j=>callP l rec s j
def dB(form i:Nat):PR (Xp×Nat):=
 if form=0/\isP l i kIf=true then(rec 0 (i+1)).bnd fun a j=>(dP l j kThen).bnd fun _ j2=>(rec 0 j2).bnd fun b j3=>(dP l j3 kElse).bnd fun _ j4=>(rec 0 j4).bnd fun c j5=>.ok ((.mk 11 0 noB noB [] [a,b,c],0),j5)
 else if form=0/\isP l i kLet=true then(gN l (i+1)).bnd fun s j=>(dP l j kEq).bnd fun _ j2=>(rec 0 j2).bnd fun a j3=>(dP l j3 kIn).bnd fun _ j4=>(rec 0 j4).bnd fun b j5=>.ok ((.mk 12 0 s noB [] [a,b],0),j5)
 else if form=0/\isP l i kSet=true then(gN l (i+1)).bnd fun s j=>(rec 0 j).bnd fun a j2=>.ok ((.mk 18 0 s noB [] [a],0),j2)
 else if form<=3/\isP l i kNot=true then(rec 3 (i+1)).bnd fun a j=>.ok ((.mk 10 0 noB noB [] [a],3),j)
 else(aV l rec i).bnd fun e j=>.ok ((e,8),j)
end
def bX(l:List Tok):Nat->RecP
 |0,_,i=>lF l i 11
 |f+1,form,i=>(dB l (bX l f) form i).bnd fun r j=>
  (if 7<=r.2 then qQ l (l.length+1) r.1 j else .ok (r.1,j)).bnd fun e k=>opsP l (bX l f) form (l.length+1) r.2 e k
def expAllP(l:List Tok)(form i:Nat):PR Xp:=bX l (l.length+1) form i
section
variable (l:List Tok)
def moreP(i:Nat)(t:Ty)(e:bA):PR Bool:=if isP l i bT then(nW l i (decide (cI t<=4)) bT).bnd fun _ j=>.ok (false,j) else(nW l i (decide (cI t<=4)) e).bnd fun _ j=>.ok (true,j)
def fF(rec:Nat->PR Ty):Nat->List Fld->Nat->PR Ty
 |0,fs,i=>.ok (.mk 2 fs,i)
 |f+1,fs,i=>(if dM l i then iM l i fs.length 8 else .ok ((),i)).bnd fun _ _=>(gQ l i ((fs.getLast?.map (·.1)).getD noB) (decide (0<fs.length))).bnd fun s j=>(rec j).bnd fun t j2=>(moreP l j2 t iQ).bnd fun q j3=>
  if q then .ok (.mk 2 (fs++[(s,t)]),j3) else fF rec f (fs++[(s,t)]) j3
def gJ:Nat->Nat->PR Ty
 |0,i=>lF l i 11
 |f+1,i=>if isP l i kIntW then .ok (.mk 0 [],i+1) else if isP l i kBool then .ok (.mk 1 [],i+1)
  else(dP l i cL).bnd fun _ j=>if isP l j iQ then .ok (.mk 2 [],j+1) else fF l (gJ f) (l.length+1) [] j
def lX(i:Nat):PR Ty:=gJ l (l.length+1) i
def eM(most:Nat):Nat->List Fld->Nat->PR (List Fld)
 |0,fs,i=>.ok (fs,i)
 |f+1,fs,i=>(if dM l i then iM l i fs.length most else .ok ((),i)).bnd fun _ _=>(iY l i (fun s=>fs.any fun x=>decide (x.1=s))).bnd fun s j=>(lX l j).bnd fun t j2=>(moreP l j2 t mD).bnd fun q j3=>
  if q then .ok (fs++[(s,t)],j3) else eM most f (fs++[(s,t)]) j3
def lJ(most i:Nat):PR (List Fld):=(dP l i cO).bnd fun _ j=>if isP l j mD then .ok ([],j+1) else eM l most (l.length+1) [] j
def nU(i:Nat)(e:bA):PR Xp:=(expAllP l 0 i).bnd fun x j=>(nW l j (decide (cP x<=12)) e).bnd fun _ k=>.ok (x,k)
def kG(e:bA):Nat->List Xp->Nat->PR (List Xp)
 |0,out,i=>(nU l i e).bnd fun x j=>.ok (out++[x],j)
 |n+1,out,i=>(nU l i bT).bnd fun x j=>kG e n (out++[x]) j
def jF(n i:Nat)(e:bA):PR (List Xp):=match n with
 |0=>(dP l i e).bnd fun _ j=>.ok ([],j)
 |n+1=>kG l e n [] i
def eS:List (bA×Int)->Int->Nat->Int×Nat
 |[],n,i=>(n,i)
 |(s,b)::r,n,i=>if isP l i s then eS r (n+b) (i+1) else eS r n i
def gW:List (bA×Int):=[(kFiles,1),(kNet,2),(kClock,4),(kSecrets,8)]
def bangP(i:Nat)(fits:Bool):PR (Int×Bool):=if isP l i rO then(nW l i fits rO).bnd fun _ j=>if(eS l gW 0 j).1≠0 then .ok (((eS l gW 0 j).1,true),(eS l gW 0 j).2) else lF l (eS l gW 0 j).2 11 else .ok ((0,fits),i)
def oU(i:Nat)(known:bA->Bool):PR Fnc:=
 (dP l (if isP l i kPub then i+1 else i) kFn).bnd fun _ j=>(iY l j known).bnd fun name j2=>(lJ l 6 j2).bnd fun ps j3=>(lX l j3).bnd fun t j4=>(bangP l j4 (decide (cI t<=4))).bnd fun ef j5=>
  (nW l j5 ef.2 kEq).bnd fun _ j6=>(nU l j6 mE).bnd fun e j7=>.ok (⟨name,isP l i kPub,ps,t,ef.1,e⟩,j7)
def jL:Nat->List bA->Nat->PR (List bA)
 |0,out,i=>.ok (out,i)
 |f+1,out,i=>if isP l i kUse then(iM l i out.length 12).bnd fun _ _=>(iY l (i+1) (fun s=>out.any fun x=>decide (x=s))).bnd fun s j=>(dP l j mE).bnd fun _ k=>jL f (out++[s]) k else .ok (out,i)
def kH:Nat->List Fld->List Xp->Nat->PR (List Fld×List Xp)
 |0,vs,es,i=>.ok ((vs,es),i)
 |f+1,vs,es,i=>if isP l i kVar then(iM l i vs.length 8).bnd fun _ _=>(iY l (i+1) (fun s=>vs.any fun x=>decide (x.1=s))).bnd fun s j=>(lX l j).bnd fun t j2=>(nW l j2 (decide (cI t<=4)) kEq).bnd fun _ j3=>(nU l j3 mE).bnd fun e k=>kH f (vs++[(s,t)]) (es++[e]) k else .ok ((vs,es),i)
def hU:Nat->List Fnc->Nat->PR (List Fnc)
 |0,fs,i=>.ok (fs,i)
 |f+1,fs,i=>if isP l i kPub||isP l i kFn then(iM l i fs.length 30).bnd fun _ _=>(oU l i (fun s=>fs.any fun x=>decide (x.name=s))).bnd fun x k=>hU f (fs++[x]) k else .ok (fs,i)
def moveP(n i:Nat):PR (Bool×List Fld×List Xp×List Xp):=if isP l i kMove then(lJ l 8 (i+1)).bnd fun old j=>(dP l j kForward).bnd fun _ j2=>(jF l n j2 kBack).bnd fun fw j3=>(jF l old.length j3 mE).bnd fun bk k=>.ok ((true,old,fw,bk),k) else .ok ((false,[],[],[]),i)
def iD:PR Mdl:=(dP l 0 kModule).bnd fun _ i=>(gN l i).bnd fun name i2=>(dP l i2 mE).bnd fun _ i3=>(jL l (l.length+1) [] i3).bnd fun us i4=>(kH l (l.length+1) [] [] i4).bnd fun ve i5=>
 (hU l (l.length+1) [] i5).bnd fun fs i6=>(moveP l ve.1.length i6).bnd fun mv i7=>if(aJ l i7).kind=3 then .ok (⟨name,us,ve.1,ve.2,fs,mv.1,mv.2.1,mv.2.2.1,mv.2.2.2⟩,i7) else lF l i7 11
end
def pF(s:bA):Except (Int×Int) Mdl:=match lexL s with
 | .error e=>.error e
 | .ok l=>match iD l with
  | .error e=>.error e
  | .ok (m,_)=>.ok m
end Go.Proofs.YtacgopankhpnbaaGreatDoor
namespace Go.Proofs.YtacgopankhpnbaaGreatDoor
def jP(p:Ty->Bool):Option bA->List Fld->Bool
 |_,[]=>true
 |before,(n,t)::r=>aR n&&(match before with|none=>true|some b=>gtB n b)&&p t&&jP p (some n) r
def cK:Nat->Ty->Bool
 |0,_=>false
 |d+1,.mk k fs=>decide (0<=k)&&decide (k<3)&&decide (fs.length<=8)&&(decide (k=2)||decide (fs.length=0))&&jP (cK d) none fs
def cleanX:Xp->(Int×bA×bA×List bA)×Int
 | .mk op n s m names _=>
  if op=0\/op=1 then((n,noB,noB,[]),0)
  else if op=2\/op=17 then((0,s,noB,[]),0)
  else if op=18\/op=14 then((0,s,noB,[]),1)
  else if op=16 then((n,noB,noB,[]),1)
  else if op=10 then((0,noB,noB,[]),1)
  else if op=12 then((0,s,noB,[]),2)
  else if op=11 then((0,noB,noB,[]),3)
  else if op=13 then((0,noB,noB,names),names.length)
  else if op=15 then((0,s,m,[]),-1)
  else((0,noB,noB,[]),2)
def qN:Option bA->List bA->Bool
 |_,[]=>true
 |before,n::r=>aR n&&(match before with|none=>true|some b=>gtB n b)&&qN (some n) r
def iW:Xp->Bool
 | .mk op n s m names args=>
  if op=0 then decide (0<=n)&&decide (n<=1099511627776)
  else if op=1 then decide (n=0)||decide (n=1)
  else if op=16 then decide (n=1)||decide (n=2)||decide (n=4)||decide (n=8)
  else if op=2\/op=17\/op=18\/op=14\/op=12 then aR s
  else if op=15 then aR s&&(decide (m=noB)||aR m)&&decide (args.length<=6)
  else if op=13 then qN none names&&decide (names.length<=8)
  else true
def aW:Nat->Xp->Bool
 |0,_=>false
 |d+1,.mk op n s m names args=>
  decide (0<=op)&&decide (op<19)&&
  (decide ((cleanX (.mk op n s m names args)).2<0)||decide ((cleanX (.mk op n s m names args)).2=args.length))&&
  decide ((cleanX (.mk op n s m names args)).1.1=n)&&decide ((cleanX (.mk op n s m names args)).1.2.1=s)&&decide ((cleanX (.mk op n s m names args)).1.2.2.1=m)&&
  decide ((cleanX (.mk op n s m names args)).1.2.2.2.length=names.length)&&iW (.mk op n s m names args)&&args.all (aW d)
def dK:List Fld->List bA->Bool
 |[],_=>true
 |(n,t)::r,known=>if(known.any fun x=>decide (x=n))|| !aR n|| !cK 4 t then false else dK r (n::known)
def eH(l:List Fld)(most:Nat):Bool:=dK l []&&decide (l.length<=most)
def fZ(l:List Xp)(n:Nat):Bool:=l.all (aW 12)&&decide (l.length=n)
def gH:List bA->List bA->Bool
 |[],_=>true
 |n::r,known=>if(known.any fun x=>decide (x=n))|| !aR n then false else gH r (n::known)
def effOk(e:Int):Bool:=decide (Go.bits .andNot .i64 e 15=0)
def qJ(f:Fnc):Bool:=eH f.params 6&&cK 4 f.result&&aW 12 f.body&&effOk f.effects
def eK:List Fnc->List bA->Bool
 |[],_=>true
 |f::r,known=>if(known.any fun x=>decide (x=f.name))|| !aR f.name|| !qJ f then false else eK r (f.name::known)
def rightM(m:Mdl):Bool:=
 gH m.uses []&&eK m.funcs []&&aR m.name&&decide (m.uses.length<=12)&&decide (m.funcs.length<=30)&&eH m.vars 8&&fZ m.init m.vars.length&&
 (m.moves||decide (m.old.length=0))&&eH m.old 8&&fZ m.forward (if m.moves then m.vars.length else 0)&&fZ m.back m.old.length
structure Ins where
 op:Int
 a:Int
 s:bA
 m:bA
 names:List bA
structure Cod where
 name:bA
 params:Nat
 locals:Nat
 code:List Ins
structure Cmp where
 code:List Ins
 locals:Nat
def Cmp.put(c:Cmp)(i:Ins):Cmp:=⟨c.code++[i],c.locals⟩
def Cmp.fix(c:Cmp)(k:Nat):Cmp:=⟨c.code.modify k (fun i=>{i with a:=c.code.length}),c.locals⟩
def eG(names:List bA)(s:bA):Int:=match names with
 |[]=> -1
 |x::r=>if 0<=eG r s then eG r s+1 else if x=s then 0 else -1
def kI(vars:List bA)(s:bA):Int:=match vars.findIdx? (fun x=>decide (x=s)) with
 |some k=>k
 |none=> -1
def ins(op a:Int):Ins:=⟨op,a,noB,noB,[]⟩
def gD(vars:List bA):Xp->Ins
 | .mk op n s m names args=>
  if op=3 then ins 4 0 else if op=4 then ins 5 0 else if op=5 then ins 6 0 else if op=6 then ins 7 0 else if op=7 then ins 8 0 else if op=10 then ins 9 0
  else if op=13 then⟨12,0,noB,noB,names⟩
  else if op=14 then⟨13,0,s,noB,[]⟩
  else if op=15 then⟨14,args.length,s,m,[]⟩
  else if op=16 then ins 15 n
  else ins 17 (kI vars s)
def iG(yes no:Cmp->Cmp)(c:Cmp):Cmp:=
 let c2:=yes (c.put (ins 11 0));let c3:=(c2.put (ins 10 0)).fix c.code.length
 (no c3).fix c2.code.length
def bH(vars:List bA):Nat->List bA->Xp->Cmp->Cmp
 |0,_,_,c=>c
 |d+1,names,.mk op n s m ns args,c=>
  if op=0 then c.put (ins 0 n)
  else if op=1 then c.put (ins 1 n)
  else if op=2 then c.put (ins 2 (eG names s))
  else if op=17 then c.put (ins 16 (kI vars s))
  else if op=8 then match args with
   |[x,y]=>iG (bH vars d names y) (fun c=>c.put (ins 1 0)) (bH vars d names x c)
   |_=>c
  else if op=9 then match args with
   |[x,y]=>iG (fun c=>c.put (ins 1 1)) (bH vars d names y) (bH vars d names x c)
   |_=>c
  else if op=11 then match args with
   |[x,y,z]=>iG (bH vars d names y) (bH vars d names z) (bH vars d names x c)
   |_=>c
  else if op=12 then match args with
   |[x,y]=>
    let c1:=(bH vars d names x c).put (ins 3 names.length)
    bH vars d (names++[s]) y ⟨c1.code,max c1.locals (names.length+1)⟩
   |_=>c
  else(args.foldl (fun c x=>bH vars d names x c) c).put (gD vars (.mk op n s m ns args))
def compF(vars:List bA)(f:Fnc):Cod:=
 let c:=(bH vars 12 (f.params.map (·.1)) f.body ⟨[],f.params.length⟩).put (ins 18 0)
 ⟨f.name,f.params.length,c.locals,c.code⟩
def kM(m:Mdl):List Cod:=if rightM m then m.funcs.map (compF (m.vars.map (·.1))) else[]
def pW:Option bA->List bA->Bool
 |_,[]=>true
 |before,n::r=>aR n&&(match before with|none=>true|some b=>Op.bytesLess b.toList n.toList)&&pW (some n) r
def cE(c:Cod)(i:Ins):Bool:=
 let none_:=decide (i.names.length=0);let noS:=decide (i.s=noB);let noM:=decide (i.m=noB);let noA:=decide (i.a=0)
 if i.op=0 then noS&&noM&&none_
 else if i.op=1 then(decide (i.a=0)||decide (i.a=1))&&noS&&noM&&none_
 else if i.op=2\/i.op=3 then(decide (0<=i.a)&&decide (i.a<c.locals))&&noS&&noM&&none_
 else if i.op=10\/i.op=11 then(decide (0<=i.a)&&decide (i.a<c.code.length))&&noS&&noM&&none_
 else if i.op=16\/i.op=17 then(decide (0<=i.a)&&decide (i.a<8))&&noS&&noM&&none_
 else if i.op=15 then(decide (i.a=1)||decide (i.a=2)||decide (i.a=4)||decide (i.a=8))&&noS&&noM&&none_
 else if i.op=13 then aR i.s&&noA&&noM&&none_
 else if i.op=14 then(decide (0<=i.a)&&decide (i.a<=6)&&aR i.s&&(decide (i.m=noB)||aR i.m))&&none_
 else if i.op=12 then(pW none i.names&&decide (i.names.length<=8))&&noA&&noS&&noM
 else if i.op=4\/i.op=5\/i.op=6\/i.op=7\/i.op=8\/i.op=9\/i.op=18\/i.op=19 then noA&&noS&&noM&&none_
 else false
def lB(i:Ins):Int×Int:=
 if i.op=0\/i.op=1\/i.op=2\/i.op=16 then(0,1)
 else if i.op=4\/i.op=5\/i.op=6\/i.op=7\/i.op=8 then(2,1)
 else if i.op=9\/i.op=13\/i.op=15\/i.op=17 then(1,1)
 else if i.op=12 then(i.names.length,1)
 else if i.op=14 then(i.a,1)
 else if i.op=10 then(0,0)
 else(1,0)
def lL(i:Ins)(k:Int):List Int:=
 if i.op=18 then[] else if i.op=10 then[i.a] else if i.op=11 then[k+1,i.a] else[k+1]
def pM(l:List Ins)(k:Nat):Ins:=l.getD k ⟨19,0,noB,noB,[]⟩
def iL(n:Nat)(h:Int):List Int->List Int->List Int->Option (List Int×List Int)
 |[],out,todo=>some (out,todo)
 |k::r,out,todo=>
  if k=n then none
  else if out.getD k.toNat 0<0 then iL n h r (out.set k.toNat h) (todo++[k])
  else if out.getD k.toNat 0≠h then none
  else iL n h r out todo
def eR(l:List Ins):Nat->List Int->List Int->Option (List Int)
 |0,out,_=>some out
 |_+1,out,[]=>some out
 |f+1,out,k::todo=>
  if out.getD k.toNat 0<(lB (pM l k.toNat)).1\/((pM l k.toNat).op=18/\out.getD k.toNat 0≠1) then none
  else match iL l.length (out.getD k.toNat 0-(lB (pM l k.toNat)).1+(lB (pM l k.toNat)).2) (lL (pM l k.toNat) k) out todo with
   |none=>none
   |some (out2,todo2)=>eR l f out2 todo2
def dT(c:Cod):Bool:=
 aR c.name&&decide (c.params<=6)&&decide (c.params<=c.locals)&&decide (c.code.length≠0)&&c.code.all (cE c)&&
 (eR c.code (c.code.length+1) ((List.replicate c.code.length (-1:Int)).set 0 0) [0]).isSome
def itoaB(n:Int):List UInt8:=Lib.itoa n
def jW:List (List UInt8):=[[105,110,116],[98,111,111,108],[108,111,97,100],[115,116,111,114,101],[97,100,100],[115,117,98],[109,117,108],[108,101,115,115],[101,113],[110,111,116],[106,117,109,112],[102,97,108,115,101],[114,101,99],[102,105,101,108,100],[99,97,108,108],[97,99,116],[103,101,116],[115,101,116],[114,101,116,117,114,110],[112,111,112]]
def iO(i:Ins):List UInt8:=
 jW.getD i.op.toNat []++
 (if i.op=13 then[32]++i.s.data.toList
 else if i.op=14 then[32]++(if i.m=noB then[46] else i.m.data.toList)++[32]++i.s.data.toList++[32]++itoaB i.a
 else if i.op=12 then i.names.flatMap (fun x=>[32]++x.data.toList)
 else if i.op=4\/i.op=5\/i.op=6\/i.op=7\/i.op=8\/i.op=9\/i.op=18\/i.op=19 then[]
 else[32]++itoaB i.a)++[10]
def codL(c:Cod):List UInt8:=[102,117,110,99,32]++c.name.data.toList++[32]++itoaB c.params++[32]++itoaB c.locals++[10]++c.code.flatMap iO
def listC(l:List Cod):bA:=if l.all dT then⟨(l.flatMap codL).toArray⟩ else noB
def bC(s:bA):Int×bA:=match pF s with
 | .error (_,e)=>(e,noB)
 | .ok m=>(0,listC (kM m))
def stampB(t:bA)(n:Int):bA:=(t++qE n)++⟨#[10]⟩
def bE(s:Stp)(saw:List bA)(clock order:List Int)(u0 u1:Int):bA×List bA×Int×Int:=
 if s.kind=0\/s.kind=1 then(joinB saw,saw,u0,u1)
 else if s.kind=3 then(rE (eF (saw.headD ByteArray.empty)),saw,u0,u1)
 else if s.kind=4 then(stampB (saw.headD ByteArray.empty) (clock.getD u0.toNat 0),saw,u0+1,u1)
 else if s.sorted then(rE (fQ s.src),[],u0,u1)
 else(rE (eT order s.src.length u1.toNat (fQ s.src)),[],u0,u1+s.src.length)
abbrev DoRes:=Except Int (bA×List bA×Int×Int)
def fT(files:List Fil):List bA->Option (List bA)
 |[]=>some []
 |x::r=>match aI files x,fT files r with
  |some t,some l=>some (t::l)
  |_,_=>none
def cH(C:bA->Int×bA)(s:Stp)(files:List Fil)(clock order:List Int)(u0 u1:Int):DoRes:=
 if !aM s|| !aT files||decide (min u0 u1<0) then .error 1
 else if(aI files s.out).isSome then .error 5
 else if 60<=files.length then .error 6
 else match fT files s.src with
  |none=>.error 4
  |some saw=>
   if s.kind=5 then
    if(C (saw.headD ByteArray.empty)).1≠0 then .error (C (saw.headD ByteArray.empty)).1
    else if 65536<(C (saw.headD ByteArray.empty)).2.size then .error 6
    else .ok ((C (saw.headD ByteArray.empty)).2,saw,u0,u1)
   else if 65536<(bE s saw clock order u0 u1).1.size then .error 6
   else .ok (bE s saw clock order u0 u1)
def eY(s:Stp)(files:List Fil)(text:bA):List Fil:=files++[⟨s.out,text⟩]
structure Rcp where
 inputs:List Fil
 steps:List Stp
 output:bA
def aK(steps:List Stp)(x:bA):Option Nat:=steps.findIdx? fun s=>decide (s.out=x)
def kY(inputs:List Fil)(x:bA):Bool:=inputs.any fun f=>decide (f.name=x)
def oL(r:Rcp)(k:Nat)(x:bA):Bool:=(aK (r.steps.take k) x).isSome||kY r.inputs x
def known(r:Rcp)(x:bA):Bool:=(aK r.steps x).isSome||kY r.inputs x
def fD(steps:List Stp)(s:Stp):List Nat:=s.src.filterMap (aK steps)
def bL(steps:List Stp)(i:Nat):List Nat:=match steps[i]? with
 |some s=>fD steps s
 |none=>[]
def lY(r:Rcp):Nat->Nat->Bool
 |_,0=>false
 |k,n+1=>(match r.steps[k]? with
  |some s=>oL r k s.out
  |none=>false)||lY r (k+1) n
def twice(r:Rcp):Bool:=lY r 0 r.steps.length
abbrev fE:=Nat->Int
def kW(st:fE)(i:Nat)(x:Int):fE:=fun j=>if j=i then x else st j
def lS{σ:Type}(g:σ->Nat->σ×Bool):σ->List Nat->σ×Bool
 |st,[]=>(st,false)
 |st,k::r=>if(g st k).2 then((g st k).1,true) else lS g (g st k).1 r
def gF(needs:Nat->List Nat):Nat->fE->Nat->fE×Bool
 |0,st,_=>(st,true)
 |f+1,st,i=>
  if st i≠0 then(st,decide (st i=1))
  else if(lS (gF needs f) (kW st i 1) (needs i)).2 then((lS (gF needs f) (kW st i 1) (needs i)).1,true)
  else(kW (lS (gF needs f) (kW st i 1) (needs i)).1 i 2,false)
def kN(needs:Nat->List Nat)(f:Nat):Nat->Nat->fE->Bool
 |_,0,_=>false
 |k,n+1,st=>(gF needs f st k).2||kN needs f (k+1) n (gF needs f st k).1
def lC(steps:List Stp):Bool:=kN (bL steps) (steps.length+1) 0 steps.length (fun _=>0)
def aP(r:Rcp):Int:=
 if !aT r.inputs||decide (60<r.steps.length)||r.steps.any (fun s=> !aM s) then 1
 else if twice r then 5
 else if 60<r.inputs.length+r.steps.length then 6
 else if !known r r.output||r.steps.any (fun s=>s.src.any fun x=> !known r x) then 4
 else if lC r.steps then 15
 else 0
def kD(steps:List Stp)(done:Nat->Bool)(i:Nat):Bool:= !done i&& !(bL steps i).any fun k=> !done k
def bK(steps:List Stp)(done:Nat->Bool):List Nat:=(List.range steps.length).filter (kD steps done)
theorem kV(st:fE)(i:Nat)(x:Int):kW st i x i=x:=by simp[kW]
theorem fG(st:fE){i j:Nat}(x:Int)(h:j≠i):kW st i x j=st j:=by simp[kW,h]
theorem pY{g:fE->Nat->fE×Bool}(hg:∀st k j,st j≠0->(g st k).1 j=st j):∀(l:List Nat)(st:fE)(j:Nat),st j≠0->(lS g st l).1 j=st j
 |[],_,_,_=>rfl
 |k::r,st,j,h=>by
  rw[lS];have h1:=hg st k j h;split
  ·exact h1
  rw[pY hg r _ j (by rw[h1];exact h),h1]
theorem lW(needs:Nat->List Nat):∀(f:Nat)(st:fE)(i j:Nat),st j≠0->(gF needs f st i).1 j=st j
 |0,_,_,_,_=>rfl
 |f+1,st,i,j,h=>by
  rw[gF];split
  ·rfl
  rename_i hi;have CQ:j≠i:=fun e=>hi (e▸h);have h1:kW st i 1 j=st j:=fG st 1 CQ;have h2:=pY (lW needs f) (needs i) (kW st i 1) j (by rw[h1];exact h);split
  ·rw[h2,h1]
  show kW _ i 2 j=st j;rw[fG _ _ CQ,h2,h1]
def lD(st:fE):Nat->Nat
 |0=>0
 |n+1=>lD st n+if st n=0 then 1 else 0
def pot(st:fE):Nat->Nat
 |0=>0
 |n+1=>pot st n+if st n=0 then 2 else if st n=1 then 1 else 0
theorem zeros_le{st st':fE}(h:∀j,st j≠0->st' j≠0):∀n,lD st' n<=lD st n
 |0=>Nat.le_refl _
 |n+1=>by
  have:=zeros_le h n;rw[lD,lD];by_cases e:st n=0
  ·rw[if_pos e];split<;>omega
  rw[if_neg e,if_neg (h n e)];omega
theorem zeros_out(st:fE){i:Nat}(x:Int):∀n,n<=i->lD (kW st i x) n=lD st n
 |0,_=>rfl
 |n+1,h=>by rw[lD,lD,zeros_out st x n (by omega),fG st x (by omega)]
theorem zeros_mark{st:fE}{i:Nat}(h0:st i=0):∀n,i<n->lD (kW st i 1) n+1=lD st n
 |0,h=>absurd h (by omega)
 |n+1,h=>by
  rw[lD,lD];by_cases e:i=n
  ·subst e;rw[zeros_out st 1 i (Nat.le_refl _),kV,h0];simp
  have:=zeros_mark h0 n (by omega);rw[fG st 1 (by omega)];split<;>omega
theorem pot_out(st:fE){i:Nat}(x:Int):∀n,n<=i->pot (kW st i x) n=pot st n
 |0,_=>rfl
 |n+1,h=>by rw[pot,pot,pot_out st x n (by omega),fG st x (by omega)]
theorem pot_mark{st:fE}{i:Nat}{x:Int}(h:(st i=0/\x=1)\/(st i=1/\x=2)):∀n,i<n->pot (kW st i x) n+1=pot st n
 |0,h=>absurd h (by omega)
 |n+1,hn=>by
  rw[pot,pot];by_cases e:i=n
  ·subst e;rw[pot_out st x i (Nat.le_refl _),kV];rcases h with⟨h,rfl⟩|⟨h,rfl⟩<;>rw[h]<;>simp
  have:=pot_mark h n (by omega);rw[fG st x (by omega)];split
  ·omega
  split<;>omega
theorem pot_new:∀n,pot (fun _=>0) n=2*n
 |0=>rfl
 |n+1=>by rw[pot,pot_new n];simp;omega
theorem visit_zeros(needs:Nat->List Nat)(f:Nat)(st:fE)(i n:Nat):lD (gF needs f st i).1 n<=lD st n:=
 zeros_le (fun j h=>by rw[lW needs f st i j h];exact h) n
theorem needsOf_lt{steps:List Stp}{s:Stp}{j:Nat}(h:j∈fD steps s):j<steps.length:=by
 unfold fD at h;obtain⟨x,-,hx⟩:=List.mem_filterMap.1 h;unfold aK at hx;exact(List.findIdx?_eq_some_iff_getElem.1 hx).1
theorem pL{steps:List Stp}{i j:Nat}(h:j∈bL steps i):j<steps.length:=by
 unfold bL at h;split at h
 ·exact needsOf_lt h
 cases h
structure Dn where
 step:Int
 saw:List bA
 out:bA
def eZ(l:List Nat)(next:List Int)(u:Nat):Nat:=l.getD (gU (next.getD u 0) l.length) 0
def gS(done:Nat->Bool)(i:Nat):Nat->Bool:=fun j=>if j=i then true else done j
def kR(C:bA->Int×bA)(steps:List Stp)(clock order next:List Int):Nat->(Nat->Bool)->List Dn->List Fil->Int->Int->Except Int (List Dn×List Fil)
 |0,_,out,files,_,_=>.ok (out,files)
 |f+1,done,out,files,u0,u1=>
  if(bK steps done).isEmpty then .ok (out,files)
  else match steps[eZ (bK steps done) next out.length]? with
   |none=>.ok (out,files)
   |some s=>match cH C s files clock order u0 u1 with
    | .error e=>.error e
    | .ok (text,saw,a,b)=>kR C steps clock order next f (gS done (eZ (bK steps done) next out.length)) (out++[⟨eZ (bK steps done) next out.length,saw,text⟩]) (eY s files text) a b
def runAll(C:bA->Int×bA)(r:Rcp)(clock order next:List Int):Except Int (List Dn×List Fil):=
 kR C r.steps clock order next (r.steps.length+1) (fun _=>false) [] r.inputs 0 0
def mZ(C:bA->Int×bA)(r:Rcp)(clock order next:List Int):Except Int (List Dn×bA):=
 if aP r≠0 then .error (aP r)
 else match runAll C r clock order next with
  | .error e=>.error e
  | .ok (out,files)=>.ok (out,(aI files r.output).getD ByteArray.empty)
def kT(steps:List Stp):Nat->(Nat->Bool)->List Nat->List Nat
 |0,_,out=>out
 |f+1,done,out=>match bK steps done with
  |[]=>out
  |i::_=>kT steps f (gS done i) (out++[i])
def jN(steps:List Stp):List Nat:=kT steps (steps.length+1) (fun _=>false) []
def orderL(r:Rcp):List Nat:=if aP r≠0 then[] else jN r.steps
structure Sound (needs:Nat->List Nat) (st:fE) (rk:Nat->Nat):Prop where
 vals:∀i,st i=0\/st i=1\/st i=2
 shut:∀i,st i=2->∀k,k∈needs i->st k=2/\rk k<rk i
def nX(needs:Nat->List Nat)(st:fE):Prop:=∃rk,Sound needs st rk
theorem nX.open_{needs:Nat->List Nat}{st:fE}{i:Nat}(h:nX needs st)(h0:st i=0):nX needs (kW st i 1):=by
 obtain⟨rk,h1,h2⟩:=h;refine⟨rk,fun j=>?_,fun j hj k hk=>?_⟩
 ·by_cases e:j=i
  ·subst e;rw[kV];exact .inr (.inl rfl)
  rw[fG _ _ e];exact h1 j
 have hji:j≠i:=by rintro rfl;rw[kV] at hj;omega
 rw[fG _ _ hji] at hj;obtain⟨h3,h4⟩:=h2 j hj k hk;have Q7:k≠i:=by rintro rfl;omega
 rw[fG _ _ Q7];exact⟨h3,h4⟩
theorem le_sum(rk:Nat->Nat):∀(l:List Nat)(k:Nat),k∈l->rk k<=(l.map rk).sum
 |[],_,h=>by cases h
 |a::r,k,h=>by
  rw[List.map_cons,List.sum_cons];rcases List.mem_cons.1 h with rfl|h
  ·omega
  have:=le_sum rk r k h;omega
theorem nX.shut_{needs:Nat->List Nat}{st:fE}{i:Nat}(h:nX needs st)(h0:st i=1)(hn:∀k,k∈needs i->st k=2):nX needs (kW st i 2):=by
 obtain⟨rk,h1,h2⟩:=h;refine⟨fun j=>if j=i then((needs i).map rk).sum+1 else rk j,fun j=>?_,fun j hj k hk=>?_⟩
 ·by_cases e:j=i
  ·subst e;rw[kV];exact .inr (.inr rfl)
  rw[fG _ _ e];exact h1 j
 by_cases e:j=i
 ·subst e;have CG:=hn k hk;have Q7:k≠j:=by rintro rfl;omega
  rw[fG _ _ Q7,if_neg Q7,if_pos rfl];exact⟨CG,by have:=le_sum rk _ _ hk;omega⟩
 rw[fG _ _ e] at hj;obtain⟨h3,h4⟩:=h2 j hj k hk;have Q7:k≠i:=by rintro rfl;omega
 rw[fG _ _ Q7,if_neg Q7,if_neg e];exact⟨h3,h4⟩
def ShutOk(needs:Nat->List Nat)(g:fE->Nat->fE×Bool):Prop:=∀st i,nX needs st->(g st i).2=false->nX needs (g st i).1/\(g st i).1 i=2
theorem anyV_ok{needs:Nat->List Nat}{g:fE->Nat->fE×Bool}(hg:ShutOk needs g)(hk:∀st k j,st j≠0->(g st k).1 j=st j):∀(l:List Nat)(st:fE),nX needs st->(lS g st l).2=false->
  nX needs (lS g st l).1/\∀k,k∈l->(lS g st l).1 k=2
 |[],st,h,_=>⟨h,fun k hk=>by cases hk⟩
 |a::r,st,h,hf=>by
  rw[lS] at hf ⊢;by_cases e:(g st a).2=true
  ·rw[if_pos e] at hf;cases hf
  rw[if_neg e] at hf ⊢;have e':(g st a).2=false:=by simpa using e
  obtain⟨h1,h2⟩:=hg st a h e';obtain⟨h3,h4⟩:=anyV_ok hg hk r _ h1 hf;refine⟨h3,fun k hm=>?_⟩;rcases List.mem_cons.1 hm with rfl|hm
  ·rw[pY hk r _ k (by rw[h2];decide),h2]
  exact h4 k hm
theorem visit_shut(needs:Nat->List Nat):∀f,ShutOk needs (gF needs f)
 |0,st,i,_,hf=>by cases hf
 |f+1,st,i,h,hf=>by
  rw[gF] at hf ⊢;by_cases e:st i≠0
  ·rw[if_pos e] at hf ⊢;have h1:st i≠1:=of_decide_eq_false hf;obtain⟨rk,hv,hs⟩:=h;refine⟨⟨rk,hv,hs⟩,?_⟩;show st i=2;rcases hv i with h0|h0|h0
   ·exact absurd h0 e
   ·exact absurd h0 h1
   exact h0
  rw[if_neg e] at hf ⊢;have h0:st i=0:=Classical.not_not.1 e;by_cases e2:(lS (gF needs f) (kW st i 1) (needs i)).2=true
  ·rw[if_pos e2] at hf;cases hf
  rw[if_neg e2];have e3:(lS (gF needs f) (kW st i 1) (needs i)).2=false:=by simpa using e2
  obtain⟨h3,h4⟩:=anyV_ok (visit_shut needs f) (lW needs f) (needs i) (kW st i 1) (h.open_ h0) e3
  have h5:(lS (gF needs f) (kW st i 1) (needs i)).1 i=1:=by
   rw[pY (lW needs f) (needs i) (kW st i 1) i (by rw[kV];decide),kV]
  exact⟨h3.shut_ h5 h4,kV _ _ _⟩
theorem circleFrom_ok(needs:Nat->List Nat)(f:Nat):∀(n k:Nat)(st:fE),nX needs st->(∀j,j<k->st j=2)->kN needs f k n st=false->∃st',nX needs st'/\∀j,j<k+n->st' j=2
 |0,k,st,h,hk,_=>⟨st,h,hk⟩
 |n+1,k,st,h,hk,hf=>by
  rw[kN,Bool.or_eq_false_iff] at hf;obtain⟨h1,h2⟩:=visit_shut needs f st k h hf.1
  obtain⟨st',h3,h4⟩:=circleFrom_ok needs f n (k+1) _ h1 (fun j hj=>by
   by_cases e:j=k
   ·subst e;exact h2
   rw[lW needs f st k j (by rw[hk j (by omega)];decide)];exact hk j (by omega)) hf.2
  exact⟨st',h3,fun j hj=>h4 j (by omega)⟩
theorem circle_rank{steps:List Stp}(h:lC steps=false):∃rk:Nat->Nat,∀i k,k∈bL steps i->rk k<rk i:=by
 obtain⟨st,⟨rk,hv,hs⟩,h2⟩:=circleFrom_ok (bL steps) _ steps.length 0 (fun _=>0) ⟨fun _=>0,fun _=>.inl rfl,fun i hi=>by cases hi⟩ (fun j hj=>absurd hj (by omega)) h;refine⟨rk,fun i k hk=>(hs i (h2 i ?_) k hk).2⟩;rw[Nat.zero_add];unfold bL at hk;split at hk
 ·rename_i s hs;exact(List.getElem?_eq_some_iff.1 hs).1
 cases hk
theorem ready_some{steps:List Stp}(h:lC steps=false)(done:Nat->Bool){i:Nat}(hi:i<steps.length)(hd:done i=false):bK steps done≠[]:=by
 obtain⟨rk,hr⟩:=circle_rank h
 have key:∀n i,rk i<=n->i<steps.length->done i=false->bK steps done≠[]:=by
  intro n
  induction n with
  |zero=>
   intro i hn hi hd he
   have:i∈bK steps done:=by
    unfold bK;rw[List.mem_filter];refine⟨List.mem_range.2 hi,?_⟩;unfold kD;rw[hd]
    have:(bL steps i).any (fun k=> !done k)=false:=by
     rw[List.any_eq_false];intro k hk;have:=hr i k hk;omega
    rw[this];rfl
   rw[he] at this;cases this
  |succ n ih=>
   intro i hn hi hd;by_cases hc:(bL steps i).any (fun k=> !done k)=true
   ·obtain⟨k,hk,hkd⟩:=List.any_eq_true.1 hc;have h1:=hr i k hk;have h2:=pL hk;exact ih k (by omega) h2 (by simpa using hkd)
   intro he
   have:i∈bK steps done:=by
    unfold bK;rw[List.mem_filter];refine⟨List.mem_range.2 hi,?_⟩;unfold kD;rw[hd];(have:(bL steps i).any (fun k=> !done k)=false:=by simpa using hc);rw[this];rfl
   rw[he] at this;cases this
 exact key (rk i) i (Nat.le_refl _) hi hd
theorem nF{steps:List Stp}{done:Nat->Bool}{i:Nat}(h:i∈bK steps done):i<steps.length/\done i=false/\∀k,k∈bL steps i->done k=true:=by
 unfold bK at h;rw[List.mem_filter] at h;obtain⟨h1,h2⟩:=h;unfold kD at h2;rw[Bool.and_eq_true,Bool.not_eq_true',Bool.not_eq_true'] at h2;refine⟨List.mem_range.1 h1,h2.1,fun k hk=>?_⟩;have:=List.any_eq_false.1 h2.2 k hk;simpa using this
theorem choose_mem{l:List Nat}(next:List Int)(u:Nat)(h:l≠[]):eZ l next u∈l:=by
 unfold eZ;have hl:0<l.length:=List.length_pos_iff.2 h
 have hp:gU (next.getD u 0) l.length<l.length:=by
  unfold gU;have h1:=Int.emod_lt_of_pos (next.getD u 0) (show(0:Int)<(l.length:Int) by omega);have h2:=Int.emod_nonneg (next.getD u 0) (show(l.length:Int)≠0 by omega);omega
 rw[List.getD_eq_getElem?_getD,List.getElem?_eq_getElem hp];exact List.getElem_mem hp
def dZ(done:Nat->Bool):Nat->Nat
 |0=>0
 |n+1=>dZ done n+if done n then 0 else 1
theorem leftN_out(done:Nat->Bool){i:Nat}:∀n,n<=i->dZ (gS done i) n=dZ done n
 |0,_=>rfl
 |n+1,h=>by rw[dZ,dZ,leftN_out done n (by omega)];simp[gS,show n≠i by omega]
theorem gP{done:Nat->Bool}{i:Nat}(h:done i=false):∀n,i<n->dZ (gS done i) n+1=dZ done n
 |0,hn=>absurd hn (by omega)
 |n+1,hn=>by
  rw[dZ,dZ];by_cases e:i=n
  ·subst e;rw[leftN_out done i (Nat.le_refl _)];simp[gS,h]
  have:=gP h n (by omega);have e2:gS done i n=done n:=by simp[gS,show n≠i by omega]
  rw[e2];omega
theorem leftN_le(done:Nat->Bool):∀n,dZ done n<=n
 |0=>Nat.le_refl _
 |n+1=>by have:=leftN_le done n;rw[dZ];split<;>omega
theorem leftN_pos{done:Nat->Bool}{i n:Nat}(hi:i<n)(h:done i=false):0<dZ done n:=by
 have:=gP h n hi;omega
structure qA (r:Rcp):Prop where
 files:aT r.inputs=true
 few:r.steps.length<=60
 steps:∀s,s∈r.steps->aM s=true
 once:twice r=false
 room:r.inputs.length+r.steps.length<=60
 out:known r r.output=true
 srcs:∀s,s∈r.steps->∀x,x∈s.src->known r x=true
 circ:lC r.steps=false
theorem gG{r:Rcp}(h:aP r=0):qA r:=by
 unfold aP at h;split at h
 ·cases h
 rename_i h1;split at h
 ·cases h
 rename_i h2;split at h
 ·cases h
 rename_i h3;split at h
 ·cases h
 rename_i h4;split at h
 ·cases h
 rename_i h5
 have e1:aT r.inputs=true/\¬60<r.steps.length/\(r.steps.any fun s=> !aM s)=false:=by
  rw[Bool.not_eq_true,Bool.or_eq_false_iff,Bool.or_eq_false_iff] at h1;exact⟨by simpa using h1.1.1,by simpa using h1.1.2,h1.2⟩
 have e4:known r r.output=true/\(r.steps.any fun s=>s.src.any fun x=> !known r x)=false:=by
  rw[Bool.not_eq_true,Bool.or_eq_false_iff] at h4;exact⟨by simpa using h4.1,h4.2⟩
 refine⟨e1.1,by omega,fun s hs=>?_,by simpa using h2,by omega,e4.1,fun s hs x hx=>?_,by simpa using h5⟩
 ·have:=List.any_eq_false.1 e1.2.2 s hs;simpa using this
 have:=List.any_eq_false.1 e4.2 s hs;rw[Bool.not_eq_true,List.any_eq_false] at this;have:=this x hx;simpa using this
theorem twiceFrom_iff(r:Rcp):∀(n k:Nat),lY r k n=true↔∃j s,k<=j/\j<k+n/\r.steps[j]? =some s/\oL r j s.out=true
 |0,k=>by
  constructor
  ·intro h;cases h
  rintro⟨j,s,h1,h2,-⟩;omega
 |n+1,k=>by
  rw[lY,Bool.or_eq_true,twiceFrom_iff r n (k+1)];constructor
  ·rintro(h|⟨j,s,h1,h2,h3,h4⟩)
   ·cases hs:r.steps[k]? with
    |none=>rw[hs] at h;cases h
    |some s=>rw[hs] at h;exact⟨k,s,Nat.le_refl _,by omega,hs,h⟩
   exact⟨j,s,by omega,by omega,h3,h4⟩
  rintro⟨j,s,h1,h2,h3,h4⟩;by_cases e:j=k
  ·subst e;rw[h3];exact .inl h4
  exact .inr ⟨j,s,by omega,by omega,h3,h4⟩
theorem twice_iff(r:Rcp):twice r=true↔∃j s,r.steps[j]? =some s/\oL r j s.out=true:=by
 unfold twice;rw[twiceFrom_iff];constructor
 ·rintro⟨j,s,-,-,h3,h4⟩;exact⟨j,s,h3,h4⟩
 rintro⟨j,s,h3,h4⟩;exact⟨j,s,by omega,by have:=(List.getElem?_eq_some_iff.1 h3).1;omega,h3,h4⟩
section
variable {r:Rcp} (h:qA r) (h59:r.inputs.length+r.steps.length<60)
include h h59
omit h59 in
end
end Go.Proofs.YtacgopankhpnbaaGreatDoor
namespace Go.Proofs.YtacgopankhpnbaaGreatDoor
abbrev C0:bA->Int×bA:=fun _=>(0,ByteArray.empty)
def iC(s:Stp):Nat:=if s.kind=2 then 0 else s.src.length
structure RSt where
 there:Nat->Bool
 of:Nat->Dn
 inp:bA->Option bA
def jX:Dn:=⟨0,[],⟨#[]⟩⟩
def qG(f:Nat->Dn)(i:Nat)(d:Dn):Nat->Dn:=fun j=>if j=i then d else f j
def setInp(m:bA->Option bA)(x t:bA):bA->Option bA:=fun y=>if y=x then some t else m y
def dU(steps:List Stp)(there:Nat->Bool)(of:Nat->Dn)(saw:List bA)(k:Nat)(x:bA)(m:bA->Option bA):Option (bA->Option bA):=
 match aK steps x with
 |some i=>if there i then(match saw[k]? with
   |none=>some m
   |some t=>if t=(of i).out then some m else none) else none
 |none=>match saw[k]? with
  |none=>some m
  |some t=>match m x with
   |some u=>if t=u then some m else none
   |none=>some (setInp m x t)
def kA(steps:List Stp)(there:Nat->Bool)(of:Nat->Dn)(saw:List bA):Nat->List bA->(bA->Option bA)->Option (bA->Option bA)
 |_,[],m=>some m
 |k,x::l,m=>match dU steps there of saw k x m with
  |none=>none
  |some m'=>kA steps there of saw (k+1) l m'
def iV(steps:List Stp)(st:RSt)(d:Dn):Option RSt:=
 if d.step<0 then none
 else match steps[d.step.toNat]? with
  |none=>none
  |some s=>if st.there d.step.toNat=true\/d.saw.length≠iC s then none
   else match kA steps st.there st.of d.saw 0 s.src st.inp with
    |none=>none
    |some m=>some ⟨gS st.there d.step.toNat,qG st.of d.step.toNat d,m⟩
def jG(steps:List Stp):List Dn->RSt->Option RSt
 |[],st=>some st
 |d::l,st=>match iV steps st d with
  |none=>none
  |some st'=>jG steps l st'
def mM:RSt:=⟨fun _=>false,fun _=>jX,fun _=>none⟩
def bQ(r:Rcp)(l:List Dn):Option RSt:=if aP r≠0\/l.length≠r.steps.length then none else jG r.steps l mM
def cW(r:Rcp)(x:RSt)(name:bA):Option bA:=match aK r.steps name with
 |some i=>some (x.of i).out
 |none=>match x.inp name with
  |some s=>some s
  |none=>aI r.inputs name
def lR(r:Rcp)(x y:RSt):Option bA:=(r.inputs.find? fun f=>decide ((cW r x f.name).getD ⟨#[]⟩≠(cW r y f.name).getD ⟨#[]⟩)).map (·.name)
def mS(r:Rcp)(x y:RSt):Option Nat:=(jN r.steps).find? fun i=>decide ((x.of i).saw=(y.of i).saw)&&decide ((x.of i).out≠(y.of i).out)
def dF:List bA->List bA->Option Nat
 |x::l,y::m=>if x=y then(dF l m).map (· +1) else some 0
 |_,_=>none
def fH(steps:List Stp)(x y:RSt)(i:Nat):Option Nat:=match dF (x.of i).saw (y.of i).saw with
 |none=>none
 |some k=>match steps[i]? with
  |none=>none
  |some s=>match s.src[k]? with
   |none=>none
   |some n=>aK steps n
def fI(steps:List Stp)(x y:RSt):Nat->Nat->List Nat->List Nat
 |0,_,out=>out
 |f+1,i,out=>match fH steps x y i with
  |none=>out++[i]
  |some j=>fI steps x y f j (out++[i])
def chainL(r:Rcp)(x y:RSt):List Nat:=match aK r.steps r.output with
 |none=>[]
 |some i=>if(x.of i).out=(y.of i).out then[] else(fI r.steps x y (r.steps.length+1) i []).reverse
def iP(out:List Int):Nat:=out.countP (fun x=>decide (x<0))
theorem negs_set{out:List Int}{k:Nat}{h:Int}(hk:k<out.length)(hn:out.getD k 0<0)(hh:0<=h):iP (out.set k h)+1=iP out:=by
 induction out generalizing k with
 |nil=>simp at hk
 |cons x out ih=>
  cases k with
  |zero=>
   simp at hn;simp[iP,hn,hh]
  |succ k=>
   simp at hk hn;have:=ih hk (by simpa using hn);unfold iP at this ⊢;rw[List.set_cons_succ,List.countP_cons,List.countP_cons];omega
theorem lookAt_end(n:Nat)(h:Int)(out todo:List Int):iL n h [] out todo=some (out,todo):=rfl
theorem lookAt_full{n:Nat}{h:Int}{r out todo:List Int}:iL n h ((n:Int)::r) out todo=none:=by rw[iL,if_pos rfl]
theorem lookAt_new{n:Nat}{h k:Int}{r out todo:List Int}(h1:k≠n)(h2:out.getD k.toNat 0<0):iL n h (k::r) out todo=iL n h r (out.set k.toNat h) (todo++[k]):=by rw[iL,if_neg h1,if_pos h2]
theorem lookAt_bad{n:Nat}{h k:Int}{r out todo:List Int}(h1:k≠n)(h2:¬out.getD k.toNat 0<0)(h3:out.getD k.toNat 0≠h):iL n h (k::r) out todo=none:=by rw[iL,if_neg h1,if_neg h2,if_pos h3]
theorem lookAt_same{n:Nat}{h k:Int}{r out todo:List Int}(h1:k≠n)(h2:¬out.getD k.toNat 0<0)(h3:¬out.getD k.toNat 0≠h):iL n h (k::r) out todo=iL n h r out todo:=by rw[iL,if_neg h1,if_neg h2,if_neg h3]
theorem behind_range{c:Cod}{i:Ins}{k:Nat}(hf:cE c i=true)(hk:k<c.code.length):∀x∈lL i k,0<=x/\x<=c.code.length:=by
 intro x hx;unfold lL at hx;split at hx
 ·cases hx
 split at hx
 ·rename_i FU;simp at hx;subst hx
  have:0<=i.a/\i.a<c.code.length:=by
   unfold cE at hf;simp[FU] at hf;omega
  omega
 split at hx
 ·rename_i h11
  have:0<=i.a/\i.a<c.code.length:=by
   unfold cE at hf;simp[h11] at hf;omega
  simp at hx;rcases hx with rfl|rfl<;>omega
 simp at hx;subst hx;omega
theorem needs_range{c:Cod}{i:Ins}(hf:cE c i=true):0<=(lB i).1/\(lB i).1<=8/\0<=(lB i).2/\(lB i).2<=1:=by
 unfold lB;split
 ·simp
 split
 ·simp
 split
 ·simp
 split
 ·rename_i CT
  have:i.names.length<=8:=by
   unfold cE at hf;simp[CT] at hf;omega
  simp;omega
 split
 ·rename_i h14
  have:0<=i.a/\i.a<=6:=by
   unfold cE at hf;simp[h14] at hf;omega
  simp;omega
 split
 ·simp
 simp
theorem formed_op{c:Cod}{i:Ins}(hf:cE c i=true):0<=i.op/\i.op<20:=by
 unfold cE at hf;simp only at hf
 repeat' split at hf
 all_goals first|omega|(simp at hf)
theorem doStep_cases(C:bA->Int×bA)(s:Stp)(files:List Fil)(u0 u1:Int):
  (∃c,c≠0/\∀ck od,cH C s files ck od u0 u1=.error c)\/
  (∃saw,aM s=true/\aT files=true/\fT files s.src=some saw/\((s.kind=5/\∀ck od,cH C s files ck od u0 u1=.ok ((C (saw.headD ByteArray.empty)).2,saw,u0,u1))\/
   (s.kind≠5/\∀ck od,cH C s files ck od u0 u1=if 65536<(bE s saw ck od u0 u1).1.size then .error 6 else .ok (bE s saw ck od u0 u1)))):=by
 by_cases hb:(!aM s|| !aT files||decide (min u0 u1<0))=true
 ·exact .inl ⟨1,by decide,fun ck od=>by unfold cH;rw[if_pos hb]⟩
 have hr:aM s=true/\aT files=true:=by
  simp only[Bool.or_eq_true,Bool.not_eq_true',not_or,Bool.not_eq_false] at hb;exact hb.1
 by_cases hf:(aI files s.out).isSome=true
 ·exact .inl ⟨5,by decide,fun ck od=>by unfold cH;rw[if_neg hb,if_pos hf]⟩
 by_cases DG:60<=files.length
 ·exact .inl ⟨6,by decide,fun ck od=>by unfold cH;rw[if_neg hb,if_neg hf,if_pos DG]⟩
 cases hs:fT files s.src with
 |none=>exact .inl ⟨4,by decide,fun ck od=>by unfold cH;rw[if_neg hb,if_neg hf,if_neg DG,hs]⟩
 |some saw=>
  by_cases h5:s.kind=5
  ·by_cases he:(C (saw.headD ByteArray.empty)).1≠0
   ·exact .inl ⟨_,he,fun ck od=>by unfold cH;rw[if_neg hb,if_neg hf,if_neg DG,hs];simp only;rw[if_pos h5,if_pos he]⟩
   by_cases hz:65536<(C (saw.headD ByteArray.empty)).2.size
   ·exact .inl ⟨6,by decide,fun ck od=>by unfold cH;rw[if_neg hb,if_neg hf,if_neg DG,hs];simp only;rw[if_pos h5,if_neg he,if_pos hz]⟩
   exact .inr ⟨saw,hr.1,hr.2,rfl,.inl ⟨h5,fun ck od=>by unfold cH;rw[if_neg hb,if_neg hf,if_neg DG,hs];simp only;rw[if_pos h5,if_neg he,if_neg hz]⟩⟩
  exact .inr ⟨saw,hr.1,hr.2,rfl,.inr ⟨h5,fun ck od=>by unfold cH;rw[if_neg hb,if_neg hf,if_neg DG,hs];simp only;rw[if_neg h5]⟩⟩
theorem right_kinds{s:Stp}(h:aM s=true):s.kind=0\/s.kind=1\/s.kind=2\/s.kind=3\/s.kind=4\/s.kind=5:=by
 unfold aM at h;split at h
 ·cases h
 split at h
 ·omega
 split at h
 ·omega
 split at h
 ·omega
 cases h
def jH(C:bA->Int×bA)(s:Stp)(saw:List bA):Except Int (bA×List bA):=
 if s.kind=5 then
  if(C (saw.headD ByteArray.empty)).1≠0 then .error (C (saw.headD ByteArray.empty)).1
  else if 65536<(C (saw.headD ByteArray.empty)).2.size then .error 6
  else .ok ((C (saw.headD ByteArray.empty)).2,saw)
 else if 65536<(bE s saw [] [] 0 0).1.size then .error 6
 else .ok ((bE s saw [] [] 0 0).1,(bE s saw [] [] 0 0).2.1)
theorem write_pure2{s:Stp}(h:bZ s=true)(h5:s.kind≠5)(saw:List bA)(ck od:List Int)(u0 u1:Int):
  bE s saw ck od u0 u1=((bE s saw [] [] 0 0).1,(bE s saw [] [] 0 0).2.1,u0,u1):=by
 unfold bZ at h;simp only[Bool.and_eq_true,Bool.or_eq_true,decide_eq_true_eq] at h;obtain⟨⟨h1,h4⟩,h2⟩:=h;have hk:=right_kinds h1;unfold bE;by_cases e01:s.kind=0\/s.kind=1
 ·simp only[if_pos e01]
 by_cases e3:s.kind=3
 ·simp only[if_neg e01,if_pos e3]
 have e2:s.kind=2:=by omega
 have hs:s.sorted=true:=by
  rcases h2 with h2|h2
  ·exact absurd e2 h2
  exact h2
 simp only[if_neg e01,if_neg e3,if_neg h4,hs,if_true]
theorem rR{C:bA->Int×bA}{s:Stp}{files:List Fil}{ck od:List Int}{u0 u1:Int}{t:bA}{sw:List bA}{a b:Int}(h:cH C s files ck od u0 u1=.ok (t,sw,a,b)):
  aM s=true/\aT files=true/\¬min u0 u1<0/\aI files s.out=none/\files.length<60/\t.size<=65536/\∃saw,fT files s.src=some saw/\(bZ s=true->jH C s saw=.ok (t,sw)/\a=u0/\b=u1):=by
 unfold cH at h;split at h
 ·cases h
 rename_i hb;simp only[Bool.or_eq_true,Bool.not_eq_true',not_or,Bool.not_eq_false,decide_eq_true_eq] at hb;split at h
 ·cases h
 rename_i hf;split at h
 ·cases h
 rename_i DG
 have hf0:aI files s.out=none:=by
  cases e:aI files s.out with
  |none=>rfl
  |some t=>rw[e] at hf;exact absurd rfl hf
 cases hs:fT files s.src with
 |none=>rw[hs] at h;cases h
 |some saw=>
  rw[hs] at h;simp only at h;by_cases h5:s.kind=5
  ·rw[if_pos h5] at h;by_cases he:(C (saw.headD ByteArray.empty)).1≠0
   ·rw[if_pos he] at h;cases h
   rw[if_neg he] at h;by_cases hz:65536<(C (saw.headD ByteArray.empty)).2.size
   ·rw[if_pos hz] at h;cases h
   rw[if_neg hz] at h;cases h;exact⟨hb.1.1,hb.1.2,hb.2,hf0,by omega,by omega,sw,rfl,fun _=>⟨by unfold jH;rw[if_pos h5,if_neg he,if_neg hz],rfl,rfl⟩⟩
  rw[if_neg h5] at h;by_cases hz:65536<(bE s saw ck od u0 u1).1.size
  ·rw[if_pos hz] at h;cases h
  rw[if_neg hz] at h;have h:=Except.ok.inj h;refine⟨hb.1.1,hb.1.2,hb.2,hf0,by omega,by rw[h] at hz;simpa using hz,saw,rfl,fun hp=>?_⟩;have e:=write_pure2 hp h5 saw ck od u0 u1;rw[h] at e;simp only[Prod.mk.injEq] at e;obtain⟨e1,e2,e3,e4⟩:=e;refine⟨?_,e3,e4⟩;unfold jH;rw[h] at hz;rw[if_neg h5,<-e1,<-e2,if_neg hz]
def Keeps(f g:List Fil):Prop:=∀x t,aI f x=some t->aI g x=some t
theorem Keeps.refl(f:List Fil):Keeps f f:=fun _ _ h=>h
theorem Keeps.trans{f g h:List Fil}(h1:Keeps f g)(h2:Keeps g h):Keeps f h:=fun x t e=>h2 x t (h1 x t e)
theorem find_more(l:List Fil)(o t x:bA):aI (l++[⟨o,t⟩]) x=match aI l x with
  |some u=>some u
  |none=>if o=x then some t else none:=by
 unfold aI;rw[List.find?_append]
 cases l.find? (fun f=>decide (f.name=x)) with
 |some f=>rfl
 |none=>
  simp only[Option.none_or,List.find?_cons,List.find?_nil,Option.map_none];by_cases e:o=x
  ·rw[decide_eq_true e,if_pos e];rfl
  rw[decide_eq_false e,if_neg e];rfl
theorem keeps_do(s:Stp)(files:List Fil)(t:bA):Keeps files (eY s files t):=fun x u h=>by
 unfold eY;rw[find_more,h]
theorem find_do{s:Stp}{files:List Fil}{t:bA}(h:aI files s.out=none):aI (eY s files t) s.out=some t:=by
 unfold eY;rw[find_more,h];simp
theorem saw_keeps{f g:List Fil}(h:Keeps f g):∀{src saw:List bA},fT f src=some saw->fT g src=some saw
 |[],_,e=>e
 |x::r,saw,e=>by
  rw[fT] at e ⊢;split at e
  ·rename_i t l ht hl;rw[h x t ht,saw_keeps h hl];exact e
  cases e
structure DnSays (C:bA->Int×bA) (steps:List Stp) (F:List Fil) (d:Dn) (i:Nat):Prop where
 idx:d.step=(i:Int)
 says:∃s,steps[i]? =some s/\aI F s.out=some d.out/\∃saw,fT F s.src=some saw/\(bZ s=true->jH C s saw=.ok (d.out,d.saw))
theorem run_sol{C:bA->Int×bA}{steps:List Stp}{ck od nx:List Int}(hc:lC steps=false):∀(f:Nat)(done:Nat->Bool)(out:List Dn)(files:List Fil)(u0 u1:Int)(out':List Dn)(F:List Fil),
  dZ done steps.length<f->kR C steps ck od nx f done out files u0 u1=.ok (out',F)->
  Keeps files F/\∃more,out'=out++more/\(∀d∈more,∃i,DnSays C steps F d i)/\∀i,i<steps.length->done i=false->∃d∈more,d.step=(i:Int)
 |0,_,_,_,_,_,_,_,hf,_=>absurd hf (by omega)
 |f+1,done,out,files,u0,u1,out',F,hf,h=>by
  rw[kR] at h;split at h
  ·rename_i he;cases h;refine⟨Keeps.refl _,[],by simp,fun d hd=>by simp at hd,fun i hi hd=>?_⟩;exact absurd (List.isEmpty_iff.1 he) (ready_some hc done hi hd)
  rename_i he;have sC:bK steps done≠[]:=fun e=>he (by rw[e];rfl);obtain⟨h1,h2,-⟩:=nF (choose_mem nx out.length sC);generalize eZ (bK steps done) nx out.length=i at h h1 h2;rw[List.getElem?_eq_getElem h1] at h;simp only at h
  cases hd:cH C steps[i] files ck od u0 u1 with
  |error e=>rw[hd] at h;cases h
  |ok p=>
   obtain⟨t,sw,a,b⟩:=p;rw[hd] at h;simp only at h;have hl:=gP h2 _ h1;obtain⟨k1,more,e,k2,k3⟩:=run_sol hc f _ _ _ _ _ _ _ (by omega) h;obtain⟨d1,d2,d3,d4,d5,d6,saw,d7,d8⟩:=rR hd;refine⟨(keeps_do _ _ t).trans k1,⟨i,sw,t⟩::more,by rw[e];simp,fun d hd=>?_,fun j hj hjd=>?_⟩
   ·rcases List.mem_cons.1 hd with rfl|hd
    ·exact⟨i,rfl,steps[i],List.getElem?_eq_getElem h1,k1 _ _ (find_do d4),saw,saw_keeps ((keeps_do _ _ t).trans k1) d7,fun hp=>(d8 hp).1⟩
    exact k2 d hd
   by_cases e:j=i
   ·subst e;exact⟨_,List.mem_cons_self ..,rfl⟩
   obtain⟨d,hd,e2⟩:=k3 j hj (by simp[gS,e,hjd]);exact⟨d,by simp[hd],e2⟩
theorem leftN_none(n:Nat):dZ (fun _=>false) n=n:=by
 induction n with
 |zero=>rfl
 |succ n ih=>rw[dZ,ih];simp
theorem run_says{C:bA->Int×bA}{r:Rcp}{ck od nx:List Int}{out:List Dn}{F:List Fil}(hc:lC r.steps=false)(h:runAll C r ck od nx=.ok (out,F)):
  Keeps r.inputs F/\(∀d∈out,∃i,DnSays C r.steps F d i)/\∀i,i<r.steps.length->∃d∈out,d.step=(i:Int):=by
 obtain⟨h1,more,e,h2,h3⟩:=run_sol hc _ _ _ _ _ _ _ _ (by rw[leftN_none];omega) h;rw[List.nil_append] at e;subst e;exact⟨h1,h2,fun i hi=>h3 i hi rfl⟩
theorem fL{steps:List Stp}{x:bA}{i:Nat}(h:aK steps x=some i):∃s,steps[i]? =some s/\s.out=x:=by
 unfold aK at h;rw[List.findIdx?_eq_some_iff_getElem] at h;obtain⟨h1,h2,-⟩:=h;exact⟨steps[i],List.getElem?_eq_getElem h1,by simpa using h2⟩
theorem writerOf_none{steps:List Stp}{x:bA}(h:aK steps x=none):∀s∈steps,s.out≠x:=by
 unfold aK at h;rw[List.findIdx?_eq_none_iff] at h;intro s hs;simpa using h s hs
theorem writer_at{r:Rcp}(h:twice r=false){i:Nat}{s:Stp}(hs:r.steps[i]? =some s):aK r.steps s.out=some i/\kY r.inputs s.out=false:=by
 obtain⟨hi,e⟩:=List.getElem?_eq_some_iff.1 hs
 have key:oL r i s.out=false:=by
  rw[<-Bool.not_eq_true];intro hk;have:=(twice_iff r).2 ⟨i,s,hs,hk⟩;rw[h] at this;cases this
 unfold oL at key;rw[Bool.or_eq_false_iff] at key;refine⟨?_,key.2⟩;unfold aK;rw[List.findIdx?_eq_some_iff_getElem];refine⟨hi,by simp[e],fun j hj=>?_⟩
 have hn:aK (r.steps.take i) s.out=none:=by
  cases hw:aK (r.steps.take i) s.out with
  |none=>rfl
  |some k=>rw[hw] at key;cases key.1
 have:=writerOf_none hn r.steps[j] (by
  rw[List.mem_iff_getElem]
  exact⟨j,by rw[List.length_take];omega,by rw[List.getElem_take]⟩)
 simpa using this
theorem find_input{l:List Fil}{x t:bA}(h:aI l x=some t):kY l x=true:=by
 unfold aI at h;unfold kY
 cases A2:l.find? (fun f=>decide (f.name=x)) with
 |none=>rw[A2] at h;cases h
 |some g=>
  have hp:=List.find?_some A2;exact List.any_eq_true.2 ⟨g,List.mem_of_find?_eq_some A2,hp⟩
theorem runL_ok{C:bA->Int×bA}{r:Rcp}{ck od nx:List Int}{a:List Dn}{s:bA}(h:mZ C r ck od nx=.ok (a,s)):qA r/\∃F,runAll C r ck od nx=.ok (a,F)/\s=(aI F r.output).getD ByteArray.empty:=by
 unfold mZ at h;split at h
 ·cases h
 rename_i h0;have h0:aP r=0:=by simpa using h0
 split at h
 ·cases h
 rename_i out F hF;cases h;exact⟨gG h0,F,hF,rfl⟩
def rZ(steps:List Stp)(st:RSt)(x:bA)(t:Option bA):Prop:=match aK steps x with
 |some i=>st.there i=true/\∀u,t=some u->u=(st.of i).out
 |none=>∀u,t=some u->st.inp x=some u
theorem readName_ok{steps:List Stp}{there:Nat->Bool}{of:Nat->Dn}{saw:List bA}{k:Nat}{x:bA}{m m':bA->Option bA}(h:dU steps there of saw k x m=some m'):
  rZ steps ⟨there,of,m'⟩ x saw[k]? /\∀y u,m y=some u->m' y=some u:=by
 unfold dU at h;unfold rZ
 cases hw:aK steps x with
 |some i=>
  rw[hw] at h;simp only at h ⊢;split at h
  ·rename_i ht
   cases hs:saw[k]? with
   |none=>rw[hs] at h;cases h;exact⟨⟨ht,fun u hu=>(by cases hu)⟩,fun y u hu=>hu⟩
   |some t=>
    rw[hs] at h;simp only at h;split at h
    ·rename_i he;cases h;exact⟨⟨ht,fun u hu=>(by cases hu;exact he)⟩,fun y u hu=>hu⟩
    cases h
  cases h
 |none=>
  rw[hw] at h;simp only at h ⊢
  cases hs:saw[k]? with
  |none=>rw[hs] at h;cases h;exact⟨fun u hu=>(by cases hu),fun y u hu=>hu⟩
  |some t=>
   rw[hs] at h;simp only at h
   cases hm:m x with
   |some v=>
    rw[hm] at h;simp only at h;split at h
    ·rename_i he;cases h;exact⟨fun u hu=>(by cases hu;rw[hm,he]),fun y u hu=>hu⟩
    cases h
   |none=>
    rw[hm] at h;cases h;refine⟨fun u hu=>(by cases hu;simp[setInp]),fun y u hu=>?_⟩;unfold setInp;by_cases e:y=x
    ·subst e;rw[hm] at hu;cases hu
    rw[if_neg e];exact hu
theorem rZ.more{steps:List Stp}{a b:RSt}{x:bA}{t:Option bA}(h:rZ steps a x t)(h1:∀i,a.there i=true->b.there i=true/\b.of i=a.of i)(h2:∀y u,a.inp y=some u->b.inp y=some u):rZ steps b x t:=by
 unfold rZ at h ⊢
 cases hw:aK steps x with
 |some i=>
  rw[hw] at h;simp only at h ⊢;refine⟨(h1 i h.1).1,fun u hu=>?_⟩;rw[(h1 i h.1).2];exact h.2 u hu
 |none=>
  rw[hw] at h;exact fun u hu=>h2 x u (h u hu)
theorem readSrc_ok{steps:List Stp}{there:Nat->Bool}{of:Nat->Dn}{saw:List bA}:∀{l:List bA}{k:Nat}{m m':bA->Option bA},kA steps there of saw k l m=some m'->
  (∀j x,l[j]? =some x->rZ steps ⟨there,of,m'⟩ x saw[k+j]?)/\∀y u,m y=some u->m' y=some u
 |[],k,m,m',h=>by cases h;exact⟨fun j x hx=>by simp at hx,fun y u hu=>hu⟩
 |x::l,k,m,m',h=>by
  rw[kA] at h;split at h
  ·cases h
  rename_i m1 h1;obtain⟨h2,h3⟩:=readName_ok h1;obtain⟨h4,h5⟩:=readSrc_ok h;refine⟨fun j y hy=>?_,fun y u hu=>h5 y u (h3 y u hu)⟩
  cases j with
  |zero=>
   simp at hy;subst hy;exact h2.more (fun i hi=>⟨hi,rfl⟩) h5
  |succ j=>
   have:=h4 j y (by simpa using hy)
   rwa [show k+1+j=k+(j+1) by omega] at this
structure DnOk (steps:List Stp) (st:RSt) (d:Dn) (s:Stp):Prop where
 len:d.saw.length=iC s
 saw:∀(j:Nat)(x:bA),s.src[j]? =some x->rZ steps st x d.saw[j]?
theorem readDn_ok{steps:List Stp}{st st':RSt}{d:Dn}(h:iV steps st d=some st'):∃i s,d.step=((i:Nat):Int)/\steps[i]? =some s/\st.there i=false/\st'.there=gS st.there i/\st'.of=qG st.of i d/\DnOk steps ⟨st.there,st.of,st'.inp⟩ d s/\∀y u,st.inp y=some u->st'.inp y=some u:=by
 unfold iV at h;split at h
 ·cases h
 rename_i h0;split at h
 ·cases h
 rename_i s hs;split at h
 ·cases h
 rename_i h1;split at h
 ·cases h
 rename_i m hm;injection h with h
 subst h;obtain⟨h2,h3⟩:=readSrc_ok hm;rw[not_or] at h1;refine⟨d.step.toNat,s,by omega,hs,by simpa using h1.1,rfl,rfl,⟨Classical.not_not.1 h1.2,fun j x hx=>?_⟩,h3⟩;have:=h2 j x hx
 rwa [Nat.zero_add] at this
structure ReadInv (steps:List Stp) (p:List Dn) (st:RSt) (pos:Nat->Nat):Prop where
 of:∀(i:Nat),st.there i=true->p[pos i]? =some (st.of i)/\(st.of i).step=(i:Int)
 mem:∀(j:Nat)(d:Dn),p[j]? =some d->∃i s,d.step=((i:Nat):Int)/\st.there i=true/\pos i=j/\steps[i]? =some s/\DnOk steps st d s/\∀x k,x∈s.src->aK steps x=some k->pos k<j
theorem readInv_first(steps:List Stp):ReadInv steps [] mM (fun _=>0):=⟨fun i hi=>(by cases hi),fun j d hd=>by simp at hd⟩
theorem ReadInv.next{steps:List Stp}{p:List Dn}{st st':RSt}{pos:Nat->Nat}{d:Dn}(h:ReadInv steps p st pos)(hd:iV steps st d=some st'):
  ∃pos',ReadInv steps (p++[d]) st' pos':=by
 obtain⟨i,s,h1,h2,h3,h4,h5,h6,h7⟩:=readDn_ok hd
 have JG:∀k,st.there k=true->st'.there k=true/\st'.of k=st.of k:=fun k hk=>by
  have:k≠i:=by rintro rfl;rw[h3] at hk;cases hk
  rw[h4,h5];simp[gS,qG,this,hk]
 refine⟨fun k=>if k=i then p.length else pos k,fun k hk=>?_,fun j e he=>?_⟩
 ·by_cases e:k=i
  ·subst e;simp only[if_true,h5];simp[qG,h1]
  have KO:st.there k=true:=by rw[h4] at hk;simpa[gS,e] using hk
  obtain⟨a,b⟩:=h.of k KO;simp only[e,if_false];rw[(JG k KO).2];exact⟨by rw[List.getElem?_append_left (List.getElem?_eq_some_iff.1 a).1];exact a,b⟩
 by_cases hj:j<p.length
 ·rw[List.getElem?_append_left hj] at he;obtain⟨k,t,a1,a2,a3,a4,a5,a6⟩:=h.mem j e he;have Q7:k≠i:=by rintro rfl;rw[h3] at a2;cases a2
  refine⟨k,t,a1,(JG k a2).1,by simp[Q7,a3],a4,⟨a5.len,fun j' x hx=>(a5.saw j' x hx).more JG h7⟩,fun x n hx hn=>?_⟩;have hq:=a6 x n hx hn;obtain⟨j',zJ⟩:=List.getElem?_of_mem hx;have hsaw:=a5.saw j' x zJ;unfold rZ at hsaw;rw[hn] at hsaw;have MN:st.there n=true:=hsaw.1;have KL:n≠i:=by rintro rfl;rw[h3] at MN;cases MN
  simpa[KL] using hq
 have hlen:j<(p++[d]).length:=(List.getElem?_eq_some_iff.1 he).1;have hje:j=p.length:=by simp at hlen;omega
 subst hje;have:e=d:=by simpa using he.symm
 subst this;refine⟨i,s,h1,by rw[h4];simp[gS],by simp,h2,⟨h6.len,fun j' x hx=>(h6.saw j' x hx).more (fun k hk=>JG k hk) (fun _ _ hu=>hu)⟩,fun x n hx hn=>?_⟩;obtain⟨j',zJ⟩:=List.getElem?_of_mem hx;have hsaw:=h6.saw j' x zJ;unfold rZ at hsaw;rw[hn] at hsaw;have MN:st.there n=true:=hsaw.1;have KL:n≠i:=by rintro rfl;rw[h3] at MN;cases MN
 simp only[KL,if_false];exact(List.getElem?_eq_some_iff.1 (h.of n MN).1).1
theorem readAll_ok{steps:List Stp}:∀{l p:List Dn}{st st':RSt}{pos:Nat->Nat},ReadInv steps p st pos->jG steps l st=some st'->(∃pos',ReadInv steps (p++l) st' pos')/\dZ st'.there steps.length+l.length=dZ st.there steps.length
 |[],p,st,st',pos,h,hr=>by cases hr;exact⟨⟨pos,by simpa using h⟩,rfl⟩
 |d::l,p,st,st',pos,h,hr=>by
  rw[jG] at hr;split at hr
  ·cases hr
  rename_i st1 h1;obtain⟨pos1,h2⟩:=h.next h1;obtain⟨⟨pos',h3⟩,h4⟩:=readAll_ok h2 hr;obtain⟨i,s,a1,a2,a3,a4,-⟩:=readDn_ok h1;have:=gP a3 steps.length (List.getElem?_eq_some_iff.1 a2).1;rw[<-a4] at this;refine⟨⟨pos',by simpa using h3⟩,?_⟩;simp only[List.length_cons];omega
structure mI (r:Rcp) (l:List Dn) (st:RSt) (pos:Nat->Nat):Prop where
 right:qA r
 len:l.length=r.steps.length
 inv:ReadInv r.steps l st pos
 all:∀i,i<r.steps.length->st.there i=true
theorem readL_ok{r:Rcp}{l:List Dn}{st:RSt}(h:bQ r l=some st):∃pos,mI r l st pos:=by
 unfold bQ at h;split at h
 ·cases h
 rename_i h0;rw[not_or,Classical.not_not,Classical.not_not] at h0;obtain⟨⟨pos,h1⟩,h2⟩:=readAll_ok (readInv_first r.steps) h;refine⟨pos,gG h0.1,h0.2,by simpa using h1,fun i hi=>?_⟩
 cases hh:st.there i with
 |true=>rfl
 |false=>
  exfalso;have h3:=leftN_pos hi hh;have h4:=leftN_le mM.there r.steps.length;omega
theorem pP:∀{l m:List bA}{k:Nat},dF l m=some k->∃x y,l[k]? =some x/\m[k]? =some y/\x≠y
 |[],m,k,h=>by simp[dF] at h
 |x::l,[],k,h=>by simp[dF] at h
 |x::l,y::m,k,h=>by
  rw[dF] at h;split at h
  ·rw[Option.map_eq_some_iff] at h;obtain⟨j,h1,rfl⟩:=h;obtain⟨a,b,h2,h3,h4⟩:=pP h1;exact⟨a,b,by simpa using h2,by simpa using h3,h4⟩
  rename_i sC;cases h;exact⟨x,y,rfl,rfl,sC⟩
section
variable {r:Rcp} {l:List Dn} {st:RSt} {pos:Nat->Nat}
theorem mI.at_(h:mI r l st pos){i:Nat}{s:Stp}(hs:r.steps[i]? =some s):
  l[pos i]? =some (st.of i)/\(st.of i).step=(i:Int)/\DnOk r.steps st (st.of i) s/\∀x k,x∈s.src->aK r.steps x=some k->pos k<pos i:=by
 obtain⟨h1,h2⟩:=h.inv.of i (h.all i (List.getElem?_eq_some_iff.1 hs).1);obtain⟨k,t,a1,a2,a3,a4,a5,a6⟩:=h.inv.mem _ _ h1;have e:k=i:=by rw[h2] at a1;exact(Int.ofNat.inj a1).symm
 subst e;rw[hs] at a4;cases a4;exact⟨h1,h2,a5,a6⟩
theorem mI.pos_lt(h:mI r l st pos){i:Nat}(hi:i<r.steps.length):pos i<r.steps.length:=by
 have:=(h.at_ (List.getElem?_eq_getElem hi)).1;rw[<-h.len];exact(List.getElem?_eq_some_iff.1 this).1
end
section
variable {r:Rcp} {la lb:List Dn} {X Y:RSt} {px py:Nat->Nat}
theorem saw_len(hx:mI r la X px)(hy:mI r lb Y py){i:Nat}{s:Stp}(hs:r.steps[i]? =some s):(X.of i).saw.length=iC s/\(Y.of i).saw.length=iC s:=
 ⟨(hx.at_ hs).2.2.1.len,(hy.at_ hs).2.2.1.len⟩
theorem sees_le(s:Stp):iC s<=s.src.length:=by unfold iC;split<;>omega
theorem chainNext_some(hx:mI r la X px)(hy:mI r lb Y py){i j:Nat}{s:Stp}(hs:r.steps[i]? =some s)(h:fH r.steps X Y i=some j):
  j<r.steps.length/\(X.of j).out≠(Y.of j).out/\px j<px i/\∃(k:Nat)(n x y:bA),s.src[k]? =some n/\aK r.steps n=some j/\(X.of i).saw[k]? =some x/\(Y.of i).saw[k]? =some y/\x≠y:=by
 unfold fH at h;split at h
 ·cases h
 rename_i k hk;rw[hs] at h;simp only at h;split at h
 ·cases h
 rename_i n hn;obtain⟨x,y,h1,h2,h3⟩:=pP hk;have hjlt:j<r.steps.length:=(List.findIdx?_eq_some_iff_getElem.1 h).1;have hX:=(hx.at_ hs).2.2.1.saw k n hn;have hY:=(hy.at_ hs).2.2.1.saw k n hn;unfold rZ at hX hY;rw[h] at hX hY;have e1:=hX.2 x h1;have e2:=hY.2 y h2;exact⟨hjlt,by rw[<-e1,<-e2];exact h3,(hx.at_ hs).2.2.2 n j (List.mem_of_getElem? hn) h,k,n,x,y,hn,h,h1,h2,h3⟩
theorem chainFrom_ok(hx:mI r la X px)(hy:mI r lb Y py):∀(f i:Nat)(out:List Nat),px i<f->i<r.steps.length->(X.of i).out≠(Y.of i).out->
  ∃t,fI r.steps X Y f i out=out++i::t/\(i::t).length<=px i+1/\∀(k j:Nat),(i::t)[k]? =some j->j<r.steps.length/\(X.of j).out≠(Y.of j).out/\fH r.steps X Y j=(i::t)[k+1]?
 |0,i,out,h,_,_=>absurd h (by omega)
 |f+1,i,out,h,hi,hd=>by
  rw[fI];have hs:=List.getElem?_eq_getElem hi;split
  ·rename_i hn;refine⟨[],rfl,by simp,fun k j hj=>?_⟩
   cases k with
   |zero=>simp at hj;subst hj;exact⟨hi,hd,by rw[hn];rfl⟩
   |succ k=>simp at hj
  rename_i j hj;obtain⟨h1,h2,h3,-⟩:=chainNext_some hx hy hs hj;obtain⟨t,h4,h5,h6⟩:=chainFrom_ok hx hy f j (out++[i]) (by omega) h1 h2;refine⟨j::t,by rw[h4];simp,by simp at h5 ⊢;omega,fun k m hm=>?_⟩
  cases k with
  |zero=>simp at hm;subst hm;exact⟨hi,hd,by rw[hj];rfl⟩
  |succ k=>exact h6 k m (by simpa using hm)
structure ChainIs (r:Rcp) (X Y:RSt) (e:Nat) (L:List Nat):Prop where
 head:L[0]? =some e
 len:L.length<=r.steps.length
 at_:∀(k j:Nat),L[k]? =some j->j<r.steps.length/\(X.of j).out≠(Y.of j).out/\fH r.steps X Y j=L[k+1]?
theorem chainL_is(hx:mI r la X px)(hy:mI r lb Y py){e:Nat}(hw:aK r.steps r.output=some e)(hd:(X.of e).out≠(Y.of e).out):∃L,chainL r X Y=L.reverse/\ChainIs r X Y e L:=by
 have he:e<r.steps.length:=(List.findIdx?_eq_some_iff_getElem.1 hw).1;have hp:=hx.pos_lt he;obtain⟨t,h1,h2,h3⟩:=chainFrom_ok hx hy (r.steps.length+1) e [] (by omega) he hd;refine⟨e::t,by unfold chainL;rw[hw];simp only;rw[if_neg hd,h1];rfl,rfl,by omega,h3⟩
theorem orderFrom_lt(steps:List Stp):∀(f:Nat)(done:Nat->Bool)(out:List Nat),(∀i,i∈out->i<steps.length)->∀i,i∈kT steps f done out->i<steps.length
 |0,_,_,h,i,hi=>h i hi
 |f+1,done,out,h,i,hi=>by
  rw[kT] at hi;split at hi
  ·exact h i hi
  rename_i k rest hk;refine orderFrom_lt steps f _ _ (fun j hj=>?_) i hi;rcases List.mem_append.1 hj with hj|hj
  ·exact h j hj
  simp at hj;subst hj;exact(nF (show j∈bK steps done by rw[hk];simp)).1
theorem orderAll_lt{steps:List Stp}{i:Nat}(h:i∈jN steps):i<steps.length:=orderFrom_lt steps _ _ _ (fun i hi=>by cases hi) i h
end
end Go.Proofs.YtacgopankhpnbaaGreatDoor
namespace Go.Proofs.YtacgopankhpnbaaGreatDoor
def lM(files:List Fil)(f:Fil):Option (List Fil):=match files.findIdx? (fun x=>decide (x.name=f.name)) with
 |none=>some (files++[f])
 |some i=>match files[i]? with
  |none=>none
  |some g=>if g.text=f.text then some files else none
def gC(saw:List bA)(k:Nat):bA:=if saw=[] then⟨#[]⟩ else saw.getD k ⟨#[]⟩
def fC(saw:List bA):Nat->List bA->List Fil->Option (List Fil)
 |_,[],files=>some files
 |k,n::l,files=>match lM files ⟨n,gC saw k⟩ with
  |none=>none
  |some fs=>fC saw (k+1) l fs
def eX(C:bA->Int×bA)(s:Stp)(saw:List bA)(clock order:List Int):Except Int bA:=match fC saw 0 s.src [] with
 |none=>.error 1
 |some files=>match cH C s files clock order 0 0 with
  | .error e=>.error e
  | .ok (text,_,_,_)=>.ok text
def oN(C:bA->Int×bA)(steps:List Stp)(d:Dn):Bool:=match steps[d.step.toNat]? with
 |none=>false
 |some s=>bZ s&&(match eX C s d.saw [] [] with
  | .ok t=>decide (t≠d.out)
  | .error _=>true)
def nD(C:bA->Int×bA)(r:Rcp)(l:List Dn):Option Nat:=if(bQ r l).isSome then l.findIdx? (oN C r.steps) else none
theorem sawOf_at:∀{files:List Fil}{src saw:List bA},fT files src=some saw->saw.length=src.length/\∀(k:Nat)(x:bA),src[k]? =some x->∃t,saw[k]? =some t/\aI files x=some t
 |files,[],saw,h=>by rw[fT] at h;cases h;exact⟨rfl,fun k x hx=>by simp at hx⟩
 |files,y::r,saw,h=>by
  rw[fT] at h;split at h
  ·rename_i t l ht hl;cases h;obtain⟨h1,h2⟩:=sawOf_at hl;refine⟨by simp[h1],fun k x hx=>?_⟩
   cases k with
   |zero=>
    simp at hx;subst hx;exact⟨t,rfl,ht⟩
   |succ k=>exact h2 k x (by simpa using hx)
  cases h
theorem right_from:∀{l:List Fil}{known:List bA},dQ l known=true↔(∀f∈l,eV f.name=true/\f.text.size<=65536/\f.name∉known)/\(l.map (·.name)).Nodup
 |[],known=>by simp[dQ]
 |f::r,known=>by
  rw[dQ];have ih:=right_from (l:=r) (known:=f.name::known);by_cases hb:((known.any fun x=>decide (x=f.name))|| !eV f.name||decide (65536<f.text.size))=true
  ·rw[if_pos hb];refine⟨fun h=>(by cases h),fun⟨h1,_⟩=>?_⟩;obtain⟨a1,a2,a3⟩:=h1 f (by simp);exfalso;simp only[Bool.or_eq_true,List.any_eq_true,decide_eq_true_eq,Bool.not_eq_true'] at hb;rcases hb with(⟨x,hx,e⟩|h)|h
   ·exact a3 (e▸hx)
   ·rw[a1] at h;cases h
   omega
  rw[if_neg hb,ih];simp only[Bool.or_eq_true,List.any_eq_true,decide_eq_true_eq,Bool.not_eq_true',not_or,not_exists,not_and] at hb;obtain⟨⟨b1,b2⟩,b3⟩:=hb;constructor
  ·rintro⟨h1,h2⟩;refine⟨fun g hg=>?_,?_⟩
   ·rcases List.mem_cons.1 hg with rfl|hg
    ·exact⟨by simpa using b2,by omega,fun hm=>b1 _ hm rfl⟩
    obtain⟨c1,c2,c3⟩:=h1 g hg;exact⟨c1,c2,fun hm=>c3 (by simp[hm])⟩
   rw[List.map_cons,List.nodup_cons];refine⟨fun hm=>?_,h2⟩;obtain⟨g,hg,e⟩:=List.mem_map.1 hm;exact(h1 g hg).2.2 (by rw[e];simp)
  rintro⟨h1,h2⟩;rw[List.map_cons,List.nodup_cons] at h2;refine⟨fun g hg=>?_,h2.2⟩;obtain⟨c1,c2,c3⟩:=h1 g (by simp[hg]);refine⟨c1,c2,fun hm=>?_⟩;rcases List.mem_cons.1 hm with e|hm
  ·exact h2.1 (List.mem_map.2 ⟨g,hg,e⟩)
  exact c3 hm
theorem find_named{l:List Fil}(hn:(l.map (·.name)).Nodup){f:Fil}(hf:f∈l):aI l f.name=some f.text:=by
 induction l with
 |nil=>cases hf
 |cons g l ih=>
  rw[List.map_cons,List.nodup_cons] at hn;unfold aI;rw[List.find?_cons];rcases List.mem_cons.1 hf with rfl|hm
  ·simp
  rw[show decide (g.name=f.name)=false from decide_eq_false (fun e=>hn.1 (List.mem_map.2 ⟨f,hm,e.symm⟩))];exact ih hn.2 hm
theorem find_mem{l:List Fil}{x t:bA}(h:aI l x=some t):∃f∈l,f.name=x/\f.text=t:=by
 unfold aI at h;rw[Option.map_eq_some_iff] at h;obtain⟨f,hf,rfl⟩:=h;exact⟨f,List.mem_of_find?_eq_some hf,by simpa using List.find?_some hf,rfl⟩
theorem replay_ok{saw:List bA}(tx:bA->bA):∀(src:List bA)(k:Nat)(fs:List Fil),(∀j n,src[j]? =some n->gC saw (k+j)=tx n)->(∀f∈fs,f.text=tx f.name)->(fs.map (·.name)).Nodup->
  ∃fs',fC saw k src fs=some fs'/\(∀f∈fs',f.text=tx f.name)/\(fs'.map (·.name)).Nodup/\(∀f∈fs',f∈fs\/f.name∈src)/\(∀n∈src,∃f∈fs',f.name=n)/\∀f∈fs,f∈fs'
 |[],k,fs,_,h2,h3=>⟨fs,rfl,h2,h3,fun f hf=>.inl hf,fun n hn=>(by cases hn),fun f hf=>hf⟩
 |n::src,k,fs,h1,h2,h3=>by
  have ht:=h1 0 n rfl;rw[Nat.add_zero] at ht
  have hnx:∀j m,src[j]? =some m->gC saw (k+1+j)=tx m:=fun j m hm=>by
   have:=h1 (j+1) m (by simpa using hm)
   rwa [show k+(j+1)=k+1+j by omega] at this
  rw[fC];unfold lM
  cases hi:fs.findIdx? (fun x=>decide (x.name=n)) with
  |none=>
   have CN:∀f∈fs,f.name≠n:=fun f hf=>by
    rw[List.findIdx?_eq_none_iff] at hi;simpa using hi f hf
   obtain⟨fs',a1,a2,a3,a4,a5,a6⟩:=replay_ok tx src (k+1) (fs++[⟨n,gC saw k⟩]) hnx (fun f hf=>by
    rcases List.mem_append.1 hf with hf|hf
    ·exact h2 f hf
    ·rw[List.mem_singleton.1 hf];exact ht) (by
    rw[List.map_append,List.nodup_append];refine⟨h3,by simp,fun a ha b hb e=>?_⟩;simp at hb;obtain⟨f,hf,e2⟩:=List.mem_map.1 ha
    exact CN f hf (by rw[e2,e,hb]))
   refine⟨fs',a1,a2,a3,fun f hf=>?_,fun m hm=>?_,fun f hf=>a6 f (by simp[hf])⟩
   ·rcases a4 f hf with h|h
    ·rcases List.mem_append.1 h with h|h
     ·exact .inl h
     right;rw[List.mem_singleton.1 h];simp
    exact .inr (by simp[h])
   rcases List.mem_cons.1 hm with rfl|hm
   ·exact⟨_,a6 ⟨m,gC saw k⟩ (by simp),rfl⟩
   exact a5 m hm
  |some i=>
   rw[List.findIdx?_eq_some_iff_getElem] at hi;obtain⟨sE,JD,-⟩:=hi;(have JD:fs[i].name=n:=by simpa using JD);have vW:fs[i]∈fs:=List.getElem_mem sE;simp only[List.getElem?_eq_getElem sE];rw[if_pos (by rw[h2 _ vW,JD,ht])];obtain⟨fs',a1,a2,a3,a4,a5,a6⟩:=replay_ok tx src (k+1) fs hnx h2 h3;refine⟨fs',a1,a2,a3,fun f hf=>?_,fun m hm=>?_,a6⟩
   ·rcases a4 f hf with h|h
    ·exact .inl h
    exact .inr (by simp[h])
   rcases List.mem_cons.1 hm with rfl|hm
   ·exact⟨_,a6 _ vW,JD⟩
   exact a5 m hm
theorem saw_map{fs:List Fil}{tx:bA->bA}:∀{src:List bA},(∀n∈src,aI fs n=some (tx n))->fT fs src=some (src.map tx)
 |[],_=>rfl
 |n::r,h=>by
  rw[fT,h n (by simp),saw_map (fun m hm=>h m (by simp[hm]))];rfl
end Go.Proofs.YtacgopankhpnbaaGreatDoor
