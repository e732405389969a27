/- -/
import Derived.Test.YtacgopankhpnbaaGreatDoorTQY
import Derived.Test.YtacgopankhpnbaaGreatDoorTQAH
set_option maxHeartbeats 1000000
set_option linter.unusedVariables false
set_option linter.unusedSimpArgs false
namespace Go.Proofs.YtacgopankhpnbaaGreatDoor
open Go.RowKit
theorem ZQ{p:Prop}(h:p:=by
 have hh:=h;obtain⟨a,c,hv,h1,h2,-⟩:=hh;refine⟨a,c,hv,aAM,fun i y hy=>?_⟩;rcases h.cases with⟨rfl,-⟩|⟨b,o,c',e,-,-,-,-,hc⟩
 ·simp at hy
 rw[hv] at e;cases e
 exact⟨b,o,rfl,hc i y hy⟩):p:=h
theorem stps_at{w:World}{v:Value}{l:List (Value×Stp)}(h:pZ w v l):∃a c,v=.slice a l.length c/\l.length<=9223372036854775807/\∀i y,l[i]? =some y->∃b o,a=some ⟨b,o,none⟩/\w.cell? ⟨b,o+i*4,none⟩=some (.int .i64 y.2.kind)/\w.cell? ⟨b,o+i*4+1,none⟩=some y.1/\w.cell? ⟨b,o+i*4+2,none⟩=some (.string y.2.out)/\w.cell? ⟨b,o+i*4+3,none⟩=some (.bool y.2.sorted)/\Strs w y.1 y.2.src/\y.2.out.size<=140737488355328:=by
 exact ZQ
theorem doStep_nz{C:bA->Int×bA}{s:Stp}{files:List Fil}{ck od:List Int}{u0 u1 c:Int}(h:cH C s files ck od u0 u1=.error c):c≠0:=by
 rcases doStep_cases C s files u0 u1 with⟨d,hd,e⟩|⟨saw,-,-,-,⟨-,e⟩|⟨-,e⟩⟩
 ·rw[e] at h;cases h;exact hd
 ·rw[e] at h;cases h
 rw[e] at h;split at h
 ·cases h;decide
 cases h
theorem runFrom_nz{C:bA->Int×bA}{steps:List Stp}{ck od nx:List Int}{c:Int}:∀(f:Nat)(done:Nat->Bool)(out:List Dn)(files:List Fil)(u0 u1:Int),kR C steps ck od nx f done out files u0 u1=.error c->c≠0
 |0,_,_,_,_,_,h=>by rw[kR] at h;cases h
 |f+1,done,out,files,u0,u1,h=>by
  rw[kR] at h;split at h
  ·cases h
  split at h
  ·cases h
  split at h
  ·rename_i e he;cases h;exact doStep_nz he
  exact runFrom_nz f _ _ _ _ _ h
theorem runL_nz{C:bA->Int×bA}{r:Rcp}{ck od nx:List Int}{c:Int}(h:mZ C r ck od nx=.error c):c≠0:=by
 unfold mZ at h;split at h
 ·rename_i h0;cases h;exact h0
 split at h
 ·rename_i e he;cases h;exact runFrom_nz _ _ _ _ _ _ he
 cases h
def RunIs(res:Except Int (List Dn×bA))(va:Value)(sa:bA)(ea:Int)(w:World):Prop:=
 (∃c,res=.error c/\ea=c/\c≠0/\va=.slice none 0 0/\sa=⟨#[]⟩)\/(∃out L,res=.ok (out,sa)/\ea=0/\Dns w va L/\L.map (·.2)=out)
theorem RunIs.ok{res:Except Int (List Dn×bA)}{va:Value}{sa:bA}{w:World}(h:RunIs res va sa 0 w):∃out L,res=.ok (out,sa)/\Dns w va L/\L.map (·.2)=out:=by
 rcases h with⟨c,-,e,hc,-⟩|⟨out,L,h1,-,h3,h4⟩
 ·exact absurd e.symm hc
 exact⟨out,L,h1,h3,h4⟩
def RunSays(w:World)(res:Except Int (List Dn×bA))(e:Ending)(w':World):Prop:=∃a n c sa ea,e=.returned (.tuple #[.slice a n c,.string sa,.int .i64 ea])/\Hid (RunIs res (.slice a n c) sa ea w')/\Below w.heap.size w w'
theorem qI(r:Rcp)(L:List (Value×Stp))(vi vs vc vo vn:Value)(ck od nx:List Int)(w:World)(h:dR r L vi vs w)(hw:nC ck od nx vc vo vn w)(hG:dL w):
  Calls Tryz.prog 29 #[jD vi vs r.output,.agg #[vc,vo,vn]] w (RunSays w (mZ bC r ck od nx)):=by
 have key:Calls Tryz.prog 29 #[jD vi vs r.output,.agg #[vc,vo,vn]] w (RunPost w (mZ bC r ck od nx)):=by
  by_cases he:aP r=0
  ·exact run_good bC r L vi vs vc vo vn ck od nx w h hw hG (fun s _=>rS s) he
  exact run_bad bC r L vi vs vc vo vn ck od nx w h hw he
 refine key.mono ?_;rintro e w' ⟨hb,hm⟩
 cases hr:mZ bC r ck od nx with
 |error c=>
  rw[hr] at hm;exact⟨_,_,_,_,_,hm,zh (.inl ⟨c,rfl,rfl,runL_nz hr,rfl,rfl⟩),hb⟩
 |ok p=>
  obtain⟨out,text⟩:=p;rw[hr] at hm;obtain⟨v,M,he,hD,hM⟩:=hm;obtain⟨a,c,rfl⟩:=fB hD;exact⟨_,_,_,_,_,he,zh (.inr ⟨out,M,rfl,rfl,hD,hM⟩),hb⟩
def OkBelow(w:World)(e:Ending)(w':World):Prop:=e=.returned (.bool true)/\Below w.heap.size w w'
theorem Z6{p:Prop}(h:p:=by
 go_enter Tryz.func47,Tryz.ntmps47;go_wp2_with fail;go_ret
 exact⟨_,rfl,aA _ _⟩):p:=h
theorem nR(a1 a2 a3:Option Addr)(n1 n2 n3 c1 c2 c3:Nat)(w:World):
  Calls Tryz.prog 47 #[mQ a1 n1 c1 a2 n2 c2 a3 n3 c3] w (AnyBool w):=by
 by_cases h1:(n1:Int)<=30
 ·by_cases h2:(n2:Int)<=30
  ·exact Z6
  exact Z6
 exact Z6
end Go.Proofs.YtacgopankhpnbaaGreatDoor
