/- Texts of this seat, joined. -/
import Derived.Test.YtacgopankhpnbaaGreatDoorSW
import Derived.Test.YtacgopankhpnbaaGreatDoorDoD
import Derived.Test.YtacgopankhpnbaaGreatDoorSE
set_option linter.unusedVariables false
set_option linter.unusedSimpArgs false
namespace Go.Proofs.YtacgopankhpnbaaGreatDoor
open Go.RowKit
theorem fils_at{w:World}{v:Value}{l:List Fil}(h:iB w v l):∃a c,v=.slice a l.length c/\l.length<=9223372036854775807/\∀i f,l[i]? =some f->∃b o,a=some ⟨b,o,none⟩/\w.cell? ⟨b,o+i*2,none⟩=some (.string f.name)/\w.cell? ⟨b,o+i*2+1,none⟩=some (.string f.text)/\f.name.size<=140737488355328/\f.text.size<=140737488355328:=by
 have hh:=h;obtain⟨a,c,hv,h1,h2,-⟩:=hh;refine⟨a,c,hv,VG,fun i f hf=>?_⟩;rcases h.cases with⟨rfl,-⟩|⟨b,o,c',e,-,-,-,-,hc⟩
 ·simp at hf
 ·rw[hv] at e;cases e;obtain⟨h1,h2,h3⟩:=hc i f hf;exact⟨b,o,rfl,h1,h2,h3⟩
theorem strs_at{w:World}{v:Value}{l:List ByteArray}(h:Strs w v l):∃a c,v=.slice a l.length c/\l.length<=9223372036854775807/\∀i x,l[i]? =some x->∃b o,a=some ⟨b,o,none⟩/\w.cell? ⟨b,o+i,none⟩=some (.string x)/\x.size<=140737488355328:=by
 have hh:=h;obtain⟨a,c,hv,h1,h2,-⟩:=hh;refine⟨a,c,hv,VG,fun i x hx=>?_⟩;rcases h.cases with⟨rfl,-⟩|⟨b,o,c',e,-,-,-,-,hc⟩
 ·simp at hx
 ·rw[hv] at e;cases e;obtain⟨h1,h2⟩:=hc i x hx;exact⟨b,o,rfl,h1,h2⟩
theorem stps_at{w:World}{v:Value}{l:List (Value×Stp)}(h:lD w v l):∃a c,v=.slice a l.length c/\l.length<=9223372036854775807/\∀i y,l[i]? =some y->∃b o,a=some ⟨b,o,none⟩/\w.cell? ⟨b,o+i*4,none⟩=some (.int .i64 y.2.kind)/\w.cell? ⟨b,o+i*4+1,none⟩=some y.1/\w.cell? ⟨b,o+i*4+2,none⟩=some (.string y.2.out)/\w.cell? ⟨b,o+i*4+3,none⟩=some (.bool y.2.sorted)/\Strs w y.1 y.2.src/\y.2.out.size<=140737488355328:=by
 have hh:=h;obtain⟨a,c,hv,h1,h2,-⟩:=hh;refine⟨a,c,hv,VG,fun i y hy=>?_⟩;rcases h.cases with⟨rfl,-⟩|⟨b,o,c',e,-,-,-,-,hc⟩
 ·simp at hy
 ·rw[hv] at e;cases e;exact⟨b,o,rfl,hc i y hy⟩
theorem ints_at{w:World}{v:Value}{l:List Int}(h:gN w v l):∃a c,v=.slice a l.length c/\l.length<=9223372036854775807/\∀i x,l[i]? =some x->∃b o,a=some ⟨b,o,none⟩/\w.cell? ⟨b,o+i,none⟩=some (.int .i64 x):=by
 have hh:=h;obtain⟨a,c,hv,h1,h2,-⟩:=hh;refine⟨a,c,hv,VG,fun i x hx=>?_⟩;rcases h.cases with⟨rfl,-⟩|⟨b,o,c',e,-,-,-,-,hc⟩
 ·simp at hx
 ·rw[hv] at e;cases e;exact⟨b,o,rfl,hc i x hx⟩
theorem doStep_nz{C:ByteArray->Int×ByteArray}{s:Stp}{files:List Fil}{ck od:List Int}{u0 u1 c:Int}(h:cW C s files ck od u0 u1=.error c):c≠0:=by
 rcases doStep_cases C s files u0 u1 with⟨d,hd,e⟩|⟨saw,-,-,-,⟨-,e⟩|⟨-,e⟩⟩
 ·rw[e] at h;cases h;exact hd
 ·rw[e] at h;cases h
 ·rw[e] at h;split at h
  ·cases h;decide
  ·cases h
theorem runFrom_nz{C:ByteArray->Int×ByteArray}{steps:List Stp}{ck od nx:List Int}{c:Int}:∀(f:Nat)(done:Nat->Bool)(out:List Dn)(files:List Fil)(u0 u1:Int),jM C steps ck od nx f done out files u0 u1=.error c->c≠0
 |0,_,_,_,_,_,h=>by rw[jM] at h;cases h
 |f+1,done,out,files,u0,u1,h=>by
  rw[jM] at h;split at h
  ·cases h
  ·split at h
   ·cases h
   ·split at h
    ·rename_i e he;cases h;exact doStep_nz he
    ·exact runFrom_nz f _ _ _ _ _ h
theorem runL_nz{C:ByteArray->Int×ByteArray}{r:Rcp}{ck od nx:List Int}{c:Int}(h:mE C r ck od nx=.error c):c≠0:=by
 unfold mE at h;split at h
 ·rename_i h0;cases h;exact h0
 ·split at h
  ·rename_i e he;cases h;exact runFrom_nz _ _ _ _ _ _ he
  ·cases h
def RunIs(res:Except Int (List Dn×ByteArray))(va:Value)(sa:ByteArray)(ea:Int)(w:World):Prop:=
 (∃c,res=.error c/\ea=c/\c≠0/\va=.slice none 0 0/\sa=⟨#[]⟩)\/(∃out L,res=.ok (out,sa)/\ea=0/\Dns w va L/\L.map (·.2)=out)
theorem RunIs.ok{res:Except Int (List Dn×ByteArray)}{va:Value}{sa:ByteArray}{w:World}(h:RunIs res va sa 0 w):∃out L,res=.ok (out,sa)/\Dns w va L/\L.map (·.2)=out:=by
 rcases h with⟨c,-,e,hc,-⟩|⟨out,L,h1,-,h3,h4⟩
 ·exact absurd e.symm hc
 ·exact⟨out,L,h1,h3,h4⟩
theorem RunIs.bad{res:Except Int (List Dn×ByteArray)}{va:Value}{sa:ByteArray}{ea:Int}{w:World}(h:RunIs res va sa ea w)(he:ea≠0):res=.error ea/\va=.slice none 0 0/\sa=⟨#[]⟩:=by
 rcases h with⟨c,h1,rfl,hc,h2,h3⟩|⟨out,L,h1,h2,-⟩
 ·exact⟨h1,h2,h3⟩
 ·exact absurd h2 he
def RunSays(w:World)(res:Except Int (List Dn×ByteArray))(e:Ending)(w':World):Prop:=∃a n c sa ea,e=.returned (.tuple #[.slice a n c,.string sa,.int .i64 ea])/\Hid (RunIs res (.slice a n c) sa ea w')/\Below w.heap.size w w'
theorem runSays_any(r:Rcp)(L:List (Value×Stp))(vi vs vc vo vn:Value)(ck od nx:List Int)(w:World)(h:eL r L vi vs w)(hw:WldIn ck od nx vc vo vn w)(hG:dH w):
  Calls Tryz.prog 29 #[lY vi vs r.output,.agg #[vc,vo,vn]] w (RunSays w (mE bP r ck od nx)):=by
 have key:Calls Tryz.prog 29 #[lY vi vs r.output,.agg #[vc,vo,vn]] w (RunPost w (mE bP r ck od nx)):=by
  by_cases he:aU r=0
  ·exact run_good bP r L vi vs vc vo vn ck od nx w h hw hG (fun s _=>doAll_any s) he
  ·exact run_bad bP r L vi vs vc vo vn ck od nx w h hw he
 refine key.mono ?_;rintro e w' ⟨hb,hm⟩
 cases hr:mE bP r ck od nx with
 |error c=>
  rw[hr] at hm;exact⟨_,_,_,_,_,hm,zh (.inl ⟨c,rfl,rfl,runL_nz hr,rfl,rfl⟩),hb⟩
 |ok p=>
  obtain⟨out,text⟩:=p;rw[hr] at hm;obtain⟨v,M,he,hD,hM⟩:=hm;obtain⟨a,c,rfl⟩:=dns_slice hD;exact⟨_,_,_,_,_,he,zh (.inr ⟨out,M,rfl,rfl,hD,hM⟩),hb⟩
def kW(r:Rcp)(k:Nat):Bool:=(r.steps.take k).all cX
theorem pureTo_succ{r:Rcp}{k:Nat}{s:Stp}(h:r.steps[k]? =some s):kW r (k+1)=(kW r k&&cX s):=by
 unfold kW;rw[List.take_add_one,h];simp
theorem pureTo_all{r:Rcp}(h:kW r r.steps.length=true):∀s∈r.steps,cX s=true:=by
 unfold kW at h;rw[List.take_length] at h;exact List.all_eq_true.1 h
def OkBelow(w:World)(e:Ending)(w':World):Prop:=e=.returned (.bool true)/\Below w.heap.size w w'
end Go.Proofs.YtacgopankhpnbaaGreatDoor
