/- Texts of this seat, joined. -/
import Derived.Test.YtacgopankhpnbaaGreatDoorDoCxPuSe
import Derived.Test.YtacgopankhpnbaaGreatDoorCardDxPuSaSe
namespace Go.Proofs.YtacgopankhpnbaaGreatDoor
set_option maxRecDepth 100000
open Go.ChangeShapes Go.WideShapes Go.ChangeAt Go.RowKit Go.Deep Go.Joins
theorem read_fls{H:Type}{enc:TypeId×Value->H}{W:World}{base:Nat}{v:Value}{d:DataW H}{p:List MemPlace}(hok:Value.okWide Tryz.prog W .any base 25 v)(h:DataW.Trod enc Tryz.prog W 0 (fun _=>true) true 25 v d p)
  (hz:(d.weights Tryz.prog 25).all (· <=reachBytes)=true):∃l:List Fil,eP W v l:=by
 obtain⟨a0,len,cap,rfl⟩:=okWide_slice Tryz.underlying25 hok;obtain⟨n,h⟩:=h;exact field_fils (y:=(d,p)) h hz
theorem read_stp{H:Type}{enc:TypeId×Value->H}{W:World}{base:Nat}{v:Value}{d:DataW H}{p:List MemPlace}(hok:Value.okWide Tryz.prog W .any base 24 v)(h:DataW.Trod enc Tryz.prog W 0 (fun _=>true) true 24 v d p)
  (hz:(d.weights Tryz.prog 24).all (· <=reachBytes)=true):∃(s:Stp)(vf:Value),v=.agg #[.int .i64 s.kind,vf,.string s.out,.bool s.sorted]/\Strs W vf s.src/\s.out.size<=140737488355328:=by
 obtain⟨v0,v1,v2,v3,y0,y1,y2,y3,n,rfl,rfl,-,h0,h1,h2,h3⟩:=open_agg4 Tryz.underlying24 vU vU hok h;rw[DataW.weights,Tryz.underlying24] at hz;obtain⟨k,rfl⟩:=field_int vU h0;obtain⟨ls,hls⟩:=field_strs h1 (eE hz (j:=1) rfl rfl);obtain⟨o,rfl,ho⟩:=mE vU h2 (eE hz (j:=2) rfl rfl);obtain⟨q,rfl⟩:=field_bool vU h3;exact⟨⟨k,ls,o,q⟩,v1,rfl,hls,ho⟩
theorem weights_4{H:Type}{t0 t1 t2 t3:TypeId}{us:List TypeId}{d0 d1 d2 d3:DataW H}(h:(DataW.weightsEach Tryz.prog ([t0,t1,t2,t3]++us) [d0,d1,d2,d3]).all (· <=reachBytes)=true):
  (d0.weights Tryz.prog t0).all (· <=reachBytes)=true/\(d1.weights Tryz.prog t1).all (· <=reachBytes)=true/\(d2.weights Tryz.prog t2).all (· <=reachBytes)=true/\(d3.weights Tryz.prog t3).all (· <=reachBytes)=true:=by
 simp only[List.cons_append,DataW.weightsEach,List.all_append,Bool.and_eq_true] at h;exact⟨h.1,h.2.1,h.2.2.1,h.2.2.2.1⟩
theorem do_in{s:Stp}{vf vl vc vo vn:Value}{files:List Fil}{ck od nx:List Int}{W:World}(u0 u1:Int)(hG:bV W)(hs:Strs W vf s.src)(ho:s.out.size<=140737488355328)(hf:eP W vl files)(hw:oX ck od nx vc vo vn W)(h0: -9223372036854775808<=u0/\u0<=1152921504606846976)(h1: -9223372036854775808<=u1/\u1<=1152921504606846976):
  DoIn s files ck od vf vl vc vo vn u0 u1 W:=
 ⟨hG,hs,ho,hf,hw.clk,hw.ord,by obtain⟨-,-,a,c,h⟩:=hw.slices;exact⟨_,_,_,h⟩,h0,h1,hw.cwf,hw.owf⟩
end Go.Proofs.YtacgopankhpnbaaGreatDoor
