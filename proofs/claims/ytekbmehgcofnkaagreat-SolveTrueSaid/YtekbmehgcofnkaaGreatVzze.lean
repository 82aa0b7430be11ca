/- - -/
import Derived.Test.YtekbmehgcofnkaaGreatVzv
import Derived.Test.YtekbmehgcofnkaaGreatVzzb
set_option linter.all false
open Go.Proofs.Tryz
set_option maxRecDepth 100000
namespace Go.Proofs.YtekbmehgcofnkaaGreat
open Go Go.SX Go.RowKit Go.ChangeShapes Go.WideShapes Go.ChangeAt
theorem QdL{H:Type}{enc:TypeId×Value->H}{w:World}{base:Nat}{v:Value}{d:DataW H}{ps:List MemPlace}(h:Value.okWide prog w .any base 41 v)(hd:DataW.Trod enc prog w 0 (λ_=>true) true 41 v d ps):
  ∃ (x:Rw QU) (l:Go.SX.Loc),(∀ i,i<x.n->0<=(x.get i).n/\(x.get i).n<=65535)/\∀(k:Nat) (r:Nat->Go.SX.Loc),r k=l->(Qg.val k x).den r=v/\∀ q∈Qg.blk k x,QN r q.1 w q.2:=by
 obtain⟨x,l,hx⟩:=QI7 (α:=QU) (m:=5) underlying41 (by kernel_rfl) (by kernel_rfl) h hd
 refine⟨x,l,λi hi=>?_,hx⟩;obtain⟨oa,len,cap,rfl⟩:=okWide_slice underlying41 h;obtain⟨fuel,hd⟩:=hd;have hcs:(Value.slice oa len cap).cells.toList=[Value.slice oa len cap]:=rfl;rw[hcs]at hd;obtain⟨hv,hb⟩:=hx 0 (λ_=>l) rfl;have hb:QN (λ_=>l) 0 w (.frz [.int .u16] x.n λi=>QA.enc (x.get i)):=hb _ (List.mem_singleton.2 rfl);have hv:Value.slice (l.base 0) x.n (l.room ((Cap.of 0).den l.cap)) = .slice oa len cap:=hv;simp only[Value.slice.injEq]at hv;obtain⟨ha,hn,_⟩:=hv;have hrows:Vm w (λ_=>l) l 1 x.n (QY [.int .u16] λi=>QA.enc (x.get i)):=hb.2.2
 have hnil:l.nil=false:=by
  cases hq:l.nil with
  | false=>rfl
  | true=>have:=hrows.1 hq;omega
 have hc:=((hrows.2 i hi).2.2 0 (.int false .u16 (x.get i).n) rfl).2;rcases Go.Deep.open_slice underlying41 hd with ⟨e1,_⟩|⟨a,len',cap',mm,n,D,Pl,e1,_,hlc,_,hm,_,hy⟩
 .simp only[List.cons.injEq,Value.slice.injEq,and_true]at e1;omega
 .simp only[List.cons.injEq,Value.slice.injEq,and_true]at e1;obtain⟨rfl,rfl,rfl⟩:=e1;obtain⟨cs,h1,h2⟩:=hy i (by rw[hm];split<;>omega)
  obtain⟨z,rfl,_,hz⟩:=DataW.trod_int underlying52 h2;obtain⟨_,hl,hcell⟩:=World.cells?_some h1;have hc1:prog.cellsOf 52=1:=by kernel_rfl
  have h0:=hcell 0 (by rw[hc1];decide)
  have ea:a=⟨l.blk,l.off+0*l.esz,none⟩:=by
   unfold Loc.base at ha;rw[hnil]at ha;exact(qsJ ha).symm
  rw[ea,Ve,Ve,hc1]at h0;have e2:l.off+0*l.esz+i*1+0=l.off+i*1+0:=by omega
  rw[e2,hc]at h0;have h0:some (Value.int .u16 (x.get i).n)=some (Value.int .u16 z):=h0;simp only[qsI,Value.int.injEq,true_and]at h0;rw[h0];have hz:(decide (0<=z)&&decide (z<=65535))=true:=hz;rw[qbA,qdE,qdE]at hz;exact hz
