/- - -/
import Derived.Test.YtekbmehgcofnkaaGreatKzx
import Derived.Test.YtekbmehgcofnkaaGreatKzv
import Derived.Test.YtekbmehgcofnkaaGreatKzg
set_option linter.all false
open Go.Proofs.Tryz
set_option maxRecDepth 100000
namespace Go.Proofs.YtekbmehgcofnkaaGreat
open Go Go.SX Go.RowKit Go.ChangeShapes Go.WideShapes Go.ChangeAt
theorem QfS{H:Type}{enc:TypeId×Value->H}{w:World}{base:Nat}{v:Value}{d:DataW H}{ps:List MemPlace}(h:Value.okWide prog w .any base 29 v)(hd:DataW.Trod enc prog w 0 (λ_=>true) true 29 v d ps):
  ∃ (x:Rc Pt) (l:Go.SX.Loc),x.n<=x.c/\∀(k:Nat) (r:Nat->Go.SX.Loc),r k=l->(Qi.val k x).den r=v/\∀ q∈Qi.blk k x,QM r q.1 w q.2:=by
 obtain⟨x,l,hx⟩:=QLc (α:=Pt) (m:=5) underlying29 (by kernel_rfl) (by kernel_rfl) h hd
 refine⟨⟨x.n,x.get,l.cap⟩,l,?_,λk r hr=>?_⟩
 .obtain⟨oa,len,cap,rfl⟩:=okWide_slice underlying29 h;obtain⟨fuel,hd⟩:=hd;have hcs:(Value.slice oa len cap).cells.toList=[Value.slice oa len cap]:=rfl;rw[hcs]at hd;obtain⟨hv,hb⟩:=hx 0 (λ_=>l) rfl;have hb:QM (λ_=>l) 0 w (.frz (QA.ks Pt) x.n λi=>QA.enc (x.get i)):=hb _ (List.mem_singleton.2 rfl);have hv:Value.slice (l.base 0) x.n (l.room ((Cap.of 0).den l.cap)) = .slice oa len cap:=hv;simp only[Value.slice.injEq]at hv;obtain⟨_,hn,hr⟩:=hv;have hrows:Vk w (λ_=>l) l (QA.ks Pt).length x.n (QW (QA.ks Pt) λi=>QA.enc (x.get i)):=hb.2.2;show x.n<=l.cap;cases hq:l.nil with
  | true=>have:=hrows.1 hq;omega
  | false=>
   have hr:l.cap=cap:=by
    unfold Loc.room at hr;rw[hq]at hr;exact hr
   rcases Go.Deep.open_slice underlying29 hd with ⟨e1,_⟩|⟨a,len',cap',mm,n,D,Pl,e1,_,hlc,_⟩
   .simp only[List.cons.injEq,Value.slice.injEq,and_true]at e1;omega
   .simp only[List.cons.injEq,Value.slice.injEq,and_true]at e1;obtain⟨_,rfl,rfl⟩:=e1;omega
 .obtain⟨h1,h2⟩:=hx k r hr;refine⟨?_,h2⟩;rw[<-h1];show(AV.slz k 0 x.n (.lit l.cap)).den r=(AV.slz k 0 x.n (.of 0)).den r;simp only[AV.den,Cap.den,hr,Nat.sub_zero]
