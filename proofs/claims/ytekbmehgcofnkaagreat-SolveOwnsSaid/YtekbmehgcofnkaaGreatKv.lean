/- - -/
import Derived.Test.YtekbmehgcofnkaaGreatKt
import Derived.Test.YtekbmehgcofnkaaGreatKu
set_option linter.all false
open Go.Proofs.Tryz
set_option maxRecDepth 100000
namespace Go.Proofs.YtekbmehgcofnkaaGreat
open Go.SX
theorem J4{p:Nat->Bool}{n k:Nat}(h:k<n):(p k=true->QU p (n-k) k=some k)/\(p k=false->QU p (n-k) k=QU p (n-(k+1)) (k+1)):=by
 obtain⟨m,hm⟩:∃ m,n-k=m+1:=⟨n-k-1,by omega⟩
 rw[hm,show n-(k+1)=m by omega,QU]
 exact⟨λe=>by rw[e],λe=>by rw[e]⟩
theorem Vj{k n:Nat}(h:k<n)(hn:n<=1000):IntKind.i64.wrap ((k:Int)+1)=((k+1:Nat):Int):=(w64 (by omega) (by omega)).trans (by omega)
theorem QVL(d:Puz)(hn:d.ps.n<=1000):JL (ipJ d) (λk=>k<=d.ps.n) (λk=>d.ps.n-k) (ipR d) 8 QQP [] (mkE prog Yu) (λ_=>hnd (mkE prog Yu) 4) (QH f99 0):=by
 refine⟨λk g hk=>Qe (QUl d k g) ?_⟩;refine QF ?_ ?_<;>intro h
 .have h:k<d.ps.n:=by have:=qdt h;omega
  have hf:=J4 (p:=XB d) h;refine QG (by simp;omega) (QG (by simp;omega) (QG rfl (QF (λhb=>?_) (λhb=>?_))))
  .have hb:XB d k=true:=(QOr d.pK (d.ps.get k) _ rfl rfl rfl rfl rfl).symm.trans hb;exact⟨_,.inl ⟨rfl,by rw[hf.1 hb];rfl,rfl⟩,rfl,rfl,_,QbY,⟨rfl,trivial⟩⟩
  .have hb:XB d k=false:=(QOr d.pK (d.ps.get k) _ rfl rfl rfl rfl rfl).symm.trans hb;refine⟨k+1,h,by show d.ps.n-(k+1)<d.ps.n-k;omega,λe J h=>by unfold ipR at h ⊢;rw[hf.2 hb];exact h,rfl,rfl,_,Qey d k (k+1),?_⟩
   repeat' first|with_reducible refine QO ?_ ?_|exact tv|exact qRr|exact Vj h hn|refine aI ?_ ?_
 .have h:d.ps.n<=k:=by have:=qdf h;omega
  exact⟨_,.inr ⟨rfl,by rw[show d.ps.n-k=0 by omega];rfl,rfl⟩,rfl,rfl,_,QbH,trivial⟩
def ipX(d:Puz):List (Prop×Ex×JSt):=[((QU (XB d) d.ps.n 0).isNone=false,.ret,QHp),((QU (XB d) d.ps.n 0).isNone=true,.exit 0,QFO)]
abbrev ipH(P:Program)(d:Puz):Hnd:={ hnd (mkE P Yu) 1 with loop:=λ_=>Kr (d.ps.n<=1000) (Q4 8 [] (ipJ d (0:Nat)) (ipX d)) }
theorem Qfb(d:Puz)(G:Ctx)(hrd:G.rd=none)(hG:G.n=8):Qx (mkE prog Yu) G (ipH prog d) (Qk f99):=by
 refine KR (body:=QH f99 0) (QN HU) hrd (by kernel_rfl) ?_
 refine JK λhl=>?_;refine Jt (n0:=8) (QN HU) (by omega) (λs hs=>Qu (QN HU) 4 G _ hrd) (λs hs=>(by decide:8<=48)) ?_ (QVL d hl) (s0:=0) (Nat.zero_le _) ?_
 .rintro s e J (⟨_,_,rfl⟩|⟨_,_,rfl⟩)<;>exact(by decide:8<=48)
 .rintro e J (⟨rfl,h,rfl⟩|⟨rfl,h,rfl⟩)
  .exact⟨_,qmc,h,rfl,rfl⟩
  .exact⟨_,List.mem_cons_of_mem _ qmc,h,rfl,rfl⟩
def QAG:WF (Puz×Unit):=λ|(d,_)=>(decide (d.ps.n<=1000),.bool false d.ok,[])
def QP0:FC:=wFC QAG
theorem QWH(d:Puz):Kl (mkE prog Yu) (ipH prog d) f99 (Qd.vals 0 ((d,()):Puz×Unit)) (Qd.blks 0 ((d,()):Puz×Unit)) 8 = .need (true) (.br (Qy (d.ps.n:Int) (1:Int) (9:Int)) (.need (true) (.br (Qy d.wide (1:Int) (d.ps.n:Int)) (.need (true) (.br (!Qy d.high (1:Int) (d.ps.n:Int)) (.leaf (.bool true false) ([])) (.br (IntKind.i64.wrap (d.wide*d.high) != (d.ps.n:Int)) (.leaf (.bool true false) ([])) (.ak (([d.ps.n<=1000,0=0,0=0,0=0]++wb6 d++[(0:Int)=0])++waa d++([cO=cO]++wad d)) (.both (.asm ((QU (XB d) d.ps.n 0).isNone=false) (.all (λ(g0:Nat->Value)=>.leaf (.bool false false) ([])))) (.asm ((QU (XB d) d.ps.n 0).isNone=true) (.all (λ(g1:Nat -> Value)=>.leaf (.bool true true) ([]))))))))) (.leaf (.bool true false) ([])))) (.leaf (.bool true false) ([]))):=by kernel_rfl
theorem QcF:JP (mkE prog Yu) (Qk f99) 8 QAG (λx_=>(ipH prog x_.1)):=by
 refine⟨?_⟩;rintro⟨d,⟨⟩⟩ hp G h1 h2;exact Qfb d G h1 h2
theorem QfB:JQ (mkE prog Yu) f99 8 QAG (λx_=>(ipH prog x_.1)):=by
 refine⟨?_⟩;rintro⟨d,⟨⟩⟩ hp;refine⟨⟨rfl,by simp[QAG],rfl⟩,⟨?_⟩⟩
 rw[QWH d];simp only[QAG]at hp;have hp:=qdt hp;refine QG ?_ ?_;rotate_left;refine QF (λb0=>?_) (λb0=>?_);refine QG ?_ ?_;rotate_left;refine QF (λb1=>?_) (λb1=>?_);refine QG ?_ ?_;rotate_left;refine QF ?_ ?_<;>intro b2
 .have b2:Qy d.high 1 (d.ps.n:Int)=false:=by simpa using b2
  exact Kd (show false=d.ok by rw[Puz.ok,Puz.okN,b0,b1,b2];rfl) rfl
 refine QF ?_ ?_<;>intro b3
 .have b2:Qy d.high 1 (d.ps.n:Int)=true:=by simpa using b2
  have b3:(IntKind.i64.wrap (d.wide*d.high)==(d.ps.n:Int))=false:=by simpa using b3
  exact Kd (show false=d.ok by rw[Puz.ok,Puz.okN,b0,b1,b2,b3];rfl) rfl
 iterate 21 refine Qp (by first|exact tv|exact hp|exact qRr) ?_
 refine Kb ?_ ?_;refine Qf λa0=>?_;refine Qh λg0=>?_
 .exact Kd (show false=d.ok by rw[Puz.ok,a0];simp) rfl
 refine Qf λa1=>?_;refine Qh λg1=>?_
 .have b2:Qy d.high 1 (d.ps.n:Int)=true:=by simpa using b2
  have b3:(IntKind.i64.wrap (d.wide*d.high)==(d.ps.n:Int))=true:=by simpa using b3
  exact Kd (show true=d.ok by rw[Puz.ok,Puz.okN,b0,b1,b2,b3,a1];rfl) rfl
 .exact Kd (show false=d.ok by rw[Puz.ok,Puz.okN,b0,b1];rfl) rfl
 .exact Kd (show false=d.ok by rw[Puz.ok,Puz.okN,b0];rfl) rfl
 all_goals rfl
theorem QTa:QR prog 99 QP0:=
 Ji (QN HU) func99 (by kernel_rfl) (by kernel_rfl) (by decide) QcF QfB
def KG:Tab:=Qa Yu 99 QP0
theorem JH:Qc KG:=HU.add QTa
