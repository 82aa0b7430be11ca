/- - -/
import Derived.Test.YtekbmehgcofnkaaGreatMu
import Derived.Test.YtekbmehgcofnkaaGreatMv
open Go.Proofs.Tryz
set_option maxRecDepth 100000
namespace Go.Proofs.YtekbmehgcofnkaaGreat
open Go.SX
theorem VP{p:Nat->Bool}{n k:Nat}(h:k<n):(p k=true->QU p (n-k) k=some k)/\(p k=false->QU p (n-k) k=QU p (n-(k+1)) (k+1)):=by
 obtain⟨m,hm⟩:∃ m,n-k=m+1:=⟨n-k-1,by omega⟩
 rw[hm,show n-(k+1)=m by omega,QU]
 exact⟨λe=>by rw[e],λe=>by rw[e]⟩
theorem VT{k n:Nat}(h:k<n)(hn:n<=1000):IntKind.i64.wrap ((k:Int)+1)=((k+1:Nat):Int):=(w64 (by omega) (by omega)).trans (by omega)
theorem QfT(d:Puz)(hn:d.ps.n<=1000):J3 (ipJ d) (λk=>k<=d.ps.n) (λk=>d.ps.n-k) (ipR d) 8 QLg [] (mkE prog Yo) (λ_=>hnd (mkE prog Yo) 4) (QI f99 0):=by
 refine⟨λk g hk=>Qg (QeM d k g) ?_⟩;refine QF ?_ ?_<;>intro h
 .have h:k<d.ps.n:=by have:=qdt h;omega
  have hf:=VP (p:=XF d) h;refine QG (by simp;omega) (QG (by simp;omega) (QG rfl (QF (λhb=>?_) (λhb=>?_))))
  .have hb:XF d k=true:=(QNf d.pK (d.ps.get k) _ rfl rfl rfl rfl rfl).symm.trans hb;exact⟨_,.inl ⟨rfl,by rw[hf.1 hb];rfl,rfl⟩,rfl,rfl,_,QfA,⟨rfl,trivial⟩⟩
  .have hb:XF d k=false:=(QNf d.pK (d.ps.get k) _ rfl rfl rfl rfl rfl).symm.trans hb;refine⟨k+1,h,by show d.ps.n-(k+1)<d.ps.n-k;omega,λe J h=>by unfold ipR at h ⊢;rw[hf.2 hb];exact h,rfl,rfl,_,QVp d k (k+1),?_⟩
   repeat' first|with_reducible refine QP ?_ ?_|exact tv|exact qRr|exact VT h hn|refine aI ?_ ?_
 .have h:d.ps.n<=k:=by have:=qdf h;omega
  exact⟨_,.inr ⟨rfl,by rw[show d.ps.n-k=0 by omega];rfl,rfl⟩,rfl,rfl,_,QbA,trivial⟩
def ipX(d:Puz):List (Prop×Ex×JSt):=[((QU (XF d) d.ps.n 0).isNone=false,.ret,QIB),((QU (XF d) d.ps.n 0).isNone=true,.exit 0,QJG)]
abbrev ipH(P:Program)(d:Puz):Hnd:={ hnd (mkE P Yo) 1 with loop:=λ_=>JP (d.ps.n<=1000) (KH 8 [] (ipJ d (0:Nat)) (ipX d)) }
theorem Qdw(d:Puz)(G:Ctx)(hrd:G.rd=none)(hG:G.n=8):Qx (mkE prog Yo) G (ipH prog d) (Ql f99):=by
 refine KO (body:=QI f99 0) (QO QAe) hrd (by kernel_rfl) ?_
 refine Jj λhl=>?_;refine Vq (n0:=8) (QO QAe) (by omega) (λs hs=>Qw (QO QAe) 4 G _ hrd) (λs hs=>(by decide:8<=48)) ?_ (QfT d hl) (s0:=0) (Nat.zero_le _) ?_
 .rintro s e J (⟨_,_,rfl⟩|⟨_,_,rfl⟩)<;>exact(by decide:8<=48)
 .rintro e J (⟨rfl,h,rfl⟩|⟨rfl,h,rfl⟩)
  .exact⟨_,qmc,h,rfl,rfl⟩
  .exact⟨_,List.mem_cons_of_mem _ qmc,h,rfl,rfl⟩
def QBL:WF (Puz×Unit):=λ|(d,_)=>(decide (d.ps.n<=1000),.bool false d.ok,[])
def QPO:FC:=wFC QBL
theorem QYS(d:Puz):Kn (mkE prog Yo) (ipH prog d) f99 (Qe.vals 0 ((d,()):Puz×Unit)) (Qe.blks 0 ((d,()):Puz×Unit)) 8 = .need (true) (.br (Qz (d.ps.n:Int) (1:Int) (9:Int)) (.need (true) (.br (Qz d.wide (1:Int) (d.ps.n:Int)) (.need (true) (.br (!Qz d.high (1:Int) (d.ps.n:Int)) (.leaf (.bool true false) ([])) (.br (IntKind.i64.wrap (d.wide*d.high) != (d.ps.n:Int)) (.leaf (.bool true false) ([])) (.ak (([d.ps.n<=1000,0=0,0=0,0=0]++wbP d++[(0:Int)=0])++wab d++([cO=cO]++wae d)) (.both (.asm ((QU (XF d) d.ps.n 0).isNone=false) (.all (λ(g0:Nat->Value)=>.leaf (.bool false false) ([])))) (.asm ((QU (XF d) d.ps.n 0).isNone=true) (.all (λ(g1:Nat -> Value)=>.leaf (.bool true true) ([]))))))))) (.leaf (.bool true false) ([])))) (.leaf (.bool true false) ([]))):=by kernel_rfl
theorem QY3:JQ (mkE prog Yo) (Ql f99) 8 QBL (λx_=>(ipH prog x_.1)):=by
 refine⟨?_⟩;rintro⟨d,⟨⟩⟩ hp G h1 h2;exact Qdw d G h1 h2
theorem Qgz:JR (mkE prog Yo) f99 8 QBL (λx_=>(ipH prog x_.1)):=by
 refine⟨?_⟩;rintro⟨d,⟨⟩⟩ hp;refine⟨⟨rfl,by simp[QBL],rfl⟩,⟨?_⟩⟩
 rw[QYS d];simp only[QBL]at hp;have hp:=qdt hp;refine QG ?_ ?_;rotate_left;refine QF (λb0=>?_) (λb0=>?_);refine QG ?_ ?_;rotate_left;refine QF (λb1=>?_) (λb1=>?_);refine QG ?_ ?_;rotate_left;refine QF ?_ ?_<;>intro b2
 .have b2:Qz d.high 1 (d.ps.n:Int)=false:=by simpa using b2
  exact Kd (show false=d.ok by rw[Puz.ok,Puz.okN,b0,b1,b2];rfl) rfl
 refine QF ?_ ?_<;>intro b3
 .have b2:Qz d.high 1 (d.ps.n:Int)=true:=by simpa using b2
  have b3:(IntKind.i64.wrap (d.wide*d.high)==(d.ps.n:Int))=false:=by simpa using b3
  exact Kd (show false=d.ok by rw[Puz.ok,Puz.okN,b0,b1,b2,b3];rfl) rfl
 iterate 21 refine Qq (by first|exact tv|exact hp|exact qRr) ?_
 refine Kf ?_ ?_;refine Qh λa0=>?_;refine Qj λg0=>?_
 .exact Kd (show false=d.ok by rw[Puz.ok,a0];simp) rfl
 refine Qh λa1=>?_;refine Qj λg1=>?_
 .have b2:Qz d.high 1 (d.ps.n:Int)=true:=by simpa using b2
  have b3:(IntKind.i64.wrap (d.wide*d.high)==(d.ps.n:Int))=true:=by simpa using b3
  exact Kd (show true=d.ok by rw[Puz.ok,Puz.okN,b0,b1,b2,b3,a1];rfl) rfl
 .exact Kd (show false=d.ok by rw[Puz.ok,Puz.okN,b0,b1];rfl) rfl
 .exact Kd (show false=d.ok by rw[Puz.ok,Puz.okN,b0];rfl) rfl
 all_goals rfl
theorem QVW:QS prog 99 QPO:=
 JX (QO QAe) func99 (by kernel_rfl) (by kernel_rfl) (by decide) QY3 Qgz
def KJ:Tab:=Qa Yo 99 QPO
theorem JN:Qd KJ:=QAe.add QVW
