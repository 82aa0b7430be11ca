/- - -/
import Derived.Test.YtekbmehgcofnkaaGreatMt
import Derived.Test.YtekbmehgcofnkaaGreatMu
open Go.Proofs.Tryz
set_option maxRecDepth 100000
namespace Go.Proofs.YtekbmehgcofnkaaGreat
open Go.SX
theorem JK{p:Nat->Bool}{n k:Nat}(h:k<n):(p k=true->QP p (n-k) k=some k)/\(p k=false->QP p (n-k) k=QP p (n-(k+1)) (k+1)):=by
 obtain⟨m,hm⟩:∃ m,n-k=m+1:=⟨n-k-1,by omega⟩
 rw[hm,show n-(k+1)=m by omega,QP]
 exact⟨λe=>by rw[e],λe=>by rw[e]⟩
theorem Ja{k n:Nat}(h:k<n)(hn:n<=1000):IntKind.i64.wrap ((k:Int)+1)=((k+1:Nat):Int):=(w64 (by omega) (by omega)).trans (by omega)
theorem QgI(d:Puz)(hn:d.ps.n<=1000):JP (ipJ d) (λk=>k<=d.ps.n) (λk=>d.ps.n-k) (ipR d) 8 QOM [] (mkE prog Yy) (λ_=>hnd (mkE prog Yy) 4) (QH f99 0):=by
 refine⟨λk g hk=>Qf (Qjr d k g) ?_⟩;refine QE ?_ ?_<;>intro h
 .have h:k<d.ps.n:=by have:=qdt h;omega
  have hf:=JK (p:=Vd d) h;refine QG (by simp;omega) (QG (by simp;omega) (QG rfl (QE (λhb=>?_) (λhb=>?_))))
  .have hb:Vd d k=true:=(QTg d.pK (d.ps.get k) _ rfl rfl rfl rfl rfl).symm.trans hb;exact⟨_,.inl ⟨rfl,by rw[hf.1 hb];rfl,rfl⟩,rfl,rfl,_,Qio,⟨rfl,trivial⟩⟩
  .have hb:Vd d k=false:=(QTg d.pK (d.ps.get k) _ rfl rfl rfl rfl rfl).symm.trans hb;refine⟨k+1,h,by show d.ps.n-(k+1)<d.ps.n-k;omega,λe J h=>by unfold ipR at h ⊢;rw[hf.2 hb];exact h,rfl,rfl,_,QVj d k (k+1),?_⟩
   repeat' first|with_reducible refine QL ?_ ?_|exact tv|exact qRr|exact Ja h hn|refine aI ?_ ?_
 .have h:d.ps.n<=k:=by have:=qdf h;omega
  exact⟨_,.inr ⟨rfl,by rw[show d.ps.n-k=0 by omega];rfl,rfl⟩,rfl,rfl,_,Qfu,trivial⟩
def ipX(d:Puz):List (Prop×Ex×JSt):=[((QP (Vd d) d.ps.n 0).isNone=false,.ret,QGD),((QP (Vd d) d.ps.n 0).isNone=true,.exit 0,QFu)]
abbrev ipH(P:Program)(d:Puz):Hnd:={ hnd (mkE P Yy) 1 with loop:=λ_=>JT (d.ps.n<=1000) (KC 8 [] (ipJ d (0:Nat)) (ipX d)) }
theorem Qe5(d:Puz)(G:Ctx)(hrd:G.rd=none)(hG:G.n=8):Qw (mkE prog Yy) G (ipH prog d) (Qk f99):=by
 refine KN (body:=QH f99 0) (QO QB2) hrd (by kernel_rfl) ?_
 refine Jh λhl=>?_;refine Jq (n0:=8) (QO QB2) (by omega) (λs hs=>Qv (QO QB2) 4 G _ hrd) (λs hs=>(by decide:8<=48)) ?_ (QgI d hl) (s0:=0) (Nat.zero_le _) ?_
 .rintro s e J (⟨_,_,rfl⟩|⟨_,_,rfl⟩)<;>exact(by decide:8<=48)
 .rintro e J (⟨rfl,h,rfl⟩|⟨rfl,h,rfl⟩)
  .exact⟨_,qmc,h,rfl,rfl⟩
  .exact⟨_,List.mem_cons_of_mem _ qmc,h,rfl,rfl⟩
def QBQ:WF (Puz×Unit):=λ|(d,_)=>(decide (d.ps.n<=1000),.bool false d.ok,[])
def QLl:FC:=wFC QBQ
theorem QgS(d:Puz):Kd (mkE prog Yy) (ipH prog d) f99 (Qb.vals 0 ((d,()):Puz×Unit)) (Qb.blks 0 ((d,()):Puz×Unit)) 8 = .need (true) (.br (Qz (d.ps.n:Int) (1:Int) (9:Int)) (.need (true) (.br (Qz d.wide (1:Int) (d.ps.n:Int)) (.need (true) (.br (!Qz d.high (1:Int) (d.ps.n:Int)) (.leaf (.bool true false) ([])) (.br (IntKind.i64.wrap (d.wide*d.high) != (d.ps.n:Int)) (.leaf (.bool true false) ([])) (.ak (([d.ps.n<=1000,0=0,0=0,0=0]++wbF d++[(0:Int)=0])++waa d++([cO=cO]++wad d)) (.both (.asm ((QP (Vd d) d.ps.n 0).isNone=false) (.all (λ(g0:Nat->Value)=>.leaf (.bool false false) ([])))) (.asm ((QP (Vd d) d.ps.n 0).isNone=true) (.all (λ(g1:Nat -> Value)=>.leaf (.bool true true) ([]))))))))) (.leaf (.bool true false) ([])))) (.leaf (.bool true false) ([]))):=by kernel_rfl
theorem Qc0:JA (mkE prog Yy) (Qk f99) 8 QBQ (λx_=>(ipH prog x_.1)):=by
 refine⟨?_⟩;rintro⟨d,⟨⟩⟩ hp G h1 h2;exact Qe5 d G h1 h2
theorem QYn:JB (mkE prog Yy) f99 8 QBQ (λx_=>(ipH prog x_.1)):=by
 refine⟨?_⟩;rintro⟨d,⟨⟩⟩ hp;refine⟨⟨rfl,by simp[QBQ],rfl⟩,⟨?_⟩⟩
 rw[QgS d];simp only[QBQ]at hp;have hp:=qdt hp;refine QG ?_ ?_;rotate_left;refine QE (λb0=>?_) (λb0=>?_);refine QG ?_ ?_;rotate_left;refine QE (λb1=>?_) (λb1=>?_);refine QG ?_ ?_;rotate_left;refine QE ?_ ?_<;>intro b2
 .have b2:Qz d.high 1 (d.ps.n:Int)=false:=by simpa using b2
  exact KE (show false=d.ok by rw[Puz.ok,Puz.okN,b0,b1,b2];rfl) rfl
 refine QE ?_ ?_<;>intro b3
 .have b2:Qz d.high 1 (d.ps.n:Int)=true:=by simpa using b2
  have b3:(IntKind.i64.wrap (d.wide*d.high)==(d.ps.n:Int))=false:=by simpa using b3
  exact KE (show false=d.ok by rw[Puz.ok,Puz.okN,b0,b1,b2,b3];rfl) rfl
 iterate 21 refine Qu (by first|exact tv|exact hp|exact qRr) ?_
 refine Kh ?_ ?_;refine Qg λa0=>?_;refine Qj λg0=>?_
 .exact KE (show false=d.ok by rw[Puz.ok,a0];simp) rfl
 refine Qg λa1=>?_;refine Qj λg1=>?_
 .have b2:Qz d.high 1 (d.ps.n:Int)=true:=by simpa using b2
  have b3:(IntKind.i64.wrap (d.wide*d.high)==(d.ps.n:Int))=true:=by simpa using b3
  exact KE (show true=d.ok by rw[Puz.ok,Puz.okN,b0,b1,b2,b3,a1];rfl) rfl
 .exact KE (show false=d.ok by rw[Puz.ok,Puz.okN,b0,b1];rfl) rfl
 .exact KE (show false=d.ok by rw[Puz.ok,Puz.okN,b0];rfl) rfl
 all_goals rfl
theorem QYF:QR prog 99 QLl:=
 JL (QO QB2) func99 (by kernel_rfl) (by kernel_rfl) (by decide) Qc0 QYn
def KQ:Tab:=Qa Yy 99 QLl
theorem JV:Qc KQ:=QB2.add QYF
