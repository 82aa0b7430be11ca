/- - -/
import Derived.Test.YtekbmehgcofnkaaGreatMu
import Derived.Test.YtekbmehgcofnkaaGreatMv
open Go.Proofs.Tryz
set_option maxRecDepth 100000
namespace Go.Proofs.YtekbmehgcofnkaaGreat
open Go.SX
theorem VX{p:Nat->Bool}{n k:Nat}(h:k<n):(p k=true->QX p (n-k) k=some k)/\(p k=false->QX p (n-k) k=QX p (n-(k+1)) (k+1)):=by
 obtain⟨m,hm⟩:∃ m,n-k=m+1:=⟨n-k-1,by omega⟩
 rw[hm,show n-(k+1)=m by omega,QX]
 exact⟨λe=>by rw[e],λe=>by rw[e]⟩
theorem Ju{k n:Nat}(h:k<n)(hn:n<=1000):IntKind.i64.wrap ((k:Int)+1)=((k+1:Nat):Int):=(w64 (by omega) (by omega)).trans (by omega)
theorem Qeu(d:Puz)(hn:d.ps.n<=1000):Ji (ipJ d) (λk=>k<=d.ps.n) (λk=>d.ps.n-k) (ipR d) 8 QQW [] (mkE prog Yl) (λ_=>hnd (mkE prog Yl) 4) (QJ f99 0):=by
 refine⟨λk g hk=>Qf (QXR d k g) ?_⟩;refine QF ?_ ?_<;>intro h
 .have h:k<d.ps.n:=by have:=qdt h;omega
  have hf:=VX (p:=VV d) h;refine QH (by simp;omega) (QH (by simp;omega) (QH rfl (QF (λhb=>?_) (λhb=>?_))))
  .have hb:VV d k=true:=(QNr d.pK (d.ps.get k) _ rfl rfl rfl rfl rfl).symm.trans hb;exact⟨_,.inl ⟨rfl,by rw[hf.1 hb];rfl,rfl⟩,rfl,rfl,_,Qe4,⟨rfl,trivial⟩⟩
  .have hb:VV d k=false:=(QNr d.pK (d.ps.get k) _ rfl rfl rfl rfl rfl).symm.trans hb;refine⟨k+1,h,by show d.ps.n-(k+1)<d.ps.n-k;omega,λe J h=>by unfold ipR at h ⊢;rw[hf.2 hb];exact h,rfl,rfl,_,QbQ d k (k+1),?_⟩
   repeat' first|with_reducible refine QP ?_ ?_|exact tv|exact qRr|exact Ju h hn|refine aI ?_ ?_
 .have h:d.ps.n<=k:=by have:=qdf h;omega
  exact⟨_,.inr ⟨rfl,by rw[show d.ps.n-k=0 by omega];rfl,rfl⟩,rfl,rfl,_,QW1,trivial⟩
def ipX(d:Puz):List (Prop×Ex×JSt):=[((QX (VV d) d.ps.n 0).isNone=false,.ret,QF1),((QX (VV d) d.ps.n 0).isNone=true,.exit 0,QFk)]
abbrev ipH(P:Program)(d:Puz):Hnd:={ hnd (mkE P Yl) 1 with loop:=λ_=>JI (d.ps.n<=1000) (KE 8 [] (ipJ d (0:Nat)) (ipX d)) }
theorem QVt(d:Puz)(G:Ctx)(hrd:G.rd=none)(hG:G.n=8):Qu (mkE prog Yl) G (ipH prog d) (Qp f99):=by
 refine KM (body:=QJ f99 0) (QQ QAr) hrd (by kernel_rfl) ?_
 refine Jm λhl=>?_;refine Vn (n0:=8) (QQ QAr) (by omega) (λs hs=>Q1 (QQ QAr) 4 G _ hrd) (λs hs=>(by decide:8<=48)) ?_ (Qeu d hl) (s0:=0) (Nat.zero_le _) ?_
 .rintro s e J (⟨_,_,rfl⟩|⟨_,_,rfl⟩)<;>exact(by decide:8<=48)
 .rintro e J (⟨rfl,h,rfl⟩|⟨rfl,h,rfl⟩)
  .exact⟨_,qmc,h,rfl,rfl⟩
  .exact⟨_,List.mem_cons_of_mem _ qmc,h,rfl,rfl⟩
def Hw:WF (Puz×Unit):=λ|(d,_)=>(decide (d.ps.n<=1000),.bool false d.ok,[])
def QJv:FC:=wFC Hw
theorem QdA(d:Puz):Ku (mkE prog Yl) (ipH prog d) f99 (Qi.vals 0 ((d,()):Puz×Unit)) (Qi.blks 0 ((d,()):Puz×Unit)) 8 = .need (true) (.br (Qv (d.ps.n:Int) (1:Int) (9:Int)) (.need (true) (.br (Qv d.wide (1:Int) (d.ps.n:Int)) (.need (true) (.br (!Qv d.high (1:Int) (d.ps.n:Int)) (.leaf (.bool true false) ([])) (.br (IntKind.i64.wrap (d.wide*d.high) != (d.ps.n:Int)) (.leaf (.bool true false) ([])) (.ak (([d.ps.n<=1000,0=0,0=0,0=0]++wcI d++[(0:Int)=0])++wab d++([cO=cO]++wae d)) (.both (.asm ((QX (VV d) d.ps.n 0).isNone=false) (.all (λ(g0:Nat->Value)=>.leaf (.bool false false) ([])))) (.asm ((QX (VV d) d.ps.n 0).isNone=true) (.all (λ(g1:Nat -> Value)=>.leaf (.bool true true) ([]))))))))) (.leaf (.bool true false) ([])))) (.leaf (.bool true false) ([]))):=by kernel_rfl
theorem QfH:Jw (mkE prog Yl) (Qp f99) 8 Hw (λx_=>(ipH prog x_.1)):=by
 refine⟨?_⟩;rintro⟨d,⟨⟩⟩ hp G h1 h2;exact QVt d G h1 h2
theorem QaN:Jx (mkE prog Yl) f99 8 Hw (λx_=>(ipH prog x_.1)):=by
 refine⟨?_⟩;rintro⟨d,⟨⟩⟩ hp;refine⟨⟨rfl,by simp[Hw],rfl⟩,⟨?_⟩⟩
 rw[QdA d];simp only[Hw]at hp;have hp:=qdt hp;refine QH ?_ ?_;rotate_left;refine QF (λb0=>?_) (λb0=>?_);refine QH ?_ ?_;rotate_left;refine QF (λb1=>?_) (λb1=>?_);refine QH ?_ ?_;rotate_left;refine QF ?_ ?_<;>intro b2
 .have b2:Qv d.high 1 (d.ps.n:Int)=false:=by simpa using b2
  exact Kw (show false=d.ok by rw[Puz.ok,Puz.okN,b0,b1,b2];rfl) rfl
 refine QF ?_ ?_<;>intro b3
 .have b2:Qv d.high 1 (d.ps.n:Int)=true:=by simpa using b2
  have b3:(IntKind.i64.wrap (d.wide*d.high)==(d.ps.n:Int))=false:=by simpa using b3
  exact Kw (show false=d.ok by rw[Puz.ok,Puz.okN,b0,b1,b2,b3];rfl) rfl
 iterate 21 refine Qt (by first|exact tv|exact hp|exact qRr) ?_
 refine Kl ?_ ?_;refine Qj λa0=>?_;refine Qk λg0=>?_
 .exact Kw (show false=d.ok by rw[Puz.ok,a0];simp) rfl
 refine Qj λa1=>?_;refine Qk λg1=>?_
 .have b2:Qv d.high 1 (d.ps.n:Int)=true:=by simpa using b2
  have b3:(IntKind.i64.wrap (d.wide*d.high)==(d.ps.n:Int))=true:=by simpa using b3
  exact Kw (show true=d.ok by rw[Puz.ok,Puz.okN,b0,b1,b2,b3,a1];rfl) rfl
 .exact Kw (show false=d.ok by rw[Puz.ok,Puz.okN,b0,b1];rfl) rfl
 .exact Kw (show false=d.ok by rw[Puz.ok,Puz.okN,b0];rfl) rfl
 all_goals rfl
theorem QUW:QR prog 99 QJv:=
 VL (QQ QAr) func99 (by kernel_rfl) (by kernel_rfl) (by decide) QfH QaN
def KF:Tab:=Qc Yl 99 QJv
theorem JG:Qe KF:=QAr.add QUW
