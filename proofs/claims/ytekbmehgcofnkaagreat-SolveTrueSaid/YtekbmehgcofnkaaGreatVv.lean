/- - -/
import Derived.Test.YtekbmehgcofnkaaGreatVt
import Derived.Test.YtekbmehgcofnkaaGreatVu
open Go.Proofs.Tryz
set_option maxRecDepth 100000
namespace Go.Proofs.YtekbmehgcofnkaaGreat
open Go.SX
theorem VC{p:Nat->Bool}{n k:Nat}(h:k<n):(p k=true->QR p (n-k) k=some k)/\(p k=false->QR p (n-k) k=QR p (n-(k+1)) (k+1)):=by
 obtain⟨m,hm⟩:∃ m,n-k=m+1:=⟨n-k-1,by omega⟩
 rw[hm,show n-(k+1)=m by omega,QR]
 exact⟨λe=>by rw[e],λe=>by rw[e]⟩
theorem Vo{k n:Nat}(h:k<n)(hn:n<=1000):IntKind.i64.wrap ((k:Int)+1)=((k+1:Nat):Int):=(w64 (by omega) (by omega)).trans (by omega)
theorem QlT(d:Puz)(hn:d.ps.n<=1000):VH (ipJ d) (λk=>k<=d.ps.n) (λk=>d.ps.n-k) (ipR d) 8 QRg [] (mkE prog Y1) (λ_=>hnd (mkE prog Y1) 4) (QI f99 0):=by
 refine⟨λk g hk=>Qh (QfH d k g) ?_⟩;refine QE ?_ ?_<;>intro h
 .have h:k<d.ps.n:=by have:=qdt h;omega
  have hf:=VC (p:=XB d) h;refine QG (by simp;omega) (QG (by simp;omega) (QG rfl (QE (λhb=>?_) (λhb=>?_))))
  .have hb:XB d k=true:=(QUs d.pK (d.ps.get k) _ rfl rfl rfl rfl rfl).symm.trans hb;exact⟨_,.inl ⟨rfl,by rw[hf.1 hb];rfl,rfl⟩,rfl,rfl,_,QdU,⟨rfl,trivial⟩⟩
  .have hb:XB d k=false:=(QUs d.pK (d.ps.get k) _ rfl rfl rfl rfl rfl).symm.trans hb;refine⟨k+1,h,by show d.ps.n-(k+1)<d.ps.n-k;omega,λe J h=>by unfold ipR at h ⊢;rw[hf.2 hb];exact h,rfl,rfl,_,QXc d k (k+1),?_⟩
   repeat' first|with_reducible refine QM ?_ ?_|exact tv|exact qRr|exact Vo h hn|refine aI ?_ ?_
 .have h:d.ps.n<=k:=by have:=qdf h;omega
  exact⟨_,.inr ⟨rfl,by rw[show d.ps.n-k=0 by omega];rfl,rfl⟩,rfl,rfl,_,QgR,trivial⟩
def ipX(d:Puz):List (Prop×Ex×JSt):=[((QR (XB d) d.ps.n 0).isNone=false,.ret,QI2),((QR (XB d) d.ps.n 0).isNone=true,.exit 0,QKD)]
abbrev ipH(P:Program)(d:Puz):Hnd:={ hnd (mkE P Y1) 1 with loop:=λ_=>Ks (d.ps.n<=1000) (KF 8 [] (ipJ d (0:Nat)) (ipX d)) }
theorem QdV(d:Puz)(G:Ctx)(hrd:G.rd=none)(hG:G.n=8):Q0 (mkE prog Y1) G (ipH prog d) (Qn f99):=by
 refine KO (body:=QI f99 0) (QP QBA) hrd (by kernel_rfl) ?_
 refine JJ λhl=>?_;refine XP (n0:=8) (QP QBA) (by omega) (λs hs=>Qz (QP QBA) 4 G _ hrd) (λs hs=>(by decide:8<=48)) ?_ (QlT d hl) (s0:=0) (Nat.zero_le _) ?_
 .rintro s e J (⟨_,_,rfl⟩|⟨_,_,rfl⟩)<;>exact(by decide:8<=48)
 .rintro e J (⟨rfl,h,rfl⟩|⟨rfl,h,rfl⟩)
  .exact⟨_,qmc,h,rfl,rfl⟩
  .exact⟨_,List.mem_cons_of_mem _ qmc,h,rfl,rfl⟩
def QBL:WF (Puz×Unit):=λ|(d,_)=>(decide (d.ps.n<=1000),.bool false d.ok,[])
def QLg:FC:=wFC QBL
theorem QkB(d:Puz):Kg (mkE prog Y1) (ipH prog d) f99 (QZ.vals 0 ((d,()):Puz×Unit)) (QZ.blks 0 ((d,()):Puz×Unit)) 8 = .need (true) (.br (Q1 (d.ps.n:Int) (1:Int) (9:Int)) (.need (true) (.br (Q1 d.wide (1:Int) (d.ps.n:Int)) (.need (true) (.br (!Q1 d.high (1:Int) (d.ps.n:Int)) (.leaf (.bool true false) ([])) (.br (IntKind.i64.wrap (d.wide*d.high) != (d.ps.n:Int)) (.leaf (.bool true false) ([])) (.ak (([d.ps.n<=1000,0=0,0=0,0=0]++wbO d++[(0:Int)=0])++waa d++([cO=cO]++wad d)) (.both (.asm ((QR (XB d) d.ps.n 0).isNone=false) (.all (λ(g0:Nat->Value)=>.leaf (.bool false false) ([])))) (.asm ((QR (XB d) d.ps.n 0).isNone=true) (.all (λ(g1:Nat -> Value)=>.leaf (.bool true true) ([]))))))))) (.leaf (.bool true false) ([])))) (.leaf (.bool true false) ([]))):=by kernel_rfl
theorem Qg9:JL (mkE prog Y1) (Qn f99) 8 QBL (λx_=>(ipH prog x_.1)):=by
 refine⟨?_⟩;rintro⟨d,⟨⟩⟩ hp G h1 h2;exact QdV d G h1 h2
theorem QXv:JH (mkE prog Y1) f99 8 QBL (λx_=>(ipH prog x_.1)):=by
 refine⟨?_⟩;rintro⟨d,⟨⟩⟩ hp;refine⟨⟨rfl,by simp[QBL],rfl⟩,⟨?_⟩⟩
 rw[QkB d];simp only[QBL]at hp;have hp:=qdt hp;refine QG ?_ ?_;rotate_left;refine QE (λb0=>?_) (λb0=>?_);refine QG ?_ ?_;rotate_left;refine QE (λb1=>?_) (λb1=>?_);refine QG ?_ ?_;rotate_left;refine QE ?_ ?_<;>intro b2
 .have b2:Q1 d.high 1 (d.ps.n:Int)=false:=by simpa using b2
  exact KN (show false=d.ok by rw[Puz.ok,Puz.okN,b0,b1,b2];rfl) rfl
 refine QE ?_ ?_<;>intro b3
 .have b2:Q1 d.high 1 (d.ps.n:Int)=true:=by simpa using b2
  have b3:(IntKind.i64.wrap (d.wide*d.high)==(d.ps.n:Int))=false:=by simpa using b3
  exact KN (show false=d.ok by rw[Puz.ok,Puz.okN,b0,b1,b2,b3];rfl) rfl
 iterate 21 refine Qt (by first|exact tv|exact hp|exact qRr) ?_
 refine Kq ?_ ?_;refine Qk λa0=>?_;refine Ql λg0=>?_
 .exact KN (show false=d.ok by rw[Puz.ok,a0];simp) rfl
 refine Qk λa1=>?_;refine Ql λg1=>?_
 .have b2:Q1 d.high 1 (d.ps.n:Int)=true:=by simpa using b2
  have b3:(IntKind.i64.wrap (d.wide*d.high)==(d.ps.n:Int))=true:=by simpa using b3
  exact KN (show true=d.ok by rw[Puz.ok,Puz.okN,b0,b1,b2,b3,a1];rfl) rfl
 .exact KN (show false=d.ok by rw[Puz.ok,Puz.okN,b0,b1];rfl) rfl
 .exact KN (show false=d.ok by rw[Puz.ok,Puz.okN,b0];rfl) rfl
 all_goals rfl
theorem QbE:QS prog 99 QLg:=
 JY (QP QBA) func99 (by kernel_rfl) (by kernel_rfl) (by decide) Qg9 QXv
def KW:Tab:=Qc Y1 99 QLg
theorem Jf:Qf KW:=QBA.add QbE
