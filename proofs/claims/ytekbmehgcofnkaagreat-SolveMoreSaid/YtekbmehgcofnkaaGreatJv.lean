/- - -/
import Derived.Test.YtekbmehgcofnkaaGreatJt
import Derived.Test.YtekbmehgcofnkaaGreatJu
set_option linter.all false
open Go.Proofs.Tryz
set_option maxRecDepth 100000
namespace Go.Proofs.YtekbmehgcofnkaaGreat
open Go.SX
theorem JU{p:Nat->Bool}{n k:Nat}(h:k<n):(p k=true->QR p (n-k) k=some k)/\(p k=false->QR p (n-k) k=QR p (n-(k+1)) (k+1)):=by
 obtain⟨m,hm⟩:∃ m,n-k=m+1:=⟨n-k-1,by omega⟩
 rw[hm,show n-(k+1)=m by omega,QR]
 exact⟨λe=>by rw[e],λe=>by rw[e]⟩
theorem VJ{k n:Nat}(h:k<n)(hn:n<=1000):IntKind.i64.wrap ((k:Int)+1)=((k+1:Nat):Int):=(w64 (by omega) (by omega)).trans (by omega)
theorem QZF(d:Puz)(hn:d.ps.n<=1000):J1 (ipJ d) (λk=>k<=d.ps.n) (λk=>d.ps.n-k) (ipR d) 8 QUD [] (mkE prog Yw) (λ_=>hnd (mkE prog Yw) 4) (QJ f99 0):=by
 refine⟨λk g hk=>Qe (Qdl d k g) ?_⟩;refine QE ?_ ?_<;>intro h
 .have h:k<d.ps.n:=by have:=qdt h;omega
  have hf:=JU (p:=Js d) h;refine QG (by simp;omega) (QG (by simp;omega) (QG rfl (QE (λhb=>?_) (λhb=>?_))))
  .have hb:Js d k=true:=(QUP d.pK (d.ps.get k) _ rfl rfl rfl rfl rfl).symm.trans hb;exact⟨_,.inl ⟨rfl,by rw[hf.1 hb];rfl,rfl⟩,rfl,rfl,_,Qfi,⟨rfl,trivial⟩⟩
  .have hb:Js d k=false:=(QUP d.pK (d.ps.get k) _ rfl rfl rfl rfl rfl).symm.trans hb;refine⟨k+1,h,by show d.ps.n-(k+1)<d.ps.n-k;omega,λe J h=>by unfold ipR at h ⊢;rw[hf.2 hb];exact h,rfl,rfl,_,Qes d k (k+1),?_⟩
   repeat' first|with_reducible refine QN ?_ ?_|exact tv|exact qRr|exact VJ h hn|refine aI ?_ ?_
 .have h:d.ps.n<=k:=by have:=qdf h;omega
  exact⟨_,.inr ⟨rfl,by rw[show d.ps.n-k=0 by omega];rfl,rfl⟩,rfl,rfl,_,QgT,trivial⟩
def ipX(d:Puz):List (Prop×Ex×JSt):=[((QR (Js d) d.ps.n 0).isNone=false,.ret,QH3),((QR (Js d) d.ps.n 0).isNone=true,.exit 0,QJg)]
abbrev ipH(P:Program)(d:Puz):Hnd:={ hnd (mkE P Yw) 1 with loop:=λ_=>J9 (d.ps.n<=1000) (KJ 8 [] (ipJ d (0:Nat)) (ipX d)) }
theorem Qh8(d:Puz)(G:Ctx)(hrd:G.rd=none)(hG:G.n=8):Q1 (mkE prog Yw) G (ipH prog d) (Qk f99):=by
 refine Kk (body:=QJ f99 0) (QP QAD) hrd (by kernel_rfl) ?_
 refine Vy λhl=>?_;refine V7 (n0:=8) (QP QAD) (by omega) (λs hs=>Qw (QP QAD) 4 G _ hrd) (λs hs=>(by decide:8<=48)) ?_ (QZF d hl) (s0:=0) (Nat.zero_le _) ?_
 .rintro s e J (⟨_,_,rfl⟩|⟨_,_,rfl⟩)<;>exact(by decide:8<=48)
 .rintro e J (⟨rfl,h,rfl⟩|⟨rfl,h,rfl⟩)
  .exact⟨_,qmc,h,rfl,rfl⟩
  .exact⟨_,List.mem_cons_of_mem _ qmc,h,rfl,rfl⟩
def QAg:WF (Puz×Unit):=λ|(d,_)=>(decide (d.ps.n<=1000),.bool false d.ok,[])
def QPy:FC:=wFC QAg
theorem Qb2(d:Puz):Kf (mkE prog Yw) (ipH prog d) f99 (QX.vals 0 ((d,()):Puz×Unit)) (QX.blks 0 ((d,()):Puz×Unit)) 8 = .need (true) (.br (Qu (d.ps.n:Int) (1:Int) (9:Int)) (.need (true) (.br (Qu d.wide (1:Int) (d.ps.n:Int)) (.need (true) (.br (!Qu d.high (1:Int) (d.ps.n:Int)) (.leaf (.bool true false) ([])) (.br (IntKind.i64.wrap (d.wide*d.high) != (d.ps.n:Int)) (.leaf (.bool true false) ([])) (.ak (([d.ps.n<=1000,0=0,0=0,0=0]++wbZ d++[(0:Int)=0])++waa d++([cO=cO]++wad d)) (.both (.asm ((QR (Js d) d.ps.n 0).isNone=false) (.all (λ(g0:Nat->Value)=>.leaf (.bool false false) ([])))) (.asm ((QR (Js d) d.ps.n 0).isNone=true) (.all (λ(g1:Nat -> Value)=>.leaf (.bool true true) ([]))))))))) (.leaf (.bool true false) ([])))) (.leaf (.bool true false) ([]))):=by kernel_rfl
theorem Qe6:JP (mkE prog Yw) (Qk f99) 8 QAg (λx_=>(ipH prog x_.1)):=by
 refine⟨?_⟩;rintro⟨d,⟨⟩⟩ hp G h1 h2;exact Qh8 d G h1 h2
theorem QZg:JN (mkE prog Yw) f99 8 QAg (λx_=>(ipH prog x_.1)):=by
 refine⟨?_⟩;rintro⟨d,⟨⟩⟩ hp;refine⟨⟨rfl,by simp[QAg],rfl⟩,⟨?_⟩⟩
 rw[Qb2 d];simp only[QAg]at hp;have hp:=qdt hp;refine QG ?_ ?_;rotate_left;refine QE (λb0=>?_) (λb0=>?_);refine QG ?_ ?_;rotate_left;refine QE (λb1=>?_) (λb1=>?_);refine QG ?_ ?_;rotate_left;refine QE ?_ ?_<;>intro b2
 .have b2:Qu d.high 1 (d.ps.n:Int)=false:=by simpa using b2
  exact KY (show false=d.ok by rw[Puz.ok,Puz.okN,b0,b1,b2];rfl) rfl
 refine QE ?_ ?_<;>intro b3
 .have b2:Qu d.high 1 (d.ps.n:Int)=true:=by simpa using b2
  have b3:(IntKind.i64.wrap (d.wide*d.high)==(d.ps.n:Int))=false:=by simpa using b3
  exact KY (show false=d.ok by rw[Puz.ok,Puz.okN,b0,b1,b2,b3];rfl) rfl
 iterate 21 refine Q2 (by first|exact tv|exact hp|exact qRr) ?_
 refine Km ?_ ?_;refine Qh λa0=>?_;refine Qj λg0=>?_
 .exact KY (show false=d.ok by rw[Puz.ok,a0];simp) rfl
 refine Qh λa1=>?_;refine Qj λg1=>?_
 .have b2:Qu d.high 1 (d.ps.n:Int)=true:=by simpa using b2
  have b3:(IntKind.i64.wrap (d.wide*d.high)==(d.ps.n:Int))=true:=by simpa using b3
  exact KY (show true=d.ok by rw[Puz.ok,Puz.okN,b0,b1,b2,b3,a1];rfl) rfl
 .exact KY (show false=d.ok by rw[Puz.ok,Puz.okN,b0,b1];rfl) rfl
 .exact KY (show false=d.ok by rw[Puz.ok,Puz.okN,b0];rfl) rfl
 all_goals rfl
theorem QWE:QQ prog 99 QPy:=
 JW (QP QAD) func99 (by kernel_rfl) (by kernel_rfl) (by decide) Qe6 QZg
def KK:Tab:=QZ Yw 99 QPy
theorem JO:Qc KK:=QAD.add QWE
