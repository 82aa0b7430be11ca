/- - -/
import Derived.Test.YtekbmehgcofnkaaGreatJzj
set_option linter.all false
noncomputable section
open Go.Proofs.Tryz
open Go.IntKind (i64)
set_option maxRecDepth 100000
namespace Go.Proofs.YtekbmehgcofnkaaGreat
open Go.SX Go.SX.Told
variable (pb:List Prop->Bool)(d:Puz)(p:Int)(o:List Lay)(q:Int)(E:ECt)(l L:List Lay)(k z:Nat)(x:Lay)(s':Nat)(v:Bool)(z':Nat)
def brZ(n:Nat):List AV:=Kb d++[.map 289,.slz 298 0 n (.of 0)]
def QFm:List (Nat×Blk):=(288,.cellsR 0 152 (brZ d L.length))::QAj 298 L::(289,.mp E.1 E.2)::Qo.blk 0 d.ps
def mzJ(s:Nat):JSt:=⟨113,[(0,.ptr 288 0 0),(3,.ptr 304 0 0),(5,.int false .i64 L.length),(6,.int false .i64 (Qi d L.length)),(7,.int false .i64 (Qy d L.length)),(49,.agg [.bool false (QV d L.length 0),.bool false (QV d L.length 1),.bool false (QV d L.length 2),.bool false (QV d L.length 3)]),(50,.int false .i64 s)],(304,.cells 0 49 (Enc.enc x).cells)::QFm d E L,312⟩
def GE:JSt:=⟨113,[(4,.bool false false)],[(289,.mp E.1 E.2)],312⟩
def QGc:JSt:=⟨113,[(0,.ptr 288 0 0),(3,.ptr 304 0 0),(5,.int false .i64 L.length),(6,.int false .i64 (Qi d L.length)),(7,.int false .i64 (Qy d L.length))],(304,.cells 0 49 (Enc.enc x).cells)::QFm d E L,312⟩
def QTP:Ex->List Nat
 | .normal=>[0,3,5,6,7,49,50]
 | .exit _=>[0,3,5,6,7]
 | .ret=>[4]
abbrev QE4(d:Puz)(s:Nat)(x:Lay):List Prop:=([0=0,0=0,x.piece=x.piece,onS x (s:Int)=onS x (s:Int)]++waa d++([cO=cO,0=0,L.length=L.length,cO=cO]++wad d))
abbrev W2(d:Puz):List AV:=[.bool false (QV d L.length 0),.bool false (QV d L.length 1),.bool false (QV d L.length 2),.bool false (QV d L.length 3)]
abbrev QKu(d:Puz):List AV:=(.nilp::.ptr 113 0 0::.ptr 288 0 0::.ptr 304 0 0::List.append (wap L d) ([.agg (W2 L d),.int true .i64 1]))
abbrev VN(d:Puz)(x:Lay):List (Nat×Blk):=[(289,.mp E.1 E.2),(288,.cellsR 0 152 (List.append (wbF d) ((.int false .i64 d.pK.dK.hi::vi d.wide::vi d.high::List.append (wbS d) ([.map 289,.slz 298 0 L.length cO]))))),(304,.cells 0 49 [.int false .i64 x.piece,vi x.turn]),(0,.frz (wae) d.ps.n λi=>QA.enc (d.ps.get i)),(298,.frz kB L.length λi=>QA.enc (L.getD i (Lay.mk (0:Int) (0:Int))))]
abbrev QO9(d:Puz):List AV:=(.nilp::.ptr 113 0 0::.ptr 288 0 0::.ptr 304 0 0::List.append (wap L d) ([.agg (W2 L d),.int true .i64 2]))
abbrev QKT(d:Puz):List AV:=(.nilp::.ptr 113 0 0::.ptr 288 0 0::.ptr 304 0 0::List.append (wap L d) ([.agg (W2 L d),.int true .i64 3]))
abbrev QLW(d:Puz):List AV:=(.nilp::.ptr 113 0 0::.ptr 288 0 0::.ptr 304 0 0::List.append (wap L d) ([.agg (W2 L d),.int true .i64 4]))
theorem QWm(s:Nat)(g:Nat->Value):exec (mkF prog (HG pb (flU d L.length x.piece (onS x s)))) (hnd (mkF prog (HG pb (flU d L.length x.piece (onS x s)))) 1) (QJ f105 0) (JSt.inst (mzJ d E L x s) g) (KD [289] QTP) = .br (decide ((s:Int)<4)) (.need (decide ((0:Int)<=(s:Int)/\(s:Int)<4)) (.br (decide ((s:Int)=0)) (.br (QV d L.length 0) (.need (true&&(true&&true)&&decide (((0:Int)<=x.turn/\x.turn<=3)/\(0:Int)<=(s:Int)/\(s:Int)<=3)) (.need (pb ((QE4 L d s x))) (.br (!KR d x.piece (onS x (s:Int))) (.leaf (.tup (wbn)) ([(289,.mp E.1 E.2)])) (.leaf (.tup (QKu L d)) ((VN E L d x)))))) (.leaf (.tup (QKu L d)) ((VN E L d x)))) (.br (decide ((s:Int)=1)) (.br (QV d L.length 1) (.need (true&&(true&&true)&&decide (((0:Int)<=x.turn/\x.turn<=3)/\(0:Int)<=(s:Int)/\(s:Int)<=3)) (.need (pb ((QE4 L d s x))) (.br (!KR d x.piece (onS x (s:Int))) (.leaf (.tup (wbn)) ([(289,.mp E.1 E.2)])) (.leaf (.tup (QO9 L d)) ((VN E L d x)))))) (.leaf (.tup (QO9 L d)) ((VN E L d x)))) (.br (decide ((s:Int)=2)) (.br (QV d L.length 2) (.need (true&&(true&&true)&&decide (((0:Int)<=x.turn/\x.turn<=3)/\(0:Int)<=(s:Int)/\(s:Int)<=3)) (.need (pb ((QE4 L d s x))) (.br (!KR d x.piece (onS x (s:Int))) (.leaf (.tup (wbn)) ([(289,.mp E.1 E.2)])) (.leaf (.tup (QKT L d)) ((VN E L d x)))))) (.leaf (.tup (QKT L d)) ((VN E L d x)))) (.br (QV d L.length 3) (.need (true&&(true&&true)&&decide (((0:Int)<=x.turn/\x.turn<=3)/\(0:Int)<=(s:Int)/\(s:Int)<=3)) (.need (pb ((QE4 L d s x))) (.br (!KR d x.piece (onS x (s:Int))) (.leaf (.tup (wbn)) ([(289,.mp E.1 E.2)])) (.leaf (.tup (QLW L d)) ((VN E L d x)))))) (.leaf (.tup (QLW L d)) ((VN E L d x)))))))) (.leaf (.tup (.ptr 0 0 0::.ptr 113 0 0::.ptr 288 0 0::.ptr 304 0 0::wap L d)) ((VN E L d x))):=by kernel_rfl
theorem QUv:QF 304 [AV.bool true false] ([((289:Nat),Blk.mp E.1 E.2)]) (GE E)=( some [false=false,E.1=E.1,E.2=E.2]):=by kernel_rfl
abbrev QSB(d:Puz):List AV:=(.ptr 288 0 0::.ptr 304 0 0::List.append (wap L d) ([.agg (W2 L d),vj 1]))
abbrev QTx(d:Puz)(s':Nat)(x:Lay):List Prop:=(([0=0,0=0,0=0,0=0]++wal L d++([(1:Int)=(s':Int)]++wbe x))++waa d++(([cO=cO,0=0]++waj E L)++wad d))
theorem Qgx :QF 304 (QSB L d) ((VN E L d x)) (mzJ d E L x s')=(some (QTx E L d s' x)):=by kernel_rfl
theorem Qcd :QF 304 (QSB L d) ((VN E L d x)) (mzJ d E L x s')=(some (QTx E L d s' x)):=by kernel_rfl
theorem QeL:QF 304 [AV.bool true false] ([((289:Nat),Blk.mp E.1 E.2)]) (GE E)=( some [false=false,E.1=E.1,E.2=E.2]):=by kernel_rfl
abbrev QLO(d:Puz):List AV:=(.ptr 288 0 0::.ptr 304 0 0::List.append (wap L d) ([.agg (W2 L d),vj 2]))
abbrev QLL(d:Puz)(s':Nat)(x:Lay):List Prop:=(([0=0,0=0,0=0,0=0]++wal L d++([(2:Int)=(s':Int)]++wbe x))++waa d++(([cO=cO,0=0]++waj E L)++wad d))
theorem QWR :QF 304 (QLO L d) ((VN E L d x)) (mzJ d E L x s')=(some (QLL E L d s' x)):=by kernel_rfl
theorem Qcr :QF 304 (QLO L d) ((VN E L d x)) (mzJ d E L x s')=(some (QLL E L d s' x)):=by kernel_rfl
theorem QV3:QF 304 [AV.bool true false] ([((289:Nat),Blk.mp E.1 E.2)]) (GE E)=( some [false=false,E.1=E.1,E.2=E.2]):=by kernel_rfl
abbrev QPI(d:Puz):List AV:=(.ptr 288 0 0::.ptr 304 0 0::List.append (wap L d) ([.agg (W2 L d),vj 3]))
abbrev QMZ(d:Puz)(s':Nat)(x:Lay):List Prop:=(([0=0,0=0,0=0,0=0]++wal L d++([(3:Int)=(s':Int)]++wbe x))++waa d++(([cO=cO,0=0]++waj E L)++wad d))
theorem Qh1 :QF 304 (QPI L d) ((VN E L d x)) (mzJ d E L x s')=(some (QMZ E L d s' x)):=by kernel_rfl
theorem Qal :QF 304 (QPI L d) ((VN E L d x)) (mzJ d E L x s')=(some (QMZ E L d s' x)):=by kernel_rfl
theorem QY0:QF 304 [AV.bool true false] ([((289:Nat),Blk.mp E.1 E.2)]) (GE E)=( some [false=false,E.1=E.1,E.2=E.2]):=by kernel_rfl
abbrev QTC(d:Puz):List AV:=(.ptr 288 0 0::.ptr 304 0 0::List.append (wap L d) ([.agg (W2 L d),vj 4]))
abbrev QLC(d:Puz)(s':Nat)(x:Lay):List Prop:=(([0=0,0=0,0=0,0=0]++wal L d++([(4:Int)=(s':Int)]++wbe x))++waa d++(([cO=cO,0=0]++waj E L)++wad d))
theorem Qbu :QF 304 (QTC L d) ((VN E L d x)) (mzJ d E L x s')=(some (QLC E L d s' x)):=by kernel_rfl
theorem Qc9 :QF 304 (QTC L d) ((VN E L d x)) (mzJ d E L x s')=(some (QLC E L d s' x)):=by kernel_rfl
theorem Qbw :QF 304 (.ptr 288 0 0::.ptr 304 0 0::wap L d) ((VN E L d x)) (QGc d E L x)=( some ((([0=0,0=0,0=0,0=0]++wbf L d)++wbe x)++waa d++(([cO=cO,0=0]++waj E L)++wad d))):=by kernel_rfl
def GH(P:Program)(d:Puz)(L:List Lay)(x:Lay)(s:Nat):Env:=mkF P (HG QO (flU d L.length x.piece (onS x s)))
theorem QNp{d:Puz}{L:List Lay}{x:Lay}(hx:Q0 d x)(s:Nat):(GH prog d L x s).Sound:=
 Kl (Qd.add (QMQ d L.length x.piece (onS x s) hx.p.1 hx.p.2 (QD6 hx s).1 (QD6 hx s).2))
def mzR(s:Nat)(e:Ex)(J:JSt):Prop:=(e = .ret/\(QR (Kr d L.length x) (4-s) s).isNone=false/\J=GE E)∨(e = .exit 0/\(QR (Kr d L.length x) (4-s) s).isNone=true/\J=QGc d E L x)
set_option maxHeartbeats 4000000 in
theorem QhU(hx:Q0 d x):Jm (mzJ d E L x) (λs=>s<=4) (λs=>4-s) (mzR d E L x) 304 QTP [289] (GH prog d L x) (λs=>hnd (GH prog d L x s) 1) (QJ f105 0):=by
 refine⟨λs g0 hk=>?_⟩;unfold GH;refine Qe (QWm QO d E L x s g0) ?_;have hk:s<=4:=hk;refine QE (λb0=>?_) (λb0=>?_);have h:s<4:=by have:=qdt b0;omega
 have hf:=JU (p:=Kr d L.length x) h;have ht:=hx.t;refine QG ?_ ?_;rotate_left;refine QE (λb1=>?_) (λb1=>?_);obtain rfl:s=0:=by have:=qdt b1;omega
 refine QE ?_ ?_<;>intro b2
 iterate 2 (refine QG ?_ ?_;rotate_left)
 refine QE ?_ ?_<;>intro b3
 .have hb:Kr d L.length x 0=true:=by show(QV d L.length 0 && !KR d x.piece (onS x _))=true;rw[b2];exact b3
  exact⟨_,.inl ⟨rfl,by rw[hf.1 hb];rfl,rfl⟩,rfl,rfl,_,QUv E,⟨rfl,rfl,rfl,trivial⟩⟩
 have hb:Kr d L.length x 0=false:=by show(QV d L.length 0 && !KR d x.piece (onS x _))=false;rw[b2];exact b3
 refine⟨1,by show 1<=4;omega,by show 4-1<4-0;omega,λe J h=>by unfold mzR at h ⊢;rw[hf.2 hb];exact h,rfl,rfl,_,Qgx d E L x 1,?_⟩
 rotate_left
 have hb:Kr d L.length x 0=false:=by show(QV d L.length 0 && !KR d x.piece (onS x _))=false;rw[b2];rfl
 refine⟨1,by show 1<=4;omega,by show 4-1<4-0;omega,λe J h=>by unfold mzR at h ⊢;rw[hf.2 hb];exact h,rfl,rfl,_,Qcd d E L x 1,?_⟩
 rotate_left
 refine QE (λb4=>?_) (λb4=>?_);obtain rfl:s=1:=by have:=qdt b4;omega
 refine QE ?_ ?_<;>intro b5
 iterate 2 (refine QG ?_ ?_;rotate_left)
 refine QE ?_ ?_<;>intro b6
 .have hb:Kr d L.length x 1=true:=by show(QV d L.length 1 && !KR d x.piece (onS x _))=true;rw[b5];exact b6
  exact⟨_,.inl ⟨rfl,by rw[hf.1 hb];rfl,rfl⟩,rfl,rfl,_,QeL E,⟨rfl,rfl,rfl,trivial⟩⟩
 have hb:Kr d L.length x 1=false:=by show(QV d L.length 1 && !KR d x.piece (onS x _))=false;rw[b5];exact b6
 refine⟨2,by show 2<=4;omega,by show 4-2<4-1;omega,λe J h=>by unfold mzR at h ⊢;rw[hf.2 hb];exact h,rfl,rfl,_,QWR d E L x 2,?_⟩
 rotate_left
 have hb:Kr d L.length x 1=false:=by show(QV d L.length 1 && !KR d x.piece (onS x _))=false;rw[b5];rfl
 refine⟨2,by show 2<=4;omega,by show 4-2<4-1;omega,λe J h=>by unfold mzR at h ⊢;rw[hf.2 hb];exact h,rfl,rfl,_,Qcr d E L x 2,?_⟩
 rotate_left
 refine QE (λb7=>?_) (λb7=>?_);obtain rfl:s=2:=by have:=qdt b7;omega
 refine QE ?_ ?_<;>intro b8
 iterate 2 (refine QG ?_ ?_;rotate_left)
 refine QE ?_ ?_<;>intro b9
 .have hb:Kr d L.length x 2=true:=by show(QV d L.length 2 && !KR d x.piece (onS x _))=true;rw[b8];exact b9
  exact⟨_,.inl ⟨rfl,by rw[hf.1 hb];rfl,rfl⟩,rfl,rfl,_,QV3 E,⟨rfl,rfl,rfl,trivial⟩⟩
 have hb:Kr d L.length x 2=false:=by show(QV d L.length 2 && !KR d x.piece (onS x _))=false;rw[b8];exact b9
 refine⟨3,by show 3<=4;omega,by show 4-3<4-2;omega,λe J h=>by unfold mzR at h ⊢;rw[hf.2 hb];exact h,rfl,rfl,_,Qh1 d E L x 3,?_⟩
 rotate_left
 have hb:Kr d L.length x 2=false:=by show(QV d L.length 2 && !KR d x.piece (onS x _))=false;rw[b8];rfl
 refine⟨3,by show 3<=4;omega,by show 4-3<4-2;omega,λe J h=>by unfold mzR at h ⊢;rw[hf.2 hb];exact h,rfl,rfl,_,Qal d E L x 3,?_⟩
 rotate_left
 obtain rfl:s=3:=by
  have h1:=qdf b1;have h2:=qdf b4;have h3:=qdf b7;omega
 refine QE ?_ ?_<;>intro b10
 iterate 2 (refine QG ?_ ?_;rotate_left)
 refine QE ?_ ?_<;>intro b11
 .have hb:Kr d L.length x 3=true:=by show(QV d L.length 3 && !KR d x.piece (onS x _))=true;rw[b10];exact b11
  exact⟨_,.inl ⟨rfl,by rw[hf.1 hb];rfl,rfl⟩,rfl,rfl,_,QY0 E,⟨rfl,rfl,rfl,trivial⟩⟩
 have hb:Kr d L.length x 3=false:=by show(QV d L.length 3 && !KR d x.piece (onS x _))=false;rw[b10];exact b11
 refine⟨4,by show 4<=4;omega,by show 4-4<4-3;omega,λe J h=>by unfold mzR at h ⊢;rw[hf.2 hb];exact h,rfl,rfl,_,Qbu d E L x 4,?_⟩
 rotate_left
 have hb:Kr d L.length x 3=false:=by show(QV d L.length 3 && !KR d x.piece (onS x _))=false;rw[b10];rfl
 refine⟨4,by show 4<=4;omega,by show 4-4<4-3;omega,λe J h=>by unfold mzR at h ⊢;rw[hf.2 hb];exact h,rfl,rfl,_,Qc9 d E L x 4,?_⟩
 rotate_left
 obtain rfl:s=4:=by have:=qdf b0;omega
 refine⟨_,.inr ⟨rfl,rfl,rfl⟩,rfl,rfl,_,Qbw d E L x,?_⟩
 rotate_left
 all_goals first|((with_reducible show _=true);(first|(refine Q9.2 ?_;repeat' first|exact tv|exact qRr|refine aI ?_ ?_)|(simp;omega)))|(repeat' first|with_reducible refine QN ?_ ?_|exact tv|exact qRr|exact rfl|refine aI ?_ ?_)
def mzX:List (Prop×Ex×JSt):=[(YP d L.length x=false,.ret,GE E),(YP d L.length x=true,.exit 0,QGc d E L x)]
abbrev mzH(P:Program)(d:Puz)(E:ECt)(L:List Lay)(x:Lay):Hnd:={ hnd (mkF P QU) 1 with loop:=λ_=>KJ 304 [289] (mzJ d E L x (0:Nat)) (mzX d E L x) }
theorem QfY(hx:Q0 d x)(G:Ctx)(hrd:G.rd=none)(hG:G.n<=304):Q1 (mkF prog QU) G (mzH prog d E L x) (Qk f105):=by
 refine Kk (body:=QJ f105 0) (Kl Qd) hrd (by kernel_rfl) ?_
 refine Jz (E0:=mkF prog QU) (E:=GH prog d L x) (H:=λs=>hnd (GH prog d L x s) 1) (n0:=304) (s0:=0) (λ_=>rfl) (QNp hx) hG (λs _=>Qw (QNp hx s) 1 G _ hrd) (λs _=>(by decide:304<=312)) ?_ (QhU d E L x hx) (Nat.zero_le _) ?_
 .rintro s e J (⟨_,_,rfl⟩|⟨_,_,rfl⟩)<;>exact(by decide:304<=312)
 .rintro e J (⟨rfl,h,rfl⟩|⟨rfl,h,rfl⟩)
  .exact⟨_,qmc,h,rfl,rfl⟩
  .exact⟨_,List.mem_cons_of_mem _ qmc,h,rfl,rfl⟩
def mzU:UC:=⟨296,⟨2,[(0,.ptr 288 0 0),(1,Enc.enc x)],QFm d E L,304⟩,λ_=>.bool false v,λ_=>[(289,.mp E.1 E.2)]⟩
theorem QXT :VZ (mkF prog QU) (mzH prog d E L x) f105 (mzU d E L x v) = .need (!decide (d.wide=0)) (.need (!decide (d.wide=0)) (.ak [0=0,0=0,0=0,0=0,(L.length:Int)=(L.length:Int),i64.wrap ((L.length:Int).tdiv d.wide)=Qi d L.length,(L.length:Int).tmod d.wide=Qy d L.length,(i64.wrap ((L.length:Int).tdiv d.wide)==0)=QV d L.length 0,((L.length:Int).tmod d.wide==i64.wrap (d.wide-1))=QV d L.length 1,(i64.wrap ((L.length:Int).tdiv d.wide)==i64.wrap (d.high-1))=QV d L.length 2,((L.length:Int).tmod d.wide==0)=QV d L.length 3,(0:Int)=0,x.piece=x.piece,x.turn=x.turn,d.pK.length=d.pK.length,d.pK.aK=d.pK.aK,d.pK.oK=d.pK.oK,d.pK.dK.lo=d.pK.dK.lo,d.pK.dK.hi=d.pK.dK.hi,d.wide=d.wide,d.high=d.high,d.turn=d.turn,0=0,d.ps.n=d.ps.n,cO=cO,0=0,L.length=L.length,cO=cO,L.length<=L.length,QB 2 L.length (λi=>QA.enc (L.getD i (Lay.mk (0:Int) (0:Int)))) λi=>QA.enc (L.getD i (Lay.mk (0:Int) (0:Int))),E.1=E.1,E.2=E.2,d.ps.n<=d.ps.n,QB 28 d.ps.n (λi=>QA.enc (d.ps.get i)) λi=>QA.enc (d.ps.get i)] (.both (.asm (YP d L.length x=false) (.all (λ(g0:Nat->Value)=>.leaf (.bool false false) ([(289, .mp E.1 E.2)])))) (.asm (YP d L.length x=true) (.all (λ(g1:Nat->Value)=>.br (decide (Qi d L.length>0)) (.need (decide ((0:Int)<=i64.wrap ((L.length:Int)-d.wide)/\i64.wrap ((L.length:Int)-d.wide)<(L.length:Int))&&decide (L.length<=L.length)) (.need (decide ((i64.wrap ((L.length:Int)-d.wide)).toNat<L.length)) (.need (true&&(true&&true)&&decide (((0:Int)<=(L.getD (i64.wrap ((L.length:Int)-d.wide)).toNat (Lay.mk (0:Int) (0:Int))).turn/\(L.getD (i64.wrap ((L.length:Int)-d.wide)).toNat (Lay.mk (0:Int) (0:Int))).turn<=3)/\(0:Int)<=2/\(2:Int)<=3)) (.need (true&&(true&&true)&&decide (((0:Int)<=x.turn/\x.turn<=3)/\(0:Int)<=0/\(0:Int)<=3)) (.need (wf4 i64 E.1) (.br (KQ E.1 [(L.getD (i64.wrap ((L.length:Int)-d.wide)).toNat (Lay.mk (0:Int) (0:Int))).piece,onS (L.getD (i64.wrap ((L.length:Int)-d.wide)).toNat (Lay.mk (0:Int) (0:Int))) (2:Int),x.piece,onS x (0:Int)]==0) (.leaf (.bool true false) ([(289,.mp E.1 E.2)])) (.br (Qy d L.length==0) (.leaf (.bool true true) ([(289,.mp E.1 E.2)])) (.need (decide ((0:Int)<=i64.wrap ((L.length:Int)-1)/\i64.wrap ((L.length:Int)-1)<(L.length:Int))&&decide (L.length<=L.length)) (.need (decide ((i64.wrap ((L.length:Int)-1)).toNat<L.length)) (.need (true&&(true&&true)&&decide (((0:Int)<=(L.getD (i64.wrap ((L.length:Int)-1)).toNat (Lay.mk (0:Int) (0:Int))).turn/\(L.getD (i64.wrap ((L.length:Int)-1)).toNat (Lay.mk (0:Int) (0:Int))).turn<=3)/\(0:Int)<=1/\(1:Int)<=3)) (.need (true&&(true&&true)&&decide (((0:Int)<=x.turn/\x.turn<=3)/\(0:Int)<=3/\(3:Int)<=3)) (.need (wf4 i64 E.1) (.leaf (.bool false (KQ E.1 [(L.getD (i64.wrap ((L.length:Int)-1)).toNat (Lay.mk (0:Int) (0:Int))).piece,onS (L.getD (i64.wrap ((L.length:Int)-1)).toNat (Lay.mk (0:Int) (0:Int))) (1:Int),x.piece,onS x (3:Int)] != 0)) ([(289,.mp E.1 E.2)])))))))))))))) (.br (Qy d L.length==0) (.leaf (.bool true true) ([(289,.mp E.1 E.2)])) (.need (decide ((0:Int)<=i64.wrap ((L.length:Int)-1)/\i64.wrap ((L.length:Int)-1)<(L.length:Int))&&decide (L.length<=L.length)) (.need (decide ((i64.wrap ((L.length:Int)-1)).toNat<L.length)) (.need (true&&(true&&true)&&decide (((0:Int)<=(L.getD (i64.wrap ((L.length:Int)-1)).toNat (Lay.mk (0:Int) (0:Int))).turn/\(L.getD (i64.wrap ((L.length:Int)-1)).toNat (Lay.mk (0:Int) (0:Int))).turn<=3)/\(0:Int)<=1/\(1:Int)<=3)) (.need (true&&(true&&true)&&decide (((0:Int)<=x.turn/\x.turn<=3)/\(0:Int)<=3/\(3:Int)<=3)) (.need (wf4 i64 E.1) (.leaf (.bool false (KQ E.1 [(L.getD (i64.wrap ((L.length:Int)-1)).toNat (Lay.mk (0:Int) (0:Int))).piece,onS (L.getD (i64.wrap ((L.length:Int)-1)).toNat (Lay.mk (0:Int) (0:Int))) (1:Int),x.piece,onS x (3:Int)] != 0)) ([(289,.mp E.1 E.2)])))))))))))))):=by kernel_rfl
theorem Qgc(v b:Bool)(k:Bool)(h:v=b):(QC.leaf (.bool k v) [(289,.mp E.1 E.2)]).den (jH (mzU d E L x b)):=⟨rfl,rfl,_,by cases k<;>rfl,by subst h;exact⟨rfl,rfl,rfl,trivial⟩⟩
theorem Qdc:(mzU d E L x v).Ok:=by
 refine⟨(by decide:296<=304),rfl,rfl,?_,rfl,λ_ _=>rfl,λnid h=>rfl⟩
 intro q hq;simp only[UC.po,mzU,List.mem_cons,List.not_mem_nil,or_false]at hq;subst hq;exact⟨rfl,rfl,rfl,λ_=>rfl⟩
theorem QaK(L:List Lay)(x:Lay)(hd:KB d)(hE:WfE E)(hl:L.length<=1000)(hL:∀ y∈L,Q0 d y)(hx:Q0 d x):QQ prog 105 (uFC (mzU d E L x (Q3 d E L x))):=by
 refine K4 (E:=mkF prog QU) (Kl Qd) func105 (by kernel_rfl) (by kernel_rfl) (Qdc ..) (λG h1 h2=>QfY d E L x hx G h1 (by rw[h2];exact qlr _)) ⟨?_⟩
 have fin:∀(v k:Bool),v=Q3 d E L x->(QC.leaf (.bool k v) [(289,.mp E.1 E.2)]).den (jH (mzU d E L x (Q3 d E L x))):=λv k h=>Qgc d E L x v _ k h;have hw1:=hd.w1;have hwn:=hd.wn;have hh1:=hd.h1;have hhn:=hd.hn;have hn:=hd.n;have hr:=QBv hd L.length;have ht:=hx.t;have hE:wf4 .i64 E.1=true:=hE;have wr:i64.wrap ((L.length:Int).tdiv d.wide)=Qi d L.length:=w64 (by have:=hr.1;unfold Qi at this;omega) (by have:=hr.2;unfold Qi at this;omega)
 have ww:i64.wrap (d.wide-1)=d.wide-1:=w64 (by omega) (by omega)
 have wh:i64.wrap (d.high-1)=d.high-1:=w64 (by omega) (by omega)
 have wu:i64.wrap ((L.length:Int)-d.wide)=(L.length:Int)-d.wide:=w64 (by omega) (by omega)
 have wl:i64.wrap ((L.length:Int)-1)=(L.length:Int)-1:=w64 (by omega) (by omega)
 generalize hv:Q3 d E L x=v at fin;refine Qe (QXT d E L x v) ?_;rw[wr,ww,wh,wu,wl]
 iterate 2 (refine QG ?_ ?_;rotate_left)
 iterate 34 refine Q2 (by first|exact tv|exact Nat.le_refl _|exact qRr|exact rfl) ?_
 refine Km ?_ ?_;refine Qh λa0=>?_;refine Qj λg0=>?_
 .refine fin _ _ ?_;rw[<-hv,Q3,a0];rfl
 refine Qh λa1=>?_;refine Qj λg1=>?_;refine QE (λb0=>?_) (λb0=>?_);have hcw:=QB8 hd (qdt b0);have hU:=(Gy hL (i:=(L.length:Int)-d.wide) (by omega) (by omega)).t
 iterate 5 (refine QG ?_ ?_;rotate_left)
 refine QE ?_ ?_<;>intro b1
 .refine fin _ _ ?_;rw[<-hv,Q3,a1,show decide (0<Qi d L.length)=true from b0,show(Ve E (atL L ((L.length:Int)-d.wide)) x 2 0==0)=true from b1];rfl
 refine QE ?_ ?_<;>intro b2
 .refine fin _ _ ?_;rw[<-hv,Q3,a1,show decide (0<Qi d L.length)=true from b0,show(Ve E (atL L ((L.length:Int)-d.wide)) x 2 0==0)=false from b1,b2];rfl
 have hc1:=Gk b2;have hV:=(Gy hL (i:=(L.length:Int)-1) (by omega) (by omega)).t
 iterate 5 (refine QG ?_ ?_;rotate_left)
 .refine fin _ _ ?_;rw[<-hv,Q3,a1,show decide (0<Qi d L.length)=true from b0,show(Ve E (atL L ((L.length:Int)-d.wide)) x 2 0==0)=false from b1,b2];rfl
 refine QE ?_ ?_<;>intro b3
 .refine fin _ _ ?_;rw[<-hv,Q3,a1,show decide (0<Qi d L.length)=false from b0,b3];rfl
 have hc1:=Gk b3;have hV:=(Gy hL (i:=(L.length:Int)-1) (by omega) (by omega)).t
 iterate 5 (refine QG ?_ ?_;rotate_left)
 .refine fin _ _ ?_;rw[<-hv,Q3,a1,show decide (0<Qi d L.length)=false from b0,b3];rfl
 all_goals first|exact hE|rfl|exact qde (show(0<=(atL L _).turn/\_)/\_ from⟨hU,by decide,by decide⟩)|exact qde (show(0<=(atL L _).turn/\_)/\_ from⟨hV,by decide,by decide⟩)|exact qde ⟨ht,by decide,by decide⟩|(simp;omega)
def swS:Lay:=cond (x.piece==p) ⟨q,x.turn⟩ (cond (x.piece==q) ⟨p,x.turn⟩ x)
def swJ(o:List Lay)(k:Nat):JSt:=⟨39,[(1,.int false .i64 p),(2,.int false .i64 q),(7,.slz 16 0 o.length (.of 0)),(12,.slz 16 0 o.length (.of 0)),(13,.int false .i64 o.length),(14,.int false .i64 k)],[rwY 16 o],24⟩
def swE:JSt:=⟨39,[(7,.slz 16 0 o.length (.of 0))],[rwY 16 o],24⟩
def QQi:Ex->List Nat
 | .normal=>[1,2,7,12,13,14]
 | .exit _=>[7]
 | .ret=>[]
abbrev QJ1(o:List Lay)(p:Int)(q:Int):List AV:=[.nilp,.ptr 39 0 0,vi p,vi q,.slz 16 0 o.length cO,.slz 16 0 o.length cO,vi (o.length:Int),.int false .i64 (i64.wrap ((k:Int)+1))]
theorem QVv(o:List Lay)(k:Nat)(g:Nat->Value):exec (mkE prog QU) (hnd (mkE prog QU) 1) (QJ f63 0) (JSt.inst (swJ p q o k) g) (KD [] QQi) = .br (decide ((k:Int)<(o.length:Int))) (.need (decide ((0:Int)<=(k:Int)/\(k:Int)<(o.length:Int))&&decide (o.length<=o.length)) (.need (decide (k<o.length)) (.br ((o.getD k (Lay.mk (0:Int) (0:Int))).piece==p) (.need (decide ((0:Int)<=(k:Int)/\(k:Int)<(o.length:Int))&&decide (o.length<=o.length)) (.need (decide (k<o.length)) (.leaf (.tup (QJ1 k o p q)) ([(16,.rowz true 49 kB o.length λi=>bif decide (i=k)then KL [vi q] 0 (QA.enc (o.getD k (Lay.mk (0:Int) (0:Int))))else QA.enc (o.getD i (Lay.mk (0:Int) (0:Int))))])))) (.br ((o.getD k (Lay.mk (0:Int) (0:Int))).piece==q) (.need (decide ((0:Int)<=(k:Int)/\(k:Int)<(o.length:Int))&&decide (o.length<=o.length)) (.need (decide (k<o.length)) (.leaf (.tup (QJ1 k o p q)) ([(16,.rowz true 49 kB o.length λi=>bif decide (i=k)then KL [vi p] 0 (QA.enc (o.getD k (Lay.mk (0:Int) (0:Int))))else QA.enc (o.getD i (Lay.mk (0:Int) (0:Int))))])))) (.leaf (.tup (QJ1 k o p q)) ([(16,.rowz true 49 kB o.length λi=>QA.enc (o.getD i (Lay.mk (0:Int) (0:Int))))])))))) (.leaf (.tup [.ptr 0 0 0,.ptr 39 0 0,.slz 16 0 o.length cO]) ([(16,.rowz true 49 kB o.length λi=>QA.enc (o.getD i (Lay.mk (0:Int) (0:Int))))])):=by kernel_rfl
theorem QUg(o o':List Lay)(k k':Nat):QF 8 [vi p,vi q,AV.slz (16:Nat) (0:Nat) o.length cO,AV.slz (16:Nat) (0:Nat) o.length cO,vi (↑o.length:Int),vi (i64.wrap ((↑k:Int)+(1:Int)))] ([((16:Nat),Blk.rowz true (49:Nat) [CK.int i64,CK.int i64] o.length λi=>bif decide (i=k)then KL [vi q] (0:Nat) (QA.enc (o.getD k (Lay.mk (0:Int) (0:Int))))else QA.enc (o.getD i (Lay.mk (0:Int) (0:Int))))]) (swJ p q o' k')=( some [p=p,q=q,0=0,o.length=o'.length,cO=cO,0=0,o.length=o'.length,cO=cO,(↑o.length:Int)=(↑o'.length:Int),i64.wrap ((↑k:Int)+(1:Int))=(↑k':Int),o'.length<=o.length,QB (2:Nat) o'.length (λi=>bif decide (i=k) then KL [vi q] (0:Nat) (QA.enc (o.getD k (Lay.mk (0:Int) (0:Int))))else QA.enc (o.getD i (Lay.mk (0:Int) (0:Int)))) λi=>QA.enc (o'.getD i (Lay.mk (0:Int) (0:Int)))]):=by kernel_rfl
theorem QWy(o o':List Lay)(k k':Nat):QF 8 [vi p,vi q,AV.slz (16:Nat) (0:Nat) o.length cO,AV.slz (16:Nat) (0:Nat) o.length cO,vi (↑o.length:Int),vi (i64.wrap ((↑k:Int)+(1:Int)))] ([((16:Nat),Blk.rowz true (49:Nat) [CK.int i64,CK.int i64] o.length λi=>bif decide (i=k)then KL [vi p] (0:Nat) (QA.enc (o.getD k (Lay.mk (0:Int) (0:Int))))else QA.enc (o.getD i (Lay.mk (0:Int) (0:Int))))]) (swJ p q o' k')=( some [p=p,q=q,0=0,o.length=o'.length,cO=cO,0=0,o.length=o'.length,cO=cO,(↑o.length:Int)=(↑o'.length:Int),i64.wrap ((↑k:Int)+(1:Int))=(↑k':Int),o'.length<=o.length,QB (2:Nat) o'.length (λi=>bif decide (i=k) then KL [vi p] (0:Nat) (QA.enc (o.getD k (Lay.mk (0:Int) (0:Int))))else QA.enc (o.getD i (Lay.mk (0:Int) (0:Int)))) λi=>QA.enc (o'.getD i (Lay.mk (0:Int) (0:Int)))]):=by kernel_rfl
abbrev wbT(o:List Lay):List Prop:=[o.length<=o.length,QB (2:Nat) o.length (λi=>QA.enc (o.getD i (Lay.mk (0:Int) (0:Int)))) λi=>QA.enc (o.getD i (Lay.mk (0:Int) (0:Int)))]
theorem QZw(o:List Lay)(k k':Nat):QF 8 [vi p,vi q,AV.slz (16:Nat) (0:Nat) o.length cO,AV.slz (16:Nat) (0:Nat) o.length cO,vi (↑o.length:Int),vi (i64.wrap ((↑k:Int)+(1:Int)))] ([((16:Nat),Blk.rowz true (49:Nat) [CK.int i64,CK.int i64] o.length λi=>QA.enc (o.getD i (Lay.mk (0:Int) (0:Int))))]) (swJ p q o k')=( some ([p=p,q=q,0=0,o.length=o.length,cO=cO,0=0,o.length=o.length,cO=cO,(↑o.length:Int)=(↑o.length:Int),i64.wrap ((↑k:Int)+(1:Int))=(↑k':Int)]++wbT o)):=by kernel_rfl
theorem Qfh:QF 8 [AV.slz (16:Nat) (0:Nat) o.length cO] ([((16:Nat),Blk.rowz true (49:Nat) [CK.int i64,CK.int i64] o.length λi=>QA.enc (o.getD i (Lay.mk (0:Int) (0:Int))))]) (swE o)=( some ([0=0,o.length=o.length,cO=cO]++wbT o)):=by kernel_rfl
def swU(p q:Int)(v:List Lay):UC:=⟨0,⟨3,[(0,.slz 5 0 l.length (.of 0)),(1,.int false .i64 p),(2,.int false .i64 q)],[QAj 5 l],8⟩,λm=>.slz m 0 v.length (.of 0),λm=>[rwY m v]⟩
def jx:Tab:=QZ QU 68 (KI pb (clU l))
abbrev swH(P:Program)(pb:List Prop->Bool)(l:List Lay)(p q:Int)(X:List (Prop×Ex×JSt)):Hnd:={ hnd (mkE P (jx pb l)) 2 with loop:=λ_=>KJ 8 [] (swJ p q l (0:Nat)) X }
theorem QbN(p q:Int)(v:List Lay):VZ (mkE prog (jx pb l)) (swH prog pb l p q [(True,.exit 0,swE v)]) f63 (swU l p q v)=QC.need (pb ([0=0,l.length=l.length,cO=cO,l.length<=l.length,QB (2:Nat) l.length (λi=>QA.enc (l.getD i (Lay.mk (0:Int) (0:Int)))) λi=>QA.enc (l.getD i (Lay.mk (0:Int) (0:Int)))])) (QC.ask (p=p) (QC.ask (q=q) (QC.ask (0=0) (QC.ask (l.length=l.length) (QC.ask (cO=cO) (QC.ask (0=0) (QC.ask (l.length=l.length) (QC.ask (cO=cO) (QC.ask ((↑l.length:Int)=(↑l.length:Int)) (QC.ask ((0:Int)=(0:Int)) (QC.ask (l.length<=l.length) (QC.ask (QB (2:Nat) l.length (λi=>QA.enc (l.getD i (Lay.mk (0:Int) (0:Int)))) λi=>QA.enc (l.getD i (Lay.mk (0:Int) (0:Int)))) (QC.asm (True) (QC.all (λ(g0:Nat->Value)=>QC.leaf (AV.slz (16:Nat) (0:Nat) v.length cO) ([((16:Nat),Blk.rowz true (49:Nat) [CK.int i64,CK.int i64] v.length λi=>QA.enc (v.getD i (Lay.mk (0:Int) (0:Int))))])))))))))))))))):=by kernel_rfl
theorem QXK(p q:Int)(v:List Lay):QF 8 [(AV.slz (16:Nat) (0:Nat) v.length cO)] ([((16:Nat),Blk.rowz true (49:Nat) [CK.int i64,CK.int i64] v.length λi=>QA.enc (v.getD i (Lay.mk (0:Int) (0:Int))))]) (KX (swU l p q v))=( some [0=0,v.length=v.length,cO=cO,v.length<=v.length,QB (2:Nat) v.length (λi=>QA.enc (v.getD i (Lay.mk (0:Int) (0:Int)))) λi=>QA.enc (v.getD i (Lay.mk (0:Int) (0:Int)))]):=by kernel_rfl
def Kw:List Lay:=(l.take k).map (swS p q)++l.drop k
theorem QIA:(Kw p q l k).length=l.length:=by
 unfold Kw;rw[List.length_append,List.length_map,List.length_take,List.length_drop];omega
theorem QFn{p q:Int}{l:List Lay}{k i:Nat}(h:i<k)(hi:i<l.length):(Kw p q l k).getD i ⟨0,0⟩=swS p q (l.getD i ⟨0,0⟩):=by
 unfold Kw;rw[List.getD_eq_getElem?_getD,List.getElem?_append_left (by rw[List.length_map,List.length_take];omega),List.getElem?_map,List.getElem?_take,if_pos h,List.getElem?_eq_getElem hi,K8 hi]
 rfl
theorem QCq{p q:Int}{l:List Lay}{k i:Nat}(h:k<=i)(hk:k<=l.length):(Kw p q l k).getD i ⟨0,0⟩=l.getD i ⟨0,0⟩:=by
 unfold Kw;rw[List.getD_eq_getElem?_getD,List.getD_eq_getElem?_getD,List.getElem?_append_right (by rw[List.length_map,List.length_take];omega),List.length_map,List.length_take,List.getElem?_drop]
 congr 2;omega
theorem QRE{p q:Int}{l:List Lay}{k:Nat}{r:Int}(hk:k<l.length)(h:swS p q (l.getD k ⟨0,0⟩)=⟨r,(l.getD k ⟨0,0⟩:Lay).turn⟩):QB 2 (Kw p q l (k+1)).length (λi=>bif decide (i=k)then KL [.int false .i64 r] 0 (QA.enc ((Kw p q l k).getD k (⟨0,0⟩:Lay)))else QA.enc ((Kw p q l k).getD i (⟨0,0⟩:Lay))) λi=>QA.enc ((Kw p q l (k+1)).getD i (⟨0,0⟩:Lay)):=by
 intro i hi;rw[QIA]at hi;show eqF 2 0 _ (QA.enc ((Kw p q l (k+1)).getD i (⟨0,0⟩:Lay)))
 by_cases e:i=k
 .subst e;rw[QFn (Nat.lt_succ_self _) hk,h,QCq (qlr _) (Nat.le_of_lt hk)];simp only[decide_true,cond_true];exact⟨rfl,rfl,trivial⟩
 .have e2:(Kw p q l (k+1)).getD i ⟨0,0⟩=(Kw p q l k).getD i ⟨0,0⟩:=by
   rcases Nat.lt_or_ge i k with h1|h1
   .rw[QFn (by omega) hi,QFn h1 hi]
   .rw[QCq (by omega) (by omega),QCq h1 (by omega)]
  rw[e2];simp only[e,decide_false,cond_false];exact⟨rfl,rfl,trivial⟩
theorem Qdu{p q:Int}{l:List Lay}{k:Nat}(hk:k<l.length)(h:swS p q (l.getD k ⟨0,0⟩)=l.getD k ⟨0,0⟩):Kw p q l (k+1)=Kw p q l k:=by
 unfold Kw;rw[K8 hk]at h;rw[List.take_succ_eq_append_getElem hk,List.map_append,List.append_assoc,List.map_cons,List.map_nil,h];congr 1;rw[List.singleton_append,<-List.drop_eq_getElem_cons hk]
def QVK(_:Nat)(e:Ex)(J:JSt):Prop:=e = .exit 0/\J=swE (l.map (swS p q))
theorem Qgj(hl:l.length<=1000):Jm (λk=>swJ p q (Kw p q l k) k) (λk=>k<=l.length) (λk=>l.length-k) (QVK p q l) 8 QQi [] (λ_=>mkE prog QU) (λ_=>hnd (mkE prog QU) 1) (QJ f63 0):=by
 refine⟨λk g0 hk=>?_⟩;have hk:k<=l.length:=hk;have hlen:=QIA p q l k;have hlen2:=QIA p q l (k+1);have hx:=QCq (p:=p) (q:=q) (l:=l) (qlr k) hk;have et:=QVv p q (Kw p q l k) k g0;refine Qe et ?_;clear et;refine QE (λb0=>?_) (λb0=>?_);have h:k<l.length:=by have:=qdt b0;omega
 have hw:=VJ h hl
 iterate 2 (refine QG ?_ ?_;rotate_left)
 refine QE ?_ ?_<;>intro b1
 iterate 2 (refine QG ?_ ?_;rotate_left)
 have e1:((l.getD k ⟨0,0⟩:Lay).piece==p)=true:=by rw[<-hx];exact b1
 have hs:swS p q (l.getD k ⟨0,0⟩)=⟨q,(l.getD k ⟨0,0⟩:Lay).turn⟩:=by unfold swS;rw[e1];rfl
 have hr:=QRE h hs;have hq:(Kw p q l k).length=(Kw p q l (k+1)).length:=by omega
 refine⟨k+1,h,by show l.length-(k+1)<l.length-k;omega,λ_ _ r=>r,rfl,rfl,_,QUg p q (Kw p q l k) (Kw p q l (k+1)) k (k+1),?_⟩
 rotate_left
 refine QE ?_ ?_<;>intro b2
 iterate 2 (refine QG ?_ ?_;rotate_left)
 have e1:((l.getD k ⟨0,0⟩:Lay).piece==p)=false:=by rw[<-hx];exact b1
 have e2:((l.getD k ⟨0,0⟩:Lay).piece==q)=true:=by rw[<-hx];exact b2
 have hs:swS p q (l.getD k ⟨0,0⟩)=⟨p,(l.getD k ⟨0,0⟩:Lay).turn⟩:=by unfold swS;rw[e1,e2];rfl
 have hr:=QRE h hs;have hq:(Kw p q l k).length=(Kw p q l (k+1)).length:=by omega
 refine⟨k+1,h,by show l.length-(k+1)<l.length-k;omega,λ_ _ r=>r,rfl,rfl,_,QWy p q (Kw p q l k) (Kw p q l (k+1)) k (k+1),?_⟩
 rotate_left
 have e1:((l.getD k ⟨0,0⟩:Lay).piece==p)=false:=by rw[<-hx];exact b1
 have e2:((l.getD k ⟨0,0⟩:Lay).piece==q)=false:=by rw[<-hx];exact b2
 have hs:swS p q (l.getD k ⟨0,0⟩)=l.getD k ⟨0,0⟩:=by unfold swS;rw[e1,e2];rfl
 have hm:=Qdu h hs;refine⟨k+1,h,by show l.length-(k+1)<l.length-k;omega,λ_ _ r=>r,?_⟩
 show JT 8 _ _ _ _ (swJ p q (Kw p q l (k+1)) (k+1));rw[hm];refine⟨rfl,rfl,_,QZw p q (Kw p q l k) k (k+1),?_⟩
 rotate_left
 have h:l.length<=k:=by have:=qdf b0;omega
 have hm:Kw p q l k=l.map (swS p q):=by unfold Kw;rw[List.take_of_length_le h,List.drop_eq_nil_of_le h,List.append_nil]
 rw[hm];refine⟨_,⟨rfl,rfl⟩,rfl,rfl,_,Qfh (l.map (swS p q)),?_⟩
 rotate_left
 all_goals first|((with_reducible show _=true);(first|rfl|(simp;omega)))|(repeat' first|with_reducible refine QN ?_ ?_|exact tv|with_reducible exact qRr|exact hw|exact hq|exact congrArg (λn:Nat=>(n:Int)) hq|exact Nat.le_of_eq hq.symm|exact hr|exact rfl|refine aI ?_ ?_)
theorem QeC(p q:Int)(hT:Qc (jx pb l))(hl:l.length<=1000)(G:Ctx)(hrd:G.rd=none)(hG:G.n=8):Q1 (mkE prog (jx pb l)) G (swH prog pb l p q [(True,.exit 0,swE (l.map (swS p q)))]) (Qk f63):=by
 refine Kk (body:=QJ f63 0) (QP hT) hrd (by kernel_rfl) ?_
 have h0:swJ p q l 0=swJ p q (Kw p q l 0) 0:=by
  have:Kw p q l 0=l:=by unfold Kw;simp
  rw[this]
 rw[h0];refine Jz (E0:=mkE prog (jx pb l)) (E:=λ_:Nat=>mkE prog QU) (H:=λ_=>hnd (mkE prog QU) 1) (n0:=8) (s0:=0) (λ_=>rfl) (λ_=>QP Qd) (by omega) (λk _=>Qw (QP Qd) 1 G _ hrd) (λk _=>(by decide:8<=24)) ?_ (Qgj p q l hl) (Nat.zero_le _) ?_
 .rintro k e J ⟨_,rfl⟩;exact(by decide:8<=24)
 .rintro e J ⟨rfl,rfl⟩;exact⟨_,qmc,trivial,rfl,rfl⟩
theorem QUb(p q:Int)(v:List Lay):(swU l p q v).Ok:=by
 refine⟨(by decide:0<=8),rfl,rfl,?_,rfl,λnid h=>?_,λnid h=>?_⟩
 .intro x hx;simp only[UC.po,swU,rwY,List.mem_cons,List.not_mem_nil,or_false]at hx;subst hx;exact⟨rfl,rfl,rfl,λh=>absurd (show 8<0 from h) (by decide)⟩
 .have e0:=Kj 0 8 0 nid (by decide)
  simp only[UC.va,swU,AV.mapId,Nat.add_zero]at e0 ⊢;rw[e0]
 .have e0:=Kj 0 8 0 nid (by decide)
  simp only[UC.po,swU,rwY,List.map_cons,List.map_nil,Blk.mapId,Nat.add_zero]at e0 ⊢;rw[e0]
theorem Qfn(p q:Int)(hp:0<l.length)(hl:l.length<=1000):QQ prog 63 (uFC (swU l p q (l.map (swS p q)))):=by
 have hT:Qc (jx QO l):=Qd.add (QPu l hp hl);refine K4 (c:=Qk f63) (E:=mkE prog (jx QO l)) (QP hT) func63 (by kernel_rfl) (by kernel_rfl) (QUb ..) (λG h1 h2=>QeC QO l p q hT hl G h1 (by rw[h2];rfl)) ⟨?_⟩
 have et:=QbN QO l p q (l.map (swS p q));refine Qe et ?_;clear et;refine QG ?_ ?_;rotate_left
 iterate 12 refine Q2 (by first|exact tv|with_reducible exact qRr|exact rfl) ?_
 refine Qh λa0=>?_;refine Qj λg0=>?_;refine⟨rfl,rfl,_,QXK l p q (l.map (swS p q)),?_⟩
 rotate_left
 all_goals first|((with_reducible show _=true);(first|(refine Q9.2 ?_;repeat' first|with_reducible refine QN ?_ ?_|exact tv|with_reducible exact qRr|exact rfl|refine aI ?_ ?_)|(simp;omega)))|(repeat' first|with_reducible refine QN ?_ ?_|exact tv|with_reducible exact qRr|exact rfl|refine aI ?_ ?_)
def bdZ(a z:Nat):Nat×Blk:=(288,.cells 0 152 (Kb d++[.map 289,.slz a 0 z (.of 0)]))
def iqS:List (Nat×AV):=[(0,.ptr 288 0 0),(1,.slz 320 0 l.length (.of 0)),(7,.slz 320 0 l.length (.of 0)),(8,.int false .i64 l.length),(9,.int false .i64 k)]
def iqJ(z k:Nat):JSt:=⟨34,iqS l k,[bdZ d 328 z,(289,.mp E.1 E.2),rwY 320 l]++Qo.blk 0 d.ps,336⟩
def Hd:JSt:=⟨34,[(4,.bool false false)],[bdZ d 328 z,(289,.mp E.1 E.2)],336⟩
def QDz:JSt:=⟨34,[],[bdZ d 328 z,(289,.mp E.1 E.2)],336⟩
def QOV:Ex->List Nat
 | .normal=>[0,1,7,8,9]
 | .exit _=>[]
 | .ret=>[4]
def QFy:Tab:=QZ (QZ QU 52 (KI pb (tnU d L.length x.piece))) 105 (KI pb (mzU d E L x v))
abbrev vu:Nat×Blk:=(288,.cells 0 152 (List.append (waf d) ([.map 289,.slz 320 0 k cO])))
abbrev qw:Nat×Blk:=(0,.frz (wae) d.ps.n λi=>QA.enc (d.ps.get i))
abbrev zH:Nat×Blk:=(320,.rowz true 49 kB l.length λi=>QA.enc (l.getD i (Lay.mk (0:Int) (0:Int))))
abbrev QTR(d:Puz)(z:Nat):List (Nat×Blk):=[(288,.cells 0 152 (List.append (waf d) ([.map 289,.slz 328 0 z cO]))),(289,.mp E.1 E.2),(qw d)]
theorem QhA(z k:Nat)(g:Nat->Value):exec (mkE prog (QFy pb d E L (l.getD k ⟨0,0⟩) v)) (hnd (mkE prog (QFy pb d E L (l.getD k ⟨0,0⟩) v)) 1) (QJ f62 0) (JSt.inst (iqJ d E l z k) g) (KD [288, 289] QOV) = .br (decide ((k:Int)<(l.length:Int))) (.need (decide ((0:Int)<=(k:Int)/\(k:Int)<(l.length:Int))&&decide (l.length<=l.length)) (.need (decide (k<l.length)) (.need (decide ((0:Int)<=(k:Int)/\k<=l.length-0)) (.need (pb (([0=0,0=0,(l.getD k (Lay.mk (0:Int) (0:Int))).piece=(l.getD k (Lay.mk (0:Int) (0:Int))).piece]++waa d++([cO=cO,0=0,k=L.length,cO=cO]++wad d)))) (.br (decide ((l.getD k (Lay.mk (0:Int) (0:Int))).turn≥tnV d (l.getD k (Lay.mk (0:Int) (0:Int))).piece)) (.leaf (.tup [.nili,.ptr 34 0 0,.bool true false]) ([(vu d k),(289,.mp E.1 E.2),(qw d),(zH l)])) (.need (pb (([0=0,0=0,(l.getD k (Lay.mk (0:Int) (0:Int))).piece=(l.getD k (Lay.mk (0:Int) (0:Int))).piece,(l.getD k (Lay.mk (0:Int) (0:Int))).turn=(l.getD k (Lay.mk (0:Int) (0:Int))).turn]++waa d++([cO=cO,0=0,k=L.length,cO=cO,L.length<=l.length,QB 2 L.length (λi=>QA.enc (l.getD i (Lay.mk (0:Int) (0:Int)))) λi=>QA.enc (L.getD i (Lay.mk (0:Int) (0:Int))),E.1=E.1,E.2=E.2]++wad d)))) (.br (!v) (.leaf (.tup [.nili,.ptr 34 0 0,.bool true false]) ([(vu d k),(289,.mp E.1 E.2),(qw d),(zH l)])) (.leaf (.tup [.nilp,.ptr 34 0 0,.ptr 288 0 0,.slz 320 0 l.length cO,.slz 320 0 l.length cO,vi (l.length:Int),vi (i64.wrap ((k:Int)+1))]) ([(vu d k),(289,.mp E.1 E.2),(zH l),(qw d)]))))))))) (.leaf (.tup [.ptr 0 0 0,.ptr 34 0 0]) ((QTR E d z))):=by kernel_rfl
abbrev QOT(d:Puz)(k:Nat)(z':Nat):List Prop:=([false=false]++waa d++[cO=cO,0=0,k=z',cO=cO,E.1=E.1,E.2=E.2])
theorem Qh6 :QF 320 [.bool true false] ([(vu d k),(289,.mp E.1 E.2),(qw d),(zH l)]) (Hd d E z')=(some (QOT E d k z')):=by kernel_rfl
theorem QYl :QF 320 [.bool true false] ([(vu d k),(289,.mp E.1 E.2),(qw d),(zH l)]) (Hd d E z')=(some (QOT E d k z')):=by kernel_rfl
abbrev QPv:List Prop:=(waa d++[cO=cO,0=0])
theorem QXh(z' k k':Nat):QF 320 [.ptr 288 0 0,.slz 320 0 l.length cO,.slz 320 0 l.length cO,vi (l.length:Int),vi (i64.wrap ((k:Int)+1))] ([(vu d k),(289,.mp E.1 E.2),(zH l),(qw d)]) (iqJ d E l z' k')=(some (([0=0,0=0,0=0,l.length=l.length]++wb3 l++[(l.length:Int)=(l.length:Int),i64.wrap ((k:Int)+1)=(k':Int)])++(QPv d)++(([k=z',cO=cO,E.1=E.1,E.2=E.2]++wag l)++wad d))):=by kernel_rfl
theorem Qhr :QF 320 [] ((QTR E d z)) (QDz d E z)=(some ((QPv d)++[z=z,cO=cO,E.1=E.1,E.2=E.2])):=by kernel_rfl
def iqU:UC:=⟨296,⟨2,[(0,.ptr 288 0 0),(1,.slz 304 0 l.length (.of 0))],[bdZ d 312 z,(289,.mp E.1 E.2),rwY 304 l]++Qo.blk 0 d.ps,320⟩,λ_=>.bool false v,λm=>[bdZ d m z',(289,.mp E.1 E.2)]⟩
abbrev iqH(P:Program)(d:Puz)(E:ECt)(l:List Lay)(z:Nat)(X:List (Prop×Ex×JSt)):Hnd:={ hnd (mkE P QU) 1 with loop:=λ_=>KJ 320 [288,289] (iqJ d E l z 0) X }
theorem QgM(A B:Prop)(z1 z2:Nat)(v:Bool)(z':Nat):VZ (mkE prog QU) (iqH prog d E l z [(A,.ret,Hd d E z1),(B,.exit 0,QDz d E z2)]) f62 (iqU d E l z v z') = .ak (([0=0,0=0,0=0,l.length=l.length]++wb3 l++[(l.length:Int)=(l.length:Int),(0:Int)=0])++waa d++(([cO=cO,0=0,z=z,cO=cO,E.1=E.1,E.2=E.2]++wag l)++wad d)) (.both (.asm (A) (.all (λ(g0:Nat->Value)=>.leaf (.bool false false) ([(288,.cells 0 152 (List.append (waC d) ((List.append (wbS d) ([.map 289,.slz 328 0 z1 cO]))))),(289,.mp E.1 E.2)])))) (.asm (B) (.all (λ(g1:Nat->Value)=>.leaf (.bool true true) ([(288,.cells 0 152 (List.append (waC d) ((List.append (wbS d) ([.map 289,.slz 328 0 z2 cO]))))),(289,.mp E.1 E.2)]))))):=by kernel_rfl
theorem QW9(z z1:Nat)(v:Bool)(z':Nat):QF 320 [(AV.bool false false)] ([((288:Nat),Blk.cells (0:Nat) (152:Nat) (List.append (waC d) ([AV.bool false d.turn,AV.slz (0:Nat) (0:Nat) d.ps.n cO,AV.map (289:Nat),AV.slz (328:Nat) (0:Nat) z1 cO]))),((289:Nat),Blk.mp E.1 E.2)]) (KX (iqU d E l z v z'))=( some ([false=v]++waa d++[cO=cO,0=0,z1=z',cO=cO,E.1=E.1,E.2=E.2])):=by kernel_rfl
theorem QZv(z z2:Nat)(v:Bool)(z':Nat):QF 320 [(AV.bool true true)] ([((288:Nat),Blk.cells (0:Nat) (152:Nat) (List.append (waC d) ([AV.bool false d.turn,AV.slz (0:Nat) (0:Nat) d.ps.n cO,AV.map (289:Nat),AV.slz (328:Nat) (0:Nat) z2 cO]))),((289:Nat),Blk.mp E.1 E.2)]) (KX (iqU d E l z v z'))=( some ([true=v]++waa d++[cO=cO,0=0,z2=z',cO=cO,E.1=E.1,E.2=E.2])):=by kernel_rfl
def YQ:Bool:=decide ((l.getD k ⟨0,0⟩:Lay).turn≥tnV d (l.getD k ⟨0,0⟩:Lay).piece) || !Q3 d E (l.take k) (l.getD k ⟨0,0⟩)
def Xx(n z k:Nat):Nat:=cond (decide (k<n)) (n-1) z
def jM(k:Nat×Nat)(e:Ex)(J:JSt):Prop:=match QR (YQ d E l) (l.length-k.1) k.1 with
 | some i=>e = .ret/\J=Hd d E i
 | none=>e = .exit 0/\J=QDz d E (Xx l.length k.2 k.1)
open Classical in
def vd(P:Program)(d:Puz)(E:ECt)(l:List Lay)(k:Nat×Nat):Env:=mkE P (QFy (if k.1<l.length then QO else λ_=>false) d E (l.take k.1) (l.getD k.1 ⟨0,0⟩) (Q3 d E (l.take k.1) (l.getD k.1 ⟨0,0⟩)))
theorem QWr{d:Puz}{E:ECt}(hd:KB d)(hE:WfE E){l:List Lay}(hl:l.length<=1000)(hL:∀ y∈l,Q0 d y)(k:Nat×Nat):(vd prog d E l k).Sound:=by
 unfold vd
 by_cases h:k.1<l.length
 .rw[if_pos h];exact QP ((Qd.add (Yg d _ _)).add (QaK d E (l.take k.1) (l.getD k.1 ⟨0,0⟩) hd hE (by rw[List.length_take];omega) (λy hy=>hL y (List.mem_of_mem_take hy)) (by rw[K8 h];exact hL _ (List.getElem_mem h))))
 .rw[if_neg h];exact QP ((Qd.add (Jl (by kernel_rfl) _)).add (Jl (by kernel_rfl) _))
theorem Qc3(hk:k<=l.length):QB 2 (l.take k).length (λi=>QA.enc (l.getD i (⟨0,0⟩:Lay))) λi=>QA.enc ((l.take k).getD i (⟨0,0⟩:Lay)):=by
 intro i hi;rw[List.length_take]at hi;show eqF 2 0 _ (QA.enc ((l.take k).getD i (⟨0,0⟩:Lay)))
 have e:(l.take k).getD i ⟨0,0⟩=l.getD i ⟨0,0⟩:=by
  rw[List.getD_eq_getElem?_getD,List.getD_eq_getElem?_getD,List.getElem?_take,if_pos (by omega)]
 rw[e];exact⟨rfl,rfl,trivial⟩
theorem Qbl(hl:l.length<=1000):Jm (λk:Nat×Nat=>iqJ d E l k.2 k.1) (λk=>k.1<=l.length) (λk=>l.length-k.1) (jM d E l) 320 QOV [288,289] (vd prog d E l) (λk=>hnd (vd prog d E l k) 1) (QJ f62 0):=by
 refine⟨λk g0 hk=>?_⟩;obtain⟨k,z⟩:=k;have hk:k<=l.length:=hk;have htk:(l.take k).length=k:=by rw[List.length_take];omega
 have hit:∀(_:k<l.length),YQ d E l k=true->jM d E l (k,z) .ret (Hd d E k):=by
  intro h hb;unfold jM;simp only[(JU h).1 hb,and_self]
 unfold vd;simp only;have et:=QhA (if k<l.length then QO else λ_=>false) d E l (l.take k) (Q3 d E (l.take k) (l.getD k ⟨0,0⟩)) z k g0
 refine Qe et ?_;clear et;refine QE (λb0=>?_) (λb0=>?_);have h:k<l.length:=by have:=qdt b0;omega
 have hf:=JU (p:=YQ d E l) h;have hw:=VJ h hl;have hr:=Qc3 l k hk;rw[if_pos h]
 iterate 4 (refine QG ?_ ?_;rotate_left)
 refine QE (λb1=>?_) (λb1=>?_);have hb:YQ d E l k=true:=by unfold YQ;rw[show decide ((l.getD k ⟨0,0⟩:Lay).turn≥tnV d (l.getD k ⟨0,0⟩:Lay).piece)=true from b1];rfl
 refine⟨_,hit h hb,rfl,rfl,_,Qh6 d E l k k,?_⟩
 rotate_left
 refine QG ?_ ?_;rotate_left;refine QE (λb2=>?_) (λb2=>?_);have hb:YQ d E l k=true:=by unfold YQ;rw[show Q3 d E (l.take k) (l.getD k ⟨0,0⟩)=false by simpa using b2];simp
 refine⟨_,hit h hb,rfl,rfl,_,QYl d E l k k,?_⟩
 rotate_left
 .have hb:YQ d E l k=false:=by unfold YQ;rw[show decide ((l.getD k ⟨0,0⟩:Lay).turn≥tnV d (l.getD k ⟨0,0⟩:Lay).piece)=false from b1,show Q3 d E (l.take k) (l.getD k ⟨0,0⟩)=true by simpa using b2];rfl
  refine⟨(k+1,k),h,by show l.length-(k+1)<l.length-k;omega,λe J hr=>?_,rfl,rfl,_,QXh d E l k k (k+1),?_⟩
  .unfold jM at hr ⊢;simp only at hr ⊢;rw[hf.2 hb]
   have hz:Xx l.length k (k+1)=Xx l.length z k:=by
    unfold Xx;rw[show decide (k<l.length)=true from qde h]
    by_cases h2:k+1<l.length
    .rw[qde h2];rfl
    .rw[decide_eq_false h2];show k=l.length-1;omega
   rw[hz]at hr;exact hr
  .repeat' first|with_reducible refine QN ?_ ?_|exact tv|with_reducible exact qRr|exact hw|exact rfl|refine aI ?_ ?_
 have h:l.length<=k:=by have:=qdf b0;omega
 have hz:Xx l.length z k=z:=by unfold Xx;rw[decide_eq_false (by omega)];rfl
 refine⟨_,(by unfold jM;simp only[show l.length-k=0 by omega,QR,hz,and_self]),rfl,rfl,_,Qhr d E z,?_⟩
 rotate_left
 all_goals first|((with_reducible show _=true);(first|rfl|(refine Q9.2 ?_;repeat' first|with_reducible refine QN ?_ ?_|exact tv|with_reducible exact qRr|exact htk|exact htk.symm|exact Nat.le_of_eq htk|exact Nat.le_of_eq htk.symm|exact Nat.le_trans (Nat.le_of_eq htk) hk|exact hr|exact rfl|refine aI ?_ ?_)|(simp;done)|(simp;omega)))|(repeat' first|with_reducible refine QN ?_ ?_|exact tv|with_reducible exact qRr|exact rfl|refine aI ?_ ?_)
def iqF:Option Nat:=QR (YQ d E l) l.length 0
def XB:Bool:=(iqF d E l).isNone
def iqZ:Nat:=match iqF d E l with
 | some i=>i
 | none=>Xx l.length z 0
def iqX:List (Prop×Ex×JSt):=[((iqF d E l).isSome=true,.ret,Hd d E ((iqF d E l).getD 0)),(iqF d E l=none,.exit 0,QDz d E (Xx l.length z 0))]
theorem Qb9{d:Puz}{E:ECt}(hd:KB d)(hE:WfE E){l:List Lay}(hl:l.length<=1000)(hL:∀ y∈l,Q0 d y)(z:Nat)(G:Ctx)(hrd:G.rd=none)(hG:G.n=320):Q1 (mkE prog QU) G (iqH prog d E l z (iqX d E l z)) (Qk f62):=by
 refine Kk (body:=QJ f62 0) (QP Qd) hrd (by kernel_rfl) ?_
 have hEnv:=QWr hd hE hl hL;refine Jz (E0:=mkE prog QU) (E:=vd prog d E l) (H:=λk=>hnd (vd prog d E l k) 1) (n0:=320) (s0:=(0,z)) (λ_=>rfl) hEnv (by omega) (λk _=>Qw (hEnv k) 1 G _ hrd) (λk _=>(by decide:320<=336)) ?_ (Qbl d E l hl) (Nat.zero_le _) ?_
 .intro k e J h;unfold jM at h;split at h<;>(rw[h.2];exact(by decide:320<=336))
 .intro e J h;unfold jM at h;simp only[Nat.sub_zero]at h;unfold iqX;cases hf:iqF d E l with
  | some i=>rw[show QR (YQ d E l) l.length 0=some i from hf]at h;exact⟨_,qmc,rfl,h.1.symm,h.2.symm⟩
  | none=>rw[show QR (YQ d E l) l.length 0=none from hf]at h;exact⟨_,List.mem_cons_of_mem _ qmc,rfl,h.1.symm,h.2.symm⟩
theorem QUn:(iqU d E l z v z').Ok:=by
 refine⟨(by decide:296<=320),rfl,rfl,?_,rfl,λ_ _=>rfl,λnid h=>?_⟩
 .intro q hq;simp only[UC.po,iqU,bdZ,List.mem_cons,List.not_mem_nil,or_false]at hq;rcases hq with rfl|rfl<;>exact⟨rfl,rfl,rfl,λ_=>rfl⟩
 .have e0:=Kj 296 320 0 nid (by decide)
  simp only[UC.po,iqU,bdZ,Kb,Qo.val,List.cons_append,List.nil_append,List.map_cons,List.map_nil,Blk.mapId,AV.mapId,AV.mapIdL,Nat.add_zero]at e0 ⊢;rw[e0];rfl
theorem QcU{d:Puz}{E:ECt}(hd:KB d)(hE:WfE E){l:List Lay}(hl:l.length<=1000)(hL:∀ y∈l,Q0 d y)(z:Nat):QQ prog 62 (uFC (iqU d E l z (XB d E l) (iqZ d E l z))):=by
 refine K4 (c:=Qk f62) (E:=mkE prog QU) (QP Qd) func62 (by kernel_rfl) (by kernel_rfl) (QUn ..) (λG h1 h2=>Qb9 hd hE hl hL z G h1 (by rw[h2];rfl)) ⟨?_⟩
 have et:=QgM d E l z ((iqF d E l).isSome=true) (iqF d E l=none) ((iqF d E l).getD 0) (Xx l.length z 0) (XB d E l) (iqZ d E l z);refine Qe et ?_;clear et
 iterate 30 refine Q2 (by first|exact tv|with_reducible exact qRr|exact rfl) ?_
 refine Km ?_ ?_;refine Qh λa0=>?_;refine Qj λg0=>?_
 .have hv:XB d E l=false:=by unfold XB;cases hf:iqF d E l with
   | none=>rw[hf]at a0;cases a0
   | some i=>rfl
  have hz:(iqF d E l).getD 0=iqZ d E l z:=by unfold iqZ;cases hf:iqF d E l with
   | none=>rw[hf]at a0;cases a0
   | some i=>rfl
  rw[hv,<-hz];refine⟨rfl,rfl,_,QW9 d E l z ((iqF d E l).getD 0) false ((iqF d E l).getD 0),?_⟩
  repeat' first|with_reducible refine QN ?_ ?_|exact tv|with_reducible exact qRr|exact rfl|refine aI ?_ ?_
 refine Qh λa1=>?_;refine Qj λg1=>?_;have hv:XB d E l=true:=by unfold XB;rw[a1];rfl
 have hz:Xx l.length z 0=iqZ d E l z:=by unfold iqZ;rw[a1]
 rw[hv,<-hz];refine⟨rfl,rfl,_,QZv d E l z (Xx l.length z 0) true (Xx l.length z 0),?_⟩
 rotate_left
 all_goals (repeat' first|with_reducible refine QN ?_ ?_|exact tv|with_reducible exact qRr|exact rfl|refine aI ?_ ?_)
structure Tw where
 a:Int
 b:Int
instance : QA Tw where
  ks := [.int .i64,.int .i64]
  enc p j := match j with
    | 0 => p.a
    | _ => p.b
  dec f := ⟨f 0,f 1⟩
  ok _ := rfl
instance : Enc Tw where
  enc x := .agg [.int false .i64 x.a,.int false .i64 x.b]
  dec | .agg [.int _ .i64 a0,.int _ .i64 a1] => some ⟨a0,a1⟩ | _ => none
  ok v x h := by
    split at h <;> (try (cases h; done))
    simp only[qsI]at h; subst h; exact⟨λ_=>rfl,rfl⟩
def Ji(x y:Tw):Int:=orI (JS x.a y.a) (JS x.b y.b)
def QAo:WF (Tw×Tw×Unit):=λ|(x,(y,_))=>(true,.int false .i64 (Ji x y),[])
def Qe2:FC:=wFC QAo
theorem QhI(x:Tw)(y:Tw):Kf (mkE prog VS) (hnd (mkE prog VS) 6) f65 (QX.vals 0 ((x,y,()):Tw×Tw×Unit)) (QX.blks 0 ((x,y,()):Tw×Tw×Unit)) 8=QC.need (true) (QC.br (JS x.a y.a != (0:Int)) (QC.leaf (vi (JS x.a y.a)) ([])) (QC.need (true) (QC.br (JS x.b y.b != (0:Int)) (QC.leaf (vi (JS x.b y.b)) ([])) (QC.leaf (vj (0:Int)) ([]))))):=by kernel_rfl
theorem Qen:JP (mkE prog VS) (Qk f65) 8 QAo (λx_=>(hnd (mkE prog VS) 6)):=by
 refine⟨?_⟩;rintro⟨x,⟨y,⟨⟩⟩⟩ hp G h1 h2;exact Qw (QP jh) 6 G _ h1
theorem Qeo:JN (mkE prog VS) f65 8 QAo (λx_=>(hnd (mkE prog VS) 6)):=by
 refine⟨?_⟩;rintro⟨x,⟨y,⟨⟩⟩⟩ hp;refine⟨⟨rfl,by simp[QAo],rfl⟩,⟨?_⟩⟩
 rw[QhI x y];simp only[QAo]at hp;refine QG rfl ?_;refine QE ?_ ?_<;>intro b0
 .refine KY ⟨rfl,?_⟩ rfl;show _=Ji x y;unfold Ji orI;rw[b0];rfl
 refine QG rfl ?_;refine QE ?_ ?_<;>intro b1
 .refine KY ⟨rfl,?_⟩ rfl;show _=Ji x y;unfold Ji orI;rw[b0];rfl
 .refine KY ⟨rfl,?_⟩ rfl;show _=Ji x y;unfold Ji orI;rw[b0];have:JS x.b y.b=0:=by simpa using b1
  rw[this];rfl
theorem QWS:QQ prog 65 Qe2:=
 JW (QP jh) func65 (by kernel_rfl) (by kernel_rfl) (by decide) Qen Qeo
end Go.Proofs.YtekbmehgcofnkaaGreat
namespace Go.Proofs
open Go.Shelf
def Tryz.sortTw_ren:Go.Shelf.Ren:=⟨λ|6=>107|15=>139|14=>138|28=>165|29=>166|20=>157|21=>158|22=>159|23=>160|24=>161|25=>162|26=>163|27=>164|46=>173|47=>174|48=>175|49=>176|50=>177|57=>186|n=>n,λ|22=>36|24=>89|25=>110|3=>3|39=>115|0=>0|53=>224|55=>226|4=>4|46=>217|45=>216|50=>221|5=>5|9=>9|66=>235|70=>239|76=>246|77=>182|n=>n,λ|n=>n⟩
theorem Tryz.sortTw:Go.Proofs.SlLaysF0.n6 prog Tryz.sortTw_ren:={
 mixed:=by kernel_rfl
 f6:=⟨f107.name,by decide,func107.trans (congrArg some (by kernel_rfl))⟩
 f14:=⟨f138.name,by decide,func138.trans (congrArg some (by kernel_rfl))⟩
 f15:=func139.trans (congrArg some (by kernel_rfl))
 f20:=⟨f157.name,by decide,func157.trans (congrArg some (by kernel_rfl))⟩
 f21:=⟨f158.name,by decide,func158.trans (congrArg some (by kernel_rfl))⟩
 f22:=⟨f159.name,by decide,func159.trans (congrArg some (by kernel_rfl))⟩
 f23:=⟨f160.name,by decide,func160.trans (congrArg some (by kernel_rfl))⟩
 f24:=⟨f161.name,by decide,func161.trans (congrArg some (by kernel_rfl))⟩
 f25:=⟨f162.name,by decide,func162.trans (congrArg some (by kernel_rfl))⟩
 f26:=⟨f163.name,by decide,func163.trans (congrArg some (by kernel_rfl))⟩
 f27:=⟨f164.name,by decide,func164.trans (congrArg some (by kernel_rfl))⟩
 f28:=func165.trans (congrArg some (by kernel_rfl))
 f29:=func166.trans (congrArg some (by kernel_rfl))
 f46:=⟨f173.name,by decide,func173.trans (congrArg some (by kernel_rfl))⟩
 f47:=func174.trans (congrArg some (by kernel_rfl))
 f48:=func175.trans (congrArg some (by kernel_rfl))
 f49:=⟨f176.name,by decide,func176.trans (congrArg some (by kernel_rfl))⟩
 f50:=⟨f177.name,by decide,func177.trans (congrArg some (by kernel_rfl))⟩
 f57:=⟨f186.name,by decide,func186.trans (congrArg some (by kernel_rfl))⟩
 t0:=underlying0
 a0:=Tryz.isAgg0
 z0:=Tryz.sizeOf0
 v0:=Tryz.zeroValue0
 t3:=underlying3
 a3:=Tryz.isAgg3
 z3:=Tryz.sizeOf3
 v3:=Tryz.zeroValue3
 t4:=underlying4
 a4:=Tryz.isAgg4
 z4:=Tryz.sizeOf4
 v4:=Tryz.zeroValue4
 t5:=underlying5
 a5:=Tryz.isAgg5
 z5:=Tryz.sizeOf5
 v5:=Tryz.zeroValue5
 t9:=underlying9
 a9:=Tryz.isAgg9
 z9:=Tryz.sizeOf9
 v9:=Tryz.zeroValue9
 t22:=underlying36
 a22:=Tryz.isAgg36
 z22:=Tryz.sizeOf36
 v22:=Tryz.zeroValue36
 t25:=underlying110
 a25:=Tryz.isAgg110
 z25:=Tryz.sizeOf110
 v25:=Tryz.zeroValue110
 t39:=underlying115
 a39:=Tryz.isAgg115
 z39:=Tryz.sizeOf115
 v39:=Tryz.zeroValue115
 t45:=underlying216
 a45:=Tryz.isAgg216
 z45:=Tryz.sizeOf216
 v45:=Tryz.zeroValue216
 t46:=underlying217
 a46:=Tryz.isAgg217
 z46:=Tryz.sizeOf217
 v46:=Tryz.zeroValue217
 t50:=underlying221
 a50:=Tryz.isAgg221
 z50:=Tryz.sizeOf221
 v50:=Tryz.zeroValue221
 t53:=underlying224
 a53:=Tryz.isAgg224
 z53:=Tryz.sizeOf224
 v53:=Tryz.zeroValue224
 t55:=underlying226
 a55:=Tryz.isAgg226
 z55:=Tryz.sizeOf226
 v55:=Tryz.zeroValue226
 t66:=underlying235
 a66:=Tryz.isAgg235
 z66:=Tryz.sizeOf235
 v66:=Tryz.zeroValue235
 t70:=underlying239
 a70:=Tryz.isAgg239
 z70:=Tryz.sizeOf239
 v70:=Tryz.zeroValue239
 t76:=underlying246
 a76:=Tryz.isAgg246
 z76:=Tryz.sizeOf246
 v76:=Tryz.zeroValue246
 t77:=underlying182
 a77:=Tryz.isAgg182
 z77:=Tryz.sizeOf182
 v77:=Tryz.zeroValue182 }
end Go.Proofs
