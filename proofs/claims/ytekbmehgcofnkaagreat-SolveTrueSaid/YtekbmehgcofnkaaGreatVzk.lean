/- - -/
import Derived.Test.YtekbmehgcofnkaaGreatVzj
set_option linter.all false
noncomputable section
open Go.Proofs.Tryz
open Go.IntKind (i64)
set_option maxRecDepth 100000
namespace Go.Proofs.YtekbmehgcofnkaaGreat
open Go.SX Go.SX.Told
variable (pb:List Prop->Bool)(d:Puz)(p:Int)(o:List Lay)(q:Int)(E:ECt)(l L:List Lay)(k z:Nat)(x:Lay)(s':Nat)(v:Bool)(z':Nat)
def brZ(n:Nat):List AV:=KZ d++[.map 289,.slz 298 0 n (.of 0)]
def QH8:List (Nat×Blk):=(288,.cellsR 0 152 (brZ d L.length))::QCl 298 L::(289,.mp E.1 E.2)::Qg.blk 0 d.ps
def mzJ(s:Nat):JSt:=⟨113,[(0,.ptr 288 0 0),(3,.ptr 304 0 0),(5,.int false .i64 L.length),(6,.int false .i64 (Qs d L.length)),(7,.int false .i64 (KH d L.length)),(49,.agg [.bool false (Qa d L.length 0),.bool false (Qa d L.length 1),.bool false (Qa d L.length 2),.bool false (Qa d L.length 3)]),(50,.int false .i64 s)],(304,.cells 0 49 (Enc.enc x).cells)::QH8 d E L,312⟩
def GY:JSt:=⟨113,[(4,.bool false false)],[(289,.mp E.1 E.2)],312⟩
def QG5:JSt:=⟨113,[(0,.ptr 288 0 0),(3,.ptr 304 0 0),(5,.int false .i64 L.length),(6,.int false .i64 (Qs d L.length)),(7,.int false .i64 (KH d L.length))],(304,.cells 0 49 (Enc.enc x).cells)::QH8 d E L,312⟩
def QPA:Ex->List Nat
 | .normal=>[0,3,5,6,7,49,50]
 | .exit _=>[0,3,5,6,7]
 | .ret=>[4]
abbrev QDn(d:Puz)(s:Nat)(x:Lay):List Prop:=([0=0,0=0,x.piece=x.piece,onS x (s:Int)=onS x (s:Int)]++waa d++([cO=cO,0=0,L.length=L.length,cO=cO]++wad d))
abbrev qt(d:Puz):List AV:=[.bool false (Qa d L.length 0),.bool false (Qa d L.length 1),.bool false (Qa d L.length 2),.bool false (Qa d L.length 3)]
abbrev QUO(d:Puz):List AV:=(.nilp::.ptr 113 0 0::.ptr 288 0 0::.ptr 304 0 0::List.append (waE L d) ([.agg (qt L d),.int true .i64 1]))
abbrev wbS(d:Puz):List AV:=[.bool false d.turn,.slz 0 0 d.ps.n cO,.map 289]
abbrev VZ(d:Puz)(x:Lay):List (Nat×Blk):=[(289,.mp E.1 E.2),(288,.cellsR 0 152 (List.append (wbL d) ((.int false .i64 d.pK.dK.hi::vi d.wide::vi d.high::List.append (wbS d) ([.slz 298 0 L.length cO]))))),(304,.cells 0 49 [.int false .i64 x.piece,vi x.turn]),(0,.frz (wae) d.ps.n λi=>QA.enc (d.ps.get i)),(298,.frz kB L.length λi=>QA.enc (L.getD i (Lay.mk (0:Int) (0:Int))))]
abbrev QOp(d:Puz):List AV:=(.nilp::.ptr 113 0 0::.ptr 288 0 0::.ptr 304 0 0::List.append (waE L d) ([.agg (qt L d),.int true .i64 2]))
abbrev QMZ(d:Puz):List AV:=(.nilp::.ptr 113 0 0::.ptr 288 0 0::.ptr 304 0 0::List.append (waE L d) ([.agg (qt L d),.int true .i64 3]))
abbrev QUW(d:Puz):List AV:=(.nilp::.ptr 113 0 0::.ptr 288 0 0::.ptr 304 0 0::List.append (waE L d) ([.agg (qt L d),.int true .i64 4]))
theorem Qhb(s:Nat)(g:Nat->Value):exec (mkF prog (Gu pb (flU d L.length x.piece (onS x s)))) (hnd (mkF prog (Gu pb (flU d L.length x.piece (onS x s)))) 1) (QI f105 0) (JSt.inst (mzJ d E L x s) g) (Q5 [289] QPA) = .br (decide ((s:Int)<4)) (.need (decide ((0:Int)<=(s:Int)/\(s:Int)<4)) (.br (decide ((s:Int)=0)) (.br (Qa d L.length 0) (.need (true&&(true&&true)&&decide (((0:Int)<=x.turn/\x.turn<=3)/\(0:Int)<=(s:Int)/\(s:Int)<=3)) (.need (pb ((QDn L d s x))) (.br (!Kp d x.piece (onS x (s:Int))) (.leaf (.tup (wbw)) ([(289,.mp E.1 E.2)])) (.leaf (.tup (QUO L d)) ((VZ E L d x)))))) (.leaf (.tup (QUO L d)) ((VZ E L d x)))) (.br (decide ((s:Int)=1)) (.br (Qa d L.length 1) (.need (true&&(true&&true)&&decide (((0:Int)<=x.turn/\x.turn<=3)/\(0:Int)<=(s:Int)/\(s:Int)<=3)) (.need (pb ((QDn L d s x))) (.br (!Kp d x.piece (onS x (s:Int))) (.leaf (.tup (wbw)) ([(289,.mp E.1 E.2)])) (.leaf (.tup (QOp L d)) ((VZ E L d x)))))) (.leaf (.tup (QOp L d)) ((VZ E L d x)))) (.br (decide ((s:Int)=2)) (.br (Qa d L.length 2) (.need (true&&(true&&true)&&decide (((0:Int)<=x.turn/\x.turn<=3)/\(0:Int)<=(s:Int)/\(s:Int)<=3)) (.need (pb ((QDn L d s x))) (.br (!Kp d x.piece (onS x (s:Int))) (.leaf (.tup (wbw)) ([(289,.mp E.1 E.2)])) (.leaf (.tup (QMZ L d)) ((VZ E L d x)))))) (.leaf (.tup (QMZ L d)) ((VZ E L d x)))) (.br (Qa d L.length 3) (.need (true&&(true&&true)&&decide (((0:Int)<=x.turn/\x.turn<=3)/\(0:Int)<=(s:Int)/\(s:Int)<=3)) (.need (pb ((QDn L d s x))) (.br (!Kp d x.piece (onS x (s:Int))) (.leaf (.tup (wbw)) ([(289,.mp E.1 E.2)])) (.leaf (.tup (QUW L d)) ((VZ E L d x)))))) (.leaf (.tup (QUW L d)) ((VZ E L d x)))))))) (.leaf (.tup (.ptr 0 0 0::.ptr 113 0 0::.ptr 288 0 0::.ptr 304 0 0::waE L d)) ((VZ E L d x))):=by kernel_rfl
theorem Qkx:QF 304 [AV.bool true false] ([((289:Nat),Blk.mp E.1 E.2)]) (GY E)=( some [false=false,E.1=E.1,E.2=E.2]):=by kernel_rfl
abbrev QVB(d:Puz):List AV:=(.ptr 288 0 0::.ptr 304 0 0::List.append (waE L d) ([.agg (qt L d),vj 1]))
abbrev QSW(d:Puz)(s':Nat)(x:Lay):List Prop:=(([0=0,0=0,0=0,0=0]++wal L d++([(1:Int)=(s':Int)]++wbB x))++waa d++(([cO=cO,0=0]++waj E L)++wad d))
theorem QZM :QF 304 (QVB L d) ((VZ E L d x)) (mzJ d E L x s')=(some (QSW E L d s' x)):=by kernel_rfl
theorem QaY :QF 304 (QVB L d) ((VZ E L d x)) (mzJ d E L x s')=(some (QSW E L d s' x)):=by kernel_rfl
theorem Qjt:QF 304 [AV.bool true false] ([((289:Nat),Blk.mp E.1 E.2)]) (GY E)=( some [false=false,E.1=E.1,E.2=E.2]):=by kernel_rfl
abbrev QNO(d:Puz):List AV:=(.ptr 288 0 0::.ptr 304 0 0::List.append (waE L d) ([.agg (qt L d),vj 2]))
abbrev QLy(d:Puz)(s':Nat)(x:Lay):List Prop:=(([0=0,0=0,0=0,0=0]++wal L d++([(2:Int)=(s':Int)]++wbB x))++waa d++(([cO=cO,0=0]++waj E L)++wad d))
theorem QYS :QF 304 (QNO L d) ((VZ E L d x)) (mzJ d E L x s')=(some (QLy E L d s' x)):=by kernel_rfl
theorem QeI :QF 304 (QNO L d) ((VZ E L d x)) (mzJ d E L x s')=(some (QLy E L d s' x)):=by kernel_rfl
theorem Qlc:QF 304 [AV.bool true false] ([((289:Nat),Blk.mp E.1 E.2)]) (GY E)=( some [false=false,E.1=E.1,E.2=E.2]):=by kernel_rfl
abbrev QSO(d:Puz):List AV:=(.ptr 288 0 0::.ptr 304 0 0::List.append (waE L d) ([.agg (qt L d),vj 3]))
abbrev QM4(d:Puz)(s':Nat)(x:Lay):List Prop:=(([0=0,0=0,0=0,0=0]++wal L d++([(3:Int)=(s':Int)]++wbB x))++waa d++(([cO=cO,0=0]++waj E L)++wad d))
theorem Qdy :QF 304 (QSO L d) ((VZ E L d x)) (mzJ d E L x s')=(some (QM4 E L d s' x)):=by kernel_rfl
theorem Qfb :QF 304 (QSO L d) ((VZ E L d x)) (mzJ d E L x s')=(some (QM4 E L d s' x)):=by kernel_rfl
theorem QfX:QF 304 [AV.bool true false] ([((289:Nat),Blk.mp E.1 E.2)]) (GY E)=( some [false=false,E.1=E.1,E.2=E.2]):=by kernel_rfl
abbrev QSX(d:Puz):List AV:=(.ptr 288 0 0::.ptr 304 0 0::List.append (waE L d) ([.agg (qt L d),vj 4]))
abbrev QSD(d:Puz)(s':Nat)(x:Lay):List Prop:=(([0=0,0=0,0=0,0=0]++wal L d++([(4:Int)=(s':Int)]++wbB x))++waa d++(([cO=cO,0=0]++waj E L)++wad d))
theorem QZp :QF 304 (QSX L d) ((VZ E L d x)) (mzJ d E L x s')=(some (QSD E L d s' x)):=by kernel_rfl
theorem Qfe :QF 304 (QSX L d) ((VZ E L d x)) (mzJ d E L x s')=(some (QSD E L d s' x)):=by kernel_rfl
theorem Qci :QF 304 (.ptr 288 0 0::.ptr 304 0 0::waE L d) ((VZ E L d x)) (QG5 d E L x)=( some (([0=0,0=0,0=0,0=0]++wbk L d++(wbB x))++waa d++(([cO=cO,0=0]++waj E L)++wad d))):=by kernel_rfl
def Ha(P:Program)(d:Puz)(L:List Lay)(x:Lay)(s:Nat):Env:=mkF P (Gu QK (flU d L.length x.piece (onS x s)))
theorem QU7{d:Puz}{L:List Lay}{x:Lay}(hx:KJ d x)(s:Nat):(Ha prog d L x s).Sound:=
 KS (Qm.add (QUQ d L.length x.piece (onS x s) hx.p.1 hx.p.2 (QFl hx s).1 (QFl hx s).2))
def mzR(s:Nat)(e:Ex)(J:JSt):Prop:=(e = .ret/\(QR (Kz d L.length x) (4-s) s).isNone=false/\J=GY E)∨(e = .exit 0/\(QR (Kz d L.length x) (4-s) s).isNone=true/\J=QG5 d E L x)
set_option maxHeartbeats 4000000 in
theorem QYT(hx:KJ d x):K6 (mzJ d E L x) (λs=>s<=4) (λs=>4-s) (mzR d E L x) 304 QPA [289] (Ha prog d L x) (λs=>hnd (Ha prog d L x s) 1) (QI f105 0):=by
 refine⟨λs g0 hk=>?_⟩;unfold Ha;refine Qh (Qhb QK d E L x s g0) ?_;have hk:s<=4:=hk;refine QE (λb0=>?_) (λb0=>?_);have h:s<4:=by have:=qdt b0;omega
 have hf:=VC (p:=Kz d L.length x) h;have ht:=hx.t;refine QG ?_ ?_;rotate_left;refine QE (λb1=>?_) (λb1=>?_);obtain rfl:s=0:=by have:=qdt b1;omega
 refine QE ?_ ?_<;>intro b2
 iterate 2 (refine QG ?_ ?_;rotate_left)
 refine QE ?_ ?_<;>intro b3
 .have hb:Kz d L.length x 0=true:=by show(Qa d L.length 0 && !Kp d x.piece (onS x _))=true;rw[b2];exact b3
  exact⟨_,.inl ⟨rfl,by rw[hf.1 hb];rfl,rfl⟩,rfl,rfl,_,Qkx E,⟨rfl,rfl,rfl,trivial⟩⟩
 have hb:Kz d L.length x 0=false:=by show(Qa d L.length 0 && !Kp d x.piece (onS x _))=false;rw[b2];exact b3
 refine⟨1,by show 1<=4;omega,by show 4-1<4-0;omega,λe J h=>by unfold mzR at h ⊢;rw[hf.2 hb];exact h,rfl,rfl,_,QZM d E L x 1,?_⟩
 rotate_left
 have hb:Kz d L.length x 0=false:=by show(Qa d L.length 0 && !Kp d x.piece (onS x _))=false;rw[b2];rfl
 refine⟨1,by show 1<=4;omega,by show 4-1<4-0;omega,λe J h=>by unfold mzR at h ⊢;rw[hf.2 hb];exact h,rfl,rfl,_,QaY d E L x 1,?_⟩
 rotate_left
 refine QE (λb4=>?_) (λb4=>?_);obtain rfl:s=1:=by have:=qdt b4;omega
 refine QE ?_ ?_<;>intro b5
 iterate 2 (refine QG ?_ ?_;rotate_left)
 refine QE ?_ ?_<;>intro b6
 .have hb:Kz d L.length x 1=true:=by show(Qa d L.length 1 && !Kp d x.piece (onS x _))=true;rw[b5];exact b6
  exact⟨_,.inl ⟨rfl,by rw[hf.1 hb];rfl,rfl⟩,rfl,rfl,_,Qjt E,⟨rfl,rfl,rfl,trivial⟩⟩
 have hb:Kz d L.length x 1=false:=by show(Qa d L.length 1 && !Kp d x.piece (onS x _))=false;rw[b5];exact b6
 refine⟨2,by show 2<=4;omega,by show 4-2<4-1;omega,λe J h=>by unfold mzR at h ⊢;rw[hf.2 hb];exact h,rfl,rfl,_,QYS d E L x 2,?_⟩
 rotate_left
 have hb:Kz d L.length x 1=false:=by show(Qa d L.length 1 && !Kp d x.piece (onS x _))=false;rw[b5];rfl
 refine⟨2,by show 2<=4;omega,by show 4-2<4-1;omega,λe J h=>by unfold mzR at h ⊢;rw[hf.2 hb];exact h,rfl,rfl,_,QeI d E L x 2,?_⟩
 rotate_left
 refine QE (λb7=>?_) (λb7=>?_);obtain rfl:s=2:=by have:=qdt b7;omega
 refine QE ?_ ?_<;>intro b8
 iterate 2 (refine QG ?_ ?_;rotate_left)
 refine QE ?_ ?_<;>intro b9
 .have hb:Kz d L.length x 2=true:=by show(Qa d L.length 2 && !Kp d x.piece (onS x _))=true;rw[b8];exact b9
  exact⟨_,.inl ⟨rfl,by rw[hf.1 hb];rfl,rfl⟩,rfl,rfl,_,Qlc E,⟨rfl,rfl,rfl,trivial⟩⟩
 have hb:Kz d L.length x 2=false:=by show(Qa d L.length 2 && !Kp d x.piece (onS x _))=false;rw[b8];exact b9
 refine⟨3,by show 3<=4;omega,by show 4-3<4-2;omega,λe J h=>by unfold mzR at h ⊢;rw[hf.2 hb];exact h,rfl,rfl,_,Qdy d E L x 3,?_⟩
 rotate_left
 have hb:Kz d L.length x 2=false:=by show(Qa d L.length 2 && !Kp d x.piece (onS x _))=false;rw[b8];rfl
 refine⟨3,by show 3<=4;omega,by show 4-3<4-2;omega,λe J h=>by unfold mzR at h ⊢;rw[hf.2 hb];exact h,rfl,rfl,_,Qfb d E L x 3,?_⟩
 rotate_left
 obtain rfl:s=3:=by
  have h1:=qdf b1;have h2:=qdf b4;have h3:=qdf b7;omega
 refine QE ?_ ?_<;>intro b10
 iterate 2 (refine QG ?_ ?_;rotate_left)
 refine QE ?_ ?_<;>intro b11
 .have hb:Kz d L.length x 3=true:=by show(Qa d L.length 3 && !Kp d x.piece (onS x _))=true;rw[b10];exact b11
  exact⟨_,.inl ⟨rfl,by rw[hf.1 hb];rfl,rfl⟩,rfl,rfl,_,QfX E,⟨rfl,rfl,rfl,trivial⟩⟩
 have hb:Kz d L.length x 3=false:=by show(Qa d L.length 3 && !Kp d x.piece (onS x _))=false;rw[b10];exact b11
 refine⟨4,by show 4<=4;omega,by show 4-4<4-3;omega,λe J h=>by unfold mzR at h ⊢;rw[hf.2 hb];exact h,rfl,rfl,_,QZp d E L x 4,?_⟩
 rotate_left
 have hb:Kz d L.length x 3=false:=by show(Qa d L.length 3 && !Kp d x.piece (onS x _))=false;rw[b10];rfl
 refine⟨4,by show 4<=4;omega,by show 4-4<4-3;omega,λe J h=>by unfold mzR at h ⊢;rw[hf.2 hb];exact h,rfl,rfl,_,Qfe d E L x 4,?_⟩
 rotate_left
 obtain rfl:s=4:=by have:=qdf b0;omega
 refine⟨_,.inr ⟨rfl,rfl,rfl⟩,rfl,rfl,_,Qci d E L x,?_⟩
 rotate_left
 all_goals first|((with_reducible show _=true);(first|(refine KG.2 ?_;repeat' first|exact tv|exact qRr|refine aI ?_ ?_)|(simp;omega)))|(repeat' first|with_reducible refine QM ?_ ?_|exact tv|exact qRr|exact rfl|refine aI ?_ ?_)
def mzX:List (Prop×Ex×JSt):=[(ZP d L.length x=false,.ret,GY E),(ZP d L.length x=true,.exit 0,QG5 d E L x)]
abbrev mzH(P:Program)(d:Puz)(E:ECt)(L:List Lay)(x:Lay):Hnd:={ hnd (mkF P QV) 1 with loop:=λ_=>KF 304 [289] (mzJ d E L x (0:Nat)) (mzX d E L x) }
theorem QYp(hx:KJ d x)(G:Ctx)(hrd:G.rd=none)(hG:G.n<=304):Q0 (mkF prog QV) G (mzH prog d E L x) (Qn f105):=by
 refine KO (body:=QI f105 0) (KS Qm) hrd (by kernel_rfl) ?_
 refine JG (E0:=mkF prog QV) (E:=Ha prog d L x) (H:=λs=>hnd (Ha prog d L x s) 1) (n0:=304) (s0:=0) (λ_=>rfl) (QU7 hx) hG (λs _=>Qz (QU7 hx s) 1 G _ hrd) (λs _=>(by decide:304<=312)) ?_ (QYT d E L x hx) (Nat.zero_le _) ?_
 .rintro s e J (⟨_,_,rfl⟩|⟨_,_,rfl⟩)<;>exact(by decide:304<=312)
 .rintro e J (⟨rfl,h,rfl⟩|⟨rfl,h,rfl⟩)
  .exact⟨_,qmc,h,rfl,rfl⟩
  .exact⟨_,List.mem_cons_of_mem _ qmc,h,rfl,rfl⟩
def mzU:UC:=⟨296,⟨2,[(0,.ptr 288 0 0),(1,Enc.enc x)],QH8 d E L,304⟩,λ_=>.bool false v,λ_=>[(289,.mp E.1 E.2)]⟩
theorem QX9 :VK (mkF prog QV) (mzH prog d E L x) f105 (mzU d E L x v) = .need (!decide (d.wide=0)) (.need (!decide (d.wide=0)) (.ak [0=0,0=0,0=0,0=0,(L.length:Int)=(L.length:Int),i64.wrap ((L.length:Int).tdiv d.wide)=Qs d L.length,(L.length:Int).tmod d.wide=KH d L.length,(i64.wrap ((L.length:Int).tdiv d.wide)==0)=Qa d L.length 0,((L.length:Int).tmod d.wide==i64.wrap (d.wide-1))=Qa d L.length 1,(i64.wrap ((L.length:Int).tdiv d.wide)==i64.wrap (d.high-1))=Qa d L.length 2,((L.length:Int).tmod d.wide==0)=Qa d L.length 3,(0:Int)=0,x.piece=x.piece,x.turn=x.turn,d.pK.length=d.pK.length,d.pK.aK=d.pK.aK,d.pK.oK=d.pK.oK,d.pK.dK.lo=d.pK.dK.lo,d.pK.dK.hi=d.pK.dK.hi,d.wide=d.wide,d.high=d.high,d.turn=d.turn,0=0,d.ps.n=d.ps.n,cO=cO,0=0,L.length=L.length,cO=cO,L.length<=L.length,QB 2 L.length (λi=>QA.enc (L.getD i (Lay.mk (0:Int) (0:Int)))) λi=>QA.enc (L.getD i (Lay.mk (0:Int) (0:Int))),E.1=E.1,E.2=E.2,d.ps.n<=d.ps.n,QB 28 d.ps.n (λi=>QA.enc (d.ps.get i)) λi=>QA.enc (d.ps.get i)] (.both (.asm (ZP d L.length x=false) (.all (λ(g0:Nat->Value)=>.leaf (.bool false false) ([(289, .mp E.1 E.2)])))) (.asm (ZP d L.length x=true) (.all (λ(g1:Nat->Value)=>.br (decide (Qs d L.length>0)) (.need (decide ((0:Int)<=i64.wrap ((L.length:Int)-d.wide)/\i64.wrap ((L.length:Int)-d.wide)<(L.length:Int))&&decide (L.length<=L.length)) (.need (decide ((i64.wrap ((L.length:Int)-d.wide)).toNat<L.length)) (.need (true&&(true&&true)&&decide (((0:Int)<=(L.getD (i64.wrap ((L.length:Int)-d.wide)).toNat (Lay.mk (0:Int) (0:Int))).turn/\(L.getD (i64.wrap ((L.length:Int)-d.wide)).toNat (Lay.mk (0:Int) (0:Int))).turn<=3)/\(0:Int)<=2/\(2:Int)<=3)) (.need (true&&(true&&true)&&decide (((0:Int)<=x.turn/\x.turn<=3)/\(0:Int)<=0/\(0:Int)<=3)) (.need (wf4 i64 E.1) (.br (Kc E.1 [(L.getD (i64.wrap ((L.length:Int)-d.wide)).toNat (Lay.mk (0:Int) (0:Int))).piece,onS (L.getD (i64.wrap ((L.length:Int)-d.wide)).toNat (Lay.mk (0:Int) (0:Int))) (2:Int),x.piece,onS x (0:Int)]==0) (.leaf (.bool true false) ([(289,.mp E.1 E.2)])) (.br (KH d L.length==0) (.leaf (.bool true true) ([(289,.mp E.1 E.2)])) (.need (decide ((0:Int)<=i64.wrap ((L.length:Int)-1)/\i64.wrap ((L.length:Int)-1)<(L.length:Int))&&decide (L.length<=L.length)) (.need (decide ((i64.wrap ((L.length:Int)-1)).toNat<L.length)) (.need (true&&(true&&true)&&decide (((0:Int)<=(L.getD (i64.wrap ((L.length:Int)-1)).toNat (Lay.mk (0:Int) (0:Int))).turn/\(L.getD (i64.wrap ((L.length:Int)-1)).toNat (Lay.mk (0:Int) (0:Int))).turn<=3)/\(0:Int)<=1/\(1:Int)<=3)) (.need (true&&(true&&true)&&decide (((0:Int)<=x.turn/\x.turn<=3)/\(0:Int)<=3/\(3:Int)<=3)) (.need (wf4 i64 E.1) (.leaf (.bool false (Kc E.1 [(L.getD (i64.wrap ((L.length:Int)-1)).toNat (Lay.mk (0:Int) (0:Int))).piece,onS (L.getD (i64.wrap ((L.length:Int)-1)).toNat (Lay.mk (0:Int) (0:Int))) (1:Int),x.piece,onS x (3:Int)] != 0)) ([(289,.mp E.1 E.2)])))))))))))))) (.br (KH d L.length==0) (.leaf (.bool true true) ([(289,.mp E.1 E.2)])) (.need (decide ((0:Int)<=i64.wrap ((L.length:Int)-1)/\i64.wrap ((L.length:Int)-1)<(L.length:Int))&&decide (L.length<=L.length)) (.need (decide ((i64.wrap ((L.length:Int)-1)).toNat<L.length)) (.need (true&&(true&&true)&&decide (((0:Int)<=(L.getD (i64.wrap ((L.length:Int)-1)).toNat (Lay.mk (0:Int) (0:Int))).turn/\(L.getD (i64.wrap ((L.length:Int)-1)).toNat (Lay.mk (0:Int) (0:Int))).turn<=3)/\(0:Int)<=1/\(1:Int)<=3)) (.need (true&&(true&&true)&&decide (((0:Int)<=x.turn/\x.turn<=3)/\(0:Int)<=3/\(3:Int)<=3)) (.need (wf4 i64 E.1) (.leaf (.bool false (Kc E.1 [(L.getD (i64.wrap ((L.length:Int)-1)).toNat (Lay.mk (0:Int) (0:Int))).piece,onS (L.getD (i64.wrap ((L.length:Int)-1)).toNat (Lay.mk (0:Int) (0:Int))) (1:Int),x.piece,onS x (3:Int)] != 0)) ([(289,.mp E.1 E.2)])))))))))))))):=by kernel_rfl
theorem Qis(v b:Bool)(k:Bool)(h:v=b):(QC.leaf (.bool k v) [(289,.mp E.1 E.2)]).den (jx (mzU d E L x b)):=⟨rfl,rfl,_,by cases k<;>rfl,by subst h;exact⟨rfl,rfl,rfl,trivial⟩⟩
theorem QWv:(mzU d E L x v).Ok:=by
 refine⟨(by decide:296<=304),rfl,rfl,?_,rfl,λ_ _=>rfl,λnid h=>rfl⟩
 intro q hq;simp only[UC.po,mzU,List.mem_cons,List.not_mem_nil,or_false]at hq;subst hq;exact⟨rfl,rfl,rfl,λ_=>rfl⟩
theorem Qcp(L:List Lay)(x:Lay)(hd:Kb d)(hE:WfE E)(hl:L.length<=1000)(hL:∀ y∈L,KJ d y)(hx:KJ d x):QS prog 105 (uFC (mzU d E L x (KA d E L x))):=by
 refine K0 (E:=mkF prog QV) (KS Qm) func105 (by kernel_rfl) (by kernel_rfl) (QWv ..) (λG h1 h2=>QYp d E L x hx G h1 (by rw[h2];exact qlr _)) ⟨?_⟩
 have fin:∀(v k:Bool),v=KA d E L x->(QC.leaf (.bool k v) [(289,.mp E.1 E.2)]).den (jx (mzU d E L x (KA d E L x))):=λv k h=>Qis d E L x v _ k h;have hw1:=hd.w1;have hwn:=hd.wn;have hh1:=hd.h1;have hhn:=hd.hn;have hn:=hd.n;have hr:=QBi hd L.length;have ht:=hx.t;have hE:wf4 .i64 E.1=true:=hE;have wr:i64.wrap ((L.length:Int).tdiv d.wide)=Qs d L.length:=w64 (by have:=hr.1;unfold Qs at this;omega) (by have:=hr.2;unfold Qs at this;omega)
 have ww:i64.wrap (d.wide-1)=d.wide-1:=w64 (by omega) (by omega)
 have wh:i64.wrap (d.high-1)=d.high-1:=w64 (by omega) (by omega)
 have wu:i64.wrap ((L.length:Int)-d.wide)=(L.length:Int)-d.wide:=w64 (by omega) (by omega)
 have wl:i64.wrap ((L.length:Int)-1)=(L.length:Int)-1:=w64 (by omega) (by omega)
 generalize hv:KA d E L x=v at fin;refine Qh (QX9 d E L x v) ?_;rw[wr,ww,wh,wu,wl]
 iterate 2 (refine QG ?_ ?_;rotate_left)
 iterate 34 refine Qt (by first|exact tv|exact Nat.le_refl _|exact qRr|exact rfl) ?_
 refine Kq ?_ ?_;refine Qk λa0=>?_;refine Ql λg0=>?_
 .refine fin _ _ ?_;rw[<-hv,KA,a0];rfl
 refine Qk λa1=>?_;refine Ql λg1=>?_;refine QE (λb0=>?_) (λb0=>?_);have hcw:=QCH hd (qdt b0);have hU:=(Ht hL (i:=(L.length:Int)-d.wide) (by omega) (by omega)).t
 iterate 5 (refine QG ?_ ?_;rotate_left)
 refine QE ?_ ?_<;>intro b1
 .refine fin _ _ ?_;rw[<-hv,KA,a1,show decide (0<Qs d L.length)=true from b0,show(Z5 E (atL L ((L.length:Int)-d.wide)) x 2 0==0)=true from b1];rfl
 refine QE ?_ ?_<;>intro b2
 .refine fin _ _ ?_;rw[<-hv,KA,a1,show decide (0<Qs d L.length)=true from b0,show(Z5 E (atL L ((L.length:Int)-d.wide)) x 2 0==0)=false from b1,b2];rfl
 have hc1:=QBU b2;have hV:=(Ht hL (i:=(L.length:Int)-1) (by omega) (by omega)).t
 iterate 5 (refine QG ?_ ?_;rotate_left)
 .refine fin _ _ ?_;rw[<-hv,KA,a1,show decide (0<Qs d L.length)=true from b0,show(Z5 E (atL L ((L.length:Int)-d.wide)) x 2 0==0)=false from b1,b2];rfl
 refine QE ?_ ?_<;>intro b3
 .refine fin _ _ ?_;rw[<-hv,KA,a1,show decide (0<Qs d L.length)=false from b0,b3];rfl
 have hc1:=QBU b3;have hV:=(Ht hL (i:=(L.length:Int)-1) (by omega) (by omega)).t
 iterate 5 (refine QG ?_ ?_;rotate_left)
 .refine fin _ _ ?_;rw[<-hv,KA,a1,show decide (0<Qs d L.length)=false from b0,b3];rfl
 all_goals first|exact hE|rfl|exact qde (show(0<=(atL L _).turn/\_)/\_ from⟨hU,by decide,by decide⟩)|exact qde (show(0<=(atL L _).turn/\_)/\_ from⟨hV,by decide,by decide⟩)|exact qde ⟨ht,by decide,by decide⟩|(simp;omega)
def swS:Lay:=cond (x.piece==p) ⟨q,x.turn⟩ (cond (x.piece==q) ⟨p,x.turn⟩ x)
def swJ(o:List Lay)(k:Nat):JSt:=⟨39,[(1,.int false .i64 p),(2,.int false .i64 q),(7,.slz 16 0 o.length (.of 0)),(12,.slz 16 0 o.length (.of 0)),(13,.int false .i64 o.length),(14,.int false .i64 k)],[rwY 16 o],24⟩
def swE:JSt:=⟨39,[(7,.slz 16 0 o.length (.of 0))],[rwY 16 o],24⟩
def QRP:Ex->List Nat
 | .normal=>[1,2,7,12,13,14]
 | .exit _=>[7]
 | .ret=>[]
abbrev QIG(o:List Lay)(p:Int)(q:Int):List AV:=[.nilp,.ptr 39 0 0,vi p,vi q,.slz 16 0 o.length cO,.slz 16 0 o.length cO,vi (o.length:Int),.int false .i64 (i64.wrap ((k:Int)+1))]
theorem Qja(o:List Lay)(k:Nat)(g:Nat->Value):exec (mkE prog QV) (hnd (mkE prog QV) 1) (QI f63 0) (JSt.inst (swJ p q o k) g) (Q5 [] QRP) = .br (decide ((k:Int)<(o.length:Int))) (.need (decide ((0:Int)<=(k:Int)/\(k:Int)<(o.length:Int))&&decide (o.length<=o.length)) (.need (decide (k<o.length)) (.br ((o.getD k (Lay.mk (0:Int) (0:Int))).piece==p) (.need (decide ((0:Int)<=(k:Int)/\(k:Int)<(o.length:Int))&&decide (o.length<=o.length)) (.need (decide (k<o.length)) (.leaf (.tup (QIG k o p q)) ([(16,.rowz true 49 kB o.length λi=>bif decide (i=k)then Ki [vi q] 0 (QA.enc (o.getD k (Lay.mk (0:Int) (0:Int))))else QA.enc (o.getD i (Lay.mk (0:Int) (0:Int))))])))) (.br ((o.getD k (Lay.mk (0:Int) (0:Int))).piece==q) (.need (decide ((0:Int)<=(k:Int)/\(k:Int)<(o.length:Int))&&decide (o.length<=o.length)) (.need (decide (k<o.length)) (.leaf (.tup (QIG k o p q)) ([(16,.rowz true 49 kB o.length λi=>bif decide (i=k)then Ki [vi p] 0 (QA.enc (o.getD k (Lay.mk (0:Int) (0:Int))))else QA.enc (o.getD i (Lay.mk (0:Int) (0:Int))))])))) (.leaf (.tup (QIG k o p q)) ([(16,.rowz true 49 kB o.length λi=>QA.enc (o.getD i (Lay.mk (0:Int) (0:Int))))])))))) (.leaf (.tup [.ptr 0 0 0,.ptr 39 0 0,.slz 16 0 o.length cO]) ([(16,.rowz true 49 kB o.length λi=>QA.enc (o.getD i (Lay.mk (0:Int) (0:Int))))])):=by kernel_rfl
theorem Qjz(o o':List Lay)(k k':Nat):QF 8 [vi p,vi q,AV.slz (16:Nat) (0:Nat) o.length cO,AV.slz (16:Nat) (0:Nat) o.length cO,vi (↑o.length:Int),vi (i64.wrap ((↑k:Int)+(1:Int)))] ([((16:Nat),Blk.rowz true (49:Nat) [CK.int i64,CK.int i64] o.length λi=>bif decide (i=k)then Ki [vi q] (0:Nat) (QA.enc (o.getD k (Lay.mk (0:Int) (0:Int))))else QA.enc (o.getD i (Lay.mk (0:Int) (0:Int))))]) (swJ p q o' k')=( some [p=p,q=q,0=0,o.length=o'.length,cO=cO,0=0,o.length=o'.length,cO=cO,(↑o.length:Int)=(↑o'.length:Int),i64.wrap ((↑k:Int)+(1:Int))=(↑k':Int),o'.length<=o.length,QB (2:Nat) o'.length (λi=>bif decide (i=k) then Ki [vi q] (0:Nat) (QA.enc (o.getD k (Lay.mk (0:Int) (0:Int))))else QA.enc (o.getD i (Lay.mk (0:Int) (0:Int)))) λi=>QA.enc (o'.getD i (Lay.mk (0:Int) (0:Int)))]):=by kernel_rfl
theorem Qhe(o o':List Lay)(k k':Nat):QF 8 [vi p,vi q,AV.slz (16:Nat) (0:Nat) o.length cO,AV.slz (16:Nat) (0:Nat) o.length cO,vi (↑o.length:Int),vi (i64.wrap ((↑k:Int)+(1:Int)))] ([((16:Nat),Blk.rowz true (49:Nat) [CK.int i64,CK.int i64] o.length λi=>bif decide (i=k)then Ki [vi p] (0:Nat) (QA.enc (o.getD k (Lay.mk (0:Int) (0:Int))))else QA.enc (o.getD i (Lay.mk (0:Int) (0:Int))))]) (swJ p q o' k')=( some [p=p,q=q,0=0,o.length=o'.length,cO=cO,0=0,o.length=o'.length,cO=cO,(↑o.length:Int)=(↑o'.length:Int),i64.wrap ((↑k:Int)+(1:Int))=(↑k':Int),o'.length<=o.length,QB (2:Nat) o'.length (λi=>bif decide (i=k) then Ki [vi p] (0:Nat) (QA.enc (o.getD k (Lay.mk (0:Int) (0:Int))))else QA.enc (o.getD i (Lay.mk (0:Int) (0:Int)))) λi=>QA.enc (o'.getD i (Lay.mk (0:Int) (0:Int)))]):=by kernel_rfl
abbrev wbU(o:List Lay):List Prop:=[o.length<=o.length,QB (2:Nat) o.length (λi=>QA.enc (o.getD i (Lay.mk (0:Int) (0:Int)))) λi=>QA.enc (o.getD i (Lay.mk (0:Int) (0:Int)))]
theorem QXf(o:List Lay)(k k':Nat):QF 8 [vi p,vi q,AV.slz (16:Nat) (0:Nat) o.length cO,AV.slz (16:Nat) (0:Nat) o.length cO,vi (↑o.length:Int),vi (i64.wrap ((↑k:Int)+(1:Int)))] ([((16:Nat),Blk.rowz true (49:Nat) [CK.int i64,CK.int i64] o.length λi=>QA.enc (o.getD i (Lay.mk (0:Int) (0:Int))))]) (swJ p q o k')=( some ([p=p,q=q,0=0,o.length=o.length,cO=cO,0=0,o.length=o.length,cO=cO,(↑o.length:Int)=(↑o.length:Int),i64.wrap ((↑k:Int)+(1:Int))=(↑k':Int)]++wbU o)):=by kernel_rfl
theorem Qgy:QF 8 [AV.slz (16:Nat) (0:Nat) o.length cO] ([((16:Nat),Blk.rowz true (49:Nat) [CK.int i64,CK.int i64] o.length λi=>QA.enc (o.getD i (Lay.mk (0:Int) (0:Int))))]) (swE o)=( some ([0=0,o.length=o.length,cO=cO]++wbU o)):=by kernel_rfl
def swU(p q:Int)(v:List Lay):UC:=⟨0,⟨3,[(0,.slz 5 0 l.length (.of 0)),(1,.int false .i64 p),(2,.int false .i64 q)],[QCl 5 l],8⟩,λm=>.slz m 0 v.length (.of 0),λm=>[rwY m v]⟩
def zd:Tab:=Qc QV 68 (KT pb (clU l))
abbrev swH(P:Program)(pb:List Prop->Bool)(l:List Lay)(p q:Int)(X:List (Prop×Ex×JSt)):Hnd:={ hnd (mkE P (zd pb l)) 2 with loop:=λ_=>KF 8 [] (swJ p q l (0:Nat)) X }
abbrev wbb(l:List Lay):List Prop:=[l.length<=l.length,QB (2:Nat) l.length (λi=>QA.enc (l.getD i (Lay.mk (0:Int) (0:Int)))) λi=>QA.enc (l.getD i (Lay.mk (0:Int) (0:Int)))]
theorem QkH(p q:Int)(v:List Lay):VK (mkE prog (zd pb l)) (swH prog pb l p q [(True,.exit 0,swE v)]) f63 (swU l p q v)=QC.need (pb (([0=0,l.length=l.length,cO=cO]++wbb l))) (QC.ask (p=p) (QC.ask (q=q) (QC.ask (0=0) (QC.ask (l.length=l.length) (QC.ask (cO=cO) (QC.ask (0=0) (QC.ask (l.length=l.length) (QC.ask (cO=cO) (QC.ask ((↑l.length:Int)=(↑l.length:Int)) (QC.ask ((0:Int)=(0:Int)) (QC.ask (l.length<=l.length) (QC.ask (QB (2:Nat) l.length (λi=>QA.enc (l.getD i (Lay.mk (0:Int) (0:Int)))) λi=>QA.enc (l.getD i (Lay.mk (0:Int) (0:Int)))) (QC.asm (True) (QC.all (λ(g0:Nat->Value)=>QC.leaf (AV.slz (16:Nat) (0:Nat) v.length cO) ([((16:Nat),Blk.rowz true (49:Nat) [CK.int i64,CK.int i64] v.length λi=>QA.enc (v.getD i (Lay.mk (0:Int) (0:Int))))])))))))))))))))):=by kernel_rfl
theorem Qae(p q:Int)(v:List Lay):QF 8 [(AV.slz (16:Nat) (0:Nat) v.length cO)] ([((16:Nat),Blk.rowz true (49:Nat) [CK.int i64,CK.int i64] v.length λi=>QA.enc (v.getD i (Lay.mk (0:Int) (0:Int))))]) (KX (swU l p q v))=( some [0=0,v.length=v.length,cO=cO,v.length<=v.length,QB (2:Nat) v.length (λi=>QA.enc (v.getD i (Lay.mk (0:Int) (0:Int)))) λi=>QA.enc (v.getD i (Lay.mk (0:Int) (0:Int)))]):=by kernel_rfl
def Ky:List Lay:=(l.take k).map (swS p q)++l.drop k
theorem QJw:(Ky p q l k).length=l.length:=by
 unfold Ky;rw[List.length_append,List.length_map,List.length_take,List.length_drop];omega
theorem QH2{p q:Int}{l:List Lay}{k i:Nat}(h:i<k)(hi:i<l.length):(Ky p q l k).getD i ⟨0,0⟩=swS p q (l.getD i ⟨0,0⟩):=by
 unfold Ky;rw[List.getD_eq_getElem?_getD,List.getElem?_append_left (by rw[List.length_map,List.length_take];omega),List.getElem?_map,List.getElem?_take,if_pos h,List.getElem?_eq_getElem hi,Jb hi]
 rfl
theorem QDR{p q:Int}{l:List Lay}{k i:Nat}(h:k<=i)(hk:k<=l.length):(Ky p q l k).getD i ⟨0,0⟩=l.getD i ⟨0,0⟩:=by
 unfold Ky;rw[List.getD_eq_getElem?_getD,List.getD_eq_getElem?_getD,List.getElem?_append_right (by rw[List.length_map,List.length_take];omega),List.length_map,List.length_take,List.getElem?_drop]
 congr 2;omega
theorem QSo{p q:Int}{l:List Lay}{k:Nat}{r:Int}(hk:k<l.length)(h:swS p q (l.getD k ⟨0,0⟩)=⟨r,(l.getD k ⟨0,0⟩:Lay).turn⟩):QB 2 (Ky p q l (k+1)).length (λi=>bif decide (i=k)then Ki [.int false .i64 r] 0 (QA.enc ((Ky p q l k).getD k (⟨0,0⟩:Lay)))else QA.enc ((Ky p q l k).getD i (⟨0,0⟩:Lay))) λi=>QA.enc ((Ky p q l (k+1)).getD i (⟨0,0⟩:Lay)):=by
 intro i hi;rw[QJw]at hi;show eqF 2 0 _ (QA.enc ((Ky p q l (k+1)).getD i (⟨0,0⟩:Lay)))
 by_cases e:i=k
 .subst e;rw[QH2 (Nat.lt_succ_self _) hk,h,QDR (qlr _) (Nat.le_of_lt hk)];simp only[decide_true,cond_true];exact⟨rfl,rfl,trivial⟩
 .have e2:(Ky p q l (k+1)).getD i ⟨0,0⟩=(Ky p q l k).getD i ⟨0,0⟩:=by
   rcases Nat.lt_or_ge i k with h1|h1
   .rw[QH2 (by omega) hi,QH2 h1 hi]
   .rw[QDR (by omega) (by omega),QDR h1 (by omega)]
  rw[e2];simp only[e,decide_false,cond_false];exact⟨rfl,rfl,trivial⟩
theorem QcA{p q:Int}{l:List Lay}{k:Nat}(hk:k<l.length)(h:swS p q (l.getD k ⟨0,0⟩)=l.getD k ⟨0,0⟩):Ky p q l (k+1)=Ky p q l k:=by
 unfold Ky;rw[Jb hk]at h;rw[List.take_succ_eq_append_getElem hk,List.map_append,List.append_assoc,List.map_cons,List.map_nil,h];congr 1;rw[List.singleton_append,<-List.drop_eq_getElem_cons hk]
def QZ6(_:Nat)(e:Ex)(J:JSt):Prop:=e = .exit 0/\J=swE (l.map (swS p q))
theorem QfB(hl:l.length<=1000):K6 (λk=>swJ p q (Ky p q l k) k) (λk=>k<=l.length) (λk=>l.length-k) (QZ6 p q l) 8 QRP [] (λ_=>mkE prog QV) (λ_=>hnd (mkE prog QV) 1) (QI f63 0):=by
 refine⟨λk g0 hk=>?_⟩;have hk:k<=l.length:=hk;have hlen:=QJw p q l k;have hlen2:=QJw p q l (k+1);have hx:=QDR (p:=p) (q:=q) (l:=l) (qlr k) hk;have et:=Qja p q (Ky p q l k) k g0;refine Qh et ?_;clear et;refine QE (λb0=>?_) (λb0=>?_);have h:k<l.length:=by have:=qdt b0;omega
 have hw:=Vo h hl
 iterate 2 (refine QG ?_ ?_;rotate_left)
 refine QE ?_ ?_<;>intro b1
 iterate 2 (refine QG ?_ ?_;rotate_left)
 have e1:((l.getD k ⟨0,0⟩:Lay).piece==p)=true:=by rw[<-hx];exact b1
 have hs:swS p q (l.getD k ⟨0,0⟩)=⟨q,(l.getD k ⟨0,0⟩:Lay).turn⟩:=by unfold swS;rw[e1];rfl
 have hr:=QSo h hs;have hq:(Ky p q l k).length=(Ky p q l (k+1)).length:=by omega
 refine⟨k+1,h,by show l.length-(k+1)<l.length-k;omega,λ_ _ r=>r,rfl,rfl,_,Qjz p q (Ky p q l k) (Ky p q l (k+1)) k (k+1),?_⟩
 rotate_left
 refine QE ?_ ?_<;>intro b2
 iterate 2 (refine QG ?_ ?_;rotate_left)
 have e1:((l.getD k ⟨0,0⟩:Lay).piece==p)=false:=by rw[<-hx];exact b1
 have e2:((l.getD k ⟨0,0⟩:Lay).piece==q)=true:=by rw[<-hx];exact b2
 have hs:swS p q (l.getD k ⟨0,0⟩)=⟨p,(l.getD k ⟨0,0⟩:Lay).turn⟩:=by unfold swS;rw[e1,e2];rfl
 have hr:=QSo h hs;have hq:(Ky p q l k).length=(Ky p q l (k+1)).length:=by omega
 refine⟨k+1,h,by show l.length-(k+1)<l.length-k;omega,λ_ _ r=>r,rfl,rfl,_,Qhe p q (Ky p q l k) (Ky p q l (k+1)) k (k+1),?_⟩
 rotate_left
 have e1:((l.getD k ⟨0,0⟩:Lay).piece==p)=false:=by rw[<-hx];exact b1
 have e2:((l.getD k ⟨0,0⟩:Lay).piece==q)=false:=by rw[<-hx];exact b2
 have hs:swS p q (l.getD k ⟨0,0⟩)=l.getD k ⟨0,0⟩:=by unfold swS;rw[e1,e2];rfl
 have hm:=QcA h hs;refine⟨k+1,h,by show l.length-(k+1)<l.length-k;omega,λ_ _ r=>r,?_⟩
 show Jg 8 _ _ _ _ (swJ p q (Ky p q l (k+1)) (k+1));rw[hm];refine⟨rfl,rfl,_,QXf p q (Ky p q l k) k (k+1),?_⟩
 rotate_left
 have h:l.length<=k:=by have:=qdf b0;omega
 have hm:Ky p q l k=l.map (swS p q):=by unfold Ky;rw[List.take_of_length_le h,List.drop_eq_nil_of_le h,List.append_nil]
 rw[hm];refine⟨_,⟨rfl,rfl⟩,rfl,rfl,_,Qgy (l.map (swS p q)),?_⟩
 rotate_left
 all_goals first|((with_reducible show _=true);(first|rfl|(simp;omega)))|(repeat' first|with_reducible refine QM ?_ ?_|exact tv|with_reducible exact qRr|exact hw|exact hq|exact congrArg (λn:Nat=>(n:Int)) hq|exact Nat.le_of_eq hq.symm|exact hr|exact rfl|refine aI ?_ ?_)
theorem QXY(p q:Int)(hT:Qf (zd pb l))(hl:l.length<=1000)(G:Ctx)(hrd:G.rd=none)(hG:G.n=8):Q0 (mkE prog (zd pb l)) G (swH prog pb l p q [(True,.exit 0,swE (l.map (swS p q)))]) (Qn f63):=by
 refine KO (body:=QI f63 0) (QP hT) hrd (by kernel_rfl) ?_
 have h0:swJ p q l 0=swJ p q (Ky p q l 0) 0:=by
  have:Ky p q l 0=l:=by unfold Ky;simp
  rw[this]
 rw[h0];refine JG (E0:=mkE prog (zd pb l)) (E:=λ_:Nat=>mkE prog QV) (H:=λ_=>hnd (mkE prog QV) 1) (n0:=8) (s0:=0) (λ_=>rfl) (λ_=>QP Qm) (by omega) (λk _=>Qz (QP Qm) 1 G _ hrd) (λk _=>(by decide:8<=24)) ?_ (QfB p q l hl) (Nat.zero_le _) ?_
 .rintro k e J ⟨_,rfl⟩;exact(by decide:8<=24)
 .rintro e J ⟨rfl,rfl⟩;exact⟨_,qmc,trivial,rfl,rfl⟩
theorem Qbv(p q:Int)(v:List Lay):(swU l p q v).Ok:=by
 refine⟨(by decide:0<=8),rfl,rfl,?_,rfl,λnid h=>?_,λnid h=>?_⟩
 .intro x hx;simp only[UC.po,swU,rwY,List.mem_cons,List.not_mem_nil,or_false]at hx;subst hx;exact⟨rfl,rfl,rfl,λh=>absurd (show 8<0 from h) (by decide)⟩
 .have e0:=Km 0 8 0 nid (by decide)
  simp only[UC.va,swU,AV.mapId,Nat.add_zero]at e0 ⊢;rw[e0]
 .have e0:=Km 0 8 0 nid (by decide)
  simp only[UC.po,swU,rwY,List.map_cons,List.map_nil,Blk.mapId,Nat.add_zero]at e0 ⊢;rw[e0]
theorem QhG(p q:Int)(hp:0<l.length)(hl:l.length<=1000):QS prog 63 (uFC (swU l p q (l.map (swS p q)))):=by
 have hT:Qf (zd QK l):=Qm.add (QWK l hp hl);refine K0 (c:=Qn f63) (E:=mkE prog (zd QK l)) (QP hT) func63 (by kernel_rfl) (by kernel_rfl) (Qbv ..) (λG h1 h2=>QXY QK l p q hT hl G h1 (by rw[h2];rfl)) ⟨?_⟩
 have et:=QkH QK l p q (l.map (swS p q));refine Qh et ?_;clear et;refine QG ?_ ?_;rotate_left
 iterate 12 refine Qt (by first|exact tv|with_reducible exact qRr|exact rfl) ?_
 refine Qk λa0=>?_;refine Ql λg0=>?_;refine⟨rfl,rfl,_,Qae l p q (l.map (swS p q)),?_⟩
 rotate_left
 all_goals first|((with_reducible show _=true);(first|(refine KG.2 ?_;repeat' first|with_reducible refine QM ?_ ?_|exact tv|with_reducible exact qRr|exact rfl|refine aI ?_ ?_)|(simp;omega)))|(repeat' first|with_reducible refine QM ?_ ?_|exact tv|with_reducible exact qRr|exact rfl|refine aI ?_ ?_)
def bdZ(a z:Nat):Nat×Blk:=(288,.cells 0 152 (KZ d++[.map 289,.slz a 0 z (.of 0)]))
def iqS:List (Nat×AV):=[(0,.ptr 288 0 0),(1,.slz 320 0 l.length (.of 0)),(7,.slz 320 0 l.length (.of 0)),(8,.int false .i64 l.length),(9,.int false .i64 k)]
def iqJ(z k:Nat):JSt:=⟨34,iqS l k,[bdZ d 328 z,(289,.mp E.1 E.2),rwY 320 l]++Qg.blk 0 d.ps,336⟩
def zx:JSt:=⟨34,[(4,.bool false false)],[bdZ d 328 z,(289,.mp E.1 E.2)],336⟩
def QGp:JSt:=⟨34,[],[bdZ d 328 z,(289,.mp E.1 E.2)],336⟩
def QRc:Ex->List Nat
 | .normal=>[0,1,7,8,9]
 | .exit _=>[]
 | .ret=>[4]
def QJ7:Tab:=Qc (Qc QV 52 (KT pb (tnU d L.length x.piece))) 105 (KT pb (mzU d E L x v))
abbrev Gg:Nat×Blk:=(288,.cells 0 152 (List.append (waf d) ([.map 289,.slz 320 0 k cO])))
abbrev zh:Nat×Blk:=(0,.frz (wae) d.ps.n λi=>QA.enc (d.ps.get i))
abbrev zt:Nat×Blk:=(320,.rowz true 49 kB l.length λi=>QA.enc (l.getD i (Lay.mk (0:Int) (0:Int))))
abbrev QUI(d:Puz)(z:Nat):List (Nat×Blk):=[(288,.cells 0 152 (List.append (waf d) ([.map 289,.slz 328 0 z cO]))),(289,.mp E.1 E.2),(zh d)]
theorem QjD(z k:Nat)(g:Nat->Value):exec (mkE prog (QJ7 pb d E L (l.getD k ⟨0,0⟩) v)) (hnd (mkE prog (QJ7 pb d E L (l.getD k ⟨0,0⟩) v)) 1) (QI f62 0) (JSt.inst (iqJ d E l z k) g) (Q5 [288, 289] QRc) = .br (decide ((k:Int)<(l.length:Int))) (.need (decide ((0:Int)<=(k:Int)/\(k:Int)<(l.length:Int))&&decide (l.length<=l.length)) (.need (decide (k<l.length)) (.need (decide ((0:Int)<=(k:Int)/\k<=l.length-0)) (.need (pb (([0=0,0=0,(l.getD k (Lay.mk (0:Int) (0:Int))).piece=(l.getD k (Lay.mk (0:Int) (0:Int))).piece]++waa d++([cO=cO,0=0,k=L.length,cO=cO]++wad d)))) (.br (decide ((l.getD k (Lay.mk (0:Int) (0:Int))).turn≥tnV d (l.getD k (Lay.mk (0:Int) (0:Int))).piece)) (.leaf (.tup [.nili,.ptr 34 0 0,.bool true false]) ([(Gg d k),(289,.mp E.1 E.2),(zh d),(zt l)])) (.need (pb (([0=0,0=0,(l.getD k (Lay.mk (0:Int) (0:Int))).piece=(l.getD k (Lay.mk (0:Int) (0:Int))).piece,(l.getD k (Lay.mk (0:Int) (0:Int))).turn=(l.getD k (Lay.mk (0:Int) (0:Int))).turn]++waa d++([cO=cO,0=0,k=L.length,cO=cO,L.length<=l.length,QB 2 L.length (λi=>QA.enc (l.getD i (Lay.mk (0:Int) (0:Int)))) λi=>QA.enc (L.getD i (Lay.mk (0:Int) (0:Int))),E.1=E.1,E.2=E.2]++wad d)))) (.br (!v) (.leaf (.tup [.nili,.ptr 34 0 0,.bool true false]) ([(Gg d k),(289,.mp E.1 E.2),(zh d),(zt l)])) (.leaf (.tup [.nilp,.ptr 34 0 0,.ptr 288 0 0,.slz 320 0 l.length cO,.slz 320 0 l.length cO,vi (l.length:Int),vi (i64.wrap ((k:Int)+1))]) ([(Gg d k),(289,.mp E.1 E.2),(zt l),(zh d)]))))))))) (.leaf (.tup [.ptr 0 0 0,.ptr 34 0 0]) ((QUI E d z))):=by kernel_rfl
abbrev QNZ(d:Puz)(k:Nat)(z':Nat):List Prop:=([false=false]++waa d++[cO=cO,0=0,k=z',cO=cO,E.1=E.1,E.2=E.2])
theorem QbG :QF 320 [.bool true false] ([(Gg d k),(289,.mp E.1 E.2),(zh d),(zt l)]) (zx d E z')=(some (QNZ E d k z')):=by kernel_rfl
theorem Qbf :QF 320 [.bool true false] ([(Gg d k),(289,.mp E.1 E.2),(zh d),(zt l)]) (zx d E z')=(some (QNZ E d k z')):=by kernel_rfl
abbrev QN9:List Prop:=(waa d++[cO=cO,0=0])
theorem Qkr(z' k k':Nat):QF 320 [.ptr 288 0 0,.slz 320 0 l.length cO,.slz 320 0 l.length cO,vi (l.length:Int),vi (i64.wrap ((k:Int)+1))] ([(Gg d k),(289,.mp E.1 E.2),(zt l),(zh d)]) (iqJ d E l z' k')=(some (([0=0,0=0,0=0,l.length=l.length,cO=cO]++wcc l++[i64.wrap ((k:Int)+1)=(k':Int)])++(QN9 d)++(([k=z',cO=cO,E.1=E.1,E.2=E.2]++wag l)++wad d))):=by kernel_rfl
theorem Qi8 :QF 320 [] ((QUI E d z)) (QGp d E z)=(some ((QN9 d)++[z=z,cO=cO,E.1=E.1,E.2=E.2])):=by kernel_rfl
def iqU:UC:=⟨296,⟨2,[(0,.ptr 288 0 0),(1,.slz 304 0 l.length (.of 0))],[bdZ d 312 z,(289,.mp E.1 E.2),rwY 304 l]++Qg.blk 0 d.ps,320⟩,λ_=>.bool false v,λm=>[bdZ d m z',(289,.mp E.1 E.2)]⟩
abbrev iqH(P:Program)(d:Puz)(E:ECt)(l:List Lay)(z:Nat)(X:List (Prop×Ex×JSt)):Hnd:={ hnd (mkE P QV) 1 with loop:=λ_=>KF 320 [288,289] (iqJ d E l z 0) X }
theorem QYP(A B:Prop)(z1 z2:Nat)(v:Bool)(z':Nat):VK (mkE prog QV) (iqH prog d E l z [(A,.ret,zx d E z1),(B,.exit 0,QGp d E z2)]) f62 (iqU d E l z v z') = .ak (([0=0,0=0,0=0,l.length=l.length,cO=cO]++wcc l++[(0:Int)=0])++waa d++(([cO=cO,0=0,z=z,cO=cO,E.1=E.1,E.2=E.2]++wag l)++wad d)) (.both (.asm (A) (.all (λ(g0:Nat->Value)=>.leaf (.bool false false) ([(288,.cells 0 152 (List.append (waF d) ((List.append (wbS d) ([.slz 328 0 z1 cO]))))),(289,.mp E.1 E.2)])))) (.asm (B) (.all (λ(g1:Nat->Value)=>.leaf (.bool true true) ([(288,.cells 0 152 (List.append (waF d) ((List.append (wbS d) ([.slz 328 0 z2 cO]))))),(289,.mp E.1 E.2)]))))):=by kernel_rfl
theorem Qhr(z z1:Nat)(v:Bool)(z':Nat):QF 320 [(AV.bool false false)] ([((288:Nat),Blk.cells (0:Nat) (152:Nat) (List.append (waF d) ([AV.bool false d.turn,AV.slz (0:Nat) (0:Nat) d.ps.n cO,AV.map (289:Nat),AV.slz (328:Nat) (0:Nat) z1 cO]))),((289:Nat),Blk.mp E.1 E.2)]) (KX (iqU d E l z v z'))=( some ([false=v]++waa d++[cO=cO,0=0,z1=z',cO=cO,E.1=E.1,E.2=E.2])):=by kernel_rfl
theorem QbL(z z2:Nat)(v:Bool)(z':Nat):QF 320 [(AV.bool true true)] ([((288:Nat),Blk.cells (0:Nat) (152:Nat) (List.append (waF d) ([AV.bool false d.turn,AV.slz (0:Nat) (0:Nat) d.ps.n cO,AV.map (289:Nat),AV.slz (328:Nat) (0:Nat) z2 cO]))),((289:Nat),Blk.mp E.1 E.2)]) (KX (iqU d E l z v z'))=( some ([true=v]++waa d++[cO=cO,0=0,z2=z',cO=cO,E.1=E.1,E.2=E.2])):=by kernel_rfl
def Xi:Bool:=decide ((l.getD k ⟨0,0⟩:Lay).turn≥tnV d (l.getD k ⟨0,0⟩:Lay).piece) || !KA d E (l.take k) (l.getD k ⟨0,0⟩)
def YJ(n z k:Nat):Nat:=cond (decide (k<n)) (n-1) z
def vl(k:Nat×Nat)(e:Ex)(J:JSt):Prop:=match QR (Xi d E l) (l.length-k.1) k.1 with
 | some i=>e = .ret/\J=zx d E i
 | none=>e = .exit 0/\J=QGp d E (YJ l.length k.2 k.1)
open Classical in
def vJ(P:Program)(d:Puz)(E:ECt)(l:List Lay)(k:Nat×Nat):Env:=mkE P (QJ7 (if k.1<l.length then QK else λ_=>false) d E (l.take k.1) (l.getD k.1 ⟨0,0⟩) (KA d E (l.take k.1) (l.getD k.1 ⟨0,0⟩)))
theorem QjA{d:Puz}{E:ECt}(hd:Kb d)(hE:WfE E){l:List Lay}(hl:l.length<=1000)(hL:∀ y∈l,KJ d y)(k:Nat×Nat):(vJ prog d E l k).Sound:=by
 unfold vJ
 by_cases h:k.1<l.length
 .rw[if_pos h];exact QP ((Qm.add (Yf d _ _)).add (Qcp d E (l.take k.1) (l.getD k.1 ⟨0,0⟩) hd hE (by rw[List.length_take];omega) (λy hy=>hL y (List.mem_of_mem_take hy)) (by rw[Jb h];exact hL _ (List.getElem_mem h))))
 .rw[if_neg h];exact QP ((Qm.add (Jx (by kernel_rfl) _)).add (Jx (by kernel_rfl) _))
theorem Qe3(hk:k<=l.length):QB 2 (l.take k).length (λi=>QA.enc (l.getD i (⟨0,0⟩:Lay))) λi=>QA.enc ((l.take k).getD i (⟨0,0⟩:Lay)):=by
 intro i hi;rw[List.length_take]at hi;show eqF 2 0 _ (QA.enc ((l.take k).getD i (⟨0,0⟩:Lay)))
 have e:(l.take k).getD i ⟨0,0⟩=l.getD i ⟨0,0⟩:=by
  rw[List.getD_eq_getElem?_getD,List.getD_eq_getElem?_getD,List.getElem?_take,if_pos (by omega)]
 rw[e];exact⟨rfl,rfl,trivial⟩
theorem Qdw(hl:l.length<=1000):K6 (λk:Nat×Nat=>iqJ d E l k.2 k.1) (λk=>k.1<=l.length) (λk=>l.length-k.1) (vl d E l) 320 QRc [288,289] (vJ prog d E l) (λk=>hnd (vJ prog d E l k) 1) (QI f62 0):=by
 refine⟨λk g0 hk=>?_⟩;obtain⟨k,z⟩:=k;have hk:k<=l.length:=hk;have htk:(l.take k).length=k:=by rw[List.length_take];omega
 have hit:∀(_:k<l.length),Xi d E l k=true->vl d E l (k,z) .ret (zx d E k):=by
  intro h hb;unfold vl;simp only[(VC h).1 hb,and_self]
 unfold vJ;simp only;have et:=QjD (if k<l.length then QK else λ_=>false) d E l (l.take k) (KA d E (l.take k) (l.getD k ⟨0,0⟩)) z k g0
 refine Qh et ?_;clear et;refine QE (λb0=>?_) (λb0=>?_);have h:k<l.length:=by have:=qdt b0;omega
 have hf:=VC (p:=Xi d E l) h;have hw:=Vo h hl;have hr:=Qe3 l k hk;rw[if_pos h]
 iterate 4 (refine QG ?_ ?_;rotate_left)
 refine QE (λb1=>?_) (λb1=>?_);have hb:Xi d E l k=true:=by unfold Xi;rw[show decide ((l.getD k ⟨0,0⟩:Lay).turn≥tnV d (l.getD k ⟨0,0⟩:Lay).piece)=true from b1];rfl
 refine⟨_,hit h hb,rfl,rfl,_,QbG d E l k k,?_⟩
 rotate_left
 refine QG ?_ ?_;rotate_left;refine QE (λb2=>?_) (λb2=>?_);have hb:Xi d E l k=true:=by unfold Xi;rw[show KA d E (l.take k) (l.getD k ⟨0,0⟩)=false by simpa using b2];simp
 refine⟨_,hit h hb,rfl,rfl,_,Qbf d E l k k,?_⟩
 rotate_left
 .have hb:Xi d E l k=false:=by unfold Xi;rw[show decide ((l.getD k ⟨0,0⟩:Lay).turn≥tnV d (l.getD k ⟨0,0⟩:Lay).piece)=false from b1,show KA d E (l.take k) (l.getD k ⟨0,0⟩)=true by simpa using b2];rfl
  refine⟨(k+1,k),h,by show l.length-(k+1)<l.length-k;omega,λe J hr=>?_,rfl,rfl,_,Qkr d E l k k (k+1),?_⟩
  .unfold vl at hr ⊢;simp only at hr ⊢;rw[hf.2 hb]
   have hz:YJ l.length k (k+1)=YJ l.length z k:=by
    unfold YJ;rw[show decide (k<l.length)=true from qde h]
    by_cases h2:k+1<l.length
    .rw[qde h2];rfl
    .rw[decide_eq_false h2];show k=l.length-1;omega
   rw[hz]at hr;exact hr
  .repeat' first|with_reducible refine QM ?_ ?_|exact tv|with_reducible exact qRr|exact hw|exact rfl|refine aI ?_ ?_
 have h:l.length<=k:=by have:=qdf b0;omega
 have hz:YJ l.length z k=z:=by unfold YJ;rw[decide_eq_false (by omega)];rfl
 refine⟨_,(by unfold vl;simp only[show l.length-k=0 by omega,QR,hz,and_self]),rfl,rfl,_,Qi8 d E z,?_⟩
 rotate_left
 all_goals first|((with_reducible show _=true);(first|rfl|(refine KG.2 ?_;repeat' first|with_reducible refine QM ?_ ?_|exact tv|with_reducible exact qRr|exact htk|exact htk.symm|exact Nat.le_of_eq htk|exact Nat.le_of_eq htk.symm|exact Nat.le_trans (Nat.le_of_eq htk) hk|exact hr|exact rfl|refine aI ?_ ?_)|(simp;done)|(simp;omega)))|(repeat' first|with_reducible refine QM ?_ ?_|exact tv|with_reducible exact qRr|exact rfl|refine aI ?_ ?_)
def iqF:Option Nat:=QR (Xi d E l) l.length 0
def V9:Bool:=(iqF d E l).isNone
def iqZ:Nat:=match iqF d E l with
 | some i=>i
 | none=>YJ l.length z 0
def iqX:List (Prop×Ex×JSt):=[((iqF d E l).isSome=true,.ret,zx d E ((iqF d E l).getD 0)),(iqF d E l=none,.exit 0,QGp d E (YJ l.length z 0))]
theorem Qhx{d:Puz}{E:ECt}(hd:Kb d)(hE:WfE E){l:List Lay}(hl:l.length<=1000)(hL:∀ y∈l,KJ d y)(z:Nat)(G:Ctx)(hrd:G.rd=none)(hG:G.n=320):Q0 (mkE prog QV) G (iqH prog d E l z (iqX d E l z)) (Qn f62):=by
 refine KO (body:=QI f62 0) (QP Qm) hrd (by kernel_rfl) ?_
 have hEnv:=QjA hd hE hl hL;refine JG (E0:=mkE prog QV) (E:=vJ prog d E l) (H:=λk=>hnd (vJ prog d E l k) 1) (n0:=320) (s0:=(0,z)) (λ_=>rfl) hEnv (by omega) (λk _=>Qz (hEnv k) 1 G _ hrd) (λk _=>(by decide:320<=336)) ?_ (Qdw d E l hl) (Nat.zero_le _) ?_
 .intro k e J h;unfold vl at h;split at h<;>(rw[h.2];exact(by decide:320<=336))
 .intro e J h;unfold vl at h;simp only[Nat.sub_zero]at h;unfold iqX;cases hf:iqF d E l with
  | some i=>rw[show QR (Xi d E l) l.length 0=some i from hf]at h;exact⟨_,qmc,rfl,h.1.symm,h.2.symm⟩
  | none=>rw[show QR (Xi d E l) l.length 0=none from hf]at h;exact⟨_,List.mem_cons_of_mem _ qmc,rfl,h.1.symm,h.2.symm⟩
theorem QkA:(iqU d E l z v z').Ok:=by
 refine⟨(by decide:296<=320),rfl,rfl,?_,rfl,λ_ _=>rfl,λnid h=>?_⟩
 .intro q hq;simp only[UC.po,iqU,bdZ,List.mem_cons,List.not_mem_nil,or_false]at hq;rcases hq with rfl|rfl<;>exact⟨rfl,rfl,rfl,λ_=>rfl⟩
 .have e0:=Km 296 320 0 nid (by decide)
  simp only[UC.po,iqU,bdZ,KZ,Qg.val,List.cons_append,List.nil_append,List.map_cons,List.map_nil,Blk.mapId,AV.mapId,AV.mapIdL,Nat.add_zero]at e0 ⊢;rw[e0];rfl
theorem Qaq{d:Puz}{E:ECt}(hd:Kb d)(hE:WfE E){l:List Lay}(hl:l.length<=1000)(hL:∀ y∈l,KJ d y)(z:Nat):QS prog 62 (uFC (iqU d E l z (V9 d E l) (iqZ d E l z))):=by
 refine K0 (c:=Qn f62) (E:=mkE prog QV) (QP Qm) func62 (by kernel_rfl) (by kernel_rfl) (QkA ..) (λG h1 h2=>Qhx hd hE hl hL z G h1 (by rw[h2];rfl)) ⟨?_⟩
 have et:=QYP d E l z ((iqF d E l).isSome=true) (iqF d E l=none) ((iqF d E l).getD 0) (YJ l.length z 0) (V9 d E l) (iqZ d E l z);refine Qh et ?_;clear et
 iterate 30 refine Qt (by first|exact tv|with_reducible exact qRr|exact rfl) ?_
 refine Kq ?_ ?_;refine Qk λa0=>?_;refine Ql λg0=>?_
 .have hv:V9 d E l=false:=by unfold V9;cases hf:iqF d E l with
   | none=>rw[hf]at a0;cases a0
   | some i=>rfl
  have hz:(iqF d E l).getD 0=iqZ d E l z:=by unfold iqZ;cases hf:iqF d E l with
   | none=>rw[hf]at a0;cases a0
   | some i=>rfl
  rw[hv,<-hz];refine⟨rfl,rfl,_,Qhr d E l z ((iqF d E l).getD 0) false ((iqF d E l).getD 0),?_⟩
  repeat' first|with_reducible refine QM ?_ ?_|exact tv|with_reducible exact qRr|exact rfl|refine aI ?_ ?_
 refine Qk λa1=>?_;refine Ql λg1=>?_;have hv:V9 d E l=true:=by unfold V9;rw[a1];rfl
 have hz:YJ l.length z 0=iqZ d E l z:=by unfold iqZ;rw[a1]
 rw[hv,<-hz];refine⟨rfl,rfl,_,QbL d E l z (YJ l.length z 0) true (YJ l.length z 0),?_⟩
 rotate_left
 all_goals (repeat' first|with_reducible refine QM ?_ ?_|exact tv|with_reducible exact qRr|exact rfl|refine aI ?_ ?_)
structure Tw where
 a:Int
 b:Int
instance : QA Tw where
  ks := [.int .i64,.int .i64]
  enc p j := match j with
    | 0 => p.a
    | _ => p.b
  dec f := ⟨f 0,f 1⟩
  ok _ := rfl
instance : Enc Tw where
  enc x := .agg [.int false .i64 x.a,.int false .i64 x.b]
  dec | .agg [.int _ .i64 a0,.int _ .i64 a1] => some ⟨a0,a1⟩ | _ => none
  ok v x h := by
    split at h <;> (try (cases h; done))
    simp only[qsI]at h; subst h; exact⟨λ_=>rfl,rfl⟩
def J3(x y:Tw):Int:=orI (Jh x.a y.a) (Jh x.b y.b)
def QAt:WF (Tw×Tw×Unit):=λ|(x,(y,_))=>(true,.int false .i64 (J3 x y),[])
def Qc0:FC:=wFC QAt
theorem Qb6(x:Tw)(y:Tw):Kg (mkE prog Vf) (hnd (mkE prog Vf) 6) f65 (QZ.vals 0 ((x,y,()):Tw×Tw×Unit)) (QZ.blks 0 ((x,y,()):Tw×Tw×Unit)) 8=QC.need (true) (QC.br (Jh x.a y.a != (0:Int)) (QC.leaf (vi (Jh x.a y.a)) ([])) (QC.need (true) (QC.br (Jh x.b y.b != (0:Int)) (QC.leaf (vi (Jh x.b y.b)) ([])) (QC.leaf (vj (0:Int)) ([]))))):=by kernel_rfl
theorem QW1:JL (mkE prog Vf) (Qn f65) 8 QAt (λx_=>(hnd (mkE prog Vf) 6)):=by
 refine⟨?_⟩;rintro⟨x,⟨y,⟨⟩⟩⟩ hp G h1 h2;exact Qz (QP ve) 6 G _ h1
theorem Qjf:JH (mkE prog Vf) f65 8 QAt (λx_=>(hnd (mkE prog Vf) 6)):=by
 refine⟨?_⟩;rintro⟨x,⟨y,⟨⟩⟩⟩ hp;refine⟨⟨rfl,by simp[QAt],rfl⟩,⟨?_⟩⟩
 rw[Qb6 x y];simp only[QAt]at hp;refine QG rfl ?_;refine QE ?_ ?_<;>intro b0
 .refine KN ⟨rfl,?_⟩ rfl;show _=J3 x y;unfold J3 orI;rw[b0];rfl
 refine QG rfl ?_;refine QE ?_ ?_<;>intro b1
 .refine KN ⟨rfl,?_⟩ rfl;show _=J3 x y;unfold J3 orI;rw[b0];rfl
 .refine KN ⟨rfl,?_⟩ rfl;show _=J3 x y;unfold J3 orI;rw[b0];have:Jh x.b y.b=0:=by simpa using b1
  rw[this];rfl
theorem QWb:QS prog 65 Qc0:=
 JY (QP ve) func65 (by kernel_rfl) (by kernel_rfl) (by decide) QW1 Qjf
end Go.Proofs.YtekbmehgcofnkaaGreat
namespace Go.Proofs
open Go.Shelf
def Tryz.sortTw_ren:Go.Shelf.Ren:=⟨λ|6=>107|15=>139|14=>138|28=>165|29=>166|20=>157|21=>158|22=>159|23=>160|24=>161|25=>162|26=>163|27=>164|46=>173|47=>174|48=>175|49=>176|50=>177|57=>186|n=>n,λ|22=>36|24=>89|25=>110|3=>3|39=>115|0=>0|53=>224|55=>226|4=>4|46=>217|45=>216|50=>221|5=>5|9=>9|66=>235|70=>239|76=>246|77=>182|n=>n,λ|n=>n⟩
theorem Tryz.sortTw:Go.Proofs.SlLaysF0.n6 prog Tryz.sortTw_ren:={
 mixed:=by kernel_rfl
 f6:=⟨f107.name,by decide,func107.trans (congrArg some (by kernel_rfl))⟩
 f14:=⟨f138.name,by decide,func138.trans (congrArg some (by kernel_rfl))⟩
 f15:=func139.trans (congrArg some (by kernel_rfl))
 f20:=⟨f157.name,by decide,func157.trans (congrArg some (by kernel_rfl))⟩
 f21:=⟨f158.name,by decide,func158.trans (congrArg some (by kernel_rfl))⟩
 f22:=⟨f159.name,by decide,func159.trans (congrArg some (by kernel_rfl))⟩
 f23:=⟨f160.name,by decide,func160.trans (congrArg some (by kernel_rfl))⟩
 f24:=⟨f161.name,by decide,func161.trans (congrArg some (by kernel_rfl))⟩
 f25:=⟨f162.name,by decide,func162.trans (congrArg some (by kernel_rfl))⟩
 f26:=⟨f163.name,by decide,func163.trans (congrArg some (by kernel_rfl))⟩
 f27:=⟨f164.name,by decide,func164.trans (congrArg some (by kernel_rfl))⟩
 f28:=func165.trans (congrArg some (by kernel_rfl))
 f29:=func166.trans (congrArg some (by kernel_rfl))
 f46:=⟨f173.name,by decide,func173.trans (congrArg some (by kernel_rfl))⟩
 f47:=func174.trans (congrArg some (by kernel_rfl))
 f48:=func175.trans (congrArg some (by kernel_rfl))
 f49:=⟨f176.name,by decide,func176.trans (congrArg some (by kernel_rfl))⟩
 f50:=⟨f177.name,by decide,func177.trans (congrArg some (by kernel_rfl))⟩
 f57:=⟨f186.name,by decide,func186.trans (congrArg some (by kernel_rfl))⟩
 t0:=underlying0
 a0:=Tryz.isAgg0
 z0:=Tryz.sizeOf0
 v0:=Tryz.zeroValue0
 t3:=underlying3
 a3:=Tryz.isAgg3
 z3:=Tryz.sizeOf3
 v3:=Tryz.zeroValue3
 t4:=underlying4
 a4:=Tryz.isAgg4
 z4:=Tryz.sizeOf4
 v4:=Tryz.zeroValue4
 t5:=underlying5
 a5:=Tryz.isAgg5
 z5:=Tryz.sizeOf5
 v5:=Tryz.zeroValue5
 t9:=underlying9
 a9:=Tryz.isAgg9
 z9:=Tryz.sizeOf9
 v9:=Tryz.zeroValue9
 t22:=underlying36
 a22:=Tryz.isAgg36
 z22:=Tryz.sizeOf36
 v22:=Tryz.zeroValue36
 t25:=underlying110
 a25:=Tryz.isAgg110
 z25:=Tryz.sizeOf110
 v25:=Tryz.zeroValue110
 t39:=underlying115
 a39:=Tryz.isAgg115
 z39:=Tryz.sizeOf115
 v39:=Tryz.zeroValue115
 t45:=underlying216
 a45:=Tryz.isAgg216
 z45:=Tryz.sizeOf216
 v45:=Tryz.zeroValue216
 t46:=underlying217
 a46:=Tryz.isAgg217
 z46:=Tryz.sizeOf217
 v46:=Tryz.zeroValue217
 t50:=underlying221
 a50:=Tryz.isAgg221
 z50:=Tryz.sizeOf221
 v50:=Tryz.zeroValue221
 t53:=underlying224
 a53:=Tryz.isAgg224
 z53:=Tryz.sizeOf224
 v53:=Tryz.zeroValue224
 t55:=underlying226
 a55:=Tryz.isAgg226
 z55:=Tryz.sizeOf226
 v55:=Tryz.zeroValue226
 t66:=underlying235
 a66:=Tryz.isAgg235
 z66:=Tryz.sizeOf235
 v66:=Tryz.zeroValue235
 t70:=underlying239
 a70:=Tryz.isAgg239
 z70:=Tryz.sizeOf239
 v70:=Tryz.zeroValue239
 t76:=underlying246
 a76:=Tryz.isAgg246
 z76:=Tryz.sizeOf246
 v76:=Tryz.zeroValue246
 t77:=underlying182
 a77:=Tryz.isAgg182
 z77:=Tryz.sizeOf182
 v77:=Tryz.zeroValue182 }
end Go.Proofs
